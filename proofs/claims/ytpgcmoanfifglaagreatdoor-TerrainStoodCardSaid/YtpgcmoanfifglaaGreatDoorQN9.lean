/- A part of the proof of a row and its tied card: QN9. -/
import Derived.Test.YtpgcmoanfifglaaGreatDoorQN8
import Derived.Conc.AtomicLaws2
import Derived.Conc.WgArith
set_option linter.all false
section
namespace Go.Sep
open Go Go.Conc
open Go.ConcN (sumTo upd upd_ne upd_same)
open Go.ConcM (MuAt muA msA muBlock OsLater)
open Go.ConcR (WgAt wgBlock stA smA)
section
variable {c : Cy} {i : Nat} {ph : Ph} {ops : Array Oper} {j n : Nat} {Q : Act → aa → Ph → Prop} {a : Act} {F : aa} {f fi : FuncId} {d : Option Tmp}
theorem dF {s:Sh}:s.ms<=s.ms/\s.ws<=s.ws:=⟨Int.le_refl _,Int.le_refl _⟩
theorem yo (g:Entry c.P f (fun _=>do mark .disable;pure Extern.Race.none_)){vals:List Value}(l:At ops j a f vals d)(m:ph.gp≠ .gone)(p:ph.gp≠ .new)
  (h:ai (WJ c i) fi ops (j+1) n Q (bg a d (.tuple #[])) F {ph with deaf:=ph.deaf+1}):ai (WJ c i) fi ops j (n+1) Q a F ph:=by
 obtain ⟨o,cw,de,e,hg,q,_,rfl⟩:=l
 refine fq e m fun w s k φ p0 _ hs hi he r=>.inr ⟨.tuple #[],w,_,s,_,fun b t cs hb=>?_,hs,.refl _ _,r.Df hi he p _,JR,.inr dF,h⟩
 obtain ⟨fn,f1,f2,f3,f4,f5⟩:=g.ex
 exact stepG_mark0 .disable (by simp) e (cg hg) hb.kind q f1 f2 f3 f4 f5
theorem tU (l:Entry c.P f (fun _=>do mark .enable;pure Extern.Race.none_)){vals:List Value}(m:At ops j a f vals d)(p:ph.gp≠ .gone)(q:ph.gp≠ .new){e:Nat}(hd:ph.deaf=e+1)
  (h:ai (WJ c i) fi ops (j+1) n Q (bg a d (.tuple #[])) F {ph with deaf:=e}):ai (WJ c i) fi ops j (n+1) Q a F ph:=by
 obtain ⟨o,cw,de,g,hg,r,_,rfl⟩:=m
 refine fq g p fun w s k φ p0 _ hs hi he t=>.inr ⟨.tuple #[],w,_,s,_,fun b u cs hb=>?_,hs,.refl _ _,t.Df hi he q _,JS hd,.inr dF,h⟩
 obtain ⟨fn,f1,f2,f3,f4,f5⟩:=l.ex
 exact stepG_mark0 .enable (by simp) g (cg hg) hb.kind r f1 f2 f3 f4 f5
theorem oJ {k:Nat}{φ:Nat->Ph}{p0:P0}{s:Sh}(he:φ i=ph)(a:Inv c.n c.bs k φ p0 s):Inv c.n c.bs k (upd φ i ph) p0 s:=by rw[<-he,yg];exact a
theorem Dg (l:Entry c.P f (Extern.Race.marked .acquire))(m:At ops j a f [.pointer (some (muA c.Mu))] d)(e:ph.gp= .cnt)
  (h:ai (WJ c i) fi ops (j+1) n Q (bg a d (.tuple #[])) F ph):ai (WJ c i) fi ops j (n+1) Q a F ph:=by
 obtain ⟨o,cw,de,g,hg,p,q,rfl⟩:=m
 obtain ⟨x,rfl,r⟩:=jK q
 refine fq g (by rw[e];simp) fun w s k φ p0 _ hs hi he t=>.inr ⟨.tuple #[],w,_,s,ph,fun b u cs hb=>?_,hs,.refl _ _,oJ he t,.word (.acquire (muA c.Mu)) rfl (.inl rfl) rfl ⟨e,e⟩,.inr dF,h⟩
 obtain ⟨fn,f1,f2,f3,f4,f5⟩:=l.ex
 exact stepG_markAt .acquire (by simp) g (cg hg) hb.kind p f1 f2 f3 f4 f5 (by simp[ey,r])
theorem JU (l:Entry c.P f (Extern.Race.marked .releaseMerge))(m:At ops j a f [.pointer (some (muA c.Mu))] d)(e:ph.gp= .cnt)
  (h:ai (WJ c i) fi ops (j+1) n Q (bg a d (.tuple #[])) F ph):ai (WJ c i) fi ops j (n+1) Q a F ph:=by
 obtain ⟨o,cw,de,g,hg,p,q,rfl⟩:=m
 obtain ⟨x,rfl,r⟩:=jK q
 refine fq g (by rw[e];simp) fun w s k φ p0 _ hs hi he t=>.inr ⟨.tuple #[],w,_,s,ph,fun b u cs hb=>?_,hs,.refl _ _,oJ he t,.word (.releaseMerge (muA c.Mu)) rfl (.inr rfl) rfl ⟨e,e⟩,.inr dF,h⟩
 obtain ⟨fn,f1,f2,f3,f4,f5⟩:=l.ex
 exact stepG_markAt .releaseMerge (by simp) g (cg hg) hb.kind p f1 f2 f3 f4 f5 (by simp[ey,r])
theorem JV (q:Entry c.P f (Extern.Race.marked .releaseMerge))(r:At ops j a f [.pointer (some (stA c.Wg))] d)(g:ph.gp= .cnt)
  (hd:ph.deaf=0) (t:ph.mp= .idle\/ph.mp= .fin) (u:ph.stored=c.bs i)
  (h:ai (WJ c i) fi ops (j+1) n Q (bg a d (.tuple #[])) F {mp:=.fin,gp:=.rel,stored:=ph.stored,deaf:=0}):ai (WJ c i) fi ops j (n+1) Q a F ph:=by
 obtain ⟨o,cw,de,p,hg,v,y,rfl⟩:=r
 obtain ⟨x,rfl,z⟩:=jK y
 refine fq p (by rw[g];simp) fun w s k φ p0 _ hs hi he l=>.inr ⟨.tuple #[],w,_,s,{mp:=.fin,gp:=.rel,stored:=ph.stored,deaf:=0},fun b A cs hb=>?_,hs,.refl _ _,?_,.rel rfl ⟨hd,rfl⟩ g,.inr dF,h⟩
 ·obtain ⟨fn,f1,f2,f3,f4,f5⟩:=q.ex
  exact stepG_markAt .releaseMerge (by simp) p (cg hg) hb.kind v f1 f2 f3 f4 f5 (by simp[ey,z])
 ·obtain ⟨C,S,W,L,m,hm⟩:=l.m
  refine l.jH hi he (by rw[g];simp) (by simp) ⟨C,S,W,L,m,mM hm hi _ ?_⟩ (tJ l.w hi _ (.inr ⟨by rw[he];exact g,rfl⟩)) ?_ (fun _=>⟨u,rfl⟩)
  ·rw[he];rcases t with e|e
   ·exact .inr ⟨e,rfl⟩
   ·exact .inl e.symm
  ·have:=l.i.all i hi
   rw[he] at this
   exact (ym this).symm
theorem tV (old nw:Int)(I:Entry c.P f (Extern.Atomic.casT (.int .i32)))(aF:c.Mu≠c.Wg/\c.Mu≠c.Is/\c.Wg≠c.Is)(J:At ops j a f [.pointer (some (muA c.Mu)),.int .i32 old,.int .i32 nw] d)
  (e:ph.gp= .cnt) (B:0<ph.deaf)
  (K:∀φ ms C S W L m,φ i=ph->i<c.n->cp c.n φ old ms C S W L m->∃mp,(∃g h l p q,cp c.n (upd φ i {ph with mp:=mp}) nw ms g h l p q)/\ai (WJ c i) fi ops (j+1) n Q (bg a d (.bool true)) F {ph with mp:=mp})
  (M:∀φ mu ms C S W L m,φ i=ph->i<c.n->cp c.n φ mu ms C S W L m->mu≠old->∃mp,(∃g h l p q,cp c.n (upd φ i {ph with mp:=mp}) mu ms g h l p q)/\ai (WJ c i) fi ops (j+1) n Q (bg a d (.bool false)) F {ph with mp:=mp}):ai (WJ c i) fi ops j (n+1) Q a F ph:=by
 obtain ⟨o,cw,de,r,hg,D,N,rfl⟩:=J
 obtain ⟨x,y,z,rfl,E,G,H⟩:=qU N
 obtain ⟨fn,f1,f2,f3,f4,f5⟩:=I.ex
 refine fq r (by rw[e];simp) fun w s k φ p0 _ hs hi he t=>.inr ?_
 obtain ⟨C,S,W,L,m,hm⟩:=t.m
 by_cases u:s.mu=old
 ·subst u
  obtain ⟨mp,v,A⟩:=K φ s.ms C S W L m he hi hm
  exact ⟨.bool true,_,_,{s with mu:=nw},{ph with mp:=mp},fun b O cs hb=>stepG_cas_hit r (cg hg) hb.kind D f1 f2 f3 f4 .i32 f5 E G H hs.mu.1 hs.mu.2,hs.Dc aF nw,.set _ (.inl rfl),t.mutex hi he e v,yj rfl Iff.rfl B (.inr ⟨rfl,e⟩),.inr dF,A⟩
 ·obtain ⟨mp,v,A⟩:=M φ s.mu s.ms C S W L m he hi hm u
  exact ⟨.bool false,_,_,{s with mu:=s.mu},{ph with mp:=mp},fun b O cs hb=>stepG_cas_miss r (cg hg) hb.kind D f1 f2 f3 f4 .i32 f5 E G H hs.mu.1 hs.mu.2 u,hs,.refl _ _,t.mutex hi he e v,yh false rfl Iff.rfl B (.inr ⟨rfl,e⟩),.inr dF,A⟩
theorem yp (dl:Int)(q:Entry c.P f (Extern.Atomic.update (Op.intArith .add) .i32 true))(aF:c.Mu≠c.Wg/\c.Mu≠c.Is/\c.Wg≠c.Is)(r:At ops j a f [.pointer (some (muA c.Mu)),.int .i32 dl] d)
  (g:ph.gp= .cnt) (t:0<ph.deaf)
  (h:∀φ mu ms C S W L m,φ i=ph->i<c.n->cp c.n φ mu ms C S W L m->∃mp nw,IntKind.i32.wrap (mu+dl)=nw/\(∃u v z A B,cp c.n (upd φ i {ph with mp:=mp}) nw ms u v z A B)/\ai (WJ c i) fi ops (j+1) n Q (bg a d (.int .i32 nw)) F {ph with mp:=mp}):
  ai (WJ c i) fi ops j (n+1) Q a F ph:=by
 obtain ⟨o,cw,de,l,hg,D,E,rfl⟩:=r
 obtain ⟨x,y,rfl,G,H⟩:=qT E
 obtain ⟨fn,f1,f2,f3,f4,f5⟩:=q.ex
 refine fq l (by rw[g];simp) fun w s k φ p0 _ hs hi he p=>.inr ?_
 obtain ⟨C,S,W,L,m,hm⟩:=p.m
 obtain ⟨mp,nw,e,I,J⟩:=h φ s.mu s.ms C S W L m he hi hm
 exact ⟨.int .i32 nw,_,_,{s with mu:=nw},{ph with mp:=mp},fun b K cs hb=>by rw[<-e];exact stepG_add_atomic l (cg hg) hb.kind D f1 f2 f3 f4 .i32 f5 G H hs.mu.1 hs.mu.2,by rw[<-e];exact hs.Dc aF _,.set _ (.inl rfl),p.mutex hi he g I,yj rfl Iff.rfl t (.inr ⟨rfl,g⟩),.inr dF,J⟩
theorem oK {ty:TypeId}(p:(c.P.funcs[fi]?).any (·.norace)=true)(e:c.P.underlying ty=some (.int .i32)){x:Operand}(q:mO ops j a (.load ty x) d)(f:ph.gp= .cnt)(r:ev a x= .pointer (some (muA c.Mu)))
  (h:∀φ mu ms C S W L m,φ i=ph->i<c.n->cp c.n φ mu ms C S W L m->∃mp,(∃t u v y z,cp c.n (upd φ i {ph with mp:=mp}) mu ms t u v y z)/\ai (WJ c i) fi ops (j+1) n Q (bg a d (.int .i32 mu)) F {ph with mp:=mp}):
  ai (WJ c i) fi ops j (n+1) Q a F ph:=by
 obtain ⟨o,g,hg,A,rfl⟩:=q
 refine fq g (by rw[f];simp) fun w s k φ p0 _ hs hi he l=>.inr ?_
 obtain ⟨C,S,W,L,m,hm⟩:=l.m
 obtain ⟨mp,B,D⟩:=h φ s.mu s.ms C S W L m he hi hm
 have e1:execOp a.eval o=(do pure (.value (<-loadVar ty (muA c.Mu))):Sem Next):=by
  unfold execOp
  simp only[A,ey,r]
  rfl
 have E:(execOp a.eval o).run c.P w= .ok (.value (.int .i32 s.mu)) w:=by
  rw[e1]
  have:=hs.mu.1
  simp[loadVar,isAgg,run_underlying e,this]
 have G:(execOp a.eval o).events c.P w #[]=#[⟨.cell (muA c.Mu),false,false⟩]:=by
  rw[e1]
  have:=hs.mu.1
  simp[loadVar,isAgg,run_underlying e,events_load,this]
 have H:seen c.P fi #[⟨.cell (muA c.Mu),false,false⟩]=#[]:=by rw[seen_def];simp[seenStep,p]
 refine ⟨.int .i32 s.mu,w,#[],{s with mu:=s.mu},{ph with mp:=mp},fun b I cs hb=>?_,hs,.refl _ _,l.mutex hi he f B,mP rfl Iff.rfl,.inr dF,D⟩
 rw[stepG_value g (cg hg) hb.kind E]
 unfold listed
 rw[G,hb.fn,H]
end
section
variable {c : Cy} {i : Nat} {ph : Ph} {ops : Array Oper} {j n : Nat} {Q : Act → aa → Ph → Prop} {a : Act} {F : aa} {f fi : FuncId} {d : Option Tmp}
theorem JW (u v:Value)(A:Entry c.P f Extern.Sync.semacquire)(aF:c.Mu≠c.Wg/\c.Mu≠c.Is/\c.Wg≠c.Is)(B:At ops j a f [.pointer (some (msA c.Mu)),u,v] d)
  (e:ph.gp= .cnt) {G:Nat} (hm:ph.mp= .iy G) (h:ai (WJ c i) fi ops (j+1) n Q (bg a d (.tuple #[])) F {ph with mp:=.jF G}):ai (WJ c i) fi ops j (n+1) Q a F ph:=by
 obtain ⟨o,cw,de,g,hg,p,D,rfl⟩:=B
 obtain ⟨x,y,z,rfl,q,_,_⟩:=qU D
 obtain ⟨fn,f1,f2,f3,f4,f5⟩:=A.ex
 refine fq g (by rw[e];simp) fun w s k φ p0 _ hs hi he r=>?_
 by_cases l:s.ms=0
 ·refine .inl ⟨by rw[hm];rfl,l,fun b E cs=>stepG_semacquire_wait g (cg hg) p f1 f2 f3 f4 f5 (ad:=msA c.Mu) (by simp[ey,q]) (by rw[hs.ms.1,l])⟩
 ·obtain ⟨C,S,W,L,m,t⟩:=r.m
  have H:=t.cnt
  refine .inr ⟨.tuple #[],_,_,{s with ms:=s.ms - 1},{ph with mp:=.jF G},fun b E cs hb=>stepG_semacquire g (cg hg) hb.kind p f1 f2 f3 f4 f5 (by simp[ey,q]) hs.ms.1 l hs.ms.2,hs.Dd aF _,.set _ (.inl rfl),
   r.mutex hi he e ⟨C,S,W,L,m - 1,I2 t hi _ (by rw[he];exact hm) rfl (by omega)⟩,yl rfl Iff.rfl (.inr ⟨rfl,e⟩),.inr ⟨by simp only;omega,Int.le_refl _⟩,h⟩
theorem Dh (u v:Value)(p:Entry c.P f Extern.Sync.semrelease)(aF:c.Mu≠c.Wg/\c.Mu≠c.Is/\c.Wg≠c.Is)(A:At ops j a f [.pointer (some (msA c.Mu)),u,v] d)
  (g:ph.gp= .cnt) (hm:ph.mp= .oz\/ph.mp= .oA) (h:ai (WJ c i) fi ops (j+1) n Q (bg a d (.tuple #[])) F {ph with mp:=.fin}):ai (WJ c i) fi ops j (n+1) Q a F ph:=by
 obtain ⟨o,cw,de,q,hg,r,B,rfl⟩:=A
 obtain ⟨x,y,z,rfl,l,_,_⟩:=qU B
 obtain ⟨fn,f1,f2,f3,f4,f5⟩:=p.ex
 refine fq q (by rw[g];simp) fun w s k φ p0 _ hs hi he t=>.inr ?_
 obtain ⟨C,S,W,L,m,e⟩:=t.m
 have E:=e.cnt
 have hb:=e.st.w
 have G:=e.st.s
 have H:m<=1:=by
  rcases Nat.lt_or_ge S 1 with y|y
  ·have:=e.norm (by omega);omega
  ·have:=e.fU (by omega);omega
 have D:IntKind.u32.wrap (s.ms+1)=s.ms+1:=by
  unfold IntKind.wrap
  simp[IntKind.bits,IntKind.signed]
  omega
 refine ⟨.tuple #[],_,_,{s with ms:=s.ms+1},{ph with mp:=.fin},fun b I cs hb=>stepG_semrelease q (cg hg) hb.kind r f1 f2 f3 f4 f5 (by simp[ey,l]) hs.ms.1 hs.ms.2,by rw[D];exact hs.Dd aF _,.set _ (.inl rfl),
  t.mutex hi he g ⟨C,S,W,L,m+1,I8 e hi _ (by rw[he];exact hm) rfl⟩,yl rfl Iff.rfl (.inr ⟨rfl,g⟩),.inl ⟨_,r,fun x l=>?_⟩,h⟩
 cases l
 exact ⟨f,rfl,p.C3⟩
theorem Di (l:Entry c.P f Extern.OsHooks.nano)(e:(c.P.funcs[f]?).any (·.norace)=true){vals:List Value}(m:At ops j a f vals d)
  (p:ph.gp≠ .gone) (h:∀x:Int,ai (WJ c i) fi ops (j+1) n Q (bg a d (.int .i64 x)) F ph):ai (WJ c i) fi ops j (n+1) Q a F ph:=by
 obtain ⟨o,cw,de,g,hg,q,_,rfl⟩:=m
 obtain ⟨fn,f1,f2,f3,f4,f5⟩:=l.ex
 refine fq g p fun w s k φ p0 _ hs hi he r=>.inr ⟨_,w.later,#[],s,ph,fun b t cs hb=>stepG_nanotime g (cg hg) hb.kind q f1 f2 f3 f4 f5 (by rw[f1] at e;simpa using e),hs,⟨rfl,rfl,rfl,⟨w.tick,rfl⟩,fun _ _=>rfl⟩,oJ he r,mP rfl Iff.rfl,.inr dF,h _⟩
theorem JX (it:Int)(m:Entry c.P f Extern.Sync.canSpin)(p:At ops j a f [.int .i64 it] d)
  (q:ph.gp≠ .gone) (h:∀t:Bool,(t=true->it<4)->ai (WJ c i) fi ops (j+1) n Q (bg a d (.bool t)) F ph):ai (WJ c i) fi ops j (n+1) Q a F ph:=by
 obtain ⟨o,cw,de,e,hg,g,r,rfl⟩:=p
 obtain ⟨x,rfl,u⟩:=jK r
 obtain ⟨fn,f1,f2,f3,f4,f5⟩:=m.ex
 have hm:(#[x]:Array Operand).map a.eval=#[.int .i64 it]:=by simp[ey,u]
 refine fq e q fun w s k φ p0 _ hs hi he l=>.inr ?_
 by_cases v:4<=it
 ·exact ⟨_,w,#[],s,ph,fun b y cs hb=>stepG_canSpin_no e (cg hg) hb.kind g f1 f2 f3 f4 f5 hm v,hs,.refl _ _,oJ he l,mP rfl Iff.rfl,.inr dF,h false (by simp)⟩
 ·exact ⟨_,w.asked,#[],s,ph,fun b y cs hb=>stepG_canSpin_ask e (cg hg) hb.kind g f1 f2 f3 f4 f5 hm (by omega),hs,⟨rfl,rfl,rfl,.refl _,fun _ _=>rfl⟩,oJ he l,mP rfl Iff.rfl,.inr dF,h _ (fun _=>by omega)⟩
end
theorem ai.entry {P:Program}{main:Bool}{S:Type}{JF:S->Goroutine->aa->Prop}{fi f:FuncId}{ops:Array Oper}{j n:Nat}{Q:Act->aa->S->Prop}{a:Act}{F:aa}{ph:S}{d:Option Tmp}(v:Value)(e:dR P main (JF ph))(g:Entry P f (fun _=>pure v))
  {vals:List Value} (i:At ops j a f vals d) (h:ai JF fi ops (j+1) n Q (bg a d v) F ph):ai JF fi ops j (n+1) Q a F ph:=fun b c cs hb k=>by
 obtain ⟨fn,f1,f2,f3,f4,f5⟩:=g.ex
 obtain ⟨o,cw,de,l,hg,m,_,rfl⟩:=i
 rw[List.range'_succ,eB hb.round]
 refine e.move (fr':=b.at (a.put o.dst v) (.inRegion ops (List.range' (j+1) n)::c)) (fun w=>stepG_entry_pure v l (cg hg) hb.kind m f1 f2 f3 f4 f5) (by rw[<-eB hb.round];exact h b c cs hb k)
section
variable {c : Cy} {i : Nat} {ph : Ph} {ops : Array Oper} {j n : Nat} {Q : Act → aa → Ph → Prop} {a : Act} {F : aa} {f fi : FuncId} {d : Option Tmp}
theorem tX (ad:Addr){src dst t:TypeId}(hs:c.P.underlying src=some (.pointer t))(hd:c.P.underlying dst=some .unsafePointer)(e:(c.P.info? t).map (fun i=>decide (i.size=0))=some false){x:Operand}
  (m:mO ops j a (.convert src dst x) d) (p:ph.gp≠ .gone) (q:ev a x= .pointer (some ad)) (r:∀w s,cv c w s->∃v,w.cell? ad=some v) (h:ai (WJ c i) fi ops (j+1) n Q (bg a d (.pointer (some ad))) F ph):ai (WJ c i) fi ops j (n+1) Q a F ph:=by
 obtain ⟨o,f,hg,u,rfl⟩:=m
 refine fq f p fun w s k φ p0 _ g hi he y=>.inr ⟨_,w,#[],s,ph,fun b B cs hb=>?_,g,.refl _ _,oJ he y,mP rfl Iff.rfl,.inr dF,h⟩
 obtain ⟨v,l⟩:=r w s g
 have e1:execOp a.eval o=(do pure (.value (<-convert src dst (.pointer (some ad)))):Sem Next):=by
  unfold execOp
  simp only[u,ey,q]
 have z:(execOp a.eval o).run c.P w= .ok (.value (.pointer (some ad))) w:=by
  rw[e1];simp[run_convert_to_unsafe hs hd e l]
 have A:(execOp a.eval o).events c.P w #[]=#[]:=by
  rw[e1];simp[events_convert_to_unsafe hs hd e l]
 rw[stepG_value f (cg hg) hb.kind z]
 unfold listed
 rw[A,seen_none]
theorem JY {ty:TypeId}(J:c.P.underlying ty=some .bool)(z:bX c.P ty=some 1)(A:(c.P.funcs[fi]?).any (·.norace)=false)(aF:c.Mu≠c.Wg/\c.Mu≠c.Is/\c.Wg≠c.Is){x y:Operand}
  (B:mO ops j a (.store ty x y) d) (e:ph.gp= .cnt) (g:ev a x= .pointer (some ⟨c.Is,i,none⟩)) (l:ev a y= .bool true) (h:ai (WJ c i) fi ops (j+1) n Q (bg a d undef) F {ph with stored:=true}):ai (WJ c i) fi ops j (n+1) Q a F ph:=by
 obtain ⟨o,p,hg,q,rfl⟩:=B
 refine fq p (by rw[e];simp) fun w s k φ p0 _ hs hi he f=>.inr ?_
 have hlen:=f.i.len
 have r:w.cell? ⟨c.Is,i,none⟩=some (.bool (s.is[i]'(by omega))):=by
  have:=hs.2.2
  simp[World.cell?,this,hlen,hi]
 have t:w.frozen? ⟨c.Is,i,none⟩=false:=by
  have:=hs.2.2
  simp[World.frozen?,this]
 have u:(sizeOf ty).run c.P w= .ok 1 w:=by
  obtain ⟨inf,e,D⟩:=Option.map_eq_some_iff.1 z
  simp[Go.sizeOf,typeInfo,e,D]
 have v:Instr.sureAddr (.pointer (some ⟨c.Is,i,none⟩))=(Pure.pure ⟨c.Is,i,none⟩:Sem Addr):=rfl
 have E:(execOp a.eval o).run c.P w= .ok .skip (w.setCell ⟨c.Is,i,none⟩ (.bool true)):=by
  unfold execOp
  simp only[q,ey,g,l]
  simp[Instr.storeAt,v,storeVar,u,Value.cells,storeCells,Addr.add,r,t,run_store c.P w ⟨c.Is,i,none⟩ (.bool true) .plain rfl,Result.andThen]
 have G:(execOp a.eval o).events c.P w #[]=#[⟨.cell ⟨c.Is,i,none⟩,true,false⟩]:=by
  unfold execOp
  simp only[q,ey,g,l]
  simp[Instr.storeAt,v,storeVar,u,Value.cells,storeCells,Addr.add,r,t,events_store c.P w _ ⟨c.Is,i,none⟩ (.bool true) .plain rfl,run_store c.P w ⟨c.Is,i,none⟩ (.bool true) .plain rfl,Result.evThen]
 have H:seen c.P fi #[⟨.cell ⟨c.Is,i,none⟩,true,false⟩]=#[⟨.cell ⟨c.Is,i,none⟩,true,false⟩]:=by rw[seen_def];simp[seenStep,A]
 obtain ⟨C,S,W,L,m,hm⟩:=f.m
 refine ⟨undef,_,_,{s with is:=s.is.set i true},{ph with stored:=true},fun b K cs hb=>?_,hs.JQ aF i true,.set _ (.inr (.inr rfl)),?_,.store rfl rfl ⟨e,e⟩,.inr dF,h⟩
 ·rw[stepG_none p (cg hg) hb.kind E]
  unfold listed
  rw[G,hb.fn,H]
 ·exact f.jH hi he (by rw[e];simp) (by simp[e]) ⟨C,S,W,L,m,mM hm hi _ (.inl (by rw[he]))⟩ (tJ f.w hi _ (.inl (by rw[he]))) rfl (fun I=>absurd e I)
end
theorem ai.shr {P:Program}{main:Bool}{S:Type}{JF:S->Goroutine->aa->Prop}{fi:FuncId}{ops:Array Oper}{j n:Nat}{Q:Act->aa->S->Prop}{a:Act}{F:aa}{ph:S}{d:Option Tmp}{t f:TypeId}{k b:IntKind}{u m:Int}(v:Int)(g:dR P main (JF ph)){x y:Operand}
  (i:mO ops j a (.binOp .shr t x y f) d) (l:ev a x= .int k u) (p:ev a y= .int b m) (hm:0<=m) (c:u.fdiv (2 ^ min m.toNat k.bits)=v) (h:ai JF fi ops (j+1) n Q (bg a d (.int k v)) F ph):ai JF fi ops j (n+1) Q a F ph:=by
 obtain ⟨o,q,hg,r,rfl⟩:=i
 have e:¬m<0:=by omega
 have e1:execOp a.eval o=(do eqGuard .shr t x y (.int k u) (.int b m);pure (.value (<-binOp .shr t (.int k u) (.int b m))):Sem Next):=by
  unfold execOp
  simp only[r,ey,l,p]
  simp
 refine ai.plain g (.int k v) q hg (fun w=>?_) (fun w=>?_) h
 ·rw[e1];subst c;simp[eqGuard,binOp,Op.shift,e]
 ·rw[e1];subst c;simp[eqGuard,binOp,Op.shift,e]
theorem ai.mQ {P:Program}{main:Bool}{S:Type}{JF:S->Goroutine->aa->Prop}{fi:FuncId}{ops:Array Oper}{j n:Nat}{Q:Act->aa->S->Prop}{a:Act}{F:aa}{ph:S}{d:Option Tmp}{t b:TypeId}(u v:Int)(c:dR P main (JF ph)){x y:Operand}
  (e:mO ops j a (.binOp .shr t x y b) d) (f:ev a x= .int .i32 u) (g:ev a y= .int .u64 3) (i:u.fdiv 8=v) (h:ai JF fi ops (j+1) n Q (bg a d (.int .i32 v)) F ph):ai JF fi ops j (n+1) Q a F ph:=
 ai.shr v c e f g (by decide) i h
end Go.Sep
end
section
namespace Go.Proofs.YtpgcmoanfifglaaGreatDoor
open Go Go.Sep Go.Proofs Go.Conc
open Go.ConcN (upd upd_same)
open Go.ConcM (muA msA)
open Go.ConcR (stA smA)
set_option maxRecDepth 100000
set_option maxHeartbeats 4000000
attribute [local go_sem] Int.reduceBEq Int.reduceBNe muA msA stA smA
section
variable {Mu Wg Is n base T0 i : Nat} {bs : Nat → Bool} {st : Bool} {F : aa}
theorem yq (w:World)(s:Sh)(h:cv (CY Mu Wg Is n bs base T0) w s):∃v,w.cell? ⟨Mu,0,none⟩=some v:=⟨_,h.mu.1⟩
theorem JZ (aF:Mu≠Wg/\Mu≠Is/\Wg≠Is)
  (b:cC Tryz.prog (WJ (CY Mu Wg Is n bs base T0) i) 194 #[.pointer (some (muA Mu))] F ⟨.idle,.cnt,st,1⟩ (fun v F' aL=>v= .tuple #[]/\F'=F/\aL=⟨.held,.cnt,st,0⟩)):
  cC Tryz.prog (WJ (CY Mu Wg Is n bs base T0) i) 165 #[.pointer (some (muA Mu))] F ⟨.idle,.cnt,st,0⟩ (fun v F' aL=>v= .tuple #[]/\F'=F/\aL=⟨.held,.cnt,st,0⟩):=by
 have a:=WJ.eo (CY Mu Wg Is n bs base T0) i
 have hJ:∀ph:Ph,ph.gp= .cnt->Go.Sep.Closed Tryz.prog false (WJ (CY Mu Wg Is n bs base T0) i ph):=fun ph h=>Wk.closed (CY Mu Wg Is n bs base T0) i ph h
 refine cC.go (main:=false) a Tryz.func165 rfl Tryz.ntmps165 (by simp) fun A d hd hs=>?_
 have e:=hs 0
 clear hs
 repeat refine ax (a _) ?_
 refine cW a ?_
 refine yo qS ⟨_,_,_,rfl,(by first|rfl|simp only[*,go_sem]),rfl,by first|(simp only[*,go_sem];done)|(simp only[*,go_sem];rfl),rfl⟩ (by simp) (by simp) ?_
 refine ai.nil a ?_;try simp only[go_sem]
 repeat refine ax (a _) ?_
 refine cW a ?_
 refine ai.bw (hJ _ rfl) 3 (n:=1) _ rfl rfl ?_;simp only[*,go_sem]
 refine tV 0 1 tR aF ⟨_,_,_,rfl,(by first|rfl|simp only[*,go_sem]),rfl,by first|(simp only[*,go_sem];done)|(simp only[*,go_sem];rfl),rfl⟩ (by rfl) (by simp) (fun φ ms C S W L m he hi hm=>⟨.held,⟨0,0,0,1,m,IX hm hi _ (by rw[he]) rfl rfl⟩,?_⟩) (fun φ mu ms C S W L m he hi hm f=>⟨.idle,⟨C,S,W,L,m,mM hm hi _ (.inl (by rw[he]))⟩,?_⟩)
 ·refine ai.nil a ?_;try simp only[go_sem]
  repeat refine ax (a _) ?_
  refine cV (a _) (by simp only[*,go_sem]) ?_
  repeat refine ax (a _) ?_
  refine cV (a _) (by simp only[*,go_sem]) ?_
  repeat refine ax (a _) ?_
  refine cW a ?_
  refine tU lC ⟨_,_,_,rfl,(by first|rfl|simp only[*,go_sem]),rfl,by first|(simp only[*,go_sem];done)|(simp only[*,go_sem];rfl),rfl⟩ (by simp) (by simp) rfl ?_
  refine ai.nil a ?_;try simp only[go_sem]
  repeat refine ax (a _) ?_
  refine cW a ?_
  refine ai.bw (hJ _ rfl) 1 (n:=2) _ rfl rfl ?_;simp only[*,go_sem]
  refine tX ⟨Mu,0,none⟩ yc lD ye ⟨_,rfl,(by first|rfl|simp only[*,go_sem]),rfl,rfl⟩ (by simp) (by simp only[*,go_sem]) yq ?_
  refine Dg tQ ⟨_,_,_,rfl,(by first|rfl|simp only[*,go_sem]),rfl,by first|(simp only[*,go_sem];done)|(simp only[*,go_sem];rfl),rfl⟩ (by rfl) ?_
  refine ai.nil a ?_;try simp only[go_sem]
  refine fo ?_;try simp only[go_sem]
  exact oH rfl (by simp only[*,go_sem]) ⟨rfl,rfl,rfl⟩
 ·refine ai.nil a ?_;try simp only[go_sem]
  repeat refine ax (a _) ?_
  refine cB (a _) (by simp only[*,go_sem]) ?_
  refine cD (a _) ?_;try simp only[go_sem]
  repeat refine ax (a _) ?_
  refine cW a ?_
  refine ai.bw (hJ _ rfl) 1 (n:=1) _ rfl rfl ?_;simp only[*,go_sem]
  refine ai.fX (a _) rfl rfl rfl Fa (by simp only[*,go_sem,muA]) b fun v F' aL c=>?_
  obtain ⟨rfl,rfl,rfl⟩:=c
  refine ai.nil a ?_
  exact lA rfl (by simp only[*,go_sem]) ⟨rfl,rfl,rfl⟩
def jh (C S W:Nat)(nw:Int)(G:Nat):Mp:=if S=1 then .oA else if 0<C/\W=0 then .gq nw G else .fin
def J0 (Mu n:Nat)(st:Bool)(F:aa)(m:Nat)(a:Act)(F':aa)(aL:Ph):Prop:=
 ∃(old:Int) (C S W L G:Nat),F'=F/\slot a 0= .pointer (some ⟨Mu,0,none⟩)/\slot a 4= .int .i32 old/\sz a=43/\a.defers=[]/\Wd old C S W L/\C<=3*n/\G<=m/\
   ((S=0/\L=0/\W=0/\0<C/\aL=⟨.gq old G,.cnt,st,1⟩)\/(¬(S=0/\L=0/\W=0/\0<C)/\aL=⟨.fin,.cnt,st,1⟩))
theorem J1 (aF:Mu≠Wg/\Mu≠Is/\Wg≠Is)(ab:n<67108864){nw:Int}{C S W G:Nat}(hw:Wd nw C S W 0)(hC:C<=3*n):
  cC Tryz.prog (WJ (CY Mu Wg Is n bs base T0) i) 196 #[.pointer (some (muA Mu)),.int .i32 nw] F ⟨jh C S W nw G,.cnt,st,1⟩ (fun v F' aL=>v= .tuple #[]/\F'=F/\aL=⟨.fin,.cnt,st,1⟩):=by
 have a:=WJ.eo (CY Mu Wg Is n bs base T0) i
 have hJ:∀ph:Ph,ph.gp= .cnt->Go.Sep.Closed Tryz.prog false (WJ (CY Mu Wg Is n bs base T0) i ph):=fun ph h=>Wk.closed (CY Mu Wg Is n bs base T0) i ph h
 refine cC.go (main:=false) a Tryz.func196 rfl Tryz.ntmps196 (by simp) fun A u hd hs=>?_
 have y:=hs 0
 have k1:=hs 1
 clear hs
 have z:=hw.st.s
 have hW:=hw.st.w
 have w1:IntKind.i32.wrap (nw+1)=nw+1:=by have e0:=hw.st.eq;exact iA (by omega) (by omega)
 have B:Wd (nw+1) C S W 1:=by have e0:=hw.st.eq;exact wd ⟨by omega,by omega,hW,z⟩ (by omega)
 have K:dQ (nw+1) 1=1:=B.a1
 repeat refine ax (a _) ?_
 refine cW a ?_
 refine ai.bw (hJ _ rfl) 4 (n:=0) _ rfl rfl ?_;simp only[*,go_sem]
 refine ai.nil a ?_;try simp only[go_sem]
 repeat refine ax (a _) ?_
 refine cB (a _) (by simp only[*,go_sem]) ?_
 refine cD (a _) ?_;try simp only[go_sem]
 rcases (by omega:S=1\/S=0) with rfl|rfl
 ·
  have b4:dQ nw 4=4:=hw.a4
  repeat refine ax (a _) ?_
  refine cW a ?_
  refine ai.bw (hJ _ rfl) 3 (n:=0) _ rfl rfl ?_;simp only[*,go_sem]
  refine ai.nil a ?_;try simp only[go_sem]
  repeat refine ax (a _) ?_
  refine cB (a _) (by simp only[*,go_sem]) ?_
  repeat refine ax (a _) ?_
  refine cW a ?_
  refine ai.bw (hJ _ rfl) 3 (n:=1) _ rfl rfl ?_;simp only[*,go_sem]
  refine Dh (.bool true) (.int .i64 2) C5 aF ⟨_,_,_,rfl,(by first|rfl|simp only[*,go_sem]),rfl,by first|(simp only[*,go_sem];done)|(simp only[*,go_sem];rfl),rfl⟩ (by rfl) (by simp[jh]) ?_
  refine ai.nil a ?_;try simp only[go_sem]
  exact lA rfl (by simp only[*,go_sem]) ⟨rfl,rfl,rfl⟩
 ·have b4:dQ nw 4=0:=hw.a4
  repeat refine ax (a _) ?_
  refine cW a ?_
  refine ai.bw (hJ _ rfl) 3 (n:=0) _ rfl rfl ?_;simp only[*,go_sem]
  refine ai.nil a ?_;try simp only[go_sem]
  repeat refine ax (a _) ?_
  refine cV (a _) (by simp only[*,go_sem]) ?_
  repeat refine ax (a _) ?_
  refine cW a ?_
  refine ai.bw (hJ _ rfl) 2 (n:=0) _ rfl rfl ?_;simp only[*,go_sem]
  refine ai.nil a ?_;try simp only[go_sem]
  repeat refine ax (a _) ?_
  refine jI a ?_
  refine qR a (fun m M F' aL=>J0 Mu n st F m M F' aL) G ?_ ?_
  ·refine ⟨nw,C,0,W,0,G,rfl,by simp only[*,go_sem,muA],by simp only[*,go_sem],by simp only[*,go_sem],by simp only[*,go_sem],hw,hC,Nat.le_refl _,?_⟩
   by_cases f:0<C/\W=0
   ·exact .inl ⟨rfl,rfl,f.2,f.1,by simp[jh,f]⟩
   ·exact .inr ⟨fun x=>f ⟨x.2.2.2,x.2.2.1⟩,by simp[jh,f]⟩
  ·clear hw hC b4 K B w1 z hW y k1 u hd
   rintro m A F' aL ⟨old,C,S,W,L,G,rfl,y,ad,u,hd,hw,hC,ae,N⟩
   repeat refine ax (a _) ?_
   refine jI a ?_
   have sh:old.fdiv 8=(C:Int):=hw.sh
   rcases N with ⟨rfl,rfl,rfl,j,rfl⟩|⟨al,rfl⟩
   ·
    have O:dQ old 7=0:=hw.a7
    have D:((C:Int)==0)=false:=by simp;omega
    repeat refine ax (a _) ?_
    refine cW a ?_
    refine ai.bw (hJ _ rfl) 1 (n:=7) _ rfl rfl ?_;simp only[*,go_sem]
    refine ai.mQ old (C:Int) (a _) ⟨_,rfl,(by first|rfl|simp only[*,go_sem]),rfl,rfl⟩ (by simp only[*,go_sem]) (by simp only[*,go_sem]) hw.sh ?_
    refine ai.bw (hJ _ rfl) 6 (n:=0) _ rfl rfl ?_;simp only[*,go_sem]
    refine ai.nil a ?_;try simp only[go_sem]
    repeat refine ax (a _) ?_
    refine cB (a _) (by simp only[*,go_sem]) ?_
    refine cD (a _) ?_;try simp only[go_sem]
    have ao:IntKind.i32.wrap (old - 8)=old - 8:=by have e0:=hw.st.eq;exact iA (by omega) (by omega)
    have P:Wd (old - 8) (C - 1) 0 0 0:=by have e0:=hw.st.eq;exact wd ⟨by omega,by omega,by omega,by omega⟩ (by omega)
    have o2:jc (old - 8) 2=old - 8+2:=P.o2
    repeat refine ax (a _) ?_
    refine cW a ?_
    refine ai.bw (hJ _ rfl) 4 (n:=0) _ rfl rfl ?_;simp only[*,go_sem]
    refine ai.nil a ?_;try simp only[go_sem]
    repeat refine ax (a _) ?_
    refine cW a ?_
    refine ai.bw (hJ _ rfl) 5 (n:=1) _ rfl rfl ?_;simp only[*,go_sem]
    refine tV old (old - 8+2) tR aF ⟨_,_,_,rfl,(by first|rfl|simp only[*,go_sem]),rfl,by first|(simp only[*,go_sem];done)|(simp only[*,go_sem];rfl),rfl⟩ (by rfl) (by simp) (fun φ ms Q R T U k he hi hm=>?_) (fun φ mu ms Q R T U k he hi hm V=>?_)
    ·obtain ⟨rfl,rfl,rfl,rfl⟩:=hm.st.uniq hw.st
     refine ⟨.oz,⟨_,_,_,_,k,I6 hm hi _ (by rw[he]) rfl rfl rfl rfl j⟩,?_⟩
     refine ai.nil a ?_;try simp only[go_sem]
     repeat refine ax (a _) ?_
     refine cV (a _) (by simp only[*,go_sem]) ?_
     repeat refine ax (a _) ?_
     refine cW a ?_
     refine ai.bw (hJ _ rfl) 3 (n:=1) _ rfl rfl ?_;simp only[*,go_sem]
     refine Dh (.bool false) (.int .i64 2) C5 aF ⟨_,_,_,rfl,(by first|rfl|simp only[*,go_sem]),rfl,by first|(simp only[*,go_sem];done)|(simp only[*,go_sem];rfl),rfl⟩ (by rfl) (by simp) ?_
     refine ai.nil a ?_;try simp only[go_sem]
     refine fo ?_;try simp only[go_sem]
     exact oH rfl (by simp only[*,go_sem]) ⟨rfl,rfl,rfl⟩
    ·obtain ⟨X,ar,Y⟩:=I7 hm hi {mp:=.gq mu (bL n φ ms),gp:=.cnt,stored:=st,deaf:=1} (by rw[he]) rfl
     have a0:bL n φ ms<G:=Y V
     refine ⟨.gq mu (bL n φ ms),⟨_,_,_,_,k,X⟩,?_⟩
     refine ai.nil a ?_;try simp only[go_sem]
     repeat refine ax (a _) ?_
     refine cB (a _) (by simp only[*,go_sem]) ?_
     refine cD (a _) ?_;try simp only[go_sem]
     repeat refine ax (a _) ?_
     refine cW a ?_
     refine ai.bw (hJ _ rfl) 3 (n:=2) _ rfl rfl ?_;simp only[*,go_sem]
     refine oK JP oI ⟨_,rfl,(by first|rfl|simp only[*,go_sem]),rfl,rfl⟩ (by rfl) (by simp only[*,go_sem]) (fun c g d l o p q E H I e=>?_)
     have J:=wd e.st (by have:=e.bound;simp only[CY] at this;omega)
     by_cases b:o=0/\q=0/\p=0/\0<l
     ·obtain ⟨r,t,_⟩:=CG e I {mp:=.gq g (bL n c d),gp:=.cnt,stored:=st,deaf:=1} (by rw[H]) (.inl ⟨b.1,b.2.1,b.2.2.1,b.2.2.2,rfl⟩)
      have Z:bL n c d<=bL n φ ms:=t
      refine ⟨.gq g (bL n c d),⟨_,_,_,_,E,r⟩,?_⟩
      refine ai.bw (hJ _ rfl) 1 (n:=0) _ rfl rfl ?_;simp only[*,go_sem]
      refine ai.nil a ?_;try simp only[go_sem]
      exact ⟨bL n c d,by omega,g,l,o,p,q,bL n c d,rfl,(by simp only[*,go_sem]),(by simp only[*,go_sem]),(by simp only[*,go_sem]),(by simp only[*,go_sem]),J,e.bound,Nat.le_refl _,.inl ⟨b.1,b.2.1,b.2.2.1,b.2.2.2,rfl⟩⟩
     ·obtain ⟨r,t,_⟩:=CG e I {mp:=.fin,gp:=.cnt,stored:=st,deaf:=1} (by rw[H]) (.inr ⟨b,rfl⟩)
      have Z:bL n c d<=bL n φ ms:=t
      refine ⟨.fin,⟨_,_,_,_,E,r⟩,?_⟩
      refine ai.bw (hJ _ rfl) 1 (n:=0) _ rfl rfl ?_;simp only[*,go_sem]
      refine ai.nil a ?_;try simp only[go_sem]
      exact ⟨bL n c d,by omega,g,l,o,p,q,bL n c d,rfl,(by simp only[*,go_sem]),(by simp only[*,go_sem]),(by simp only[*,go_sem]),(by simp only[*,go_sem]),J,e.bound,Nat.le_refl _,.inr ⟨b,rfl⟩⟩
   ·
    by_cases j:C=0
    ·have D:((C:Int)==0)=true:=by simp[j]
     repeat refine ax (a _) ?_
     refine cW a ?_
     refine ai.bw (hJ _ rfl) 1 (n:=7) _ rfl rfl ?_;simp only[*,go_sem]
     refine ai.mQ old (C:Int) (a _) ⟨_,rfl,(by first|rfl|simp only[*,go_sem]),rfl,rfl⟩ (by simp only[*,go_sem]) (by simp only[*,go_sem]) hw.sh ?_
     refine ai.bw (hJ _ rfl) 6 (n:=0) _ rfl rfl ?_;simp only[*,go_sem]
     refine ai.nil a ?_;try simp only[go_sem]
     repeat refine ax (a _) ?_
     refine cV (a _) (by simp only[*,go_sem]) ?_
     refine fo ?_;try simp only[go_sem]
     exact oH rfl (by simp only[*,go_sem]) ⟨rfl,rfl,rfl⟩
    ·have D:((C:Int)==0)=false:=by simp;omega
     have O:=hw.a7
     have a2:(((4*S+(2*W+L):Nat):Int) != 0)=true:=by simp;omega
     repeat refine ax (a _) ?_
     refine cW a ?_
     refine ai.bw (hJ _ rfl) 1 (n:=7) _ rfl rfl ?_;simp only[*,go_sem]
     refine ai.mQ old (C:Int) (a _) ⟨_,rfl,(by first|rfl|simp only[*,go_sem]),rfl,rfl⟩ (by simp only[*,go_sem]) (by simp only[*,go_sem]) hw.sh ?_
     refine ai.bw (hJ _ rfl) 6 (n:=0) _ rfl rfl ?_;simp only[*,go_sem]
     refine ai.nil a ?_;try simp only[go_sem]
     repeat refine ax (a _) ?_
     refine cV (a _) (by simp only[*,go_sem]) ?_
     refine fo ?_;try simp only[go_sem]
     exact oH rfl (by simp only[*,go_sem]) ⟨rfl,rfl,rfl⟩
theorem J2 (aF:Mu≠Wg/\Mu≠Is/\Wg≠Is)(j:n<67108864):
  cC Tryz.prog (WJ (CY Mu Wg Is n bs base T0) i) 166 #[.pointer (some (muA Mu))] F ⟨.held,.cnt,st,0⟩ (fun v F' aL=>v= .tuple #[]/\F'=F/\aL=⟨.fin,.cnt,st,0⟩):=by
 have a:=WJ.eo (CY Mu Wg Is n bs base T0) i
 have hJ:∀ph:Ph,ph.gp= .cnt->Go.Sep.Closed Tryz.prog false (WJ (CY Mu Wg Is n bs base T0) i ph):=fun ph h=>Wk.closed (CY Mu Wg Is n bs base T0) i ph h
 refine cC.go (main:=false) a Tryz.func166 rfl Tryz.ntmps166 (by simp) fun A x hd hs=>?_
 have y:=hs 0
 clear hs
 repeat refine ax (a _) ?_
 refine cV (a _) (by simp only[*,go_sem]) ?_
 repeat refine ax (a _) ?_
 refine cW a ?_
 refine ai.bw (hJ _ rfl) 3 (n:=1) _ rfl rfl ?_;simp only[*,go_sem]
 refine oK JO oI ⟨_,rfl,(by first|rfl|simp only[*,go_sem]),rfl,rfl⟩ (by rfl) (by simp only[*,go_sem]) (fun z B D E G H I k l o p=>⟨.held,⟨_,_,_,_,k,mM p o _ (.inl (by rw[l]))⟩,?_⟩)
 refine ai.nil a ?_;try simp only[go_sem]
 repeat refine ax (a _) ?_
 refine cW a ?_
 refine ai.bw (hJ _ rfl) 1 (n:=2) _ rfl rfl ?_;simp only[*,go_sem]
 refine tX ⟨Mu,0,none⟩ yc lD ye ⟨_,rfl,(by first|rfl|simp only[*,go_sem]),rfl,rfl⟩ (by simp) (by simp only[*,go_sem]) yq ?_
 refine JU C4 ⟨_,_,_,rfl,(by first|rfl|simp only[*,go_sem]),rfl,by first|(simp only[*,go_sem];done)|(simp only[*,go_sem];rfl),rfl⟩ (by rfl) ?_
 refine ai.nil a ?_;try simp only[go_sem]
 repeat refine ax (a _) ?_
 refine cW a ?_
 refine yo qS ⟨_,_,_,rfl,(by first|rfl|simp only[*,go_sem]),rfl,by first|(simp only[*,go_sem];done)|(simp only[*,go_sem];rfl),rfl⟩ (by simp) (by simp) ?_
 refine ai.nil a ?_;try simp only[go_sem]
 repeat refine ax (a _) ?_
 refine cW a ?_
 refine ai.bw (hJ _ rfl) 3 (n:=2) _ rfl rfl ?_;simp only[*,go_sem]
 refine yp (-1) ya aF ⟨_,_,_,rfl,(by first|rfl|simp only[*,go_sem]),rfl,by first|(simp only[*,go_sem];done)|(simp only[*,go_sem];rfl),rfl⟩ (by rfl) (by simp) (fun φ mu ms C S W L m he hi hm=>?_)
 have q:=CF hm hi (by rw[he])
 subst q
 have hb:C<=3*n:=hm.bound
 have r:=hm.st.s
 have hW:=hm.st.w
 have d:IntKind.i32.wrap (mu+ -1)=mu - 1:=by have e0:=hm.st.eq;exact iA (by omega) (by omega)
 have g:St (mu - 1) C S W 0:=⟨by have e0:=hm.st.eq;omega,by omega,hW,r⟩
 have hw:Wd (mu - 1) C S W 0:=wd g (by omega)
 have e:cp n (upd φ i ⟨jh C S W (mu - 1) (sm n φ Mp.wt+2*m),.cnt,st,1⟩) (mu - 1) ms C S W 0 m:=by
  refine I5 hm hi _ (by rw[he]) ?_
  by_cases b:S=1
  ·exact .inl ⟨b,by simp[jh,b]⟩
  ·by_cases c:0<C/\W=0
   ·exact .inr (.inl ⟨by omega,c.1,c.2,by simp[jh,b,c]⟩)
   ·exact .inr (.inr ⟨by omega,by omega,by simp[jh,b,c]⟩)
 refine ⟨jh C S W (mu - 1) (sm n φ Mp.wt+2*m),mu - 1,d,⟨_,_,_,_,m,e⟩,?_⟩
 refine ai.bw (hJ _ rfl) 1 (n:=0) _ rfl rfl ?_;simp only[*,go_sem]
 refine ai.nil a ?_;try simp only[go_sem]
 by_cases f:mu - 1=0
 ·have e0:=g.eq
  have t:jh C S W (mu - 1) (sm n φ Mp.wt+2*m)= .fin:=by
   have:C=0:=by omega
   have:S=0:=by omega
   simp[jh, *]
  clear hw e d e0
  rw[t]
  rw[f]
  repeat refine ax (a _) ?_
  refine cW a ?_
  refine ai.bw (hJ _ rfl) 2 (n:=0) _ rfl rfl ?_;simp only[*,go_sem]
  refine ai.nil a ?_;try simp only[go_sem]
  repeat refine ax (a _) ?_
  refine cB (a _) (by simp only[*,go_sem]) ?_
  refine cD (a _) ?_;try simp only[go_sem]
  repeat refine ax (a _) ?_
  refine cW a ?_
  refine tU lC ⟨_,_,_,rfl,(by first|rfl|simp only[*,go_sem]),rfl,by first|(simp only[*,go_sem];done)|(simp only[*,go_sem];rfl),rfl⟩ (by simp) (by simp) rfl ?_
  refine ai.nil a ?_;try simp only[go_sem]
  exact lA rfl (by simp only[*,go_sem]) ⟨rfl,rfl,rfl⟩
 ·have J:(mu - 1 != 0)=true:=by simpa using f
  clear e d f
  repeat refine ax (a _) ?_
  refine cW a ?_
  refine ai.bw (hJ _ rfl) 2 (n:=0) _ rfl rfl ?_;simp only[*,go_sem]
  refine ai.nil a ?_;try simp only[go_sem]
  repeat refine ax (a _) ?_
  refine cV (a _) (by simp only[*,go_sem]) ?_
  repeat refine ax (a _) ?_
  refine cW a ?_
  refine ai.bw (hJ _ rfl) 2 (n:=1) _ rfl rfl ?_;simp only[*,go_sem]
  refine ai.fX (a _) rfl rfl rfl Fb (by simp only[*,go_sem,muA]) (J1 aF j hw hb) fun v F' aL u=>?_
  obtain ⟨rfl,rfl,rfl⟩:=u
  refine ai.nil a ?_;try simp only[go_sem]
  repeat refine ax (a _) ?_
  refine cW a ?_
  refine tU lC ⟨_,_,_,rfl,(by first|rfl|simp only[*,go_sem]),rfl,by first|(simp only[*,go_sem];done)|(simp only[*,go_sem];rfl),rfl⟩ (by simp) (by simp) rfl ?_
  refine ai.nil a ?_;try simp only[go_sem]
  exact lA rfl (by simp only[*,go_sem]) ⟨rfl,rfl,rfl⟩
end
end Go.Proofs.YtpgcmoanfifglaaGreatDoor
end
section
namespace Go.Sep
open Go Go.Conc
def tY {S:Type}(b:Act->aa->S->Prop)(Q:Ex->Act->aa->S->Prop):Ex->Act->aa->S->Prop
 | .normal,a,F,ph=>b a F ph
 |e,a,F,ph=>Q e a F ph
attribute [go_sem] tY
theorem kB {P:Program}{main:Bool}{S:Type}{JF:S->Goroutine->aa->Prop}{fi:FuncId}{Q:Ex->Act->aa->S->Prop}{a:Act}{F:aa}{ph:S}(c:∀ph,dR P main (JF ph)){x y:Code}(b:Act->aa->S->Prop)
  (d:cK JF fi x (tY b Q) a F ph) (f:∀a F ph,b a F ph->cK JF fi y Q a F ph):cK JF fi (.seq x y) Q a F ph:=
 ax (c _) (d.mono fun e a F ph h=>by
  cases e with
  |normal=>exact f a F ph h
  |exit i=>exact h
  |ret=>exact h)
theorem tZ {P:Program}{main:Bool}{S:Type}{JF:S->Goroutine->aa->Prop}{fi:FuncId}{Q:Ex->Act->aa->S->Prop}{a:Act}{F:aa}{ph:S}(f:∀ph,dR P main (JF ph)){x:Code}(b:Act->aa->S->Prop)
  (c:cK JF fi x (tY b Q) a F ph) (d:∀a F ph,b a F ph->Q .normal a F ph):cK JF fi x Q a F ph:=
 c.mono fun e a F ph h=>by
  cases e with
  |normal=>exact d a F ph h
  |exit i=>exact h
  |ret=>exact h
theorem aZ {P:Program}{main:Bool}{S:Type}{JF:S->Goroutine->aa->Prop}{fi:FuncId}{Q:Ex->Act->aa->S->Prop}{a:Act}{F:aa}{ph:S}(b:∀ph,dR P main (JF ph)){id:Nat}{ops:Array Oper}
  (h:∀K:Act->aa->S->Prop,(∀a F ph,Q .normal a F ph->K a F ph)->ai JF fi ops 0 ops.size K a F ph):cK JF fi (.region id ops false) Q a F ph:=cW b (h _ fun _ _ _ h=>h)
theorem ew {S:Type}{b:Act->aa->S->Prop}{Q:Ex->Act->aa->S->Prop}{a:Act}{F:aa}{ph:S}(h:b a F ph):tY b Q .normal a F ph:=h
theorem iX {S:Type}{I:Nat->Act->aa->S->Prop}{n:Nat}{Q:Ex->Act->aa->S->Prop}{a:Act}{F:aa}{ph:S}(h:∃m,m<n/\I m a F ph):x8 I n Q .normal a F ph:=h
theorem J3 {x:Int}(a: -9223372036854775808<=x)(b:x<9223372036854775808):IntKind.i64.wrap x=x:=by
 unfold IntKind.wrap;simp[IntKind.bits,IntKind.signed];omega
end Go.Sep
namespace Go.Proofs.YtpgcmoanfifglaaGreatDoor
open Go Go.Sep Go.Proofs Go.Conc
open Go.ConcN (upd upd_same)
open Go.ConcM (muA msA)
open Go.ConcR (stA smA)
set_option maxRecDepth 100000
set_option maxHeartbeats 8000000
set_option linter.all false
attribute [local go_sem] Int.reduceBEq Int.reduceBNe muA msA stA smA
def ua (Mu n:Nat)(st:Bool)(F:aa)(m:Nat)(a:Act)(F':aa)(ph:Ph):Prop:=
 ∃(wt it old:Int) (sv aw:Bool) (C S W L G:Nat),F'=F/\slot a 0= .pointer (some ⟨Mu,0,none⟩)/\slot a 2= .int .i64 wt/\slot a 3= .bool sv/\slot a 4= .bool aw/\slot a 5= .int .i64 it/\slot a 6= .int .i32 old/\sz a=139/\a.defers=[]/\
  Wd old C S W L/\C<=3*n/\0<=it/\it<=4/\(sv=true->aw=true)/\(aw=true->S=0/\W=1)/\8*G+(5 - it).toNat<=m/\ph=⟨.want aw old G,.cnt,st,1⟩
def uf (Mu:Nat)(st:Bool)(F:aa)(a:Act)(F':aa)(ph:Ph):Prop:=F'=F/\slot a 0= .pointer (some ⟨Mu,0,none⟩)/\sz a=139/\a.defers=[]/\ph=⟨.held,.cnt,st,1⟩
def J4 (Mu:Nat)(st:Bool)(F:aa)(wt it:Int)(sv:Bool)(G:Nat)(a:Act)(F':aa)(ph:Ph):Prop:=
 ∃(aw:Bool) (o:Int) (b:Nat),F'=F/\slot a 0= .pointer (some ⟨Mu,0,none⟩)/\slot a 2= .int .i64 wt/\slot a 3= .bool sv/\slot a 4= .bool aw/\slot a 5= .int .i64 it/\sz a=139/\a.defers=[]/\(sv=true->aw=true)/\b<=G/\ph=⟨.want aw o b,.cnt,st,1⟩
def qV (Mu:Nat)(st:Bool)(F:aa)(wt it old:Int)(x:Option Int)(sv aw:Bool)(G:Nat)(a:Act)(F':aa)(ph:Ph):Prop:=
 F'=F/\slot a 0= .pointer (some ⟨Mu,0,none⟩)/\slot a 2= .int .i64 wt/\slot a 3= .bool sv/\slot a 4= .bool aw/\slot a 5= .int .i64 it/\slot a 6= .int .i32 old/\(∀y,x=some y->slot a 7= .int .i32 y)/\sz a=139/\a.defers=[]/\ph=⟨.want aw old G,.cnt,st,1⟩
def Dj (Mu:Nat)(st:Bool)(F:aa)(sv:Bool)(mp:Mp)(a:Act)(F':aa)(ph:Ph):Prop:=
 ∃wt:Int,F'=F/\slot a 0= .pointer (some ⟨Mu,0,none⟩)/\slot a 2= .int .i64 wt/\slot a 3= .bool sv/\sz a=139/\a.defers=[]/\ph=⟨mp,.cnt,st,1⟩
def Dk (Mu:Nat)(st:Bool)(F:aa)(mp:Mp)(a:Act)(F':aa)(ph:Ph):Prop:=
 ∃(wt:Int) (sv:Bool),F'=F/\slot a 0= .pointer (some ⟨Mu,0,none⟩)/\slot a 2= .int .i64 wt/\slot a 3= .bool sv/\sz a=139/\a.defers=[]/\ph=⟨mp,.cnt,st,1⟩
def J5 (Mu:Nat)(st:Bool)(F:aa)(y:Bool)(a:Act)(F':aa)(ph:Ph):Prop:=
 ∃e:Bool,F'=F/\slot a 0= .pointer (some ⟨Mu,0,none⟩)/\slot a 9= .int .i32 (-7)/\slot a 123= .bool e/\sz a=139/\a.defers=[]/\(e=false->y=true)/\ph=⟨.ku y,.cnt,st,1⟩
section
variable {Mu Wg Is n base T0 i : Nat} {bs : Nat → Bool} {st : Bool} {F : aa}
theorem J6 (aF:Mu≠Wg/\Mu≠Is/\Wg≠Is)(e3:n<67108864):
  cC Tryz.prog (WJ (CY Mu Wg Is n bs base T0) i) 194 #[.pointer (some (muA Mu))] F ⟨.idle,.cnt,st,1⟩ (fun v F' aL=>v= .tuple #[]/\F'=F/\aL=⟨.held,.cnt,st,0⟩):=by
 have a:=WJ.eo (CY Mu Wg Is n bs base T0) i
 have hJ:∀ph:Ph,ph.gp= .cnt->Go.Sep.Closed Tryz.prog false (WJ (CY Mu Wg Is n bs base T0) i ph):=fun ph h=>Wk.closed (CY Mu Wg Is n bs base T0) i ph h
 refine cC.go (main:=false) a Tryz.func194 rfl Tryz.ntmps194 (by simp) fun A d hd hs=>?_
 have f:=hs 0
 clear hs
 repeat refine ax (a _) ?_
 refine aZ a fun K b=>?_
 refine ai.bw (hJ _ rfl) 1 (n:=0) _ rfl rfl ?_;simp only[*,go_sem,-b,-a,-hJ]
 refine ai.nil a (b _ _ _ ?_);clear b K
 repeat refine ax (a _) ?_
 refine aZ a fun K b=>?_
 refine ai.bw (hJ _ rfl) 1 (n:=0) _ rfl rfl ?_;simp only[*,go_sem,-b,-a,-hJ]
 refine ai.nil a (b _ _ _ ?_);clear b K
 repeat refine ax (a _) ?_
 refine aZ a fun K b=>?_
 refine ai.bw (hJ _ rfl) 1 (n:=0) _ rfl rfl ?_;simp only[*,go_sem,-b,-a,-hJ]
 refine ai.nil a (b _ _ _ ?_);clear b K
 repeat refine ax (a _) ?_
 refine aZ a fun K b=>?_
 refine ai.bw (hJ _ rfl) 1 (n:=0) _ rfl rfl ?_;simp only[*,go_sem,-b,-a,-hJ]
 refine ai.nil a (b _ _ _ ?_);clear b K
 repeat refine ax (a _) ?_
 refine aZ a fun K b=>?_
 refine ai.bw (hJ _ rfl) 3 (n:=2) _ rfl rfl ?_;simp only[*,go_sem,-b,-a,-hJ]
 refine oK tS oI ⟨_,rfl,(by first|(simp only[*,go_sem,-b,-a,-hJ];done)|rfl),rfl,rfl⟩ (by rfl) (by simp only[*,go_sem,-b,-a,-hJ]) (fun φ mu ms C S W L m he hi hm=>⟨.want false mu (bL n φ ms),⟨_,_,_,_,m,IY hm hi _ (by rw[he]) rfl⟩,?_⟩)
 have hw:=wd hm.st (by have:C<=3*n:=hm.bound;omega)
 have hC:C<=3*n:=hm.bound
 refine ai.bw (hJ _ rfl) 1 (n:=0) _ rfl rfl ?_;simp only[*,go_sem,-b,-a,-hJ]
 refine ai.nil a (b _ _ _ ?_);clear b K
 refine kB a (uf Mu st F) ?_ ?_
 ·repeat refine ax (a _) ?_
  refine jI a ?_
  refine qR a (ua Mu n st F) (8*bL n φ ms+5) ?_ ?_
  ·exact ⟨0,0,mu,false,false,C,S,W,L,bL n φ ms,rfl,(by simp only[*,go_sem,-a,-hJ]),(by simp only[*,go_sem,-a,-hJ]),(by simp only[*,go_sem,-a,-hJ]),(by simp only[*,go_sem,-a,-hJ]),(by simp only[*,go_sem,-a,-hJ]),(by simp only[*,go_sem,-a,-hJ]),(by simp only[*,go_sem,-a,-hJ]),(by simp only[*,go_sem,-a,-hJ]),hw,hC,by omega,by omega,by simp,by simp,by simp,rfl⟩
  ·clear hw hC hm hi he d hd f
   rintro m A F' aL ⟨wt,it,old,sv,aw,C,S,W,L,G,rfl,f,k,o,z,D,I,d,hd,hw,hC,fa,fb,V,X,fg,rfl⟩
   have cS:S=0\/S=1:=by have:=hw.st.s;omega
   have a7:L=0\/L=1:=by have:=hw.st.l;omega
   have bd:W=0\/W=1:=by have:=hw.st.w;omega
   repeat refine ax (a _) ?_
   refine jI a ?_
   refine kB a (qV Mu st F' wt it old none sv aw G) ?_ ?_
   ·
    by_cases Y:S=0/\L=1
    ·obtain ⟨rfl,rfl⟩:=Y
     have b5:dQ old 5=1:=hw.a5
     repeat refine ax (a _) ?_
     refine aZ a fun K b=>?_
     refine ai.bw (hJ _ rfl) 5 (n:=2) _ rfl rfl ?_;simp only[*,go_sem,-b,-a,-hJ]
     refine JX it JE ⟨_,_,_,rfl,(by first|(simp only[*,go_sem,-b,-a,-hJ];done)|rfl),rfl,by first|(simp only[*,go_sem,-b,-a,-hJ];done)|(simp only[*,go_sem,-b,-a,-hJ];rfl),rfl⟩ (by simp) fun t ht=>?_
     refine ai.bw (hJ _ rfl) 1 (n:=0) _ rfl rfl ?_;simp only[*,go_sem,-b,-a,-hJ]
     refine ai.nil a (b _ _ _ ?_);clear b K
     cases t
     ·repeat refine ax (a _) ?_
      refine cB (a _) (by simp only[*,go_sem,-a,-hJ]) ?_
      refine cD (a _) ?_
      exact ew ⟨rfl,(by simp only[*,go_sem,-a,-hJ]),(by simp only[*,go_sem,-a,-hJ]),(by simp only[*,go_sem,-a,-hJ]),(by simp only[*,go_sem,-a,-hJ]),(by simp only[*,go_sem,-a,-hJ]),(by simp only[*,go_sem,-a,-hJ]),by simp,(by simp only[*,go_sem,-a,-hJ]),(by simp only[*,go_sem,-a,-hJ]),rfl⟩
     ·have fi:=ht rfl
      repeat refine ax (a _) ?_
      refine cV (a _) (by simp only[*,go_sem,-a,-hJ]) ?_
      refine kB a (J4 Mu st F' wt it sv G) ?_ ?_
      ·cases aw
       ·obtain rfl:sv=false:=by cases sv<;>simp_all
        rcases bd with rfl|rfl
        ·have b2:dQ old 2=0:=hw.a2
         by_cases dE:C=0
         ·have br:((C:Int) != 0)=false:=by simp[dE]
          repeat refine ax (a _) ?_
          refine aZ a fun K b=>?_
          refine ai.bw (hJ _ rfl) 9 (n:=12) _ rfl rfl ?_;simp only[*,go_sem,-b,-a,-hJ]
          refine ai.mQ old (C:Int) (a _) ⟨_,rfl,(by first|(simp only[*,go_sem,-b,-a,-hJ];done)|rfl),rfl,rfl⟩ (by simp only[*,go_sem,-b,-a,-hJ]) (by simp only[*,go_sem,-b,-a,-hJ]) hw.sh ?_
          refine ai.bw (hJ _ rfl) 11 (n:=0) _ rfl rfl ?_;simp only[*,go_sem,-b,-a,-hJ]
          refine ai.nil a (b _ _ _ ?_);clear b K
          repeat refine ax (a _) ?_
          refine cB (a _) (by simp only[*,go_sem,-a,-hJ]) ?_
          refine cD (a _) ?_
          exact ew ⟨false,old,G,rfl,(by simp only[*,go_sem,-a,-hJ]),(by simp only[*,go_sem,-a,-hJ]),(by simp only[*,go_sem,-a,-hJ]),(by simp only[*,go_sem,-a,-hJ]),(by simp only[*,go_sem,-a,-hJ]),(by simp only[*,go_sem,-a,-hJ]),(by simp only[*,go_sem,-a,-hJ]),by simp,Nat.le_refl _,rfl⟩
         ·have br:((C:Int) != 0)=true:=by simp;omega
          have o2:jc old 2=old+2:=hw.o2
          repeat refine ax (a _) ?_
          refine aZ a fun K b=>?_
          refine ai.bw (hJ _ rfl) 9 (n:=12) _ rfl rfl ?_;simp only[*,go_sem,-b,-a,-hJ]
          refine ai.mQ old (C:Int) (a _) ⟨_,rfl,(by first|(simp only[*,go_sem,-b,-a,-hJ];done)|rfl),rfl,rfl⟩ (by simp only[*,go_sem,-b,-a,-hJ]) (by simp only[*,go_sem,-b,-a,-hJ]) hw.sh ?_
          refine ai.bw (hJ _ rfl) 9 (n:=2) _ rfl rfl ?_;simp only[*,go_sem,-b,-a,-hJ]
          refine tV old (old+2) tR aF ⟨_,_,_,rfl,(by first|(simp only[*,go_sem,-b,-a,-hJ];done)|rfl),rfl,by first|(simp only[*,go_sem,-b,-a,-hJ];done)|(simp only[*,go_sem,-b,-a,-hJ];rfl),rfl⟩ (by rfl) (by simp) (fun φ ms bz ao bS Z p he hi hm=>?_) (fun φ mu ms bz ao bS Z p he hi hm df=>?_)
          ·obtain ⟨rfl,rfl,rfl,rfl⟩:=hm.st.uniq hw.st
           refine ⟨.want true old G,⟨_,_,_,_,p,IZ hm hi _ (by rw[he]) rfl rfl rfl rfl rfl⟩,?_⟩
           refine ai.bw (hJ _ rfl) 1 (n:=0) _ rfl rfl ?_;simp only[*,go_sem,-b,-a,-hJ]
           refine ai.nil a (b _ _ _ ?_);clear b K
           repeat refine ax (a _) ?_
           refine cV (a _) (by simp only[*,go_sem,-a,-hJ]) ?_
           repeat refine ax (a _) ?_
           refine aZ a fun K b=>?_
           refine ai.bw (hJ _ rfl) 1 (n:=0) _ rfl rfl ?_;simp only[*,go_sem,-b,-a,-hJ]
           refine ai.nil a (b _ _ _ ?_);clear b K
           exact ew ⟨true,old,G,rfl,(by simp only[*,go_sem,-a,-hJ]),(by simp only[*,go_sem,-a,-hJ]),(by simp only[*,go_sem,-a,-hJ]),(by simp only[*,go_sem,-a,-hJ]),(by simp only[*,go_sem,-a,-hJ]),(by simp only[*,go_sem,-a,-hJ]),(by simp only[*,go_sem,-a,-hJ]),by simp,Nat.le_refl _,rfl⟩
          ·obtain ⟨J,a8,bj⟩:=tG hm hi {mp:=.want false mu (bL n φ ms),gp:=.cnt,stored:=st,deaf:=1} (by rw[he]) rfl
           refine ⟨.want false mu (bL n φ ms),⟨_,_,_,_,p,J⟩,?_⟩
           refine ai.bw (hJ _ rfl) 1 (n:=0) _ rfl rfl ?_;simp only[*,go_sem,-b,-a,-hJ]
           refine ai.nil a (b _ _ _ ?_);clear b K
           repeat refine ax (a _) ?_
           refine cB (a _) (by simp only[*,go_sem,-a,-hJ]) ?_
           refine cD (a _) ?_
           exact ew ⟨false,mu,bL n φ ms,rfl,(by simp only[*,go_sem,-a,-hJ]),(by simp only[*,go_sem,-a,-hJ]),(by simp only[*,go_sem,-a,-hJ]),(by simp only[*,go_sem,-a,-hJ]),(by simp only[*,go_sem,-a,-hJ]),(by simp only[*,go_sem,-a,-hJ]),(by simp only[*,go_sem,-a,-hJ]),by simp,a8,rfl⟩
        ·have b2:dQ old 2=2:=hw.a2
         repeat refine ax (a _) ?_
         refine aZ a fun K b=>?_
         refine ai.bw (hJ _ rfl) 21 (n:=0) _ rfl rfl ?_;simp only[*,go_sem,-b,-a,-hJ]
         refine ai.nil a (b _ _ _ ?_);clear b K
         repeat refine ax (a _) ?_
         refine cB (a _) (by simp only[*,go_sem,-a,-hJ]) ?_
         refine cD (a _) ?_
         exact ew ⟨false,old,G,rfl,(by simp only[*,go_sem,-a,-hJ]),(by simp only[*,go_sem,-a,-hJ]),(by simp only[*,go_sem,-a,-hJ]),(by simp only[*,go_sem,-a,-hJ]),(by simp only[*,go_sem,-a,-hJ]),(by simp only[*,go_sem,-a,-hJ]),(by simp only[*,go_sem,-a,-hJ]),by simp,Nat.le_refl _,rfl⟩
       ·repeat refine ax (a _) ?_
        refine aZ a fun K b=>?_
        refine ai.bw (hJ _ rfl) 21 (n:=0) _ rfl rfl ?_;simp only[*,go_sem,-b,-a,-hJ]
        refine ai.nil a (b _ _ _ ?_);clear b K
        repeat refine ax (a _) ?_
        refine cB (a _) (by simp only[*,go_sem,-a,-hJ]) ?_
        refine cD (a _) ?_
        exact ew ⟨true,old,G,rfl,(by simp only[*,go_sem,-a,-hJ]),(by simp only[*,go_sem,-a,-hJ]),(by simp only[*,go_sem,-a,-hJ]),(by simp only[*,go_sem,-a,-hJ]),(by simp only[*,go_sem,-a,-hJ]),(by simp only[*,go_sem,-a,-hJ]),(by simp only[*,go_sem,-a,-hJ]),by simp,Nat.le_refl _,rfl⟩
      ·clear f k o z D I d hd b5
       rintro A c ab ⟨bk,o2,dT,rfl,f,k,o,z,D,d,hd,ea,fp,rfl⟩
       have fr:IntKind.i64.wrap (it+1)=it+1:=J3 (by omega) (by omega)
       repeat refine ax (a _) ?_
       refine aZ a fun K b=>?_
       refine ai.entry _ (a _) JG ⟨_,_,_,rfl,(by first|(simp only[*,go_sem,-b,-a,-hJ];done)|rfl),rfl,by first|(simp only[*,go_sem,-b,-a,-hJ];done)|(simp only[*,go_sem,-b,-a,-hJ];rfl),rfl⟩ ?_
       refine ai.nil a (b _ _ _ ?_);clear b K
       repeat refine ax (a _) ?_
       refine aZ a fun K b=>?_
       refine ai.bw (hJ _ rfl) 3 (n:=0) _ rfl rfl ?_;simp only[*,go_sem,-b,-a,-hJ]
       refine ai.nil a (b _ _ _ ?_);clear b K
       repeat refine ax (a _) ?_
       refine aZ a fun K b=>?_
       refine ai.bw (hJ _ rfl) 3 (n:=2) _ rfl rfl ?_;simp only[*,go_sem,-b,-a,-hJ]
       refine oK tS oI ⟨_,rfl,(by first|(simp only[*,go_sem,-b,-a,-hJ];done)|rfl),rfl,rfl⟩ (by rfl) (by simp only[*,go_sem,-b,-a,-hJ]) (fun φ mu ms P al bl b0 b1 he hi hm=>?_)
       obtain ⟨J,a8,bj⟩:=tG hm hi {mp:=.want bk mu (bL n φ ms),gp:=.cnt,stored:=st,deaf:=1} (by rw[he]) rfl
       have ad:=wd hm.st (by have:P<=3*n:=hm.bound;omega)
       have a9:P<=3*n:=hm.bound
       have ca:bL n φ ms<=dT:=a8
       have cb:bk=true->al=0/\bl=1:=fun e=>by subst e;exact CD hm hi (by rw[he])
       refine ⟨.want bk mu (bL n φ ms),⟨_,_,_,_,b1,J⟩,?_⟩
       refine ai.bw (hJ _ rfl) 1 (n:=0) _ rfl rfl ?_;simp only[*,go_sem,-b,-a,-hJ]
       refine ai.nil a (b _ _ _ ?_);clear b K
       refine oG ?_
       change ∃p,p<m/\ua Mu n st c p _ _ _
       exact ⟨8*bL n φ ms+(5 - (it+1)).toNat,by omega,wt,it+1,mu,sv,bk,P,al,bl,b0,bL n φ ms,rfl,(by simp only[*,go_sem,-a,-hJ]),(by simp only[*,go_sem,-a,-hJ]),(by simp only[*,go_sem,-a,-hJ]),(by simp only[*,go_sem,-a,-hJ]),(by simp only[*,go_sem,-a,-hJ]),(by simp only[*,go_sem,-a,-hJ]),(by simp only[*,go_sem,-a,-hJ]),(by simp only[*,go_sem,-a,-hJ]),ad,a9,by omega,by omega,ea,cb,Nat.le_refl _,rfl⟩
    ·have b5:=hw.a5
     have cd:(((4*S+L:Nat):Int)==1)=false:=by simp;omega
     repeat refine ax (a _) ?_
     refine aZ a fun K b=>?_
     refine ai.bw (hJ _ rfl) 7 (n:=0) _ rfl rfl ?_;simp only[*,go_sem,-b,-a,-hJ]
     refine ai.nil a (b _ _ _ ?_);clear b K
     repeat refine ax (a _) ?_
     refine cB (a _) (by simp only[*,go_sem,-a,-hJ]) ?_
     refine cD (a _) ?_
     exact ew ⟨rfl,(by simp only[*,go_sem,-a,-hJ]),(by simp only[*,go_sem,-a,-hJ]),(by simp only[*,go_sem,-a,-hJ]),(by simp only[*,go_sem,-a,-hJ]),(by simp only[*,go_sem,-a,-hJ]),(by simp only[*,go_sem,-a,-hJ]),by simp,(by simp only[*,go_sem,-a,-hJ]),(by simp only[*,go_sem,-a,-hJ]),rfl⟩
   ·clear f k o z D I d hd
    rintro A c ab ⟨rfl,f,k,o,z,D,I,q,d,hd,rfl⟩
    clear q
    repeat refine ax (a _) ?_
    refine aZ a fun K b=>?_
    refine ai.bw (hJ _ rfl) 2 (n:=0) _ rfl rfl ?_;simp only[*,go_sem,-b,-a,-hJ]
    refine ai.nil a (b _ _ _ ?_);clear b K
    obtain ⟨Q,j,r⟩:∃Q:Int,(S=0->Q=old+1 - L)/\(S=1->Q=old):=⟨if S=0 then old+1 - L else old,fun e=>by simp[e],fun e=>by simp[e]⟩
    refine kB a (qV Mu st c wt it old (some Q) sv aw G) ?_ ?_
    ·rcases cS with rfl|rfl
     ·have b4:dQ old 4=0:=hw.a4
      have o1:jc old 1=Q:=by rw[j rfl,hw.o1];omega
      clear j r
      repeat refine ax (a _) ?_
      refine aZ a fun K b=>?_
      refine ai.bw (hJ _ rfl) 3 (n:=0) _ rfl rfl ?_;simp only[*,go_sem,-b,-a,-hJ]
      refine ai.nil a (b _ _ _ ?_);clear b K
      repeat refine ax (a _) ?_
      refine cV (a _) (by simp only[*,go_sem,-a,-hJ]) ?_
      repeat refine ax (a _) ?_
      refine aZ a fun K b=>?_
      refine ai.bw (hJ _ rfl) 3 (n:=0) _ rfl rfl ?_;simp only[*,go_sem,-b,-a,-hJ]
      refine ai.nil a (b _ _ _ ?_);clear b K
      exact ew ⟨rfl,(by simp only[*,go_sem,-a,-hJ]),(by simp only[*,go_sem,-a,-hJ]),(by simp only[*,go_sem,-a,-hJ]),(by simp only[*,go_sem,-a,-hJ]),(by simp only[*,go_sem,-a,-hJ]),(by simp only[*,go_sem,-a,-hJ]),fun y g=>by cases g;simp only[*,go_sem,-a,-hJ],(by simp only[*,go_sem,-a,-hJ]),(by simp only[*,go_sem,-a,-hJ]),rfl⟩
     ·have b4:dQ old 4=4:=hw.a4
      obtain rfl:=r rfl
      clear j r
      repeat refine ax (a _) ?_
      refine aZ a fun K b=>?_
      refine ai.bw (hJ _ rfl) 3 (n:=0) _ rfl rfl ?_;simp only[*,go_sem,-b,-a,-hJ]
      refine ai.nil a (b _ _ _ ?_);clear b K
      repeat refine ax (a _) ?_
      refine cB (a _) (by simp only[*,go_sem,-a,-hJ]) ?_
      refine cD (a _) ?_
      exact ew ⟨rfl,(by simp only[*,go_sem,-a,-hJ]),(by simp only[*,go_sem,-a,-hJ]),(by simp only[*,go_sem,-a,-hJ]),(by simp only[*,go_sem,-a,-hJ]),(by simp only[*,go_sem,-a,-hJ]),(by simp only[*,go_sem,-a,-hJ]),fun y g=>by cases g;simp only[*,go_sem,-a,-hJ],(by simp only[*,go_sem,-a,-hJ]),(by simp only[*,go_sem,-a,-hJ]),rfl⟩
    clear f k o z D I d hd
    rintro A c ab ⟨rfl,f,k,o,z,D,I,q,d,hd,rfl⟩
    replace q:=q _ rfl
    obtain ⟨R,x,E⟩:∃R:Int,(S=1\/L=1->R=Q+8)/\(S=0->L=0->R=Q):=⟨if S=1\/L=1 then Q+8 else Q,fun e=>by simp[e],fun e cf=>by simp[e,cf]⟩
    refine kB a (qV Mu st c wt it old (some R) sv aw G) ?_ ?_
    ·by_cases Y:S=1\/L=1
     ·have b5:=hw.a5
      have cd:(((4*S+L:Nat):Int) != 0)=true:=by simp;omega
      have fs:IntKind.i32.wrap (Q+8)=R:=by
       have e0:=hw.st.eq
       rw[x Y]
       refine iA ?_ ?_<;>rcases cS with rfl|rfl<;>first|(have:=j rfl;omega)|(have:=r rfl;omega)
      clear j r x E Y
      repeat refine ax (a _) ?_
      refine aZ a fun K b=>?_
      refine ai.bw (hJ _ rfl) 3 (n:=0) _ rfl rfl ?_;simp only[*,go_sem,-b,-a,-hJ]
      refine ai.nil a (b _ _ _ ?_);clear b K
      repeat refine ax (a _) ?_
      refine cV (a _) (by simp only[*,go_sem,-a,-hJ]) ?_
      repeat refine ax (a _) ?_
      refine aZ a fun K b=>?_
      refine ai.bw (hJ _ rfl) 3 (n:=0) _ rfl rfl ?_;simp only[*,go_sem,-b,-a,-hJ]
      refine ai.nil a (b _ _ _ ?_);clear b K
      exact ew ⟨rfl,(by simp only[*,go_sem,-a,-hJ]),(by simp only[*,go_sem,-a,-hJ]),(by simp only[*,go_sem,-a,-hJ]),(by simp only[*,go_sem,-a,-hJ]),(by simp only[*,go_sem,-a,-hJ]),(by simp only[*,go_sem,-a,-hJ]),fun y g=>by cases g;simp only[*,go_sem,-a,-hJ],(by simp only[*,go_sem,-a,-hJ]),(by simp only[*,go_sem,-a,-hJ]),rfl⟩
     ·obtain rfl:S=0:=by omega
      obtain rfl:L=0:=by omega
      have b5:dQ old 5=0:=hw.a5
      obtain rfl:=E rfl rfl
      clear j r x E Y
      repeat refine ax (a _) ?_
      refine aZ a fun K b=>?_
      refine ai.bw (hJ _ rfl) 3 (n:=0) _ rfl rfl ?_;simp only[*,go_sem,-b,-a,-hJ]
      refine ai.nil a (b _ _ _ ?_);clear b K
      repeat refine ax (a _) ?_
      refine cB (a _) (by simp only[*,go_sem,-a,-hJ]) ?_
      refine cD (a _) ?_
      exact ew ⟨rfl,(by simp only[*,go_sem,-a,-hJ]),(by simp only[*,go_sem,-a,-hJ]),(by simp only[*,go_sem,-a,-hJ]),(by simp only[*,go_sem,-a,-hJ]),(by simp only[*,go_sem,-a,-hJ]),(by simp only[*,go_sem,-a,-hJ]),fun y g=>by cases g;simp only[*,go_sem,-a,-hJ],(by simp only[*,go_sem,-a,-hJ]),(by simp only[*,go_sem,-a,-hJ]),rfl⟩
    clear f k o z D I q d hd
    rintro A c ab ⟨rfl,f,k,o,z,D,I,q,d,hd,rfl⟩
    replace q:=q _ rfl
    obtain ⟨M,N,u⟩:∃M:Int,(sv=true->L=1->M=R+4)/\(¬(sv=true/\L=1)->M=R):=⟨if sv=true/\L=1 then R+4 else R,fun e cf=>by simp[e,cf],fun e=>by simp[e]⟩
    refine kB a (qV Mu st c wt it old (some M) sv aw G) ?_ ?_
    ·cases sv
     ·obtain rfl:=u (by simp)
      clear j r x E N u
      repeat refine ax (a _) ?_
      refine aZ a fun K b=>?_
      refine ai.bw (hJ _ rfl) 6 (n:=0) _ rfl rfl ?_;simp only[*,go_sem,-b,-a,-hJ]
      refine ai.nil a (b _ _ _ ?_);clear b K
      repeat refine ax (a _) ?_
      refine cB (a _) (by simp only[*,go_sem,-a,-hJ]) ?_
      refine cD (a _) ?_
      exact ew ⟨rfl,(by simp only[*,go_sem,-a,-hJ]),(by simp only[*,go_sem,-a,-hJ]),(by simp only[*,go_sem,-a,-hJ]),(by simp only[*,go_sem,-a,-hJ]),(by simp only[*,go_sem,-a,-hJ]),(by simp only[*,go_sem,-a,-hJ]),fun y g=>by cases g;simp only[*,go_sem,-a,-hJ],(by simp only[*,go_sem,-a,-hJ]),(by simp only[*,go_sem,-a,-hJ]),rfl⟩
     ·obtain rfl:aw=true:=V rfl
      rcases a7 with rfl|rfl
      ·have eb:dQ old 1=0:=hw.a1
       obtain rfl:=u (by simp)
       clear j r x E N u
       repeat refine ax (a _) ?_
       refine aZ a fun K b=>?_
       refine ai.bw (hJ _ rfl) 6 (n:=0) _ rfl rfl ?_;simp only[*,go_sem,-b,-a,-hJ]
       refine ai.nil a (b _ _ _ ?_);clear b K
       repeat refine ax (a _) ?_
       refine cB (a _) (by simp only[*,go_sem,-a,-hJ]) ?_
       refine cD (a _) ?_
       exact ew ⟨rfl,(by simp only[*,go_sem,-a,-hJ]),(by simp only[*,go_sem,-a,-hJ]),(by simp only[*,go_sem,-a,-hJ]),(by simp only[*,go_sem,-a,-hJ]),(by simp only[*,go_sem,-a,-hJ]),(by simp only[*,go_sem,-a,-hJ]),fun y g=>by cases g;simp only[*,go_sem,-a,-hJ],(by simp only[*,go_sem,-a,-hJ]),(by simp only[*,go_sem,-a,-hJ]),rfl⟩
      ·have eb:dQ old 1=1:=hw.a1
       have o4:jc R 4=M:=by
        have e0:=hw.st.eq
        obtain ⟨rfl,rfl⟩:=X rfl
        have e1:=j rfl
        have e2:=x (.inr rfl)
        rw[N rfl rfl,(wd (C:=C+1) (S:=0) (W:=1) (L:=1) ⟨by omega,by omega,by omega,by omega⟩ (by omega)).o4]
        omega
       clear j r x E N u
       repeat refine ax (a _) ?_
       refine aZ a fun K b=>?_
       refine ai.bw (hJ _ rfl) 6 (n:=0) _ rfl rfl ?_;simp only[*,go_sem,-b,-a,-hJ]
       refine ai.nil a (b _ _ _ ?_);clear b K
       repeat refine ax (a _) ?_
       refine cV (a _) (by simp only[*,go_sem,-a,-hJ]) ?_
       repeat refine ax (a _) ?_
       refine aZ a fun K b=>?_
       refine ai.bw (hJ _ rfl) 3 (n:=0) _ rfl rfl ?_;simp only[*,go_sem,-b,-a,-hJ]
       refine ai.nil a (b _ _ _ ?_);clear b K
       exact ew ⟨rfl,(by simp only[*,go_sem,-a,-hJ]),(by simp only[*,go_sem,-a,-hJ]),(by simp only[*,go_sem,-a,-hJ]),(by simp only[*,go_sem,-a,-hJ]),(by simp only[*,go_sem,-a,-hJ]),(by simp only[*,go_sem,-a,-hJ]),fun y g=>by cases g;simp only[*,go_sem,-a,-hJ],(by simp only[*,go_sem,-a,-hJ]),(by simp only[*,go_sem,-a,-hJ]),rfl⟩
    clear f k o z D I q d hd
    rintro A c ab ⟨rfl,f,k,o,z,D,I,q,d,hd,rfl⟩
    replace q:=q _ rfl
    obtain ⟨ae,T,U⟩:∃ae:Int,(aw=true->ae=M - 2)/\(aw=false->ae=M):=⟨if aw then M - 2 else M,fun e=>by simp[e],fun e=>by simp[e]⟩
    refine kB a (qV Mu st c wt it old (some ae) sv aw G) ?_ ?_
    ·cases aw
     ·obtain rfl:=U rfl
      clear j r x E N u T U
      repeat refine ax (a _) ?_
      refine aZ a fun K b=>?_
      refine ai.bw (hJ _ rfl) 1 (n:=0) _ rfl rfl ?_;simp only[*,go_sem,-b,-a,-hJ]
      refine ai.nil a (b _ _ _ ?_);clear b K
      repeat refine ax (a _) ?_
      refine cB (a _) (by simp only[*,go_sem,-a,-hJ]) ?_
      refine cD (a _) ?_
      exact ew ⟨rfl,(by simp only[*,go_sem,-a,-hJ]),(by simp only[*,go_sem,-a,-hJ]),(by simp only[*,go_sem,-a,-hJ]),(by simp only[*,go_sem,-a,-hJ]),(by simp only[*,go_sem,-a,-hJ]),(by simp only[*,go_sem,-a,-hJ]),fun y g=>by cases g;simp only[*,go_sem,-a,-hJ],(by simp only[*,go_sem,-a,-hJ]),(by simp only[*,go_sem,-a,-hJ]),rfl⟩
     ·obtain ⟨rfl,rfl⟩:=X rfl
      have ad:∃P al,Wd M P al 1 1:=by
       have e0:=hw.st.eq
       have e1:=j rfl
       rcases a7 with rfl|rfl
       ·have e2:=E rfl rfl
        have ar:=u (by simp)
        exact ⟨C,0,wd ⟨by omega,by omega,by omega,by omega⟩ (by omega)⟩
       ·have e2:=x (.inr rfl)
        cases sv
        ·have ar:=u (by simp)
         exact ⟨C+1,0,wd ⟨by omega,by omega,by omega,by omega⟩ (by omega)⟩
        ·have ar:=N rfl rfl
         exact ⟨C+1,1,wd ⟨by omega,by omega,by omega,by omega⟩ (by omega)⟩
      obtain ⟨P,al,ad⟩:=ad
      have b2:dQ M 2=2:=ad.a2
      have n2:qQ M 2=ae:=by rw[T rfl,ad.n2];rfl
      clear j r x E N u T U
      repeat refine ax (a _) ?_
      refine aZ a fun K b=>?_
      refine ai.bw (hJ _ rfl) 1 (n:=0) _ rfl rfl ?_;simp only[*,go_sem,-b,-a,-hJ]
      refine ai.nil a (b _ _ _ ?_);clear b K
      repeat refine ax (a _) ?_
      refine cV (a _) (by simp only[*,go_sem,-a,-hJ]) ?_
      repeat refine ax (a _) ?_
      refine aZ a fun K b=>?_
      refine ai.bw (hJ _ rfl) 3 (n:=0) _ rfl rfl ?_;simp only[*,go_sem,-b,-a,-hJ]
      refine ai.nil a (b _ _ _ ?_);clear b K
      repeat refine ax (a _) ?_
      refine cB (a _) (by simp only[*,go_sem,-a,-hJ]) ?_
      refine cD (a _) ?_
      repeat refine ax (a _) ?_
      refine aZ a fun K b=>?_
      refine ai.bw (hJ _ rfl) 3 (n:=0) _ rfl rfl ?_;simp only[*,go_sem,-b,-a,-hJ]
      refine ai.nil a (b _ _ _ ?_);clear b K
      exact ew ⟨rfl,(by simp only[*,go_sem,-a,-hJ]),(by simp only[*,go_sem,-a,-hJ]),(by simp only[*,go_sem,-a,-hJ]),(by simp only[*,go_sem,-a,-hJ]),(by simp only[*,go_sem,-a,-hJ]),(by simp only[*,go_sem,-a,-hJ]),fun y g=>by cases g;simp only[*,go_sem,-a,-hJ],(by simp only[*,go_sem,-a,-hJ]),(by simp only[*,go_sem,-a,-hJ]),rfl⟩
    clear f k o z D I q d hd
    rintro A c ab ⟨rfl,f,k,o,z,D,I,q,d,hd,rfl⟩
    replace q:=q _ rfl
    repeat refine ax (a _) ?_
    refine aZ a fun K b=>?_
    refine ai.bw (hJ _ rfl) 5 (n:=1) _ rfl rfl ?_;simp only[*,go_sem,-b,-a,-hJ]
    refine tV old ae tR aF ⟨_,_,_,rfl,(by first|(simp only[*,go_sem,-b,-a,-hJ];done)|rfl),rfl,by first|(simp only[*,go_sem,-b,-a,-hJ];done)|(simp only[*,go_sem,-b,-a,-hJ];rfl),rfl⟩ (by rfl) (by simp) (fun φ ms bz ao bS Z p he hi hm=>?_) (fun φ mu ms bz ao bS Z p he hi hm df=>?_)
    ·obtain ⟨rfl,rfl,rfl,rfl⟩:=hm.st.uniq hw.st
     by_cases Y:ao=0/\Z=0
     ·obtain ⟨rfl,rfl⟩:=Y
      have O:ae=old+1 - (if aw then 2 else 0):=by
       have e1:=j rfl
       have e2:=E rfl rfl
       have ar:=u (by simp)
       cases aw
       ·have O:=U rfl
        simp;omega
       ·have O:=T rfl
        simp;omega
      have b5:dQ old 5=0:=hw.a5
      refine ⟨.held,by rw[O];exact ⟨_,_,_,_,p,I0 hm hi _ (by rw[he]) rfl rfl rfl (fun e=>(X e).2)⟩,?_⟩
      clear j r x E N u T U O he hi hm V X cS a7 bd
      refine ai.nil a (b _ _ _ ?_);clear b K
      repeat refine ax (a _) ?_
      refine cV (a _) (by simp only[*,go_sem,-a,-hJ]) ?_
      repeat refine ax (a _) ?_
      refine aZ a fun K b=>?_
      refine ai.bw (hJ _ rfl) 3 (n:=0) _ rfl rfl ?_;simp only[*,go_sem,-b,-a,-hJ]
      refine ai.nil a (b _ _ _ ?_);clear b K
      repeat refine ax (a _) ?_
      refine cV (a _) (by simp only[*,go_sem,-a,-hJ]) ?_
      refine oG ?_
      change uf Mu st c _ _ _
      exact ⟨rfl,(by simp only[*,go_sem,-a,-hJ]),(by simp only[*,go_sem,-a,-hJ]),(by simp only[*,go_sem,-a,-hJ]),rfl⟩
     ·have cl:ao=1\/Z=1:=by omega
      have O:ae=old+8+(if sv then 4 else 0) - (if aw then 2 else 0):=by
       have e2:=x cl
       rcases cS with rfl|rfl
       ·have e1:=j rfl
        obtain rfl:Z=1:=by omega
        cases sv
        ·have ar:=u (by simp)
         cases aw
         ·have O:=U rfl
          simp;omega
         ·have O:=T rfl
          simp;omega
        ·obtain rfl:aw=true:=V rfl
         have ar:=N rfl rfl
         have O:=T rfl
         simp;omega
       ·have ec:aw=false:=by
         cases aw
         ·rfl
         ·exact absurd (X rfl).1 (by omega)
        subst ec
        have ed:sv=false:=by
         cases sv
         ·rfl
         ·exact absurd (V rfl) (by simp)
        subst ed
        have e1:=r rfl
        have ar:=u (by simp)
        have O:=U rfl
        simp;omega
      have dk:sv=true->aw=true/\Z=1:=fun e=>⟨V e,by have:=X (V e);omega⟩
      have dp:bL n φ ms<=G:=(hm.seen i hi (some old) G (by rw[he];rfl)).1
      have b5:=hw.a5
      have cd:(((4*ao+Z:Nat):Int)==0)=false:=by simp;omega
      refine ⟨.iy (bL n φ ms),by rw[O];exact ⟨_,_,_,_,p,I1 hm hi _ (by rw[he]) rfl cl dk⟩,?_⟩
      clear j r x E N u T U O he hi hm V X cS a7 bd Y cl dk
      revert dp
      generalize bL n φ ms=B
      intro dp
      refine ai.nil a (b _ _ _ ?_);clear b K
      repeat refine ax (a _) ?_
      refine cV (a _) (by simp only[*,go_sem,-a,-hJ]) ?_
      repeat refine ax (a _) ?_
      refine aZ a fun K b=>?_
      refine ai.bw (hJ _ rfl) 3 (n:=0) _ rfl rfl ?_;simp only[*,go_sem,-b,-a,-hJ]
      refine ai.nil a (b _ _ _ ?_);clear b K
      repeat refine ax (a _) ?_
      refine cB (a _) (by simp only[*,go_sem,-a,-hJ]) ?_
      refine cD (a _) ?_
      repeat refine ax (a _) ?_
      refine aZ a fun K b=>?_
      refine ai.bw (hJ _ rfl) 3 (n:=0) _ rfl rfl ?_;simp only[*,go_sem,-b,-a,-hJ]
      refine ai.nil a (b _ _ _ ?_);clear b K
      repeat refine ax (a _) ?_
      refine aZ a fun K b=>?_
      refine ai.bw (hJ _ rfl) 2 (n:=0) _ rfl rfl ?_;simp only[*,go_sem,-b,-a,-hJ]
      refine ai.nil a (b _ _ _ ?_);clear b K
      first|refine kB a (Dj Mu st c sv (.iy B)) ?_ ?_|refine tZ a (Dj Mu st c sv (.iy B)) ?_ ?_
      ·cases ft:(wt==0)
       ·repeat refine ax (a _) ?_
        refine cB (a _) (by simp only[*,go_sem,-a,-hJ]) ?_
        refine cD (a _) ?_
        exact ew ⟨wt,rfl,(by simp only[*,go_sem,-a,-hJ]),(by simp only[*,go_sem,-a,-hJ]),(by simp only[*,go_sem,-a,-hJ]),(by simp only[*,go_sem,-a,-hJ]),(by simp only[*,go_sem,-a,-hJ]),rfl⟩
       ·repeat refine ax (a _) ?_
        refine cV (a _) (by simp only[*,go_sem,-a,-hJ]) ?_
        repeat refine ax (a _) ?_
        refine aZ a fun K b=>?_
        refine Di C6 Db ⟨_,_,_,rfl,(by first|(simp only[*,go_sem,-b,-a,-hJ];done)|rfl),rfl,by first|(simp only[*,go_sem,-b,-a,-hJ];done)|(simp only[*,go_sem,-b,-a,-hJ];rfl),rfl⟩ (by simp) fun t=>?_
        refine ai.bw (hJ _ rfl) 1 (n:=0) _ rfl rfl ?_;simp only[*,go_sem,-b,-a,-hJ]
        refine ai.nil a (b _ _ _ ?_);clear b K
        exact ew ⟨t,rfl,(by simp only[*,go_sem,-a,-hJ]),(by simp only[*,go_sem,-a,-hJ]),(by simp only[*,go_sem,-a,-hJ]),(by simp only[*,go_sem,-a,-hJ]),(by simp only[*,go_sem,-a,-hJ]),rfl⟩
      clear f k o z D I q d hd b5 cd
      rintro A c ab ⟨dq,rfl,f,k,o,d,hd,rfl⟩
      repeat refine ax (a _) ?_
      refine aZ a fun K b=>?_
      refine ai.bw (hJ _ rfl) 4 (n:=1) _ rfl rfl ?_;simp only[*,go_sem,-b,-a,-hJ]
      refine JW (slot A 8) (.int .i64 2) JD aF ⟨_,_,_,rfl,(by first|(simp only[*,go_sem,-b,-a,-hJ];done)|rfl),rfl,by first|(simp only[*,go_sem,-b,-a,-hJ];done)|(simp only[*,go_sem,-b,-a,-hJ];rfl),rfl⟩ (by rfl) rfl ?_
      refine ai.nil a (b _ _ _ ?_);clear b K
      first|refine kB a (Dk Mu st c (.jF B)) ?_ ?_|refine tZ a (Dk Mu st c (.jF B)) ?_ ?_
      ·cases sv
       ·repeat refine ax (a _) ?_
        refine aZ a fun K b=>?_
        refine ai.bw (hJ _ rfl) 2 (n:=6) _ rfl rfl ?_;simp only[*,go_sem,-b,-a,-hJ]
        refine Di C6 Db ⟨_,_,_,rfl,(by first|(simp only[*,go_sem,-b,-a,-hJ];done)|rfl),rfl,by first|(simp only[*,go_sem,-b,-a,-hJ];done)|(simp only[*,go_sem,-b,-a,-hJ];rfl),rfl⟩ (by simp) fun t=>?_
        refine ai.bw (hJ _ rfl) 5 (n:=0) _ rfl rfl ?_;simp only[*,go_sem,-b,-a,-hJ]
        refine ai.nil a (b _ _ _ ?_);clear b K
        exact ew ⟨dq,_,rfl,(by simp only[*,go_sem,-a,-hJ]),(by simp only[*,go_sem,-a,-hJ]),(by simp only[*,go_sem,-a,-hJ];rfl),(by simp only[*,go_sem,-a,-hJ]),(by simp only[*,go_sem,-a,-hJ]),rfl⟩
       ·repeat refine ax (a _) ?_
        refine aZ a fun K b=>?_
        refine ai.bw (hJ _ rfl) 8 (n:=0) _ rfl rfl ?_;simp only[*,go_sem,-b,-a,-hJ]
        refine ai.nil a (b _ _ _ ?_);clear b K
        exact ew ⟨dq,true,rfl,(by simp only[*,go_sem,-a,-hJ]),(by simp only[*,go_sem,-a,-hJ]),(by simp only[*,go_sem,-a,-hJ]),(by simp only[*,go_sem,-a,-hJ]),(by simp only[*,go_sem,-a,-hJ]),rfl⟩
      clear f k o d hd
      rintro A c ab ⟨eh,ds,rfl,f,k,o,d,hd,rfl⟩
      repeat refine ax (a _) ?_
      refine aZ a fun K b=>?_
      refine ai.bw (hJ _ rfl) 3 (n:=2) _ rfl rfl ?_;simp only[*,go_sem,-b,-a,-hJ]
      refine oK tS oI ⟨_,rfl,(by first|(simp only[*,go_sem,-b,-a,-hJ];done)|rfl),rfl,rfl⟩ (by rfl) (by simp only[*,go_sem,-b,-a,-hJ]) (fun φ mu ms H ba cy c0 bm he hi hm=>?_)
      have dt:H<=3*n:=hm.bound
      have a0:=wd hm.st (by omega)
      rcases (by have:=hm.st.s;omega:ba=0\/ba=1) with rfl|rfl
      ·obtain ⟨J,rfl,da⟩:=I3 hm hi {mp:=.want true mu (bL n φ ms),gp:=.cnt,stored:=st,deaf:=1} (by rw[he]) rfl rfl
       have fu:bL n φ ms<B:=da
       refine ⟨.want true mu (bL n φ ms),⟨_,_,_,_,bm,J⟩,?_⟩
       have b4:dQ mu 4=0:=a0.a4
       clear J da
       refine ai.bw (hJ _ rfl) 1 (n:=0) _ rfl rfl ?_;simp only[*,go_sem,-b,-a,-hJ]
       refine ai.nil a (b _ _ _ ?_);clear b K
       repeat refine ax (a _) ?_
       refine aZ a fun K b=>?_
       refine ai.bw (hJ _ rfl) 3 (n:=0) _ rfl rfl ?_;simp only[*,go_sem,-b,-a,-hJ]
       refine ai.nil a (b _ _ _ ?_);clear b K
       repeat refine ax (a _) ?_
       refine cB (a _) (by simp only[*,go_sem,-a,-hJ]) ?_
       refine cD (a _) ?_
       repeat refine ax (a _) ?_
       refine aZ a fun K b=>?_
       refine ai.bw (hJ _ rfl) 1 (n:=0) _ rfl rfl ?_;simp only[*,go_sem,-b,-a,-hJ]
       refine ai.nil a (b _ _ _ ?_);clear b K
       repeat refine ax (a _) ?_
       refine aZ a fun K b=>?_
       refine ai.bw (hJ _ rfl) 1 (n:=0) _ rfl rfl ?_;simp only[*,go_sem,-b,-a,-hJ]
       refine ai.nil a (b _ _ _ ?_);clear b K
       change ∃p,p<m/\ua Mu n st c p _ _ _
       exact ⟨8*bL n φ ms+5,by omega,eh,0,mu,ds,true,H,0,1,c0,bL n φ ms,rfl,(by simp only[*,go_sem,-a,-hJ]),(by simp only[*,go_sem,-a,-hJ]),(by simp only[*,go_sem,-a,-hJ]),(by simp only[*,go_sem,-a,-hJ]),(by simp only[*,go_sem,-a,-hJ]),(by simp only[*,go_sem,-a,-hJ]),(by simp only[*,go_sem,-a,-hJ]),(by simp only[*,go_sem,-a,-hJ]),a0,dt,by omega,by omega,fun _=>rfl,fun _=>⟨rfl,rfl⟩,by simp,rfl⟩
      ·obtain ⟨J,rfl,rfl,et⟩:=I4 hm hi {mp:=.ku (decide (2<=H)),gp:=.cnt,stored:=st,deaf:=1} (by rw[he]) rfl rfl
       refine ⟨.ku (decide (2<=H)),⟨_,_,_,_,bm,J⟩,?_⟩
       have b4:dQ mu 4=4:=a0.a4
       have b3:dQ mu 3=0:=a0.a3
       have br:((H:Int)==0)=false:=by simp;omega
       have db:=a0.sh
       obtain ⟨y,g⟩:∃y,decide (2<=H)=y:=⟨_,rfl⟩
       have a6:((H:Int)==1)=false->y=true:=fun e=>by rw[<-g];simp at e ⊢;omega
       rw[g]
       clear J he hi hm a0 dt et g
       refine ai.bw (hJ _ rfl) 1 (n:=0) _ rfl rfl ?_;simp only[*,go_sem,-b,-a,-hJ]
       refine ai.nil a (b _ _ _ ?_);clear b K
       repeat refine ax (a _) ?_
       refine aZ a fun K b=>?_
       refine ai.bw (hJ _ rfl) 3 (n:=0) _ rfl rfl ?_;simp only[*,go_sem,-b,-a,-hJ]
       refine ai.nil a (b _ _ _ ?_);clear b K
       repeat refine ax (a _) ?_
       refine cV (a _) (by simp only[*,go_sem,-a,-hJ]) ?_
       repeat refine ax (a _) ?_
       refine aZ a fun K b=>?_
       refine ai.bw (hJ _ rfl) 5 (n:=3) _ rfl rfl ?_;simp only[*,go_sem,-b,-a,-hJ]
       refine ai.mQ mu (H:Int) (a _) ⟨_,rfl,(by first|(simp only[*,go_sem,-b,-a,-hJ];done)|rfl),rfl,rfl⟩ (by simp only[*,go_sem,-b,-a,-hJ]) (by simp only[*,go_sem,-b,-a,-hJ]) db ?_
       refine ai.bw (hJ _ rfl) 2 (n:=0) _ rfl rfl ?_;simp only[*,go_sem,-b,-a,-hJ]
       refine ai.nil a (b _ _ _ ?_);clear b K
       repeat refine ax (a _) ?_
       refine cB (a _) (by simp only[*,go_sem,-a,-hJ]) ?_
       refine cD (a _) ?_
       repeat refine ax (a _) ?_
       refine aZ a fun K b=>?_
       refine ai.bw (hJ _ rfl) 1 (n:=0) _ rfl rfl ?_;simp only[*,go_sem,-b,-a,-hJ]
       refine ai.nil a (b _ _ _ ?_);clear b K
       repeat refine ax (a _) ?_
       refine tZ a (J5 Mu st c y) ?_ ?_
       ·cases ds
        ·repeat refine ax (a _) ?_
         refine aZ a fun K b=>?_
         refine ai.bw (hJ _ rfl) 7 (n:=0) _ rfl rfl ?_;simp only[*,go_sem,-b,-a,-hJ]
         refine ai.nil a (b _ _ _ ?_);clear b K
         exact ew ⟨true,rfl,(by simp only[*,go_sem,-a,-hJ]),(by simp only[*,go_sem,-a,-hJ]),(by simp only[*,go_sem,-a,-hJ]),(by simp only[*,go_sem,-a,-hJ]),(by simp only[*,go_sem,-a,-hJ]),by simp,rfl⟩
        ·repeat refine ax (a _) ?_
         refine aZ a fun K b=>?_
         refine ai.bw (hJ _ rfl) 4 (n:=3) _ rfl rfl ?_;simp only[*,go_sem,-b,-a,-hJ]
         refine ai.mQ mu (H:Int) (a _) ⟨_,rfl,(by first|(simp only[*,go_sem,-b,-a,-hJ];done)|rfl),rfl,rfl⟩ (by simp only[*,go_sem,-b,-a,-hJ]) (by simp only[*,go_sem,-b,-a,-hJ]) db ?_
         refine ai.bw (hJ _ rfl) 2 (n:=0) _ rfl rfl ?_;simp only[*,go_sem,-b,-a,-hJ]
         refine ai.nil a (b _ _ _ ?_);clear b K
         exact ew ⟨(H:Int)==1,rfl,(by simp only[*,go_sem,-a,-hJ]),(by simp only[*,go_sem,-a,-hJ]),(by simp only[*,go_sem,-a,-hJ]),(by simp only[*,go_sem,-a,-hJ]),(by simp only[*,go_sem,-a,-hJ]),a6,rfl⟩
       clear f k o d hd b4 b3 br db a6
       rintro A c ab ⟨e,rfl,f,fv,fw,d,hd,a6,rfl⟩
       cases e
       ·obtain rfl:=a6 rfl
        clear a6
        repeat refine ax (a _) ?_
        refine cB (a _) (by simp only[*,go_sem,-a,-hJ]) ?_
        refine cD (a _) ?_
        repeat refine ax (a _) ?_
        refine aZ a fun K b=>?_
        refine ai.bw (hJ _ rfl) 4 (n:=1) _ rfl rfl ?_;simp only[*,go_sem,-b,-a,-hJ]
        refine yp (-7) ya aF ⟨_,_,_,rfl,(by first|(simp only[*,go_sem,-b,-a,-hJ];done)|rfl),rfl,by first|(simp only[*,go_sem,-b,-a,-hJ];done)|(simp only[*,go_sem,-b,-a,-hJ];rfl),rfl⟩ (by rfl) (by simp) (fun φ mu ms P al bl b0 b1 he hi hm=>⟨.held,_,?_,⟨_,_,_,_,_,CE hm hi {mp:=.held,gp:=.cnt,stored:=st,deaf:=1} false (by rw[he]) rfl (fun _=>rfl)⟩,?_⟩)
        ·have e0:=hm.st.eq
         have a9:P<=3*n:=hm.bound
         have ev:=hm.st.s
         have eQ:=hm.st.w
         have eS:=hm.st.l
         rw[iA (by omega) (by omega)]
         simp;omega
        refine ai.nil a (b _ _ _ ?_);clear b K
        refine oG ?_
        change uf Mu st c _ _ _
        exact ⟨rfl,(by simp only[*,go_sem,-a,-hJ]),(by simp only[*,go_sem,-a,-hJ]),(by simp only[*,go_sem,-a,-hJ]),rfl⟩
       ·clear a6
        repeat refine ax (a _) ?_
        refine cV (a _) (by simp only[*,go_sem,-a,-hJ]) ?_
        repeat refine ax (a _) ?_
        refine aZ a fun K b=>?_
        refine ai.bw (hJ _ rfl) 3 (n:=0) _ rfl rfl ?_;simp only[*,go_sem,-b,-a,-hJ]
        refine ai.nil a (b _ _ _ ?_);clear b K
        repeat refine ax (a _) ?_
        refine aZ a fun K b=>?_
        refine ai.bw (hJ _ rfl) 4 (n:=1) _ rfl rfl ?_;simp only[*,go_sem,-b,-a,-hJ]
        refine yp (-11) ya aF ⟨_,_,_,rfl,(by first|(simp only[*,go_sem,-b,-a,-hJ];done)|rfl),rfl,by first|(simp only[*,go_sem,-b,-a,-hJ];done)|(simp only[*,go_sem,-b,-a,-hJ];rfl),rfl⟩ (by rfl) (by simp) (fun φ mu ms P al bl b0 b1 he hi hm=>⟨.held,_,?_,⟨_,_,_,_,_,CE hm hi {mp:=.held,gp:=.cnt,stored:=st,deaf:=1} true (by rw[he]) rfl (by simp)⟩,?_⟩)
        ·have e0:=hm.st.eq
         have a9:P<=3*n:=hm.bound
         have ev:=hm.st.s
         have eQ:=hm.st.w
         have eS:=hm.st.l
         rw[iA (by omega) (by omega)]
         simp;omega
        refine ai.nil a (b _ _ _ ?_);clear b K
        refine oG ?_
        change uf Mu st c _ _ _
        exact ⟨rfl,(by simp only[*,go_sem,-a,-hJ]),(by simp only[*,go_sem,-a,-hJ]),(by simp only[*,go_sem,-a,-hJ]),rfl⟩
    ·obtain ⟨J,a8,bj⟩:=tG hm hi {mp:=.want aw mu (bL n φ ms),gp:=.cnt,stored:=st,deaf:=1} (by rw[he]) rfl
     have da:bL n φ ms<G:=bj df
     refine ⟨.want aw mu (bL n φ ms),⟨_,_,_,_,p,J⟩,?_⟩
     clear j r x E N u T U J a8 bj he hi hm X cS a7 bd
     refine ai.nil a (b _ _ _ ?_);clear b K
     repeat refine ax (a _) ?_
     refine cB (a _) (by simp only[*,go_sem,-a,-hJ]) ?_
     repeat refine ax (a _) ?_
     refine aZ a fun K b=>?_
     refine ai.bw (hJ _ rfl) 3 (n:=2) _ rfl rfl ?_;simp only[*,go_sem,-b,-a,-hJ]
     refine oK tS oI ⟨_,rfl,(by first|(simp only[*,go_sem,-b,-a,-hJ];done)|rfl),rfl,rfl⟩ (by rfl) (by simp only[*,go_sem,-b,-a,-hJ]) (fun bb dd bc H ba cy c0 bm du dv bo=>?_)
     obtain ⟨ca,dC,_⟩:=tG bo dv {mp:=.want aw dd (bL n bb bc),gp:=.cnt,stored:=st,deaf:=1} (by rw[du]) rfl
     have fx:bL n bb bc<=bL n φ ms:=dC
     have a9:H<=3*n:=bo.bound
     have ad:=wd bo.st (by omega)
     have cb:aw=true->ba=0/\cy=1:=fun e=>by subst e;exact CD bo dv (by rw[du])
     refine ⟨.want aw dd (bL n bb bc),⟨_,_,_,_,bm,ca⟩,?_⟩
     clear ca dC
     refine ai.bw (hJ _ rfl) 1 (n:=0) _ rfl rfl ?_;simp only[*,go_sem,-b,-a,-hJ]
     refine ai.nil a (b _ _ _ ?_);clear b K
     change ∃p,p<m/\ua Mu n st c p _ _ _
     exact ⟨8*bL n bb bc+(5 - it).toNat,by omega,wt,it,dd,sv,aw,H,ba,cy,c0,bL n bb bc,rfl,(by simp only[*,go_sem,-a,-hJ]),(by simp only[*,go_sem,-a,-hJ]),(by simp only[*,go_sem,-a,-hJ]),(by simp only[*,go_sem,-a,-hJ]),(by simp only[*,go_sem,-a,-hJ]),(by simp only[*,go_sem,-a,-hJ]),(by simp only[*,go_sem,-a,-hJ]),(by simp only[*,go_sem,-a,-hJ]),ad,a9,by omega,by omega,V,cb,Nat.le_refl _,rfl⟩
 ·rintro A F' aL ⟨rfl,f,d,hd,rfl⟩
  repeat refine ax (a _) ?_
  refine cV (a _) (by simp only[*,go_sem,-a,-hJ]) ?_
  repeat refine ax (a _) ?_
  refine aZ a fun K b=>?_
  refine tU lC ⟨_,_,_,rfl,(by first|(simp only[*,go_sem,-b,-a,-hJ];done)|rfl),rfl,by first|(simp only[*,go_sem,-b,-a,-hJ];done)|(simp only[*,go_sem,-b,-a,-hJ];rfl),rfl⟩ (by simp) (by simp) rfl ?_
  refine ai.nil a (b _ _ _ ?_);clear b K
  repeat refine ax (a _) ?_
  refine aZ a fun K b=>?_
  refine ai.bw (hJ _ rfl) 1 (n:=2) _ rfl rfl ?_;simp only[*,go_sem,-b,-a,-hJ]
  refine tX ⟨Mu,0,none⟩ yc lD ye ⟨_,rfl,(by first|(simp only[*,go_sem,-b,-a,-hJ];done)|rfl),rfl,rfl⟩ (by simp) (by simp only[*,go_sem,-b,-a,-hJ]) yq ?_
  refine Dg tQ ⟨_,_,_,rfl,(by first|(simp only[*,go_sem,-b,-a,-hJ];done)|rfl),rfl,by first|(simp only[*,go_sem,-b,-a,-hJ];done)|(simp only[*,go_sem,-b,-a,-hJ];rfl),rfl⟩ (by rfl) ?_
  refine ai.nil a (b _ _ _ ?_);clear b K
  exact lA rfl (by simp only[*,go_sem,-a,-hJ]) ⟨rfl,rfl,rfl⟩
end
end Go.Proofs.YtpgcmoanfifglaaGreatDoor
end
section
namespace Go.Proofs.YtpgcmoanfifglaaGreatDoor
open Go Go.Sep Go.Proofs Go.Conc
open Go.ConcN (upd upd_same)
open Go.ConcM (muA msA)
open Go.ConcR (stA smA)
set_option maxRecDepth 100000
set_option maxHeartbeats 4000000
attribute [local go_sem] Int.reduceBEq Int.reduceBNe muA msA stA smA
section
variable {Mu Wg Is n base T0 i : Nat} {bs : Nat → Bool} {st : Bool} {F : aa}
theorem J7 (aF:Mu≠Wg/\Mu≠Is/\Wg≠Is)(b:n<67108864):
  cC Tryz.prog (WJ (CY Mu Wg Is n bs base T0) i) 137 #[.pointer (some (muA Mu))] F ⟨.idle,.cnt,st,0⟩ (fun v F' aL=>v= .tuple #[]/\F'=F/\aL=⟨.held,.cnt,st,0⟩):=by
 have a:=WJ.eo (CY Mu Wg Is n bs base T0) i
 have hJ:∀ph:Ph,ph.gp= .cnt->Go.Sep.Closed Tryz.prog false (WJ (CY Mu Wg Is n bs base T0) i ph):=fun ph h=>Wk.closed (CY Mu Wg Is n bs base T0) i ph h
 refine cC.go (main:=false) a Tryz.func137 rfl Tryz.ntmps137 (by simp) fun A d hd hs=>?_
 have e:=hs 0
 clear hs
 repeat refine ax (a _) ?_
 refine cW a ?_
 refine ai.bw (hJ _ rfl) 3 (n:=1) _ rfl rfl ?_;simp only[*,go_sem]
 refine ai.fX (a _) rfl rfl rfl E7 (by simp only[*,go_sem,muA]) (JZ aF (J6 aF b)) fun v F' aL c=>?_
 obtain ⟨rfl,rfl,rfl⟩:=c
 refine ai.nil a ?_
 exact lA rfl (by simp only[*,go_sem]) ⟨rfl,rfl,rfl⟩
theorem J8 (aF:Mu≠Wg/\Mu≠Is/\Wg≠Is)(b:n<67108864):
  cC Tryz.prog (WJ (CY Mu Wg Is n bs base T0) i) 138 #[.pointer (some (muA Mu))] F ⟨.held,.cnt,st,0⟩ (fun v F' aL=>v= .tuple #[]/\F'=F/\aL=⟨.fin,.cnt,st,0⟩):=by
 have a:=WJ.eo (CY Mu Wg Is n bs base T0) i
 have hJ:∀ph:Ph,ph.gp= .cnt->Go.Sep.Closed Tryz.prog false (WJ (CY Mu Wg Is n bs base T0) i ph):=fun ph h=>Wk.closed (CY Mu Wg Is n bs base T0) i ph h
 refine cC.go (main:=false) a Tryz.func138 rfl Tryz.ntmps138 (by simp) fun A d hd hs=>?_
 have e:=hs 0
 clear hs
 repeat refine ax (a _) ?_
 refine cW a ?_
 refine ai.bw (hJ _ rfl) 3 (n:=1) _ rfl rfl ?_;simp only[*,go_sem]
 refine ai.fX (a _) rfl rfl rfl E8 (by simp only[*,go_sem,muA]) (J2 aF b) fun v F' aL c=>?_
 obtain ⟨rfl,rfl,rfl⟩:=c
 refine ai.nil a ?_
 exact lA rfl (by simp only[*,go_sem]) ⟨rfl,rfl,rfl⟩
end
end Go.Proofs.YtpgcmoanfifglaaGreatDoor
end
section
namespace Go.Sep
open Go Go.Conc
def ug (op:BinOp)(u v:Value):Option Value:=match op with
 | .shl=>match u,v with
  | .int k a,.int _ b=>if b<0 then none else some (.int k (k.wrap (a*2 ^ min b.toNat k.bits)))
  |_,_=>none
 | .shr=>match u,v with
  | .int k a,.int _ b=>if b<0 then none else some (.int k (a.fdiv (2 ^ min b.toNat k.bits)))
  |_,_=>none
 |_=>mY op u v
def oL (P:Program)(op:Op)(a:Act):Option Value:=match op with
 | .move x| .assign x=>some (ev a x)
 | .nilCheck x=>match ev a x with
  | .pointer (some ad)=>some (.pointer (some ad))
  |_=>none
 | .pick c x y=>match ev a c with
  | .bool b=>some (if b then ev a x else ev a y)
  |_=>none
 | .binOp op t x y _=>ug op (ev a x) (ev a y)
 | .unOp op _ x=>lO op (ev a x)
 | .convert src dst x=>lQ P src dst (ev a x)
 | .fieldAddr s x n=>match ev a x with
  | .pointer (some ad)=>match cL P s n with
   |some k=>some (.pointer (some (ad.add k)))
   |none=>none
  |_=>none
 |_=>none
theorem J9 {P:Program}{op:BinOp}{t:TypeId}{x y:Operand}{u v r:Value}(h:ug op u v=some r)(w:World):
  (do eqGuard op t x y u v;pure (.value (<-binOp op t u v)):Sem Next).run P w= .ok (.value r) w/\(do eqGuard op t x y u v;pure (.value (<-binOp op t u v)):Sem Next).events P w #[]=#[]:=by
 unfold ug at h
 split at h
 ·split at h
  case h_2=>cases h
  split at h
  ·cases h
  ·rename_i hb;cases h;simp[eqGuard,binOp,Op.shift,hb]
 ·split at h
  case h_2=>cases h
  split at h
  ·cases h
  ·rename_i hb;cases h;simp[eqGuard,binOp,Op.shift,hb]
 ·rename_i n1 n2
  unfold mY at h
  split at h
  case h_2=>cases h
  rename_i k a d b
  split at h
  case isFalse=>cases h
  rename_i c
  subst c
  cases op<;>simp only[binOp,ne_eq,not_true_eq_false,if_false,Op.intArith,Op.intDiv,Op.intCmp,Op.intBits,Op.shift,eqGuard] at h ⊢<;>first
   |(cases h;done)
   |(exact absurd rfl n1)
   |(exact absurd rfl n2)
   |(cases h;simp;done)
   |(split at h
     ·cases h
     ·rename_i hb;cases h;simp[hb])
theorem Dl {P:Program}{o:Oper}{a:Act}{v:Value}(h:oL P o.op a=some v)(w:World):(execOp a.eval o).run P w= .ok (.value v) w/\(execOp a.eval o).events P w #[]=#[]:=by
 obtain ⟨dst,op,type,pos,after,guard⟩:=o;unfold execOp;simp only[ey] at h ⊢;unfold oL at h;cases op<;>simp only[reduceCtorEq] at h ⊢
 case move x=>cases h;simp
 case assign x=>cases h;simp
 case nilCheck x=>
  split at h
  ·rename_i ad e;cases h;simp[e]
  ·cases h
 case pick c x y=>
  split at h
  ·rename_i b hb;cases h;simp[hb,asBool]
  ·cases h
 case binOp op t x y r=>have:=J9 (P:=P) (t:=t) (x:=x) (y:=y) h w;simpa using this
 case unOp op t x=>
  revert h;cases ev a x<;>cases op<;>simp only[lO,reduceCtorEq,false_implies,Option.some.injEq]<;>intro h<;>subst h<;>simp[Op.unary,Op.intArith]
 case convert src dst x=>
  revert h;cases e:ev a x<;>simp only[lQ,reduceCtorEq,false_implies];intro h;split at h
  ·rename_i k1 A i j;cases h;simp[convert,run_underlying i,run_underlying j,Conv.intToInt]
  ·cases h
 case fieldAddr s x n=>
  split at h
  case h_2=>cases h
  rename_i ad l;split at h
  case h_2=>cases h
  rename_i k d;cases h;unfold cL at d;split at d
  case h_2=>cases d
  rename_i B g;split at d
  case h_2=>cases d
  rename_i f p;split at d
  case h_2=>cases d
  rename_i m hm;cases d;obtain ⟨inf,q,u⟩:=Option.map_eq_some_iff.1 hm;have z:Instr.sureAddr (.pointer (some ad))=(Pure.pure ad:Sem Addr):=rfl;simp[Instr.fieldAt,run_underlying g,g,p,l,z,fieldPlace,Go.sizeOf,typeInfo,q,u,Result.andThen,Result.evThen]
def iE (P:Program)(ops:Array Oper)(K:Act->Prop):List Oper->Act->Prop
 |[],a=>K a
 |o::rest,a=>match cz ops o a with
  |some true=>match oL P o.op a with
   |some v=>iE P ops K rest (bg a o.dst v)
   |none=>False
  |some false=>iE P ops K rest (bg a o.dst undef)
  |none=>False
theorem Ka {P:Program}{ops:Array Oper}{K:Act->Prop}{a:Act}:iE P ops K [] a=K a:=(Eq.refl _).trans (Eq.refl _)
theorem Kb {P:Program}{ops:Array Oper}{K:Act->Prop}{o:Oper}{rest:List Oper}{a:Act}:iE P ops K (o::rest) a=match cz ops o a with
  |some true=>match oL P o.op a with
   |some v=>iE P ops K rest (bg a o.dst v)
   |none=>False
  |some false=>iE P ops K rest (bg a o.dst undef)
  |none=>False:=(Eq.refl _).trans (Eq.refl _)
attribute [go_sem] Ka Kb oL ug
section
variable {P : Program} {main : Bool} {S : Type} {JF : S → Goroutine → aa → Prop} {fi : FuncId} {ops : Array Oper} {F : aa} {ph : S} {Q : Act → aa → S → Prop}
theorem yt (d:dR P main (JF ph)):∀(l:List Oper) (i n:Nat) (a:Act),(∀j o,l[j]?=some o->ops[i+j]?=some o)->iE P ops (fun b=>ai JF fi ops (i+l.length) n Q b F ph) l a->ai JF fi ops i (l.length+n) Q a F ph
 |[],i,n,a,_,h=>by rw[List.length_nil,Nat.zero_add];exact h
 |o::rest,i,n,a,k,h=>by
  have m:ops[i]?=some o:=k 0 o rfl
  have p:∀j x,rest[j]?=some x->ops[i+1+j]?=some x:=fun j x q=>by rw[Nat.add_assoc,Nat.add_comm 1 j];exact k (j+1) x q
  have e:(o::rest).length+n=(rest.length+n)+1:=by rw[List.length_cons];omega
  have e2:∀b,ai JF fi ops (i+(o::rest).length) n Q b F ph->ai JF fi ops (i+1+rest.length) n Q b F ph:=fun b x=>by
   rw[show i+1+rest.length=i+(o::rest).length by rw[List.length_cons];omega];exact x
  rw[e]
  have mono:∀(l:List Oper) (a:Act) {K f:Act->Prop},(∀a,K a->f a)->iE P ops K l a->iE P ops f l a:=by
   intro l
   induction l with
   |nil=>intro a K f g h;exact g a h
   |cons o l ih=>
    intro a K f g h
    unfold iE at h ⊢
    cases hg:cz ops o a with
    |none=>rw[hg] at h;exact h.elim
    |some t=>
     rw[hg] at h
     cases t with
     |false=>exact ih _ g h
     |true=>
      simp only at h ⊢
      cases c:oL P o.op a with
      |none=>rw[c] at h;exact h.elim
      |some v=>rw[c] at h;exact ih _ g h
  unfold iE at h
  split at h
  ·rename_i hg
   split at h
   ·rename_i v c
    exact ai.plain d v m hg (fun w=>(Dl c w).1) (fun w=>(Dl c w).2) (yt d rest (i+1) n _ p (mono _ _ e2 h))
   ·exact h.elim
  ·rename_i hg
   exact ai.skip d m hg (yt d rest (i+1) n _ p (mono _ _ e2 h))
  ·exact h.elim
theorem ai.pure (d:dR P main (JF ph))(m:Nat){i n:Nat}{a:Act}(l:List Oper)(c:(ops.toList.drop i).take m=l)(hm:l.length=m)(h:iE P ops (fun e=>ai JF fi ops (i+m) n Q e F ph) l a):ai JF fi ops i (m+n) Q a F ph:=by
 subst hm;refine yt d l i n a (fun j o b=>?_) h;rw[<-c] at b;have f:j<l.length:=by
  rcases Nat.lt_or_ge j l.length with x|x
  ·exact x
  ·rw[c,List.getElem?_eq_none x] at b;cases b
 rw[List.getElem?_take,if_pos f,List.getElem?_drop] at b;simpa using b
end
end Go.Sep
end
section
namespace Go.Sep
open Go Go.Conc
open Go.ConcN (sumTo upd upd_ne upd_same)
open Go.ConcM (MuAt muA msA muBlock OsLater)
open Go.ConcR (WgAt wgBlock stA smA)
section
variable {c : Cy} {i : Nat} {ph : Ph} {ops : Array Oper} {j n : Nat} {Q : Act → aa → Ph → Prop} {a : Act} {F : aa} {f fi : FuncId} {d : Option Tmp}
theorem Inv.group {k:Nat}{φ:Nat->Ph}{p0:P0}{s:Sh}(h:Inv c.n c.bs k φ p0 s)(hi:i<c.n)(he:φ i=ph)(a:ph.gp≠ .new)(b:ph.gp≠ .cnt){gp:Gp}(d:gp≠ .new){wg ws:Int}
  (hw:dA c.n (upd φ i {ph with gp:=gp}) p0 wg ws):Inv c.n c.bs k (upd φ i {ph with gp:=gp}) p0 {s with wg:=wg,ws:=ws}:=by
 obtain ⟨C,S,W,L,m,hm⟩:=h.m
 refine h.jH hi he a d ⟨C,S,W,L,m,mM hm hi _ (.inl (by rw[he]))⟩ hw ?_ (fun _=>?_)
 ·have:=h.i.all i hi
  rw[he] at this
  exact (ym this).symm
 ·have:=h.i.done i hi (by rw[he];exact b) (by rw[he];exact a)
  rw[he] at this
  exact this
theorem Kc (m:Entry c.P f (Extern.Atomic.update (Op.intArith .add) .u64 true))(aF:c.Mu≠c.Wg/\c.Mu≠c.Is/\c.Wg≠c.Is)(H:c.n<67108864)(p:At ops j a f [.pointer (some (stA c.Wg)),.int .u64 18446744069414584320] d)
  (e:ph.gp= .rel) (q:0<ph.deaf)
  (h:∀v t:Nat,v<=c.n->t<=1->ai (WJ c i) fi ops (j+1) n Q (bg a d (.int .u64 ((v:Int)*4294967296+t))) F {ph with gp:=if v=0/\t=1 then .ld else .gone}):
  ai (WJ c i) fi ops j (n+1) Q a F ph:=by
 obtain ⟨o,cw,de,l,hg,r,u,rfl⟩:=p
 obtain ⟨x,y,rfl,z,A⟩:=qT u
 obtain ⟨fn,f1,f2,f3,f4,f5⟩:=m.ex
 refine fq l (by rw[e];simp) fun w s k φ p0 _ hs hi he g=>.inr ?_
 obtain ⟨v,t,e1,ht,B,_⟩:=CH g.w hi ph (by rw[he];exact e)
 obtain ⟨C,D,E,I,_,hw⟩:=CH g.w hi {ph with gp:=if v=0/\t=1 then .ld else .gone} (by rw[he];exact e)
 obtain ⟨rfl,rfl⟩:v=C/\t=D:=by simp only[cT] at e1 E;omega
 have e2:IntKind.u64.wrap (s.wg+18446744069414584320)=(v:Int)*4294967296+t:=by
  rw[e1]
  unfold IntKind.wrap
  simp only[IntKind.bits,IntKind.signed,cT]
  simp
  omega
 have G:s.wg - cT=(v:Int)*4294967296+t:=by rw[e1];simp only[cT];omega
 refine ⟨.int .u64 ((v:Int)*4294967296+t),_,_,{s with wg:=(v:Int)*4294967296+t},{ph with gp:=if v=0/\t=1 then .ld else .gone},fun b J cs hb=>by rw[<-e2];exact stepG_add_atomic l (cg hg) hb.kind r f1 f2 f3 f4 .u64 f5 z A hs.wg.1 hs.wg.2,by rw[<-e2];exact hs.tT aF _,.set _ (.inr (.inl rfl)),?_,yj rfl ?_ q (.inl rfl),.inr dF,h v t B ht⟩
 ·refine g.group hi he (by rw[e];simp) (by rw[e];simp) (by split<;>simp) ?_
  rw[<-G]
  exact hw rfl
 ·simp only[e];split<;>simp
theorem Ke (m:Entry c.P f (Extern.Atomic.loadT (.int .u64)))(p:At ops j a f [.pointer (some (stA c.Wg))] d)(e:ph.gp= .ld)(q:0<ph.deaf)
  (h:ai (WJ c i) fi ops (j+1) n Q (bg a d (.int .u64 1)) F {ph with gp:=.st}):ai (WJ c i) fi ops j (n+1) Q a F ph:=by
 obtain ⟨o,cw,de,g,hg,r,t,rfl⟩:=p
 obtain ⟨x,rfl,u⟩:=jK t
 obtain ⟨fn,f1,f2,f3,f4,f5⟩:=m.ex
 refine fq g (by rw[e];simp) fun w s k φ p0 _ hs hi he l=>.inr ?_
 obtain ⟨e1,hw⟩:=Ja l.w hi {ph with gp:=.st} (by rw[he];exact e) rfl
 exact ⟨.int .u64 1,_,_,s,{ph with gp:=.st},fun b v cs hb=>by rw[<-e1];exact stepG_load_atomic g (cg hg) hb.kind r f1 f2 f3 f4 .u64 f5 u hs.wg.1,hs,.refl _ _,l.group hi he (by rw[e];simp) (by rw[e];simp) (by simp) hw,yh false rfl (by simp[e]) q (.inl rfl),.inr dF,h⟩
theorem Kf (m:Entry c.P f Extern.Atomic.storeT)(aF:c.Mu≠c.Wg/\c.Mu≠c.Is/\c.Wg≠c.Is)(p:At ops j a f [.pointer (some (stA c.Wg)),.int .u64 0] d)(e:ph.gp= .st)(q:0<ph.deaf)
  (h:ai (WJ c i) fi ops (j+1) n Q (bg a d (.tuple #[])) F {ph with gp:=.sm}):ai (WJ c i) fi ops j (n+1) Q a F ph:=by
 obtain ⟨o,cw,de,g,hg,r,t,rfl⟩:=p
 obtain ⟨x,y,rfl,u,v⟩:=qT t
 obtain ⟨fn,f1,f2,f3,f4,f5⟩:=m.ex
 refine fq g (by rw[e];simp) fun w s k φ p0 _ hs hi he l=>.inr ?_
 obtain ⟨e1,hw⟩:=Jb l.w hi {ph with gp:=.sm} (by rw[he];exact e) rfl
 exact ⟨.tuple #[],_,_,{s with wg:=0},{ph with gp:=.sm},fun b z cs hb=>stepG_store_atomic g (cg hg) hb.kind r f1 f2 f3 f4 f5 u v hs.wg.1 hs.wg.2,hs.tT aF _,.set _ (.inr (.inl rfl)),l.group hi he (by rw[e];simp) (by rw[e];simp) (by simp) hw,yh true rfl (by simp[e]) q (.inl rfl),.inr dF,h⟩
theorem Kg (r t:Value)(l:Entry c.P f Extern.Sync.semrelease)(aF:c.Mu≠c.Wg/\c.Mu≠c.Is/\c.Wg≠c.Is)(u:At ops j a f [.pointer (some (smA c.Wg)),r,t] d)(e:ph.gp= .sm)
  (h:ai (WJ c i) fi ops (j+1) n Q (bg a d (.tuple #[])) F {ph with gp:=.gone}):ai (WJ c i) fi ops j (n+1) Q a F ph:=by
 obtain ⟨o,cw,de,m,hg,p,v,rfl⟩:=u
 obtain ⟨x,y,z,rfl,g,_,_⟩:=qU v
 obtain ⟨fn,f1,f2,f3,f4,f5⟩:=l.ex
 refine fq m (by rw[e];simp) fun w s k φ p0 _ hs hi he q=>.inr ?_
 obtain ⟨e1,hw⟩:=Jc q.w hi {ph with gp:=.gone} (by rw[he];exact e) rfl
 have A:IntKind.u32.wrap (s.ws+1)=s.ws+1:=by rw[e1];decide
 refine ⟨.tuple #[],_,_,{s with ws:=s.ws+1},{ph with gp:=.gone},fun b B cs hb=>stepG_semrelease m (cg hg) hb.kind p f1 f2 f3 f4 f5 (by simp[ey,g]) hs.ws.1 hs.ws.2,by rw[A];exact hs.De aF _,.set _ (.inr (.inl rfl)),
  q.group hi he (by rw[e];simp) (by rw[e];simp) (by simp) hw,yl rfl (by simp[e]) (.inl rfl),.inl ⟨_,p,fun x g=>?_⟩,h⟩
 cases g
 exact ⟨f,rfl,l.C3⟩
end
end Go.Sep
end
section
namespace Go.Sep
open Go Go.Conc
open Go.ConcN (sumTo upd upd_ne upd_same)
theorem ai.defer {P:Program}{main:Bool}{S:Type}{JF:S->Goroutine->aa->Prop}{fi f:FuncId}{ops:Array Oper}{j n:Nat}{Q:Act->aa->S->Prop}{a:Act}{F:aa}{ph:S}(e:dR P main (JF ph)){o:Oper}{cw:Array Operand}{de:Array TypeId}{vals:Array Value}
  (g:ops[j]?=some o) (hg:cz ops o a=some true) (k:o.op= .defer {callee:=.value (.func f),args:=cw,argTypes:=de}) (hd:o.dst=none) (l:cw.map a.eval=vals)
  (h:∀c:Act,(∀i,slot c i=slot a i)->sz c=sz a->c.defers=dcall f vals::a.defers->ai JF fi ops (j+1) n Q c F ph):ai JF fi ops j (n+1) Q a F ph:=fun b d cs hb m=>by
 rw[List.range'_succ,eB hb.round]
 refine e.move (fr':=b.at (Act.put ⟨a.tmps,dcall f (cw.map a.eval)::a.defers⟩ o.dst undef) (.inRegion ops (List.range' (j+1) n)::d)) (fun w=>stepG_defer g (cg hg) hb.kind k) ?_
 rw[<-eB hb.round,hd,l]
 exact h ⟨a.tmps,dcall f vals::a.defers⟩ (fun _=>rfl) rfl rfl b d cs hb m
section
variable {c : Cy} {i : Nat} {ph : Ph} {F : aa} {f : FuncId}
theorem Kh (g:Entry c.P f (fun _=>do mark .enable;pure Extern.Race.none_))(hg:ph.gp= .gone){d:Nat}(hd:ph.deaf=d+1){b:Frame}{a:Act}{todo:List Item}{cs:List Frame}{e:List Deferred}(j:a.defers=dcall f #[]::e)
  (h:WJ c i {ph with deaf:=d} (G {b.at ⟨a.tmps,e⟩ todo with mode:=.returning} cs) F):WJ c i ph (G {b.at a todo with mode:=.returning} cs) F:=by
 obtain ⟨F0,r,hle,hW⟩:=h
 obtain ⟨q,_,k⟩:=hW.left hg
 obtain ⟨fn,f1,f2,f3,f4,f5⟩:=g.ex
 refine Wk.gone (q:=q+1) hg (QuitsD.unwind_mark .enable rfl (by simp) j f1 f2 f3 f4 f5 ?_)
 rw[hd]
 exact k
def kC (f:FuncId)(R:Value->aa->Ph->Prop):Ex->Act->aa->Ph->Prop
 | .exit _,_,_,_=>False
 |_,a,F,ph=>a.defers=[dcall f #[]]/\ph.gp= .gone/\∃b,ph.deaf=b+1/\R (.tuple #[]) F {ph with deaf:=b}
theorem cC.Ki {f0:FuncId}(p:Entry c.P f (fun _=>do mark .enable;pure Extern.Race.none_)){fn:Func}{cd:Code}{n:Nat}{args:Array Value}{R:Value->aa->Ph->Prop}(l:c.P.funcs[f0]?=some fn)(hb:fn.body=some cd)(m:fn.results=#[])(o:fn.ntmps=n)(v:args.size<=n)
  (h:∀A:Act,sz A=n->A.defers=[]->(∀i,slot A i=args.getD i undef)->cK (WJ c i) f0 cd (kC f R) A F ph):cC c.P (WJ c i) f0 args F ph R:=by
 intro d cs q
 let b:Frame:={(default:Frame) with fn:=f0,kind:=.normal}
 have r:b.roundOf=none:=rfl
 have s:Frame.enter c.P f0 args .normal=on b {tmps:=args++Array.replicate (fn.ntmps - args.size) undef,defers:=[]} [.code cd]:=by
  simp[Frame.enter,on,l,hb,b]
  rfl
 rw[s]
 have g:=WJ.eo c i
 have leave:∀(a:Act) (todo:List Item) F' (aL:Ph),(a.defers=[dcall f #[]]/\aL.gp= .gone/\∃j,aL.deaf=j+1/\R (.tuple #[]) F' {aL with deaf:=j})->WJ c i aL (G {on b a todo with mode:=.returning} (d::cs)) F':=by
  intro a todo F' aL ⟨hd,hg,j,t,u⟩
  rw[eB r]
  refine Kh p hg t hd ((g _).move (fr':=d.finish (.tuple #[])) (cs':=cs) (fun w=>?_) (q _ F' _ u))
  exact stepG_leave rfl rfl l (results_none m _ c.P w) (events_results_none m _ _)
 refine h _ (by simp[sz,o];omega) rfl (fun i=>?_) b [] (d::cs) ⟨by simp[b],rfl,rfl⟩ fun e a F' aL k=>?_
 ·simp only[slot,o,Array.getD_eq_getD_getElem?]
  rcases Nat.lt_or_ge i args.size with hi|hi
  ·rw[Array.getElem?_append_left hi]
  ·rw[Array.getElem?_append_right hi,Array.getElem?_replicate,Array.getElem?_eq_none hi]
   split<;>rfl
 ·cases e with
  |normal=>exact (g aL).move (fun _=>lI rfl) (leave a _ F' aL k)
  |exit i=>exact k.elim
  |ret=>exact fun x=>(g aL).move (fun _=>stepG_ret' rfl) (leave a _ F' aL k)
def yu (R:aa->Ph->Prop):Ex->Act->aa->Ph->Prop
 | .exit _,_,_,_=>False
 |_,a,F,ph=>a.defers=[]/\R F ph
theorem Kj {f0:FuncId}{fn:Func}{cd:Code}{n:Nat}{args:Array Value}{R:aa->Ph->Prop}(k:c.P.funcs[f0]?=some fn)(p:(fn.name== "runtime.NumGoroutine")=false)(hb:fn.body=some cd)(l:fn.results=#[])(m:fn.ntmps=n)(t:args.size<=n)
  {b:Frame} {a:Act} {todo:List Item} {cs:List Frame} {f:List Deferred} (q:a.defers=dcall f0 args::f)
  (h:∀A:Act,sz A=n->A.defers=[]->(∀i,slot A i=args.getD i undef)->cK (WJ c i) f0 cd (yu R) A F ph)
  (r:∀F' aL,R F' aL->WJ c i aL (G {b.at ⟨a.tmps,f⟩ todo with mode:=.returning} cs) F'):WJ c i ph (G {b.at a todo with mode:=.returning} cs) F:=by
 have g:=WJ.eo c i
 refine (g ph).move (fun w=>stepG_unwind_enter q k p hb) ?_
 have leave:∀(d:Act) (o:List Item) F' (aL:Ph),(d.defers=[]/\R F' aL)->WJ c i aL (G {(baseD f0).at d o with mode:=.returning} ({b.at ⟨a.tmps,f⟩ todo with mode:=.returning}::cs)) F':=by
  intro d o F' aL ⟨hd,s⟩
  exact (g _).move (fun w=>stepG_leave_deferred rfl hd k (results_none l _ c.P w) (events_results_none l _ _) rfl) (r F' aL s)
 have:=h {tmps:=args++Array.replicate (fn.ntmps - args.size) undef,defers:=[]} (by simp[sz,m];omega) rfl (fun i=>?_) (baseD f0) [] ({b.at ⟨a.tmps,f⟩ todo with mode:=.returning}::cs) ⟨by simp[baseD],rfl,rfl⟩ fun e d F' aL j=>?_
 ·rw[eB rfl] at this;exact this
 ·simp only[slot,m,Array.getD_eq_getD_getElem?]
  rcases Nat.lt_or_ge i args.size with hi|hi
  ·rw[Array.getElem?_append_left hi]
  ·rw[Array.getElem?_append_right hi,Array.getElem?_replicate,Array.getElem?_eq_none hi]
   split<;>rfl
 ·cases e with
  |normal=>exact (g aL).move (fun _=>lI rfl) (leave d _ F' aL j)
  |exit i=>exact j.elim
  |ret=>exact fun u=>(g aL).move (fun _=>stepG_ret' rfl) (leave d _ F' aL j)
end
attribute [go_sem] kC yu
end Go.Sep
end
section
namespace Go.Sep
open Go
def kD (x y:Int):Int:=IntKind.u64.wrap ((BitVec.ofInt 64 x&&& BitVec.ofInt 64 y).toNat:Int)
@[go_sem] theorem RE (x y:Int):IntKind.u64.wrap ((@HAnd.hAnd (BitVec 64) (BitVec 64) (BitVec 64) (@instHAndOfAndOp (BitVec IntKind.u64.bits) (@BitVec.instAndOp IntKind.u64.bits)) (BitVec.ofInt 64 x) (BitVec.ofInt 64 y)).toNat:Int)=kD x y:=rfl
theorem yw (v t:Nat)(a:v<2147483648)(ht:t<=1):kD ((v:Int)*4294967296+(t:Int)) 2147483648=0:=Go.ConcN.st_flag v t a ht
theorem yx (v t:Nat)(a:v<2147483648)(ht:t<=1):kD ((v:Int)*4294967296+(t:Int)) 2147483647=(t:Int):=Go.ConcN.st_waiters v t a ht
theorem yy (v t:Nat)(ht:t<=1):((v:Int)*4294967296+(t:Int)).fdiv 4294967296=v:=by
 rw[Int.fdiv_eq_ediv_of_nonneg _ (by decide)];omega
end Go.Sep
namespace Go.Proofs.YtpgcmoanfifglaaGreatDoor
open Go Go.Sep Go.Proofs Go.Conc
open Go.ConcN (upd upd_same)
open Go.ConcM (muA msA)
open Go.ConcR (stA smA)
set_option maxRecDepth 100000
set_option maxHeartbeats 4000000
set_option linter.all false
attribute [local go_sem] Int.reduceBEq Int.reduceBNe muA msA stA smA
section
variable {Mu Wg Is n base T0 i : Nat} {bs : Nat → Bool} {st : Bool} {F : aa}
theorem Kk (w:World)(s:Sh)(h:cv (CY Mu Wg Is n bs base T0) w s):∃v,w.cell? ⟨Wg,0,none⟩=some v:=⟨_,h.wg.1⟩
theorem Kl (aF:Mu≠Wg/\Mu≠Is/\Wg≠Is)(b:n<67108864){mp:Mp}:
  cC Tryz.prog (WJ (CY Mu Wg Is n bs base T0) i) 158 #[.pointer (some (stA Wg)),.int .u64 18446744069414584320] F ⟨mp,.rel,st,1⟩
   (fun r F' aL=>F'=F/\∃v t:Nat,v<=n/\t<=1/\r= .int .u64 ((v:Int)*4294967296+(t:Int))/\aL=⟨mp,if v=0/\t=1 then .ld else .gone,st,1⟩):=by
 have a:=WJ.eo (CY Mu Wg Is n bs base T0) i
 refine cC.go (main:=false) a Tryz.func158 rfl Tryz.ntmps158 (by simp) fun A d hd hs=>?_
 have e:=hs 0
 have k1:=hs 1
 clear hs
 repeat refine ax (a _) ?_
 refine cW a ?_
 refine ai.pure (a _) 1 (n:=0) _ rfl rfl ?_;simp only[*,go_sem]
 refine ai.nil a ?_;try simp only[go_sem]
 repeat refine ax (a _) ?_
 refine cW a ?_
 refine ai.pure (a _) 4 (n:=2) _ rfl rfl ?_;simp only[*,go_sem]
 refine Kc C7 aF b ⟨_,_,_,rfl,(by first|rfl|simp only[*,go_sem]),rfl,by first|(simp only[*,go_sem];done)|(simp only[*,go_sem];rfl),rfl⟩ (by rfl) (by simp) fun v t c ht=>?_
 refine ai.pure (a _) 1 (n:=0) _ rfl rfl ?_;simp only[*,go_sem]
 refine ai.nil a ?_;try simp only[go_sem]
 refine fo ?_;try simp only[go_sem]
 exact (lB rfl (by simp only[*,go_sem]) (by simp only[*,go_sem]) ⟨rfl,v,t,c,ht,rfl,rfl⟩).2
theorem Km {mp:Mp}:
  cC Tryz.prog (WJ (CY Mu Wg Is n bs base T0) i) 160 #[.pointer (some (stA Wg))] F ⟨mp,.ld,st,1⟩
   (fun r F' aL=>F'=F/\r= .int .u64 1/\aL=⟨mp,.st,st,1⟩):=by
 have a:=WJ.eo (CY Mu Wg Is n bs base T0) i
 refine cC.go (main:=false) a Tryz.func160 rfl Tryz.ntmps160 (by simp) fun A b hd hs=>?_
 have c:=hs 0
 clear hs
 repeat refine ax (a _) ?_
 refine cW a ?_
 refine ai.pure (a _) 1 (n:=0) _ rfl rfl ?_;simp only[*,go_sem]
 refine ai.nil a ?_;try simp only[go_sem]
 repeat refine ax (a _) ?_
 refine cW a ?_
 refine ai.pure (a _) 3 (n:=2) _ rfl rfl ?_;simp only[*,go_sem]
 refine Ke yb ⟨_,_,_,rfl,(by first|rfl|simp only[*,go_sem]),rfl,by first|(simp only[*,go_sem];done)|(simp only[*,go_sem];rfl),rfl⟩ (by rfl) (by simp) ?_
 refine ai.pure (a _) 1 (n:=0) _ rfl rfl ?_;simp only[*,go_sem]
 refine ai.nil a ?_;try simp only[go_sem]
 refine fo ?_;try simp only[go_sem]
 exact (lB rfl (by simp only[*,go_sem]) (by simp only[*,go_sem]) ⟨rfl,rfl,rfl⟩).2
theorem Kn (aF:Mu≠Wg/\Mu≠Is/\Wg≠Is){mp:Mp}:
  cC Tryz.prog (WJ (CY Mu Wg Is n bs base T0) i) 161 #[.pointer (some (stA Wg)),.int .u64 0] F ⟨mp,.st,st,1⟩
   (fun r F' aL=>F'=F/\r= .tuple #[]/\aL=⟨mp,.sm,st,1⟩):=by
 have a:=WJ.eo (CY Mu Wg Is n bs base T0) i
 refine cC.go (main:=false) a Tryz.func161 rfl Tryz.ntmps161 (by simp) fun A b hd hs=>?_
 have c:=hs 0
 have k1:=hs 1
 clear hs
 repeat refine ax (a _) ?_
 refine cW a ?_
 refine ai.pure (a _) 4 (n:=1) _ rfl rfl ?_;simp only[*,go_sem]
 refine Kf JI aF ⟨_,_,_,rfl,(by first|rfl|simp only[*,go_sem]),rfl,by first|(simp only[*,go_sem];done)|(simp only[*,go_sem];rfl),rfl⟩ (by rfl) (by simp) ?_
 refine ai.nil a ?_;try simp only[go_sem]
 exact lA rfl (by simp only[*,go_sem]) ⟨rfl,rfl,rfl⟩
end
end Go.Proofs.YtpgcmoanfifglaaGreatDoor
end
section
namespace Go.Sep
open Go Go.Conc
open Go.ConcN (sumTo upd upd_ne upd_same)
open Go.ConcM (MuAt muA msA muBlock OsLater)
open Go.ConcR (WgAt wgBlock stA smA)
structure X where
 Mu:Nat
 Wg:Nat
 Is:Nat
 n:Nat
 bs:Nat->Bool
 base:Nat
 T0:Nat
 B0:Nat
inductive Z where
 |free
 |co (x:X) (k:Nat) (p:P0) (d:Nat)
structure PT where
 P:Program
 tM:TypeId
 tW:TypeId
 tI:TypeId
abbrev X.cy (x:X)(T:PT):Cy:=⟨T.P,x.Mu,x.Wg,x.Is,T.tM,T.tW,T.tI,x.n,x.bs,x.base,x.T0⟩
def ZJ (T:PT)(Φ:Goroutine->aa->Prop):Z->Goroutine->aa->Prop
 | .free=>iD T.P Φ
 | .co x k p d=>fun g F=>(p= .reg->k=x.n)/\en (x.cy T) x.B0 (iD T.P Φ) k p d g F
section
variable {T : PT} {Φ : Goroutine → aa → Prop} {x : X} {k d : Nat} {p : P0} {ops : Array Oper} {j n : Nat} {Q : Act → aa → Z → Prop} {a : Act} {F : aa} {o : Oper} {f fi : FuncId} {dt : Option Tmp}
theorem Dm {c:Cy}:Ev0 c d d #[]:=⟨by simp,rfl⟩
theorem Ko {c:Cy}:Ev0 c d (d+1) #[cF .disable]:=⟨fun e he=>by simp at he;exact .inl he,rfl⟩
theorem Dn {c:Cy}:Ev0 c (d+1) d #[cF .enable]:=⟨fun e he=>by simp at he;exact .inr (.inl he),rfl⟩
theorem yz {c:Cy}{ad:Addr}(y:Bool)(h:ad.block=c.Wg):Ev0 c d d #[⟨.cell ad,y,true⟩]:=⟨fun e he=>by simp at he;exact .inr (.inr ⟨ad,h,.inl ⟨y,he⟩⟩),by simp[deafBehind]⟩
theorem Dp {c:Cy}{ad:Addr}(h:ad.block=c.Wg):Ev0 c d d #[⟨.cell ad,false,true⟩,⟨.cell ad,true,true⟩]:=
 ⟨fun e he=>by simp at he;rcases he with he|he<;>exact .inr (.inr ⟨ad,h,.inl ⟨_,he⟩⟩),by simp[deafBehind]⟩
theorem Kp {c:Cy}{ad:Addr}(h:ad.block=c.Wg):Ev0 c d d #[cF (.read ad)]:=⟨fun e he=>by simp at he;exact .inr (.inr ⟨ad,h,.inr (.inl he)⟩),by simp[deafBehind,cF]⟩
theorem Kq {c:Cy}{ad:Addr}(h:ad.block=c.Wg):Ev0 c d d #[cF (.write ad)]:=⟨fun e he=>by simp at he;exact .inr (.inr ⟨ad,h,.inr (.inr he)⟩),by simp[deafBehind,cF]⟩
theorem Kr {c:Cy}{ad:Addr}(h:ad.block=c.Wg):Ev0 c d d (semEvents ad):=by
 refine ⟨fun e he=>?_,by simp[deafBehind,semEvents]⟩;simp[semEvents] at he;rcases he with rfl|rfl|rfl|rfl
 ·exact .inl rfl
 ·exact .inr (.inr ⟨ad,h,.inl ⟨_,rfl⟩⟩)
 ·exact .inr (.inr ⟨ad,h,.inl ⟨_,rfl⟩⟩)
 ·exact .inr (.inl rfl)
theorem ZJ.eo (T:PT)(Φ:Goroutine->aa->Prop)(z:Z):dR T.P true (ZJ T Φ z):=by
 cases z with
 |free=>exact Closed.eo (CW T.P Φ)
 |co x k p d=>
  refine ⟨fun {fr fr' cs cs' F} hs h=>⟨h.1,en.x6 (c:=x.cy T) rfl rfl h.1 fun w s φ e a b=>?_⟩⟩;exact ⟨_,w,#[],s,p,d,hs w,a,.refl _ _,b,Dm,.inr dF,h.2⟩
theorem ZJ.closed (T:PT)(Φ:Goroutine->aa->Prop){z:Z}(b:∀x k d,z≠ .co x k .reg d):Closed T.P true (ZJ T Φ z):=by
 cases z with
 |free=>exact CW T.P Φ
 |co x k p d=>
  have a:p≠ .reg:=fun e=>b x k d (by rw[e]);have hC:=en.closed (x.cy T) x.B0 (iD T.P Φ) k p d a
  exact ⟨fun hle h=>⟨h.1,hC.mono hle h.2⟩,fun {fr cs F} h=>⟨fun e=>absurd e a,hC.step fun w hw=>by
   obtain ⟨g',w',es,F',k1,c,f,g,i⟩:=h w hw
   exact ⟨g',w',es,F',k1,c,f,g,i.2⟩⟩⟩
theorem kE (A:ops[j]?=some o)(i:p= .reg->k=x.n)
  (h:∀(w:World) (s:Sh) (φ:Nat->Ph),Has F w->cv (x.cy T) w s->Inv x.n x.bs k φ p s->
   ∃(v:Value) (w':World) (es:Array Event) (s':Sh) (f:P0) (g:Nat),(∀(b:Frame) (e:List Item) (cs:List Frame),BF fi b->
    stepG T.P true (G (b.at a (.inRegion ops (j::List.range' (j+1) n)::e)) cs) w= .go (G (b.at (a.put o.dst v) (.inRegion ops (List.range' (j+1) n)::e)) cs) w' es)/\cv (x.cy T) w' s'/\g6 (x.cy T) w w'/\Inv x.n x.bs k φ f s'/\Ev0 (x.cy T) d g es/\
    (s'.ms<=s.ms/\s'.ws<=s.ws)/\ai (ZJ T Φ) fi ops (j+1) n Q (a.put o.dst v) F (.co x k f g)):ai (ZJ T Φ) fi ops j (n+1) Q a F (.co x k p d):=fun b e cs hb l=>by
 rw[List.range'_succ,eB hb.round]
 refine ⟨i,en.x6 (c:=x.cy T) rfl rfl i fun w s φ e1 e2 m=>?_⟩
 obtain ⟨v,w',es,s',f,g,k1,q,r,t,u,y,z⟩:=h w s φ e1 e2 m
 have:=z b e cs hb l
 rw[eB hb.round] at this
 exact ⟨_,w',es,s',f,g,k1 b e cs hb,q,r,t,u,.inr y,this.2⟩
theorem oM {k:Nat}{φ:Nat->Ph}{p a:P0}{s:Sh}(h:Inv x.n x.bs k φ p s){wg ws:Int}(hw:dA x.n φ a wg ws):Inv x.n x.bs k φ a {s with wg:=wg,ws:=ws}:=⟨h.m,hw,h.i⟩
theorem Dq (i:Entry T.P f (fun _=>do mark .disable;pure Extern.Race.none_)){vals:List Value}(l:At ops j a f vals dt)(m:p= .reg->k=x.n)(c:P0)(q:∀φ wg ws,dA x.n φ p wg ws->dA x.n φ c wg ws)
  (h:ai (ZJ T Φ) fi ops (j+1) n Q (bg a dt (.tuple #[])) F (.co x k c (d+1))):ai (ZJ T Φ) fi ops j (n+1) Q a F (.co x k p d):=by
 obtain ⟨o,cw,de,e,hg,r,_,rfl⟩:=l
 obtain ⟨fn,f1,f2,f3,f4,f5⟩:=i.ex
 exact kE e m fun w s φ _ hs g=>⟨.tuple #[],w,_,s,c,d+1,fun b t cs hb=>stepG_mark0 .disable (by simp) e (cg hg) hb.kind r f1 f2 f3 f4 f5,hs,.refl _ _,oM g (q _ _ _ g.w),Ko,dF,h⟩
theorem Dr (e:Entry T.P f (fun _=>do mark .enable;pure Extern.Race.none_)){vals:List Value}(g:At ops j a f vals dt)(i:p= .reg->k=x.n)
  (h:ai (ZJ T Φ) fi ops (j+1) n Q (bg a dt (.tuple #[])) F (.co x k p d)):ai (ZJ T Φ) fi ops j (n+1) Q a F (.co x k p (d+1)):=by
 obtain ⟨o,cw,de,c,hg,l,_,rfl⟩:=g
 obtain ⟨fn,f1,f2,f3,f4,f5⟩:=e.ex
 exact kE c i fun w s φ _ hs m=>⟨.tuple #[],w,_,s,p,d,fun b q cs hb=>stepG_mark0 .enable (by simp) c (cg hg) hb.kind l f1 f2 f3 f4 f5,hs,.refl _ _,m,Dn,dF,h⟩
theorem Ks (e:Entry T.P f (Extern.Race.marked .read))(g:At ops j a f [.pointer (some (smA x.Wg))] dt)(i:p= .reg->k=x.n)
  (h:ai (ZJ T Φ) fi ops (j+1) n Q (bg a dt (.tuple #[])) F (.co x k p d)):ai (ZJ T Φ) fi ops j (n+1) Q a F (.co x k p d):=by
 obtain ⟨o,cw,de,c,hg,l,m,rfl⟩:=g
 obtain ⟨y,rfl,q⟩:=jK m
 obtain ⟨fn,f1,f2,f3,f4,f5⟩:=e.ex
 exact kE c i fun w s φ _ hs r=>⟨.tuple #[],w,_,s,p,d,fun b t cs hb=>stepG_markAt .read (by simp) c (cg hg) hb.kind l f1 f2 f3 f4 f5 (by simp[ey,q]),hs,.refl _ _,r,Kp (ad:=smA x.Wg) rfl,dF,h⟩
theorem Kt (e:Entry T.P f (Extern.Race.marked .write))(g:At ops j a f [.pointer (some (smA x.Wg))] dt)(i:p= .reg->k=x.n)
  (h:ai (ZJ T Φ) fi ops (j+1) n Q (bg a dt (.tuple #[])) F (.co x k p d)):ai (ZJ T Φ) fi ops j (n+1) Q a F (.co x k p d):=by
 obtain ⟨o,cw,de,c,hg,l,m,rfl⟩:=g
 obtain ⟨y,rfl,q⟩:=jK m
 obtain ⟨fn,f1,f2,f3,f4,f5⟩:=e.ex
 exact kE c i fun w s φ _ hs r=>⟨.tuple #[],w,_,s,p,d,fun b t cs hb=>stepG_markAt .write (by simp) c (cg hg) hb.kind l f1 f2 f3 f4 f5 (by simp[ey,q]),hs,.refl _ _,r,Kq (ad:=smA x.Wg) rfl,dF,h⟩
theorem uh (ad:Addr){src dst t:TypeId}(hs:T.P.underlying src=some (.pointer t))(hd:T.P.underlying dst=some .unsafePointer)(c:(T.P.info? t).map (fun i=>decide (i.size=0))=some false){y:Operand}
  (l:mO ops j a (.convert src dst y) dt) (m:p= .reg->k=x.n) (q:ev a y= .pointer (some ad)) (r:∀w s,cv (x.cy T) w s->∃v,w.cell? ad=some v) (h:ai (ZJ T Φ) fi ops (j+1) n Q (bg a dt (.pointer (some ad))) F (.co x k p d)):ai (ZJ T Φ) fi ops j (n+1) Q a F (.co x k p d):=by
 obtain ⟨o,e,hg,u,rfl⟩:=l
 refine kE e m fun w s φ _ f z=>⟨_,w,#[],s,p,d,fun b C cs hb=>?_,f,.refl _ _,z,Dm,dF,h⟩
 obtain ⟨v,g⟩:=r w s f
 have e1:execOp a.eval o=(do pure (.value (<-convert src dst (.pointer (some ad)))):Sem Next):=by
  unfold execOp
  simp only[u,ey,q]
 have A:(execOp a.eval o).run T.P w= .ok (.value (.pointer (some ad))) w:=by
  rw[e1];simp[run_convert_to_unsafe hs hd c g]
 have B:(execOp a.eval o).events T.P w #[]=#[]:=by
  rw[e1];simp[events_convert_to_unsafe hs hd c g]
 rw[stepG_value e (cg hg) hb.kind A]
 unfold listed
 rw[B,seen_none]
theorem Ku (i:Entry T.P f (Extern.Atomic.update (Op.intArith .add) .u64 true))(aF:x.Mu≠x.Wg/\x.Mu≠x.Is/\x.Wg≠x.Is)(A:x.n<67108864)(l:At ops j a f [.pointer (some (stA x.Wg)),.int .u64 4294967296] dt)
  (h:∀v:Nat,v<=x.n->ai (ZJ T Φ) fi ops (j+1) n Q (bg a dt (.int .u64 (((v+1:Nat):Int)*4294967296+((0:Nat):Int)))) F (.co x k (.opn 1) d)):ai (ZJ T Φ) fi ops j (n+1) Q a F (.co x k (.opn 0) d):=by
 obtain ⟨o,cw,de,c,hg,m,p,rfl⟩:=l
 obtain ⟨y,z,rfl,q,r⟩:=qT p
 obtain ⟨fn,f1,f2,f3,f4,f5⟩:=i.ex
 refine kE c (fun e=>by cases e) fun w s φ _ hs g=>?_
 obtain ⟨v,e1,t,hw⟩:=Jd g.w
 have e2:IntKind.u64.wrap (s.wg+4294967296)=((v+1:Nat):Int)*4294967296+((0:Nat):Int):=by
  rw[e1]
  unfold IntKind.wrap
  simp only[IntKind.bits,IntKind.signed,cT]
  simp
  omega
 have u:s.wg+cT=((v+1:Nat):Int)*4294967296+((0:Nat):Int):=by rw[e1];simp only[cT];omega
 rw[u] at hw
 exact ⟨_,_,_,{s with wg:=((v+1:Nat):Int)*4294967296+((0:Nat):Int)},.opn 1,d,fun b B cs hb=>by rw[<-e2];exact stepG_add_atomic c (cg hg) hb.kind m f1 f2 f3 f4 .u64 f5 q r hs.wg.1 hs.wg.2,by rw[<-e2];exact hs.tT aF _,.set _ (.inr (.inl rfl)),oM g hw,Dp rfl,dF,h v t⟩
theorem Kv (i:Entry T.P f (Extern.Atomic.loadT (.int .u64)))(l:At ops j a f [.pointer (some (stA x.Wg))] dt){u:Nat}
  (h:∀v:Nat,v<=u->ai (ZJ T Φ) fi ops (j+1) n Q (bg a dt (.int .u64 ((v:Int)*4294967296+((0:Nat):Int)))) F (.co x k (if v=0 then .eN else .look v) d)):ai (ZJ T Φ) fi ops j (n+1) Q a F (.co x k (.look u) d):=by
 obtain ⟨o,cw,de,c,hg,m,p,rfl⟩:=l
 obtain ⟨y,rfl,q⟩:=jK p
 obtain ⟨fn,f1,f2,f3,f4,f5⟩:=i.ex
 refine kE c (fun e=>by cases e) fun w s φ _ hs g=>?_
 obtain ⟨v,e1,r,hw⟩:=Jg g.w
 have e2:s.wg=(v:Int)*4294967296+((0:Nat):Int):=by rw[e1];simp only[cT];omega
 exact ⟨_,_,_,s,_,d,fun b t cs hb=>by rw[<-e2];exact stepG_load_atomic c (cg hg) hb.kind m f1 f2 f3 f4 .u64 f5 q hs.wg.1,hs,.refl _ _,oM g hw,yz false rfl,dF,h v r⟩
theorem Kw (i:Entry T.P f (Extern.Atomic.loadT (.int .u64)))(l:At ops j a f [.pointer (some (stA x.Wg))] dt)
  (h:ai (ZJ T Φ) fi ops (j+1) n Q (bg a dt (.int .u64 0)) F (.co x k .eN d)):ai (ZJ T Φ) fi ops j (n+1) Q a F (.co x k .eN d):=by
 obtain ⟨o,cw,de,c,hg,m,p,rfl⟩:=l
 obtain ⟨y,rfl,q⟩:=jK p
 obtain ⟨fn,f1,f2,f3,f4,f5⟩:=i.ex
 refine kE c (fun e=>by cases e) fun w s φ _ hs g=>?_
 have e2:s.wg=0:=(CI g.w).1
 exact ⟨_,_,_,s,_,d,fun b r cs hb=>by rw[<-e2];exact stepG_load_atomic c (cg hg) hb.kind m f1 f2 f3 f4 .u64 f5 q hs.wg.1,hs,.refl _ _,g,yz false rfl,dF,h⟩
theorem Kx (q:Entry T.P f (Extern.Atomic.casT (.int .u64)))(aF:x.Mu≠x.Wg/\x.Mu≠x.Is/\x.Wg≠x.Is){v:Nat}(r:0<v)(G:k=x.n)(t:At ops j a f [.pointer (some (stA x.Wg)),.int .u64 ((v:Int)*4294967296+((0:Nat):Int)),.int .u64 ((v:Int)*4294967296+((0:Nat):Int)+1)] dt)
  (u:ai (ZJ T Φ) fi ops (j+1) n Q (bg a dt (.bool true)) F (.co x k .reg d)) (A:ai (ZJ T Φ) fi ops (j+1) n Q (bg a dt (.bool false)) F (.co x k (.look (v - 1)) d)):ai (ZJ T Φ) fi ops j (n+1) Q a F (.co x k (.look v) d):=by
 obtain ⟨o,cw,de,g,hg,h,B,rfl⟩:=t
 obtain ⟨y,z,H,rfl,i,l,m⟩:=qU B
 obtain ⟨fn,f1,f2,f3,f4,f5⟩:=q.ex
 refine kE g (fun e=>by cases e) fun w s φ _ hs c=>?_
 by_cases e:s.wg=(v:Int)*4294967296+((0:Nat):Int)
 ·have e1:s.wg=(v:Int)*cT:=by rw[e];simp only[cT];omega
  have hw:=c.w
  rw[e1] at hw
  have p:=Jh hw r
  have C:(v:Int)*cT+1=(v:Int)*4294967296+((0:Nat):Int)+1:=by simp only[cT];omega
  rw[C] at p
  exact ⟨.bool true,_,_,{s with wg:=(v:Int)*4294967296+((0:Nat):Int)+1},.reg,d,fun b D cs hb=>stepG_cas_hit g (cg hg) hb.kind h f1 f2 f3 f4 .u64 f5 i l m (by rw[<-e];exact hs.wg.1) hs.wg.2,hs.tT aF _,.set _ (.inr (.inl rfl)),oM c p,Dp rfl,dF,u⟩
 ·have e1:s.wg≠(v:Int)*cT:=fun E=>e (by rw[E];simp only[cT];omega)
  exact ⟨.bool false,_,_,s,.look (v - 1),d,fun b D cs hb=>stepG_cas_miss g (cg hg) hb.kind h f1 f2 f3 f4 .u64 f5 i l m hs.wg.1 hs.wg.2 e,hs,.refl _ _,oM c (Ji c.w e1).2,yz false rfl,dF,A⟩
theorem Ky (q:Value)(r:Entry T.P f Extern.Sync.semacquire)(aF:x.Mu≠x.Wg/\x.Mu≠x.Is/\x.Wg≠x.Is)(g:k=x.n)(t:At ops j a f [.pointer (some (smA x.Wg)),q] dt)
  (h:ai (ZJ T Φ) fi ops (j+1) n Q (bg a dt (.tuple #[])) F (.co x k .eN d)):ai (ZJ T Φ) fi ops j (n+1) Q a F (.co x k .reg d):=fun b u cs hb v=>by
 obtain ⟨o,cw,de,i,hg,l,A,rfl⟩:=t
 obtain ⟨y,z,rfl,m,_⟩:=qT A
 obtain ⟨fn,f1,f2,f3,f4,f5⟩:=r.ex
 rw[List.range'_succ,eB hb.round]
 refine ⟨fun _=>g,en.act (c:=x.cy T) rfl rfl (fun _=>⟨g,fun w s hs e=>?_⟩) fun w s φ e1 hs p B=>?_⟩
 ·exact stepG_semacquire_wait i (cg hg) l f1 f2 f3 f4 f5 (ad:=smA x.Wg) (by simp[ey,m]) (by rw[hs.ws.1,e])
 ·have e:=B rfl
  obtain ⟨C,D,hw⟩:=Jj p.w e
  have:=h b u cs hb v
  rw[eB hb.round] at this
  exact ⟨_,_,_,{s with ws:=s.ws - 1},.eN,d,stepG_semacquire i (cg hg) hb.kind l f1 f2 f3 f4 f5 (by simp[ey,m]) hs.ws.1 e hs.ws.2,hs.De aF _,.set _ (.inr (.inl rfl)),oM p hw,Kr rfl,.inr ⟨Int.le_refl _,by simp only;omega⟩,this.2⟩
theorem Ds (d:Entry T.P f (Extern.Race.marked .acquire))(e:k=x.n)(g:At ops j a f [.pointer (some (stA x.Wg))] dt)
  (h:ai (ZJ T Φ) fi ops (j+1) n Q (bg a dt (.tuple #[])) ⟨F.ro,(x.Is,(x.cy T).fin)::F.own⟩ .free):ai (ZJ T Φ) fi ops j (n+1) Q a F (.co x k .eN 0):=fun b i cs hb l=>by
 obtain ⟨o,cw,de,m,hg,p,q,rfl⟩:=g
 obtain ⟨y,rfl,r⟩:=jK q
 obtain ⟨fn,f1,f2,f3,f4,f5⟩:=d.ex
 rw[List.range'_succ,eB hb.round]
 subst e
 have:=h b i cs hb l
 rw[eB hb.round] at this
 exact ⟨fun _=>rfl,en.join (c:=x.cy T) rfl rfl fun w hw=>⟨_,stepG_markAt .acquire (by simp) m (cg hg) hb.kind p f1 f2 f3 f4 f5 (by simp[ey,r]),rfl,this⟩⟩
theorem Kz (i:k<x.n){d:Deferred}{fv:Operand}{g:Fn}{caps:Array Value}(l:ops[j]?=some o)(hg:cz ops o a=some true)(f:∀w,(execOp a.eval o).run T.P w= .ok (.spawn d) w/\(execOp a.eval o).events T.P w #[]=#[])(hd:d.target= .fn g caps)
  (hW:Wk (x.cy T) k ⟨.idle,.cnt,false,0⟩ (born T.P d) ⟨F.ro,[]⟩) (h:ai (ZJ T Φ) fi ops (j+1) n Q (bg a o.dst undef) F (.co x (k+1) (.opn 0) 0)):ai (ZJ T Φ) fi ops j (n+1) Q a F (.co x k (.opn 1) 0):=fun b m cs hb p=>by
 rw[List.range'_succ,eB hb.round]
 have:=h b m cs hb p
 rw[eB hb.round] at this
 refine ⟨fun e=>(by cases e),en.spawn (c:=x.cy T) rfl rfl i fun w hw=>⟨_,_,?_,hW,rfl,rfl,this.2⟩⟩
 rw[stepG_spawn l (cg hg) hb.kind (f w).1 hd]
 unfold listed
 rw[(f w).2,seen_none]
 rfl
end
section
variable {T : PT} {Φ : Goroutine → aa → Prop} {fi f : FuncId}
theorem KA {cd:Code}{Q:Ex->Act->aa->Z->Prop}{a:Act}{F:aa}(c:aa)(Mu Wg Is n:Nat)(bs:Nat->Bool)
  (hle:Le ⟨c.ro,(Mu,muBlock T.tM 0 0)::(Wg,wgBlock T.tW 0 0)::(Is,.cells (List.replicate n (Value.bool false)).toArray T.tI)::c.own⟩ F)
  (h:∀base B0 T0,0<base->(Mu≠Wg/\Mu≠Is/\Wg≠Is)->cK (ZJ T Φ) fi cd Q a c (.co ⟨Mu,Wg,Is,n,bs,base,T0,B0⟩ 0 (.opn 0) 0)):cK (ZJ T Φ) fi cd Q a F .free:=fun b k cs hb d=>
 iD.found bs rfl rfl hle fun base B0 T0 e aF=>(h base B0 T0 e aF b k cs hb d).2
theorem KB (l:Entry T.P f (fun _=>do mark .enable;pure Extern.Race.none_)){x:X}{k d:Nat}{p:P0}{F:aa}(e:p= .reg->k=x.n){b:Frame}{a:Act}{todo:List Item}{cs:List Frame}{i:List Deferred}(m:a.defers=dcall f #[]::i)
  (h:ZJ T Φ (.co x k p d) (G {b.at ⟨a.tmps,i⟩ todo with mode:=.returning} cs) F):ZJ T Φ (.co x k p (d+1)) (G {b.at a todo with mode:=.returning} cs) F:=by
 obtain ⟨fn,f1,f2,f3,f4,f5⟩:=l.ex
 refine ⟨e,en.x6 (c:=x.cy T) rfl rfl e fun w s φ e1 hs o=>⟨_,w,#[cF .enable],s,p,d,?_,hs,.refl _ _,o,Dn,.inr dF,h.2⟩⟩
 exact stepG_unwind_entry (v:=.tuple #[]) m f1 f2 f3 f4 f5 (by simp[Extern.Race.none_]) (by simp[cF]) (by
  intro y j
  simp[cF] at j
  subst j
  exact ⟨rfl,fun g h=>by cases h⟩)
def yA (f:FuncId)(R:Value->aa->Z->Prop):Ex->Act->aa->Z->Prop
 | .exit _,_,_,_=>False
 |_,a,F,z=>a.defers=[dcall f #[]]/\∃x k p d,(p= .reg->k=x.n)/\z= .co x k p (d+1)/\R (.tuple #[]) F (.co x k p d)
theorem cC.KC {f0:FuncId}(r:Entry T.P f (fun _=>do mark .enable;pure Extern.Race.none_)){fn:Func}{cd:Code}{n:Nat}{args:Array Value}{R:Value->aa->Z->Prop}{F:aa}{z:Z}(m:T.P.funcs[f0]?=some fn)(hb:fn.body=some cd)(o:fn.results=#[])(q:fn.ntmps=n)(C:args.size<=n)
  (h:∀A:Act,sz A=n->A.defers=[]->(∀i,slot A i=args.getD i undef)->cK (ZJ T Φ) f0 cd (yA f R) A F z):cC T.P (ZJ T Φ) f0 args F z R:=by
 intro g cs s
 let b:Frame:={(default:Frame) with fn:=f0,kind:=.normal}
 have t:b.roundOf=none:=rfl
 have u:Frame.enter T.P f0 args .normal=on b {tmps:=args++Array.replicate (fn.ntmps - args.size) undef,defers:=[]} [.code cd]:=by
  simp[Frame.enter,on,m,hb,b]
  rfl
 rw[u]
 have j:=ZJ.eo T Φ
 have leave:∀(c:Act) (todo:List Item) F' (a:Z),(c.defers=[dcall f #[]]/\∃x k p d,(p= .reg->k=x.n)/\a= .co x k p (d+1)/\R (.tuple #[]) F' (.co x k p d))->ZJ T Φ a (G {on b c todo with mode:=.returning} (g::cs)) F':=by
  intro c todo F' a ⟨hd,x,k,p,d,v,y,B⟩
  subst y
  rw[eB t]
  refine KB r v hd ((j _).move (fr':=g.finish (.tuple #[])) (cs':=cs) (fun w=>?_) (s _ F' _ B))
  exact stepG_leave rfl rfl m (results_none o _ T.P w) (events_results_none o _ _)
 refine h _ (by simp[sz,q];omega) rfl (fun i=>?_) b [] (g::cs) ⟨by simp[b],rfl,rfl⟩ fun e c F' a l=>?_
 ·simp only[slot,q,Array.getD_eq_getD_getElem?]
  rcases Nat.lt_or_ge i args.size with hi|hi
  ·rw[Array.getElem?_append_left hi]
  ·rw[Array.getElem?_append_right hi,Array.getElem?_replicate,Array.getElem?_eq_none hi]
   split<;>rfl
 ·cases e with
  |normal=>exact (j a).move (fun _=>lI rfl) (leave c _ F' a l)
  |exit i=>exact l.elim
  |ret=>exact fun D=>(j a).move (fun _=>stepG_ret' rfl) (leave c _ F' a l)
theorem fE.KD {args:Array Value}{ro:Addr->Option Value}{R:Value->aa->Prop}(h:∀Φ,cC T.P (ZJ T Φ) f args ⟨ro,[]⟩ .free (fun v F' z=>z= .free/\R v F')):fE T.P f args ⟨ro,[]⟩ R:=
 fE.JC fun Φ c cs a=>h Φ c cs fun v F' z ⟨b,d⟩=>by subst b;exact a v F' d
end
end Go.Sep
end
section
namespace Go.Proofs.YtpgcmoanfifglaaGreatDoor
open Go Go.Sep Go.Proofs Go.Conc
open Go.ConcN (upd upd_same)
open Go.ConcM (muA msA)
open Go.ConcR (stA smA)
set_option maxRecDepth 100000
set_option maxHeartbeats 4000000
attribute [local go_sem] Int.reduceBEq Int.reduceBNe muA msA stA smA
noncomputable abbrev TT:PT:=⟨Tryz.prog,184,191,4⟩
theorem KE {f:FuncId}{R:Value->aa->Z->Prop}{a:Act}{F:aa}{x:X}{k d:Nat}{p:P0}(hd:a.defers=[dcall f #[]])(b:p= .reg->k=x.n)(c:R (.tuple #[]) F (.co x k p d)):yA f R .ret a F (.co x k p (d+1)):=⟨hd,x,k,p,d,b,rfl,c⟩
section
variable {Φ : Goroutine → aa → Prop} {x : X} {F : aa} {k : Nat}
theorem Dt (w:World)(s:Sh)(h:cv (x.cy TT) w s):∃v,w.cell? ⟨x.Wg,0,none⟩=some v:=⟨_,h.wg.1⟩
theorem Du (w:World)(s:Sh)(h:cv (x.cy TT) w s):∃v,w.cell? ⟨x.Wg,1,none⟩=some v:=⟨_,h.ws.1⟩
theorem KF (aF:x.Mu≠x.Wg/\x.Mu≠x.Is/\x.Wg≠x.Is)(c:x.n<67108864):
  cC Tryz.prog (ZJ TT Φ) 158 #[.pointer (some (stA x.Wg)),.int .u64 4294967296] F (.co x k (.opn 0) 1)
   (fun r F' d=>F'=F/\∃v:Nat,v<=x.n/\r= .int .u64 (((v+1:Nat):Int)*4294967296+((0:Nat):Int))/\d= .co x k (.opn 1) 1):=by
 have a:=ZJ.eo TT Φ
 have hJ:True:=trivial
 refine cC.go (main:=true) a Tryz.func158 rfl Tryz.ntmps158 (by simp) fun A f hd hs=>?_
 have g:=hs 0
 have k1:=hs 1
 clear hs
 repeat refine ax (a _) ?_
 refine aZ a fun K b=>?_
 refine ai.pure (a _) 1 (n:=0) _ rfl rfl ?_;simp only[*,go_sem,-b,-a]
 refine ai.nil a (b _ _ _ ?_);clear b K
 repeat refine ax (a _) ?_
 refine aZ a fun K b=>?_
 refine ai.pure (a _) 4 (n:=2) _ rfl rfl ?_;simp only[*,go_sem,-b,-a]
 refine Ku C7 aF c ⟨_,_,_,rfl,(by first|(simp only[*,go_sem,-b,-a,-hJ];done)|rfl),rfl,by first|(simp only[*,go_sem,-b,-a,-hJ];done)|(simp only[*,go_sem,-b,-a,-hJ];rfl),rfl⟩ fun v e=>?_
 refine ai.pure (a _) 1 (n:=0) _ rfl rfl ?_;simp only[*,go_sem,-b,-a]
 refine ai.nil a (b _ _ _ ?_);clear b K
 exact fo (lB rfl (by simp only[*,go_sem,-a,-hJ]) (by simp only[*,go_sem,-a,-hJ]) ⟨rfl,v,e,rfl,rfl⟩).2
theorem KG {u:Nat}:
  cC Tryz.prog (ZJ TT Φ) 160 #[.pointer (some (stA x.Wg))] F (.co x k (.look u) 1)
   (fun r F' c=>F'=F/\∃v:Nat,v<=u/\r= .int .u64 ((v:Int)*4294967296+((0:Nat):Int))/\c= .co x k (if v=0 then .eN else .look v) 1):=by
 have a:=ZJ.eo TT Φ
 have hJ:True:=trivial
 refine cC.go (main:=true) a Tryz.func160 rfl Tryz.ntmps160 (by simp) fun A e hd hs=>?_
 have f:=hs 0
 clear hs
 repeat refine ax (a _) ?_
 refine aZ a fun K b=>?_
 refine ai.pure (a _) 1 (n:=0) _ rfl rfl ?_;simp only[*,go_sem,-b,-a]
 refine ai.nil a (b _ _ _ ?_);clear b K
 repeat refine ax (a _) ?_
 refine aZ a fun K b=>?_
 refine ai.pure (a _) 3 (n:=2) _ rfl rfl ?_;simp only[*,go_sem,-b,-a]
 refine Kv yb ⟨_,_,_,rfl,(by first|(simp only[*,go_sem,-b,-a,-hJ];done)|rfl),rfl,by first|(simp only[*,go_sem,-b,-a,-hJ];done)|(simp only[*,go_sem,-b,-a,-hJ];rfl),rfl⟩ fun v d=>?_
 refine ai.pure (a _) 1 (n:=0) _ rfl rfl ?_;simp only[*,go_sem,-b,-a]
 refine ai.nil a (b _ _ _ ?_);clear b K
 exact fo (lB rfl (by simp only[*,go_sem,-a,-hJ]) (by simp only[*,go_sem,-a,-hJ]) ⟨rfl,v,d,rfl,rfl⟩).2
theorem KH:
  cC Tryz.prog (ZJ TT Φ) 160 #[.pointer (some (stA x.Wg))] F (.co x k .eN 1)
   (fun r F' c=>F'=F/\r= .int .u64 0/\c= .co x k .eN 1):=by
 have a:=ZJ.eo TT Φ
 have hJ:True:=trivial
 refine cC.go (main:=true) a Tryz.func160 rfl Tryz.ntmps160 (by simp) fun A d hd hs=>?_
 have e:=hs 0
 clear hs
 repeat refine ax (a _) ?_
 refine aZ a fun K b=>?_
 refine ai.pure (a _) 1 (n:=0) _ rfl rfl ?_;simp only[*,go_sem,-b,-a]
 refine ai.nil a (b _ _ _ ?_);clear b K
 repeat refine ax (a _) ?_
 refine aZ a fun K b=>?_
 refine ai.pure (a _) 3 (n:=2) _ rfl rfl ?_;simp only[*,go_sem,-b,-a]
 refine Kw yb ⟨_,_,_,rfl,(by first|(simp only[*,go_sem,-b,-a,-hJ];done)|rfl),rfl,by first|(simp only[*,go_sem,-b,-a,-hJ];done)|(simp only[*,go_sem,-b,-a,-hJ];rfl),rfl⟩ ?_
 refine ai.pure (a _) 1 (n:=0) _ rfl rfl ?_;simp only[*,go_sem,-b,-a]
 refine ai.nil a (b _ _ _ ?_);clear b K
 exact fo (lB rfl (by simp only[*,go_sem,-a,-hJ]) (by simp only[*,go_sem,-a,-hJ]) ⟨rfl,rfl,rfl⟩).2
theorem KI (aF:x.Mu≠x.Wg/\x.Mu≠x.Is/\x.Wg≠x.Is){v:Nat}(d:0<v):
  cC Tryz.prog (ZJ TT Φ) 169 #[.pointer (some (stA x.Wg)),.int .u64 ((v:Int)*4294967296+((0:Nat):Int)),.int .u64 ((v:Int)*4294967296+((0:Nat):Int)+1)] F (.co x x.n (.look v) 1)
   (fun r F' c=>F'=F/\((r= .bool true/\c= .co x x.n .reg 1)\/(r= .bool false/\c= .co x x.n (.look (v - 1)) 1))):=by
 have a:=ZJ.eo TT Φ
 have hJ:True:=trivial
 refine cC.go (main:=true) a Tryz.func169 rfl Tryz.ntmps169 (by simp) fun A e hd hs=>?_
 have f:=hs 0
 have k1:=hs 1
 have g:=hs 2
 clear hs
 repeat refine ax (a _) ?_
 refine aZ a fun K b=>?_
 refine ai.pure (a _) 1 (n:=0) _ rfl rfl ?_;simp only[*,go_sem,-b,-a]
 refine ai.nil a (b _ _ _ ?_);clear b K
 repeat refine ax (a _) ?_
 refine aZ a fun K b=>?_
 refine ai.pure (a _) 5 (n:=2) _ rfl rfl ?_;simp only[*,go_sem,-b,-a]
 refine Kx JH aF d rfl ⟨_,_,_,rfl,(by first|(simp only[*,go_sem,-b,-a,-hJ];done)|rfl),rfl,by first|(simp only[*,go_sem,-b,-a,-hJ];done)|(simp only[*,go_sem,-b,-a,-hJ];rfl),rfl⟩ ?_ ?_
 ·refine ai.pure (a _) 1 (n:=0) _ rfl rfl ?_;simp only[*,go_sem,-b,-a]
  refine ai.nil a (b _ _ _ ?_);clear b K
  exact fo (lB rfl (by simp only[*,go_sem,-a,-hJ]) (by simp only[*,go_sem,-a,-hJ]) ⟨rfl,.inl ⟨rfl,rfl⟩⟩).2
 ·refine ai.pure (a _) 1 (n:=0) _ rfl rfl ?_;simp only[*,go_sem,-b,-a]
  refine ai.nil a (b _ _ _ ?_);clear b K
  exact fo (lB rfl (by simp only[*,go_sem,-a,-hJ]) (by simp only[*,go_sem,-a,-hJ]) ⟨rfl,.inr ⟨rfl,rfl⟩⟩).2
end
attribute [local go_sem] Int.reduceBEq Int.reduceBNe muA msA stA smA
def KJ (Wg:Nat)(F:aa)(z:Z)(v:Int)(a:Act)(F':aa)(b:Z):Prop:=
 F'=F/\slot a 1= .int .i64 1/\slot a 7= .int .i32 v/\slot a 8= .int .u32 0/\sz a=117/\a.defers=[dcall 153 #[]]/\b=z
section
variable {Φ : Goroutine → aa → Prop} {x : X} {F : aa} {k : Nat}
theorem KL (aF:x.Mu≠x.Wg/\x.Mu≠x.Is/\x.Wg≠x.Is)(o:x.n<67108864):
  cC Tryz.prog (ZJ TT Φ) 132 #[.pointer (some (stA x.Wg)),.int .i64 1] F (.co x k (.opn 0) 0)
   (fun r F' g=>r= .tuple #[]/\F'=F/\g= .co x k (.opn 1) 0):=by
 have a:=ZJ.eo TT Φ
 have hJ:True:=trivial
 refine cC.KC lC Tryz.func132 rfl rfl Tryz.ntmps132 (by simp) fun A i hd hs=>?_
 have p:=hs 0
 have k1:=hs 1
 clear hs
 have c1:decide ((1:Int)<0)=false:=by decide
 have c2:decide ((1:Int)>0)=true:=by decide
 repeat refine ax (a _) ?_
 refine cV (a _) (by simp only[*,go_sem,-a,-hJ]) ?_
 repeat refine ax (a _) ?_
 refine aZ a fun K b=>?_
 refine ai.pure (a _) 2 (n:=0) _ rfl rfl ?_;simp only[*,go_sem,-b,-a]
 refine ai.nil a (b _ _ _ ?_);clear b K
 repeat refine ax (a _) ?_
 refine cB (a _) (by simp only[*,go_sem,-a,-hJ]) ?_
 refine cD (a _) ?_
 repeat refine ax (a _) ?_
 refine aZ a fun K b=>?_
 refine Dq qS ⟨_,_,_,rfl,(by first|(simp only[*,go_sem,-b,-a,-hJ];done)|rfl),rfl,by first|(simp only[*,go_sem,-b,-a,-hJ];done)|(simp only[*,go_sem,-b,-a,-hJ];rfl),rfl⟩ (fun e=>by cases e) (.opn 0) (fun _ _ _ h=>h) ?_
 refine ai.nil a (b _ _ _ ?_);clear b K
 repeat refine ax (a _) ?_
 refine aZ a fun K b=>?_
 refine ai.defer (a _) rfl (by first|(simp only[*,go_sem,-b,-a,-hJ];done)|rfl) rfl rfl (by simp;rfl) fun d e1 e2 j=>?_
 have l0:slot d 0= .pointer (some ⟨x.Wg,0,none⟩):=(e1 0).trans (by simp only[*,go_sem,-a,-hJ])
 have l:slot d 1= .int .i64 1:=(e1 1).trans (by simp only[*,go_sem,-a,-hJ])
 replace i:sz d=117:=e2.trans (by simp only[*,go_sem,-a,-hJ])
 replace hd:d.defers=[dcall 153 #[]]:=j.trans (by simp only[*,go_sem,-a,-hJ])
 clear e1 e2 j p k1
 refine ai.nil a (b _ _ _ ?_);clear b K
 repeat refine ax (a _) ?_
 refine aZ a fun K b=>?_
 refine ai.pure (a _) 1 (n:=0) _ rfl rfl ?_;simp only[*,go_sem,-b,-a]
 refine ai.nil a (b _ _ _ ?_);clear b K
 repeat refine ax (a _) ?_
 refine aZ a fun K b=>?_
 refine ai.entry (.bool false) (a _) C8 ⟨_,_,_,rfl,(by first|(simp only[*,go_sem,-b,-a,-hJ];done)|rfl),rfl,by first|(simp only[*,go_sem,-b,-a,-hJ];done)|(simp only[*,go_sem,-b,-a,-hJ];rfl),rfl⟩ ?_
 refine ai.nil a (b _ _ _ ?_);clear b K
 repeat refine ax (a _) ?_
 refine cB (a _) (by simp only[*,go_sem,-a,-hJ]) ?_
 refine cD (a _) ?_
 have w1:IntKind.u64.wrap 1=1:=by decide
 have w2:IntKind.u64.wrap (1*2 ^ min 32 64)=4294967296:=by decide
 repeat refine ax (a _) ?_
 refine aZ a fun K b=>?_
 refine ai.pure (a _) 6 (n:=2) _ rfl rfl ?_;simp only[*,go_sem,-b,-a]
 refine ai.fX (a _) rfl (by first|(simp only[*,go_sem,-b,-a,-hJ];done)|rfl) rfl z8 (by simp only[*,go_sem,-b,-a,-hJ]) (KF aF o) fun r F' aL q=>?_
 obtain ⟨rfl,v,s,rfl,rfl⟩:=q
 obtain ⟨y,c⟩:∃y:Int,y=((v+1:Nat):Int)*4294967296+((0:Nat):Int):=⟨_,rfl⟩
 rw[<-c]
 have a1:hH y 2147483648=0:=by show kD y 2147483648=0;rw[c];exact yw (v+1) 0 (by omega) (by omega)
 have a2:hH y 2147483647=0:=by show kD y 2147483647=0;rw[c];exact yx (v+1) 0 (by omega) (by omega)
 obtain ⟨V,m⟩:∃V:Int,V=((v+1:Nat):Int):=⟨_,rfl⟩
 have a3:y.fdiv (2 ^ min 32 64)=V:=by rw[c,m];exact yy (v+1) 0 (by omega)
 have a4:IntKind.i32.wrap V=V:=iA (by omega) (by omega)
 have a5:IntKind.u32.wrap 0=0:=by decide
 have w:IntKind.i32.wrap 1=1:=by decide
 have c3:decide (V<0)=false:=by simp;omega
 have c4:decide (V>0)=true:=by simp;omega
 have f:(V==1)=true\/(V==1)=false:=by cases (V==1)<;>simp
 clear c m s
 refine ai.pure (a _) 1 (n:=0) _ rfl rfl ?_;simp only[*,go_sem,-b,-a]
 refine ai.nil a (b _ _ _ ?_);clear b K
 repeat refine ax (a _) ?_
 refine aZ a fun K b=>?_
 refine ai.pure (a _) 7 (n:=0) _ rfl rfl ?_;simp only[*,go_sem,-b,-a]
 refine ai.nil a (b _ _ _ ?_);clear b K
 repeat refine ax (a _) ?_
 refine cB (a _) (by simp only[*,go_sem,-a,-hJ]) ?_
 refine cD (a _) ?_
 repeat refine ax (a _) ?_
 refine aZ a fun K b=>?_
 refine ai.pure (a _) 4 (n:=0) _ rfl rfl ?_;simp only[*,go_sem,-b,-a]
 refine ai.nil a (b _ _ _ ?_);clear b K
 repeat refine ax (a _) ?_
 refine aZ a fun K b=>?_
 refine ai.pure (a _) 4 (n:=0) _ rfl rfl ?_;simp only[*,go_sem,-b,-a]
 refine ai.nil a (b _ _ _ ?_);clear b K
 repeat refine ax (a _) ?_
 refine aZ a fun K b=>?_
 refine ai.pure (a _) 10 (n:=0) _ rfl rfl ?_;simp only[*,go_sem,-b,-a]
 refine ai.nil a (b _ _ _ ?_);clear b K
 repeat refine ax (a _) ?_
 refine tZ a (KJ x.Wg F' (.co x k (.opn 1) 1) V) ?_ ?_
 ·rcases f with f|f
  ·repeat refine ax (a _) ?_
   refine cV (a _) (by simp only[*,go_sem,-a,-hJ]) ?_
   repeat refine ax (a _) ?_
   refine aZ a fun K b=>?_
   refine ai.pure (a _) 3 (n:=2) _ rfl rfl ?_;simp only[*,go_sem,-b,-a]
   refine uh ⟨x.Wg,1,none⟩ C9 lD Da ⟨_,rfl,(by first|(simp only[*,go_sem,-b,-a,-hJ];done)|rfl),rfl,rfl⟩ (fun e=>by cases e) (by simp only[*,go_sem,-b,-a,-hJ]) Du ?_
   refine Ks JJ ⟨_,_,_,rfl,(by first|(simp only[*,go_sem,-b,-a,-hJ];done)|rfl),rfl,by first|(simp only[*,go_sem,-b,-a,-hJ];done)|(simp only[*,go_sem,-b,-a,-hJ];rfl),rfl⟩ (fun e=>by cases e) ?_
   refine ai.nil a (b _ _ _ ?_);clear b K
   exact ew ⟨rfl,(by simp only[*,go_sem,-a,-hJ]),(by simp only[*,go_sem,-a,-hJ]),(by simp only[*,go_sem,-a,-hJ]),(by simp only[*,go_sem,-a,-hJ]),(by simp only[*,go_sem,-a,-hJ]),rfl⟩
  ·repeat refine ax (a _) ?_
   refine cB (a _) (by simp only[*,go_sem,-a,-hJ]) ?_
   refine cD (a _) ?_
   exact ew ⟨rfl,(by simp only[*,go_sem,-a,-hJ]),(by simp only[*,go_sem,-a,-hJ]),(by simp only[*,go_sem,-a,-hJ]),(by simp only[*,go_sem,-a,-hJ]),(by simp only[*,go_sem,-a,-hJ]),rfl⟩
 clear f l0 l i hd a1 a2 a3
 rintro A t z ⟨rfl,l,B,C,i,hd,rfl⟩
 repeat refine ax (a _) ?_
 refine aZ a fun K b=>?_
 refine ai.pure (a _) 2 (n:=0) _ rfl rfl ?_;simp only[*,go_sem,-b,-a]
 refine ai.nil a (b _ _ _ ?_);clear b K
 repeat refine ax (a _) ?_
 refine cB (a _) (by simp only[*,go_sem,-a,-hJ]) ?_
 refine cD (a _) ?_
 repeat refine ax (a _) ?_
 refine aZ a fun K b=>?_
 refine ai.pure (a _) 12 (n:=0) _ rfl rfl ?_;simp only[*,go_sem,-b,-a]
 refine ai.nil a (b _ _ _ ?_);clear b K
 repeat refine ax (a _) ?_
 refine cB (a _) (by simp only[*,go_sem,-a,-hJ]) ?_
 refine cD (a _) ?_
 repeat refine ax (a _) ?_
 refine aZ a fun K b=>?_
 refine ai.pure (a _) 6 (n:=0) _ rfl rfl ?_;simp only[*,go_sem,-b,-a]
 refine ai.nil a (b _ _ _ ?_);clear b K
 repeat refine ax (a _) ?_
 refine cV (a _) (by simp only[*,go_sem,-a,-hJ]) ?_
 exact fo (show yA 153 (fun r u g=>r= .tuple #[]/\u=t/\g= .co x k (.opn 1) 0) .ret _ _ _ from KE (by simp only[*,go_sem,-a,-hJ]) (fun e=>by cases e) ⟨rfl,rfl,rfl⟩)
end
attribute [local go_sem] Int.reduceBEq Int.reduceBNe muA msA stA smA
def Dv (x:X)(F:aa)(m:Nat)(a:Act)(F':aa)(z:Z):Prop:=
 ∃u:Nat,u<=m/\u<=x.n/\F'=F/\slot a 0= .pointer (some ⟨x.Wg,0,none⟩)/\sz a=84/\a.defers=[]/\z= .co x x.n (.look u) 1
section
variable {Φ : Goroutine → aa → Prop} {x : X} {F : aa} {k : Nat}
theorem KM (aF:x.Mu≠x.Wg/\x.Mu≠x.Is/\x.Wg≠x.Is)(z:x.n<67108864):
  cC Tryz.prog (ZJ TT Φ) 139 #[.pointer (some (stA x.Wg))] F (.co x x.n (.opn 0) 0)
   (fun r F' d=>r= .tuple #[]/\F'=⟨F.ro,(x.Is,(x.cy TT).fin)::F.own⟩/\d= .free):=by
 have a:=ZJ.eo TT Φ
 have hJ:True:=trivial
 refine cC.go (main:=true) a Tryz.func139 rfl Tryz.ntmps139 (by simp) fun A o hd hs=>?_
 have p:=hs 0
 clear hs
 repeat refine ax (a _) ?_
 refine cV (a _) (by simp only[*,go_sem,-a,-hJ]) ?_
 repeat refine ax (a _) ?_
 refine aZ a fun K b=>?_
 refine Dq qS ⟨_,_,_,rfl,(by first|(simp only[*,go_sem,-b,-a,-hJ];done)|rfl),rfl,by first|(simp only[*,go_sem,-b,-a,-hJ];done)|(simp only[*,go_sem,-b,-a,-hJ];rfl),rfl⟩ (fun e=>by cases e) (.look x.n) (fun _ _ _ h=>Jf h) ?_
 refine ai.nil a (b _ _ _ ?_);clear b K
 repeat refine ax (a _) ?_
 refine jI a ?_
 refine qR a (Dv x F) x.n ?_ ?_
 ·exact ⟨x.n,Nat.le_refl _,Nat.le_refl _,rfl,(by simp only[*,go_sem,-a,-hJ]),(by simp only[*,go_sem,-a,-hJ]),(by simp only[*,go_sem,-a,-hJ]),rfl⟩
 ·clear o hd p
  rintro m A F' d ⟨u,B,C,rfl,p,o,hd,rfl⟩
  repeat refine ax (a _) ?_
  refine jI a ?_
  repeat refine ax (a _) ?_
  refine aZ a fun K b=>?_
  refine ai.pure (a _) 3 (n:=2) _ rfl rfl ?_;simp only[*,go_sem,-b,-a]
  refine ai.fX (a _) rfl (by first|(simp only[*,go_sem,-b,-a,-hJ];done)|rfl) rfl vq (by simp only[*,go_sem,-b,-a,-hJ]) KG fun r k D f=>?_
  obtain ⟨rfl,v,t,rfl,rfl⟩:=f
  obtain ⟨y,c⟩:∃y:Int,y=(v:Int)*4294967296+((0:Nat):Int):=⟨_,rfl⟩
  rw[<-c]
  have a1:hH y 2147483648=0:=by show kD y 2147483648=0;rw[c];exact yw v 0 (by omega) (by omega)
  have a2:hH y 2147483647=0:=by show kD y 2147483647=0;rw[c];exact yx v 0 (by omega) (by omega)
  obtain ⟨V,i⟩:∃V:Int,V=(v:Int):=⟨_,rfl⟩
  have a3:y.fdiv (2 ^ min 32 64)=V:=by rw[c,i];exact yy v 0 (by omega)
  have a4:IntKind.i32.wrap V=V:=iA (by omega) (by omega)
  have a5:IntKind.u32.wrap 0=0:=by decide
  have E:IntKind.u64.wrap (y+1)=y+1:=by
   unfold IntKind.wrap
   simp only[IntKind.bits,IntKind.signed]
   simp
   omega
  by_cases j:v=0
  ·
   have c1:(V==0)=true:=by rw[i,j];rfl
   have g:(if v=0 then P0.eN else .look v)= .eN:=if_pos j
   rw[g]
   clear g c i t j
   refine ai.pure (a _) 1 (n:=0) _ rfl rfl ?_;simp only[*,go_sem,-b,-a]
   refine ai.nil a (b _ _ _ ?_);clear b K
   repeat refine ax (a _) ?_
   refine aZ a fun K b=>?_
   refine ai.pure (a _) 4 (n:=0) _ rfl rfl ?_;simp only[*,go_sem,-b,-a]
   refine ai.nil a (b _ _ _ ?_);clear b K
   repeat refine ax (a _) ?_
   refine aZ a fun K b=>?_
   refine ai.pure (a _) 4 (n:=0) _ rfl rfl ?_;simp only[*,go_sem,-b,-a]
   refine ai.nil a (b _ _ _ ?_);clear b K
   repeat refine ax (a _) ?_
   refine aZ a fun K b=>?_
   refine ai.pure (a _) 2 (n:=0) _ rfl rfl ?_;simp only[*,go_sem,-b,-a]
   refine ai.nil a (b _ _ _ ?_);clear b K
   repeat refine ax (a _) ?_
   refine cV (a _) (by simp only[*,go_sem,-a,-hJ]) ?_
   repeat refine ax (a _) ?_
   refine cV (a _) (by simp only[*,go_sem,-a,-hJ]) ?_
   repeat refine ax (a _) ?_
   refine aZ a fun K b=>?_
   refine Dr lC ⟨_,_,_,rfl,(by first|(simp only[*,go_sem,-b,-a,-hJ];done)|rfl),rfl,by first|(simp only[*,go_sem,-b,-a,-hJ];done)|(simp only[*,go_sem,-b,-a,-hJ];rfl),rfl⟩ (fun e=>by cases e) ?_
   refine ai.nil a (b _ _ _ ?_);clear b K
   repeat refine ax (a _) ?_
   refine aZ a fun K b=>?_
   refine ai.pure (a _) 1 (n:=2) _ rfl rfl ?_;simp only[*,go_sem,-b,-a]
   refine uh ⟨x.Wg,0,none⟩ yd lD yf ⟨_,rfl,(by first|(simp only[*,go_sem,-b,-a,-hJ];done)|rfl),rfl,rfl⟩ (fun e=>by cases e) (by simp only[*,go_sem,-b,-a,-hJ]) Dt ?_
   refine Ds tQ rfl ⟨_,_,_,rfl,(by first|(simp only[*,go_sem,-b,-a,-hJ];done)|rfl),rfl,by first|(simp only[*,go_sem,-b,-a,-hJ];done)|(simp only[*,go_sem,-b,-a,-hJ];rfl),rfl⟩ ?_
   refine ai.nil a (b _ _ _ ?_);clear b K
   repeat refine ax (a _) ?_
   refine aZ a fun K b=>?_
   refine ai.pure (a _) 11 (n:=0) _ rfl rfl ?_;simp only[*,go_sem,-b,-a]
   refine ai.nil a (b _ _ _ ?_);clear b K
   repeat refine ax (a _) ?_
   refine cB (a _) (by simp only[*,go_sem,-a,-hJ]) ?_
   refine cD (a _) ?_
   exact fo (show jJ Tryz.prog Tryz.f139 (fun (r:Value) (F':aa) (d:Z)=>r= .tuple #[]/\F'=⟨k.ro,(x.Is,(x.cy TT).fin)::k.own⟩/\d=Z.free) .ret _ _ _ from oH rfl (by simp only[*,go_sem,-a,-hJ]) ⟨rfl,rfl,rfl⟩)
  ·have c1:(V==0)=false:=by simp;omega
   have g:(if v=0 then P0.eN else .look v)= .look v:=if_neg j
   rw[g]
   have l:=KI (Φ:=Φ) (F:=k) aF (v:=v) (by omega)
   rw[<-c] at l
   clear g c i
   refine ai.pure (a _) 1 (n:=0) _ rfl rfl ?_;simp only[*,go_sem,-b,-a]
   refine ai.nil a (b _ _ _ ?_);clear b K
   repeat refine ax (a _) ?_
   refine aZ a fun K b=>?_
   refine ai.pure (a _) 4 (n:=0) _ rfl rfl ?_;simp only[*,go_sem,-b,-a]
   refine ai.nil a (b _ _ _ ?_);clear b K
   repeat refine ax (a _) ?_
   refine aZ a fun K b=>?_
   refine ai.pure (a _) 4 (n:=0) _ rfl rfl ?_;simp only[*,go_sem,-b,-a]
   refine ai.nil a (b _ _ _ ?_);clear b K
   repeat refine ax (a _) ?_
   refine aZ a fun K b=>?_
   refine ai.pure (a _) 2 (n:=0) _ rfl rfl ?_;simp only[*,go_sem,-b,-a]
   refine ai.nil a (b _ _ _ ?_);clear b K
   repeat refine ax (a _) ?_
   refine cB (a _) (by simp only[*,go_sem,-a,-hJ]) ?_
   refine cD (a _) ?_
   repeat refine ax (a _) ?_
   refine aZ a fun K b=>?_
   refine ai.pure (a _) 6 (n:=1) _ rfl rfl ?_;simp only[*,go_sem,-b,-a]
   refine ai.fX (a _) rfl (by first|(simp only[*,go_sem,-b,-a,-hJ];done)|rfl) rfl E9 (by simp only[*,go_sem,-b,-a,-hJ]) l fun r w G f=>?_
   clear l
   obtain ⟨rfl,⟨rfl,rfl⟩|⟨rfl,rfl⟩⟩:=f
   ·
    refine ai.nil a (b _ _ _ ?_);clear b K
    repeat refine ax (a _) ?_
    refine cV (a _) (by simp only[*,go_sem,-a,-hJ]) ?_
    repeat refine ax (a _) ?_
    refine aZ a fun K b=>?_
    refine ai.pure (a _) 4 (n:=0) _ rfl rfl ?_;simp only[*,go_sem,-b,-a]
    refine ai.nil a (b _ _ _ ?_);clear b K
    repeat refine ax (a _) ?_
    refine cV (a _) (by simp only[*,go_sem,-a,-hJ]) ?_
    repeat refine ax (a _) ?_
    refine aZ a fun K b=>?_
    refine ai.pure (a _) 3 (n:=2) _ rfl rfl ?_;simp only[*,go_sem,-b,-a]
    refine uh ⟨x.Wg,1,none⟩ C9 lD Da ⟨_,rfl,(by first|(simp only[*,go_sem,-b,-a,-hJ];done)|rfl),rfl,rfl⟩ (fun _=>rfl) (by simp only[*,go_sem,-b,-a,-hJ]) Du ?_
    refine Kt JK ⟨_,_,_,rfl,(by first|(simp only[*,go_sem,-b,-a,-hJ];done)|rfl),rfl,by first|(simp only[*,go_sem,-b,-a,-hJ];done)|(simp only[*,go_sem,-b,-a,-hJ];rfl),rfl⟩ (fun _=>rfl) ?_
    refine ai.nil a (b _ _ _ ?_);clear b K
    repeat refine ax (a _) ?_
    refine aZ a fun K b=>?_
    refine ai.pure (a _) 1 (n:=0) _ rfl rfl ?_;simp only[*,go_sem,-b,-a]
    refine ai.nil a (b _ _ _ ?_);clear b K
    repeat refine ax (a _) ?_
    refine aZ a fun K b=>?_
    refine ai.pure (a _) 6 (n:=0) _ rfl rfl ?_;simp only[*,go_sem,-b,-a]
    refine ai.nil a (b _ _ _ ?_);clear b K
    repeat refine ax (a _) ?_
    refine cB (a _) (by simp only[*,go_sem,-a,-hJ]) ?_
    refine cD (a _) ?_
    repeat refine ax (a _) ?_
    refine aZ a fun K b=>?_
    refine ai.pure (a _) 4 (n:=1) _ rfl rfl ?_;simp only[*,go_sem,-b,-a]
    refine Ky (.bool false) JL aF rfl ⟨_,_,_,rfl,(by first|(simp only[*,go_sem,-b,-a,-hJ];done)|rfl),rfl,by first|(simp only[*,go_sem,-b,-a,-hJ];done)|(simp only[*,go_sem,-b,-a,-hJ];rfl),rfl⟩ ?_
    refine ai.nil a (b _ _ _ ?_);clear b K
    repeat refine ax (a _) ?_
    refine aZ a fun K b=>?_
    refine ai.pure (a _) 3 (n:=3) _ rfl rfl ?_;simp only[*,go_sem,-b,-a]
    refine ai.fX (a _) rfl (by first|(simp only[*,go_sem,-b,-a,-hJ];done)|rfl) rfl vq (by simp only[*,go_sem,-b,-a,-hJ]) KH fun r q H f=>?_
    obtain ⟨rfl,rfl,rfl⟩:=f
    refine ai.pure (a _) 2 (n:=0) _ rfl rfl ?_;simp only[*,go_sem,-b,-a]
    refine ai.nil a (b _ _ _ ?_);clear b K
    repeat refine ax (a _) ?_
    refine cV (a _) (by simp only[*,go_sem,-a,-hJ]) ?_
    repeat refine ax (a _) ?_
    refine aZ a fun K b=>?_
    refine Dr lC ⟨_,_,_,rfl,(by first|(simp only[*,go_sem,-b,-a,-hJ];done)|rfl),rfl,by first|(simp only[*,go_sem,-b,-a,-hJ];done)|(simp only[*,go_sem,-b,-a,-hJ];rfl),rfl⟩ (fun e=>by cases e) ?_
    refine ai.nil a (b _ _ _ ?_);clear b K
    repeat refine ax (a _) ?_
    refine aZ a fun K b=>?_
    refine ai.pure (a _) 1 (n:=2) _ rfl rfl ?_;simp only[*,go_sem,-b,-a]
    refine uh ⟨x.Wg,0,none⟩ yd lD yf ⟨_,rfl,(by first|(simp only[*,go_sem,-b,-a,-hJ];done)|rfl),rfl,rfl⟩ (fun e=>by cases e) (by simp only[*,go_sem,-b,-a,-hJ]) Dt ?_
    refine Ds tQ rfl ⟨_,_,_,rfl,(by first|(simp only[*,go_sem,-b,-a,-hJ];done)|rfl),rfl,by first|(simp only[*,go_sem,-b,-a,-hJ];done)|(simp only[*,go_sem,-b,-a,-hJ];rfl),rfl⟩ ?_
    refine ai.nil a (b _ _ _ ?_);clear b K
    repeat refine ax (a _) ?_
    refine aZ a fun K b=>?_
    refine ai.pure (a _) 1 (n:=0) _ rfl rfl ?_;simp only[*,go_sem,-b,-a]
    refine ai.nil a (b _ _ _ ?_);clear b K
    repeat refine ax (a _) ?_
    refine cB (a _) (by simp only[*,go_sem,-a,-hJ]) ?_
    refine cD (a _) ?_
    exact fo (show jJ Tryz.prog Tryz.f139 (fun (r:Value) (F':aa) (d:Z)=>r= .tuple #[]/\F'=⟨q.ro,(x.Is,(x.cy TT).fin)::q.own⟩/\d=Z.free) .ret _ _ _ from oH rfl (by simp only[*,go_sem,-a,-hJ]) ⟨rfl,rfl,rfl⟩)
   ·
    refine ai.nil a (b _ _ _ ?_);clear b K
    repeat refine ax (a _) ?_
    refine cB (a _) (by simp only[*,go_sem,-a,-hJ]) ?_
    refine cD (a _) ?_
    change ∃s,s<m/\Dv x w s _ _ _
    exact ⟨v - 1,by omega,v - 1,Nat.le_refl _,by omega,rfl,(by simp only[*,go_sem,-a,-hJ]),(by simp only[*,go_sem,-a,-hJ]),(by simp only[*,go_sem,-a,-hJ]),rfl⟩
end
end Go.Proofs.YtpgcmoanfifglaaGreatDoor
end
section
namespace Go.Sep
open Go Go.Conc
variable {P : Program}
theorem KN {t e:TypeId}{i:TypeInfo}{n:Nat}{R:Value->aa->Prop}{F:aa}(hu:P.underlying t=some (.slice e))(hi:P.info? e=some i)(hb:i.bytes=1)(hs:bX P e=some 1)(d:zeroOf P e=some (.bool false))(g:n<1048576)
  (h:∀b,dO F b->R (.slice (some ⟨b,0,none⟩) n n) (F.push b (.cells (List.replicate n (Value.bool false)).toArray e))):eP P (Instr.makeSlice t (.int .i64 n) (.int .i64 n)) R F:=by
 unfold eP
 have hw:IntKind.i64.wrap (n:Int)=(n:Int):=by
  unfold IntKind.wrap
  simp[IntKind.bits,IntKind.signed]
  omega
 have e1:¬((n:Int)<0\/(1:Int)*(n:Int)>2 ^ 48):=by
  have:((2:Int) ^ 48)=281474976710656:=by decide
  omega
 simp only[Instr.makeSlice,bq,dn,hu,zy,oX,hi,hb,hw]
 have e2:(((n:Int)<0||decide (((1:Nat):Int)*(n:Int)>2 ^ 48))||decide ((n:Int)<0)||decide ((n:Int)>(n:Int)))=false:=by
  have:((2:Int) ^ 48)=281474976710656:=by decide
  simp only[Bool.or_eq_false_iff,decide_eq_false_iff_not]
  omega
 rw[if_neg (by rw[e2];simp)]
 simp only[bq]
 refine uZ _ ?_
 simp only[bq,eH,hs,Int.toNat_natCast,Nat.mul_one]
 have fin:∀zero:Array Value,(n≠0->zero=#[.bool false])->aU P (newRow e ((Array.range n).map (fun j=>zero[j % zero.size]!))) (fun a G=>aU P (Pure.pure (Value.slice (some a) n n)) R G) F:=fun zero hzero=>by
  simp only[newRow,bq,oW,bF]
  have f:((Array.range n).map (fun j=>zero[j % zero.size]!))=(List.replicate n (Value.bool false)).toArray:=by
   rcases Nat.eq_zero_or_pos n with rfl|k
   ·simp
   ·rw[hzero (by omega)]
    rw[<-Array.toList_inj]
    simp only[Array.toList_map,Array.toList_range]
    apply List.ext_getElem
    ·simp
    ·intro i l m
     simp[Nat.mod_one]
  rw[f]
  exact ⟨rfl,h⟩
 by_cases c:n=0
 ·rw[if_pos c]
  exact fin #[] (fun x=>absurd c x)
 ·rw[if_neg c]
  rw[bq,lK,d]
  exact fin #[.bool false] (fun _=>rfl)
section
variable {T : PT} {Φ : Goroutine → aa → Prop} {fi : FuncId}
def yB:Z->Bool| .co _ _ .reg _=>false|_=>true
theorem ZJ.KO (T:PT)(Φ:Goroutine->aa->Prop)(z:Z)(h:yB z=true):Closed T.P true (ZJ T Φ z):=ZJ.closed T Φ fun x k d e=>by subst e;simp[yB] at h
theorem Dw {P:Program}{main:Bool}{S:Type}{JF:S->Goroutine->aa->Prop}{ph:S}(hJ:Closed P main (JF ph)){c:Code}{Q:Ex->Act->aa->S->Prop}{a:Act}{F F':aa}(hle:Le F F')(h:cK JF fi c Q a F ph):cK JF fi c Q a F' ph:=
 fun b k cs hb d=>hJ.mono hle (h b k cs hb d)
theorem yC {P:Program}{main:Bool}{S:Type}{JF:S->Goroutine->aa->Prop}{ph:S}(hJ:Closed P main (JF ph)){c:Code}{Q:Ex->Act->aa->S->Prop}{a:Act}{F:aa}(h:aP (keys F.own)->aE F.ro F.own->cK JF fi c Q a F ph):cK JF fi c Q a F ph:=by
 intro b k cs hb d;by_cases hw:∃w,Has F w
 ·obtain ⟨w,hw⟩:=hw;refine h ⟨hw.nodup⟩ (fun b hb off sp=>?_) b k cs hb d;cases e:F.ro ⟨b,off,sp⟩ with
  |none=>rfl
  |some v=>exact absurd hb (hw.apart _ v e)
 ·exact hJ.step fun w f=>absurd ⟨w,f⟩ hw
end
theorem mR {ro:Addr->Option Value}{b a off:Nat}{sp:Option Nat}{o:Obj}(h:ro ⟨a,off,sp⟩=none)(aF:a≠b):bR ro b o ⟨a,off,sp⟩=none:=by simp[bR,h,aF]
theorem KP {ro:Addr->Option Value}{b3 b4 b a I M W:Nat}{i o4 g c d e f:Obj}(p:aP (keys [(W,f),(M,e),(a,c),(I,d),(b,g),(b4,o4),(b3,i)]))(l:aE ro [(W,f),(M,e),(a,c),(I,d),(b,g),(b4,o4),(b3,i)]):
  ∃j,Ext ro j/\Le ⟨j,[(M,e),(W,f),(I,d)]⟩ ⟨ro,[(W,f),(M,e),(a,c),(I,d),(b,g),(b4,o4),(b3,i)]⟩/\
   (∀off v,cellOf i off=some v->j ⟨b3,off,none⟩=some v)/\(∀off v,cellOf o4 off=some v->j ⟨b4,off,none⟩=some v)/\(∀off v,cellOf g off=some v->j ⟨b,off,none⟩=some v)/\(∀off v,cellOf c off=some v->j ⟨a,off,none⟩=some v):=by
 have hd:=p.1
 simp only[keys,List.map_cons,List.map_nil,List.nodup_cons,List.mem_cons,List.not_mem_nil,not_or] at hd
 obtain ⟨⟨-,a1,-,a2,a3,a4,-⟩,⟨G,-,H,J,K,-⟩,⟨c1,c2,c3,c4,-⟩,⟨i1,i2,i3,-⟩,⟨e1,e2,-⟩,⟨r,-⟩,-⟩:=hd
 have r3:∀off sp,ro ⟨b3,off,sp⟩=none:=l b3 (by simp[keys])
 have s:∀off sp,ro ⟨b4,off,sp⟩=none:=l b4 (by simp[keys])
 have t:∀off sp,ro ⟨b,off,sp⟩=none:=l b (by simp[keys])
 have u:∀off sp,ro ⟨a,off,sp⟩=none:=l a (by simp[keys])
 clear l p
 have w:b4≠b3:=r
 have x:b≠b3:=e2
 have y:b≠b4:=e1
 have z:a≠b3:=c4
 have A:a≠b4:=c3
 have B:a≠b:=c2
 let s1:=bR ro b3 i
 let s2:=bR s1 b4 o4
 let k:=bR s2 b g
 let n:=bR k a c
 have C:Ext ro s1:=fZ _ _ _
 have q:Ext s1 s2:=fZ _ _ _
 have o:Ext s2 k:=fZ _ _ _
 have m:Ext k n:=fZ _ _ _
 have t4:∀off sp,s1 ⟨b4,off,sp⟩=none:=fun off sp=>mR (s off sp) w
 have t7:∀off sp,s2 ⟨b,off,sp⟩=none:=fun off sp=>mR (mR (t off sp) x) y
 have t8:∀off sp,k ⟨a,off,sp⟩=none:=fun off sp=>mR (mR (mR (u off sp) z) A) B
 have k1:Le ⟨s1,[(W,f),(M,e),(a,c),(I,d),(b,g),(b4,o4)]⟩ ⟨ro,[(W,f),(M,e),(a,c),(I,d),(b,g),(b4,o4),(b3,i)]⟩:=
  jR (by simp[lk, *]) (by simp) (by simp[au,Ne.symm, *])
 have D:Le ⟨s2,[(W,f),(M,e),(a,c),(I,d),(b,g)]⟩ ⟨s1,[(W,f),(M,e),(a,c),(I,d),(b,g),(b4,o4)]⟩:=
  jR (by simp[lk, *]) (by simp) (by simp[au,Ne.symm, *])
 have E:Le ⟨k,[(W,f),(M,e),(a,c),(I,d)]⟩ ⟨s2,[(W,f),(M,e),(a,c),(I,d),(b,g)]⟩:=
  jR (by simp[lk, *]) (by simp) (by simp[au,Ne.symm, *])
 have F:Le ⟨n,[(W,f),(M,e),(I,d)]⟩ ⟨k,[(W,f),(M,e),(a,c),(I,d)]⟩:=
  jR (by simp[lk, *]) (by simp) (by simp[au,Ne.symm, *])
 refine ⟨n,((C.trans q).trans o).trans m,Aa.trans (((F.trans E).trans D).trans k1),fun off v h=>?_,fun off v h=>?_,fun off v h=>?_,fun off v h=>?_⟩
 ·exact m _ _ (o _ _ (q _ _ ((iO r3).trans h)))
 ·exact m _ _ (o _ _ ((iO t4).trans h))
 ·exact m _ _ ((iO t7).trans h)
 ·exact (iO t8).trans h
theorem KQ {ro:Addr->Option Value}{a b2:Nat}{o1 o2:Obj}(d:aP (keys [(b2,o2),(a,o1)]))(c:aE ro [(b2,o2),(a,o1)]):
  ∃b,Ext ro b/\Le ⟨b,[]⟩ ⟨ro,[(b2,o2),(a,o1)]⟩/\(∀off v,cellOf o1 off=some v->b ⟨a,off,none⟩=some v)/\(∀off v,cellOf o2 off=some v->b ⟨b2,off,none⟩=some v):=by
 have hd:=d.1
 simp only[keys,List.map_cons,List.map_nil,List.nodup_cons,List.mem_cons,List.not_mem_nil,not_or] at hd
 have r1:∀off sp,ro ⟨a,off,sp⟩=none:=c a (by simp[keys])
 have r2:∀off sp,ro ⟨b2,off,sp⟩=none:=c b2 (by simp[keys])
 have e:b2≠a:=by obtain ⟨⟨z,-⟩,-⟩:=hd;exact z
 have t2:∀off sp,bR ro a o1 ⟨b2,off,sp⟩=none:=fun off sp=>mR (r2 off sp) e
 have k1:Le ⟨bR ro a o1,[(b2,o2)]⟩ ⟨ro,[(b2,o2),(a,o1)]⟩:=jR (by simp[lk, *]) (by simp) (by simp[au,Ne.symm, *])
 have f:Le ⟨bR (bR ro a o1) b2 o2,[]⟩ ⟨bR ro a o1,[(b2,o2)]⟩:=jR (by simp only[lk];simp) (by simp) trivial
 exact ⟨_,(fZ _ _ _).trans (fZ _ _ _),f.trans k1,fun off v h=>fZ _ _ _ _ _ ((iO r1).trans h),fun off v h=>(iO t2).trans h⟩
theorem KR {T:PT}{Φ:Goroutine->aa->Prop}{x:X}{k:Nat}{ops:Array Oper}{j n:Nat}{Q:Act->aa->Z->Prop}{a:Act}{F:aa}{fi:FuncId}(b:k<x.n){y:Operand}{f0:FuncId}{de:Array TypeId}{caps:Array Value}(c:mO ops j a (.go {callee:=.value y,args:=#[],argTypes:=de}) none)(d:ev a y= .func (.func f0) #[] caps)
  (hW:Wk (x.cy T) k ⟨.idle,.cnt,false,0⟩ (born T.P {target:=.fn (.func f0) caps,args:=#[]}) ⟨F.ro,[]⟩) (h:ai (ZJ T Φ) fi ops (j+1) n Q (bg a none undef) F (.co x (k+1) (.opn 0) 0)):ai (ZJ T Φ) fi ops j (n+1) Q a F (.co x k (.opn 1) 0):=by
 obtain ⟨o,e,hg,f,hd⟩:=c
 have e1:execOp a.eval o=(pure (.spawn {target:=.fn (.func f0) caps,args:=#[]}):Sem Next):=by
  unfold execOp
  have e0:(#[]:Array Value)++Array.map (ev a) #[]=#[]:=by simp
  simp only[f,resolve,ey,d,Deferred.ofValue,e0]
  rfl
 refine Kz (fv:=y) b e hg (fun w=>?_) rfl hW (by rw[hd];exact h)
 rw[e1]
 exact ⟨rfl,rfl⟩
end Go.Sep
end
section
namespace Go.Proofs.YtpgcmoanfifglaaGreatDoor
open Go Go.Sep Go.Proofs Go.Conc
open Go.ConcN (upd upd_same)
open Go.ConcM (muA msA)
open Go.ConcR (stA smA)
set_option maxRecDepth 100000
set_option maxHeartbeats 4000000
attribute [local go_sem] Int.reduceBEq Int.reduceBNe muA msA stA smA
def KS (Wg:Nat)(st:Bool)(F:aa)(m:Nat)(a:Act)(F':aa)(ph:Ph):Prop:=
 ∃t8:Int,F'=F/\slot a 0= .pointer (some ⟨Wg,0,none⟩)/\slot a 8= .int .u32 t8/\sz a=117/\a.defers=[dcall 153 #[]]/\((m=1/\t8=1/\ph=⟨.fin,.sm,st,1⟩)\/(m=0/\t8=0/\ph=⟨.fin,.gone,st,1⟩))
theorem KT {f:FuncId}{R:Value->aa->Ph->Prop}{a:Act}{F:aa}{ph:Ph}{b:Nat}(hd:a.defers=[dcall f #[]])(hg:ph.gp= .gone)(h:ph.deaf=b+1)(c:R (.tuple #[]) F {ph with deaf:=b}):kC f R .normal a F ph:=⟨hd,hg,b,h,c⟩
theorem uj {f:FuncId}{R:Value->aa->Ph->Prop}{a:Act}{F:aa}{ph:Ph}{b:Nat}(hd:a.defers=[dcall f #[]])(hg:ph.gp= .gone)(h:ph.deaf=b+1)(c:R (.tuple #[]) F {ph with deaf:=b}):kC f R .ret a F ph:=⟨hd,hg,b,h,c⟩
section
variable {Mu Wg Is n base T0 i : Nat} {bs : Nat → Bool} {st : Bool} {F : aa}
theorem KU (aF:Mu≠Wg/\Mu≠Is/\Wg≠Is)(s:n<67108864){mp:Mp}(u:mp= .idle\/mp= .fin)(w:st=bs i):
  cC Tryz.prog (WJ (CY Mu Wg Is n bs base T0) i) 132 #[.pointer (some (stA Wg)),.int .i64 (-1)] F ⟨mp,.cnt,st,0⟩
   (fun r F' aL=>r= .tuple #[]/\F'=F/\aL=⟨.fin,.gone,st,0⟩):=by
 have a:=WJ.eo (CY Mu Wg Is n bs base T0) i
 refine cC.Ki lC Tryz.func132 rfl rfl Tryz.ntmps132 (by simp) fun A h hd hs=>?_
 have hJ:True:=trivial
 have y:=hs 0
 have k1:=hs 1
 clear hs
 subst w
 have c1:decide ((-1:Int)<0)=true:=by decide
 have c2:decide ((-1:Int)>0)=false:=by decide
 repeat refine ax (a _) ?_
 refine cV (a _) (by simp only[*,go_sem,-a,-hJ]) ?_
 repeat refine ax (a _) ?_
 refine aZ a fun K b=>?_
 refine ai.pure (a _) 2 (n:=0) _ rfl rfl ?_;simp only[*,go_sem,-b,-a]
 refine ai.nil a (b _ _ _ ?_);clear b K
 repeat refine ax (a _) ?_
 refine cV (a _) (by simp only[*,go_sem,-a,-hJ]) ?_
 repeat refine ax (a _) ?_
 refine aZ a fun K b=>?_
 refine ai.pure (a _) 1 (n:=2) _ rfl rfl ?_;simp only[*,go_sem,-b,-a]
 refine tX ⟨Wg,0,none⟩ yd lD yf ⟨_,rfl,(by first|(simp only[*,go_sem,-b,-a,-hJ];done)|rfl),rfl,rfl⟩ (by simp) (by simp only[*,go_sem,-b,-a,-hJ]) Kk ?_
 refine JV C4 ⟨_,_,_,rfl,(by first|(simp only[*,go_sem,-b,-a,-hJ];done)|rfl),rfl,by first|(simp only[*,go_sem,-b,-a,-hJ];done)|(simp only[*,go_sem,-b,-a,-hJ];rfl),rfl⟩ rfl rfl u rfl ?_
 refine ai.nil a (b _ _ _ ?_);clear b K
 repeat refine ax (a _) ?_
 refine aZ a fun K b=>?_
 refine yo qS ⟨_,_,_,rfl,(by first|(simp only[*,go_sem,-b,-a,-hJ];done)|rfl),rfl,by first|(simp only[*,go_sem,-b,-a,-hJ];done)|(simp only[*,go_sem,-b,-a,-hJ];rfl),rfl⟩ (by simp) (by simp) ?_
 refine ai.nil a (b _ _ _ ?_);clear b K
 repeat refine ax (a _) ?_
 refine aZ a fun K b=>?_
 refine ai.defer (a _) rfl (by first|(simp only[*,go_sem,-b,-a,-hJ];done)|rfl) rfl rfl (by simp;rfl) fun g e1 e2 l=>?_
 have l0:slot g 0= .pointer (some ⟨Wg,0,none⟩):=(e1 0).trans (by simp only[*,go_sem,-a,-hJ])
 have z:slot g 1= .int .i64 (-1):=(e1 1).trans (by simp only[*,go_sem,-a,-hJ])
 replace h:sz g=117:=e2.trans (by simp only[*,go_sem,-a,-hJ])
 replace hd:g.defers=[dcall 153 #[]]:=l.trans (by simp only[*,go_sem,-a,-hJ])
 clear e1 e2 l y k1
 refine ai.nil a (b _ _ _ ?_);clear b K
 repeat refine ax (a _) ?_
 refine aZ a fun K b=>?_
 refine ai.pure (a _) 1 (n:=0) _ rfl rfl ?_;simp only[*,go_sem,-b,-a]
 refine ai.nil a (b _ _ _ ?_);clear b K
 repeat refine ax (a _) ?_
 refine aZ a fun K b=>?_
 refine ai.entry (.bool false) (a _) C8 ⟨_,_,_,rfl,(by first|(simp only[*,go_sem,-b,-a,-hJ];done)|rfl),rfl,by first|(simp only[*,go_sem,-b,-a,-hJ];done)|(simp only[*,go_sem,-b,-a,-hJ];rfl),rfl⟩ ?_
 refine ai.nil a (b _ _ _ ?_);clear b K
 repeat refine ax (a _) ?_
 refine cB (a _) (by simp only[*,go_sem,-a,-hJ]) ?_
 refine cD (a _) ?_
 have w1:IntKind.u64.wrap (-1)=18446744073709551615:=by decide
 have w2:IntKind.u64.wrap (18446744073709551615*2 ^ min 32 64)=18446744069414584320:=by decide
 repeat refine ax (a _) ?_
 refine aZ a fun K b=>?_
 refine ai.pure (a _) 6 (n:=2) _ rfl rfl ?_;simp only[*,go_sem,-b,-a]
 refine ai.fX (a _) rfl (by first|(simp only[*,go_sem,-b,-a,-hJ];done)|rfl) rfl z8 (by simp only[*,go_sem,-b,-a,-hJ]) (Kl aF s) fun r F' aL f=>?_
 obtain ⟨rfl,v,t,o,ht,rfl,rfl⟩:=f
 obtain ⟨x,d⟩:∃x:Int,x=(v:Int)*4294967296+(t:Int):=⟨_,rfl⟩
 rw[<-d]
 have a1:hH x 2147483648=0:=by show kD x 2147483648=0;rw[d];exact yw v t (by omega) ht
 have a2:hH x 2147483647=(t:Int):=by show kD x 2147483647=(t:Int);rw[d];exact yx v t (by omega) ht
 have a3:x.fdiv (2 ^ min 32 64)=(v:Int):=by rw[d];exact yy v t ht
 have a4:IntKind.i32.wrap (v:Int)=(v:Int):=iA (by omega) (by omega)
 have a5:IntKind.u32.wrap (t:Int)=(t:Int):=by
  unfold IntKind.wrap
  simp[IntKind.bits,IntKind.signed]
  omega
 have j:v=0->t=1->((1:Int) != x)=false:=fun e B=>by rw[d,e,B];rfl
 clear d
 refine ai.pure (a _) 1 (n:=0) _ rfl rfl ?_;simp only[*,go_sem,-b,-a]
 refine ai.nil a (b _ _ _ ?_);clear b K
 repeat refine ax (a _) ?_
 refine aZ a fun K b=>?_
 refine ai.pure (a _) 7 (n:=0) _ rfl rfl ?_;simp only[*,go_sem,-b,-a]
 refine ai.nil a (b _ _ _ ?_);clear b K
 repeat refine ax (a _) ?_
 refine cB (a _) (by simp only[*,go_sem,-a,-hJ]) ?_
 refine cD (a _) ?_
 repeat refine ax (a _) ?_
 refine aZ a fun K b=>?_
 refine ai.pure (a _) 4 (n:=0) _ rfl rfl ?_;simp only[*,go_sem,-b,-a]
 refine ai.nil a (b _ _ _ ?_);clear b K
 repeat refine ax (a _) ?_
 refine aZ a fun K b=>?_
 refine ai.pure (a _) 4 (n:=0) _ rfl rfl ?_;simp only[*,go_sem,-b,-a]
 refine ai.nil a (b _ _ _ ?_);clear b K
 repeat refine ax (a _) ?_
 refine aZ a fun K b=>?_
 refine ai.pure (a _) 10 (n:=0) _ rfl rfl ?_;simp only[*,go_sem,-b,-a]
 refine ai.nil a (b _ _ _ ?_);clear b K
 repeat refine ax (a _) ?_
 refine cB (a _) (by simp only[*,go_sem,-a,-hJ]) ?_
 refine cD (a _) ?_
 have c3:decide ((v:Int)<0)=false:=by simp
 repeat refine ax (a _) ?_
 refine aZ a fun K b=>?_
 refine ai.pure (a _) 2 (n:=0) _ rfl rfl ?_;simp only[*,go_sem,-b,-a]
 refine ai.nil a (b _ _ _ ?_);clear b K
 repeat refine ax (a _) ?_
 refine cB (a _) (by simp only[*,go_sem,-a,-hJ]) ?_
 refine cD (a _) ?_
 have p:t=0\/t=1:=by omega
 by_cases hC:v=0/\t=1
 ·
  obtain ⟨rfl,rfl⟩:=hC
  have C:((1:Int) != x)=false:=j rfl rfl
  have hg:(if (0:Nat)=0/\(1:Nat)=1 then Gp.ld else Gp.gone)= .ld:=rfl
  rw[hg]
  have D:((1:Nat):Int)=1:=rfl
  clear hg j p o ht
  repeat refine ax (a _) ?_
  refine aZ a fun K b=>?_
  refine ai.pure (a _) 12 (n:=0) _ rfl rfl ?_;simp only[*,go_sem,-b,-a]
  refine ai.nil a (b _ _ _ ?_);clear b K
  repeat refine ax (a _) ?_
  refine cB (a _) (by simp only[*,go_sem,-a,-hJ]) ?_
  refine cD (a _) ?_
  repeat refine ax (a _) ?_
  refine aZ a fun K b=>?_
  refine ai.pure (a _) 6 (n:=0) _ rfl rfl ?_;simp only[*,go_sem,-b,-a]
  refine ai.nil a (b _ _ _ ?_);clear b K
  repeat refine ax (a _) ?_
  refine cB (a _) (by simp only[*,go_sem,-a,-hJ]) ?_
  refine cD (a _) ?_
  repeat refine ax (a _) ?_
  refine aZ a fun K b=>?_
  refine ai.pure (a _) 3 (n:=3) _ rfl rfl ?_;simp only[*,go_sem,-b,-a]
  refine ai.fX (a _) rfl (by first|(simp only[*,go_sem,-b,-a,-hJ];done)|rfl) rfl vq (by simp only[*,go_sem,-b,-a,-hJ]) Km fun r F' aL f=>?_
  obtain ⟨rfl,rfl,rfl⟩:=f
  refine ai.pure (a _) 2 (n:=0) _ rfl rfl ?_;simp only[*,go_sem,-b,-a]
  refine ai.nil a (b _ _ _ ?_);clear b K
  repeat refine ax (a _) ?_
  refine cB (a _) (by simp only[*,go_sem,-a,-hJ]) ?_
  refine cD (a _) ?_
  repeat refine ax (a _) ?_
  refine aZ a fun K b=>?_
  refine ai.pure (a _) 3 (n:=1) _ rfl rfl ?_;simp only[*,go_sem,-b,-a]
  refine ai.fX (a _) rfl (by first|(simp only[*,go_sem,-b,-a,-hJ];done)|rfl) rfl E6 (by simp only[*,go_sem,-b,-a,-hJ]) (Kn aF) fun r F' aL f=>?_
  obtain ⟨rfl,rfl,rfl⟩:=f
  refine ai.nil a (b _ _ _ ?_);clear b K
  repeat refine ax (a _) ?_
  refine aZ a fun K b=>?_
  refine ai.pure (a _) 1 (n:=0) _ rfl rfl ?_;simp only[*,go_sem,-b,-a]
  refine ai.nil a (b _ _ _ ?_);clear b K
  repeat refine ax (a _) ?_
  refine cB (a _) (by simp only[*,go_sem,-a,-hJ]) ?_
  refine cD (a _) ?_
  repeat refine ax (a _) ?_
  refine jI a ?_
  refine qR a (KS Wg (bs i) F') 1 ?_ ?_
  ·exact ⟨1,rfl,(by simp only[*,go_sem,-a,-hJ]),(by simp only[*,go_sem,-a,-hJ]),(by simp only[*,go_sem,-a,-hJ]),(by simp only[*,go_sem,-a,-hJ]),.inl ⟨rfl,rfl,rfl⟩⟩
  ·clear l0 z h hd c1 c2 c3 C a1 a2 a3 a4 a5 w1 w2 D
   rintro m A E H ⟨t8,rfl,l0,I,h,hd,⟨rfl,rfl,rfl⟩|⟨rfl,rfl,rfl⟩⟩
   ·have G:((1:Int) != 0)=true:=rfl
    have w3:IntKind.u32.wrap (1 - 1)=0:=by decide
    repeat refine ax (a _) ?_
    refine aZ a fun K b=>?_
    refine ai.pure (a _) 2 (n:=0) _ rfl rfl ?_;simp only[*,go_sem,-b,-a]
    refine ai.nil a (b _ _ _ ?_);clear b K
    repeat refine ax (a _) ?_
    refine cV (a _) (by simp only[*,go_sem,-a,-hJ]) ?_
    refine cD (a _) ?_
    repeat refine ax (a _) ?_
    refine jI a ?_
    repeat refine ax (a _) ?_
    refine aZ a fun K b=>?_
    refine ai.pure (a _) 3 (n:=1) _ rfl rfl ?_;simp only[*,go_sem,-b,-a]
    refine Kg (.bool false) (.int .i64 0) JM aF ⟨_,_,_,rfl,(by first|(simp only[*,go_sem,-b,-a,-hJ];done)|rfl),rfl,by first|(simp only[*,go_sem,-b,-a,-hJ];done)|(simp only[*,go_sem,-b,-a,-hJ];rfl),rfl⟩ (by rfl) ?_
    refine ai.nil a (b _ _ _ ?_);clear b K
    repeat refine ax (a _) ?_
    refine aZ a fun K b=>?_
    refine ai.pure (a _) 3 (n:=0) _ rfl rfl ?_;simp only[*,go_sem,-b,-a]
    refine ai.nil a (b _ _ _ ?_);clear b K
    exact ⟨0,by omega,0,rfl,(by simp only[*,go_sem,-a,-hJ]),(by simp only[*,go_sem,-a,-hJ]),(by simp only[*,go_sem,-a,-hJ]),(by simp only[*,go_sem,-a,-hJ]),.inr ⟨rfl,rfl,rfl⟩⟩
   ·have G:((0:Int) != 0)=false:=rfl
    repeat refine ax (a _) ?_
    refine aZ a fun K b=>?_
    refine ai.pure (a _) 2 (n:=0) _ rfl rfl ?_;simp only[*,go_sem,-b,-a]
    refine ai.nil a (b _ _ _ ?_);clear b K
    repeat refine ax (a _) ?_
    refine cB (a _) (by simp only[*,go_sem,-a,-hJ]) ?_
    exact oG (show kC 153 (fun r c aL=>r= .tuple #[]/\c=E/\aL=⟨.fin,.gone,bs i,0⟩) .normal _ _ _ from KT (by simp only[*,go_sem,-a,-hJ]) rfl rfl ⟨rfl,rfl,rfl⟩)
 ·
  rw[if_neg hC]
  have q:(0<v/\decide ((v:Int)>0)=true)\/(v=0/\decide ((v:Int)>0)=false/\((t:Int)==0)=true):=by
   rcases Nat.eq_zero_or_pos v with e|e
   ·refine .inr ⟨e,by simp[e],?_⟩
    obtain rfl:t=0:=by omega
    rfl
   ·exact .inl ⟨e,by simp;omega⟩
  have a7:((t:Int) != 0)=false\/((t:Int) != 0)=true:=by cases ((t:Int) != 0)<;>simp
  clear j hC o ht p
  rcases a7 with a7|a7
  ·repeat refine ax (a _) ?_
   refine aZ a fun K b=>?_
   refine ai.pure (a _) 12 (n:=0) _ rfl rfl ?_;simp only[*,go_sem,-b,-a]
   refine ai.nil a (b _ _ _ ?_);clear b K
   repeat refine ax (a _) ?_
   refine cB (a _) (by simp only[*,go_sem,-a,-hJ]) ?_
   refine cD (a _) ?_
   rcases q with ⟨_,k⟩|⟨_,k,b2⟩
   ·repeat refine ax (a _) ?_
    refine aZ a fun K b=>?_
    refine ai.pure (a _) 6 (n:=0) _ rfl rfl ?_;simp only[*,go_sem,-b,-a]
    refine ai.nil a (b _ _ _ ?_);clear b K
    repeat refine ax (a _) ?_
    refine cV (a _) (by simp only[*,go_sem,-a,-hJ]) ?_
    exact fo (show kC 153 (fun r c aL=>r= .tuple #[]/\c=F'/\aL=⟨.fin,.gone,bs i,0⟩) .ret _ _ _ from uj (by simp only[*,go_sem,-a,-hJ]) rfl rfl ⟨rfl,rfl,rfl⟩)
   ·repeat refine ax (a _) ?_
    refine aZ a fun K b=>?_
    refine ai.pure (a _) 6 (n:=0) _ rfl rfl ?_;simp only[*,go_sem,-b,-a]
    refine ai.nil a (b _ _ _ ?_);clear b K
    repeat refine ax (a _) ?_
    refine cV (a _) (by simp only[*,go_sem,-a,-hJ]) ?_
    exact fo (show kC 153 (fun r c aL=>r= .tuple #[]/\c=F'/\aL=⟨.fin,.gone,bs i,0⟩) .ret _ _ _ from uj (by simp only[*,go_sem,-a,-hJ]) rfl rfl ⟨rfl,rfl,rfl⟩)
  ·repeat refine ax (a _) ?_
   refine aZ a fun K b=>?_
   refine ai.pure (a _) 12 (n:=0) _ rfl rfl ?_;simp only[*,go_sem,-b,-a]
   refine ai.nil a (b _ _ _ ?_);clear b K
   repeat refine ax (a _) ?_
   refine cB (a _) (by simp only[*,go_sem,-a,-hJ]) ?_
   refine cD (a _) ?_
   rcases q with ⟨_,k⟩|⟨_,k,b2⟩
   ·repeat refine ax (a _) ?_
    refine aZ a fun K b=>?_
    refine ai.pure (a _) 6 (n:=0) _ rfl rfl ?_;simp only[*,go_sem,-b,-a]
    refine ai.nil a (b _ _ _ ?_);clear b K
    repeat refine ax (a _) ?_
    refine cV (a _) (by simp only[*,go_sem,-a,-hJ]) ?_
    exact fo (show kC 153 (fun r c aL=>r= .tuple #[]/\c=F'/\aL=⟨.fin,.gone,bs i,0⟩) .ret _ _ _ from uj (by simp only[*,go_sem,-a,-hJ]) rfl rfl ⟨rfl,rfl,rfl⟩)
   ·repeat refine ax (a _) ?_
    refine aZ a fun K b=>?_
    refine ai.pure (a _) 6 (n:=0) _ rfl rfl ?_;simp only[*,go_sem,-b,-a]
    refine ai.nil a (b _ _ _ ?_);clear b K
    repeat refine ax (a _) ?_
    refine cV (a _) (by simp only[*,go_sem,-a,-hJ]) ?_
    exact fo (show kC 153 (fun r c aL=>r= .tuple #[]/\c=F'/\aL=⟨.fin,.gone,bs i,0⟩) .ret _ _ _ from uj (by simp only[*,go_sem,-a,-hJ]) rfl rfl ⟨rfl,rfl,rfl⟩)
end
end Go.Proofs.YtpgcmoanfifglaaGreatDoor
end
section
namespace Go.Sep
open Go Go.Conc
open Go.ConcN (sumTo upd upd_ne upd_same)
def ji (P:Program):Frame:={(default:Frame) with fn:=P.funcs.size,defers:=[],mode:=.panicking [goexitEntry]}
section
variable {P : Program} {f : FuncId} {fn : Func} {cd : Code} {w : World} {caps args : Array Value}
theorem KV (a:P.funcs[f]?=some fn)(b:(fn.name== "runtime.NumGoroutine")=false)(hb:fn.body=some cd):
  stepG P false (born P {target:=.fn (.func f) caps,args:=args}) w= .go (G ((baseD f).at {tmps:=args++caps++Array.replicate (fn.ntmps - (args++caps).size) undef,defers:=[]} [.code cd]) [ji P]) w #[]:=by
 have c:¬fn.name= "runtime.NumGoroutine":=by simpa using b
 rw[<-enter_atD (args++caps) a hb]
 simp[born,G,stepG,unwind,callDeferred,invoke,callFunc,a,c,hb,GStep.after,seen_none,ji]
theorem KW {b:Frame}{a:Act}{todo:List Item}(d:b.kind= .deferred)(hd:a.defers=[])(e:P.funcs[b.fn]?=some fn)(c:fn.results=#[]):
  stepG P false (G {b.at a todo with mode:=.returning} [ji P]) w= .go (G (ji P) []) w #[]:=by
 have he:(results fn a.tmps).events P w #[]=#[]:=events_results_none c _ _
 have f:(results fn a.tmps).run P w= .ok (.tuple #[]) w:=results_none c _ P w
 simp[G,stepG,unwind,doReturn,Frame.at,d,hd,e,f,he,ji,goexitEntry,seen_none,GStep.after]
theorem KX:stepG P false (G (ji P) []) w= .go {frame:=ji P,callers:=[],status:=.finished,dying:=none} w #[]:=by
 have e:(default:Frame).todo=[]:=rfl;simp[G,stepG,unwind,ji,goexitEntry,Frame.catches,e]
end
section
variable {c : Cy} {i : Nat} {F : aa} {f fd : FuncId}
def yD (c:Cy)(i:Nat)(fd:FuncId)(v:Value):Ex->Act->aa->Ph->Prop
 | .exit _,_,_,_=>False
 |_,a,_,ph=>a.defers=[dcall fd #[v]]/\(ph.mp= .idle\/ph.mp= .fin)/\ph.gp= .cnt/\ph.stored=c.bs i/\ph.deaf=0
theorem worker {fn b:Func}{cd l:Code}{n nd:Nat}{v:Value}(m:c.P.funcs[f]?=some fn)(z:(fn.name== "runtime.NumGoroutine")=false)(hb:fn.body=some cd)(B:fn.results=#[])(o:fn.ntmps=n){caps:Array Value}(R:caps.size<=n)
  (C:c.P.funcs[fd]?=some b) (D:(b.name== "runtime.NumGoroutine")=false) (E:b.body=some l) (H:b.results=#[]) (I:b.ntmps=nd) (J:1<=nd)
  (hd:∀(mp:Mp) (F:aa),mp= .idle\/mp= .fin->∀A:Act,sz A=nd->A.defers=[]->(∀j,slot A j=(#[v]:Array Value).getD j undef)->cK (WJ c i) fd l (yu fun F' aL=>aL=⟨.fin,.gone,c.bs i,0⟩) A F ⟨mp,.cnt,c.bs i,0⟩)
  (h:∀A:Act,sz A=n->A.defers=[]->(∀j,slot A j=caps.getD j undef)->cK (WJ c i) f cd (yD c i fd v) A F ⟨.idle,.cnt,false,0⟩):
  Wk c i ⟨.idle,.cnt,false,0⟩ (born c.P {target:=.fn (.func f) caps,args:=#[]}) F:=by
 have p:=WJ.eo c i
 have e0:∀w,stepG c.P false (born c.P {target:=.fn (.func f) caps,args:=#[]}) w= .go (G ((baseD f).at {tmps:=caps++Array.replicate (fn.ntmps - caps.size) undef,defers:=[]} [.code cd]) [ji c.P]) w #[]:=fun w=>by
  have:=KV (P:=c.P) (w:=w) (caps:=caps) (args:=#[]) m z hb
  simpa using this
 refine Wk.act (c:=c) (i:=i) rfl rfl (by simp) fun w s k φ p0 e1 e2 S K L=>.inr ⟨_,w,#[],s,⟨.idle,.cnt,false,0⟩,e0 w,e2,.refl _ _,?_,mP rfl Iff.rfl,.inr dF,?_⟩
 ·rw[<-K,yg];exact L
 have out:∀(a:Act) (r:List Item) F' (aL:Ph),(a.defers=[dcall fd #[v]]/\(aL.mp= .idle\/aL.mp= .fin)/\aL.gp= .cnt/\aL.stored=c.bs i/\aL.deaf=0)->WJ c i aL (G {(baseD f).at a r with mode:=.returning} [ji c.P]) F':=by
  intro a r F' aL ⟨k1,t,u,x,y⟩
  obtain ⟨mp,gp,st,T⟩:=aL
  simp only at t u x y
  subst u x y
  refine Kj C D E H I (by simpa using J) k1 (fun A M N O=>hd mp F' t A M N O) fun U V Q=>?_
  subst Q
  refine Wk.gone (q:=2) rfl (QuitsD.ctl rfl (fun w=>KW rfl rfl m B) (QuitsD.ctl rfl (fun w=>KX) ⟨rfl,rfl⟩))
 have:=h {tmps:=caps++Array.replicate (fn.ntmps - caps.size) undef,defers:=[]} (by simp[sz,o];omega) rfl (fun j=>?_) (baseD f) [] [ji c.P] ⟨by simp[baseD],rfl,rfl⟩ fun e a F' aL g=>?_
 ·rw[eB rfl] at this;exact this
 ·simp only[slot,o,Array.getD_eq_getD_getElem?]
  rcases Nat.lt_or_ge j caps.size with d|d
  ·rw[Array.getElem?_append_left d]
  ·rw[Array.getElem?_append_right d,Array.getElem?_replicate,Array.getElem?_eq_none d]
   split<;>rfl
 ·cases e with
  |normal=>exact (p aL).move (fun _=>lI rfl) (out a _ F' aL g)
  |exit i=>exact g.elim
  |ret=>exact fun W=>(p aL).move (fun _=>stepG_ret' rfl) (out a _ F' aL g)
end
attribute [go_sem] yD
end Go.Sep
end
section
namespace Go.Proofs.YtpgcmoanfifglaaGreatDoor
open Go Go.Sep Go.Proofs Go.Conc
open Go.ConcN (upd upd_same)
open Go.ConcM (muA msA)
open Go.ConcR (stA smA)
set_option maxRecDepth 100000
set_option maxHeartbeats 4000000
attribute [local go_sem] Int.reduceBEq Int.reduceBNe muA msA stA smA
theorem KY:(Tryz.prog.funcs[133]?).any (·.norace)=false:=by kernel_rfl
section
variable {Mu Wg Is n base T0 i : Nat} {bs : Nat → Bool}
theorem KZ (aF:Mu≠Wg/\Mu≠Is/\Wg≠Is)(x:n<67108864)(a5:i<n){ro:Addr->Option Value}(u0:cR){s1:Value}(o:aC eZ ro s1 u0.book.av){K:Value}(q:aC ez ro K u0.book.props){L:Value}(r:aC eT ro L u0.book.aG){M:Value}(s:aC c9 ro M u0.book.told)
  (z:Int) (B:List Int) {N:Value} (u:aC rI ro N B) (C:List aQ) {O:Value} (g:aC iR ro O C) {f b2 b3 b4 P Q:Nat}
  (g0:ro ⟨f,0,none⟩=some (.int .i64 u0.book.bG)) (R:ro ⟨f,1,none⟩=some (.int .i64 u0.book.bO)) (S:ro ⟨f,2,none⟩=some (.int .i64 u0.book.aY.num)) (T:ro ⟨f,3,none⟩=some (.int .i64 u0.book.aY.den)) (U:ro ⟨f,4,none⟩=some s1) (V:ro ⟨f,5,none⟩=some K) (W:ro ⟨f,6,none⟩=some L) (X:ro ⟨f,7,none⟩=some M)
  (Y:ro ⟨b2,0,none⟩=some (.int .i64 z)) (Z:ro ⟨b3,0,none⟩=some N) (ab:ro ⟨b4,0,none⟩=some O) (D:ro ⟨P,0,none⟩=some (.slice (some ⟨Is,0,none⟩) n n)) (E:ro ⟨Q,0,none⟩=some (.int .i64 i))
  (h:ag (nE u0.book z B) (fun b=>ny b C)=some (bs i)):
  Wk (CY Mu Wg Is n bs base T0) i ⟨.idle,.cnt,false,0⟩ (born Tryz.prog {target:=.fn (.func 133) #[.pointer (some ⟨Wg,0,none⟩),.pointer (some ⟨f,0,none⟩),.pointer (some ⟨b2,0,none⟩),.pointer (some ⟨b3,0,none⟩),.pointer (some ⟨b4,0,none⟩),.pointer (some ⟨Mu,0,none⟩),.pointer (some ⟨P,0,none⟩),.pointer (some ⟨Q,0,none⟩)],args:=#[]}) ⟨ro,[]⟩:=by
 have d:=WJ.eo (CY Mu Wg Is n bs base T0) i
 have hJ:∀ph:Ph,ph.gp= .cnt->Go.Sep.Closed Tryz.prog false (WJ (CY Mu Wg Is n bs base T0) i ph):=fun ph h=>Wk.closed (CY Mu Wg Is n bs base T0) i ph h
 refine worker (c:=CY Mu Wg Is n bs base T0) (i:=i) (fd:=134) (v:=.pointer (some ⟨Wg,0,none⟩)) Tryz.func133 rfl rfl rfl Tryz.ntmps133 (by simp) Tryz.func134 rfl rfl rfl Tryz.ntmps134 (by simp) ?_ ?_
 ·intro mp F a6 A G hd hs
  have w:=hs 0
  clear hs h g0 R S T U V W X Y Z ab D E o q r s u g hJ a5
  repeat refine ax (d _) ?_
  refine cW d ?_
  refine ai.pure (d _) 1 (n:=1) _ rfl rfl ?_;simp only[*,go_sem]
  refine ai.fX (d _) rfl rfl rfl z7 (by simp only[*,go_sem,stA]) (KU aF x a6 rfl) fun v F' aL j=>?_
  obtain ⟨rfl,rfl,rfl⟩:=j
  refine ai.nil d ?_
  exact ⟨(by simp only[*,go_sem]),rfl⟩
 ·intro ad G hd hs
  have w:=hs 0
  have k1:=hs 1
  have ae:=hs 2
  have al:=hs 3
  have ao:=hs 4
  have ar:=hs 5
  have a0:=hs 6
  have a2:=hs 7
  clear hs
  repeat refine ax (d _) ?_
  refine cW d ?_
  refine ai.defer (d _) (vals:=#[.pointer (some ⟨Wg,0,none⟩)]) rfl (by rfl) rfl rfl (by simp only[List.map_toArray,List.map_cons,List.map_nil];rw[show ad.eval (.tmp 0)=slot ad 0 from rfl,w];rfl) fun A e1 e2 H=>?_
  replace w:=(e1 0).trans w
  replace k1:=(e1 1).trans k1
  replace ae:=(e1 2).trans ae
  replace al:=(e1 3).trans al
  replace ao:=(e1 4).trans ao
  replace ar:=(e1 5).trans ar
  replace a0:=(e1 6).trans a0
  replace a2:=(e1 7).trans a2
  replace G:sz A=20:=e2.trans G
  rw[hd] at H
  replace hd:=H
  clear e1 e2 H
  refine ai.nil d ?_;try simp only[go_sem]
  obtain ⟨d3,c4,rfl,a7,a8,a9⟩:=id o
  obtain ⟨d10,dp,rfl,ba,bb,bc⟩:=id q
  obtain ⟨d17,dq,rfl,bd,bj,bk⟩:=id r
  obtain ⟨d24,ds,rfl,bl,bm,bo⟩:=id s
  obtain ⟨d38,dt,rfl,br,bz,bS⟩:=id u
  obtain ⟨d45,du,rfl,b0,b1,I⟩:=id g
  repeat refine ax (d _) ?_
  have l:=hJ ⟨.idle,.cnt,false,0⟩ rfl
  refine cK.of l ?_
  refine Fe l mixed [0,1,2,3,5] [4,6] ⟨ro,[]⟩ (by simp only[*,go_sem,-h]) (by kernel_rfl) ?_
  have h':=fL h;clear h;obtain ⟨b5,a3,h⟩:=h'
  simp only[*,go_sem,-h,-hJ,-d]
  refine vi l _ (GH u0.book ⟨o,q,r,s⟩ z B u a3) fun v dv m ca j=>?_
  obtain ⟨dC,dE,dT,ea,rfl,k⟩:=j
  replace g:=g.mono m;clear I;obtain ⟨_,_,I⟩:=g.op
  obtain ⟨d63,eb,rfl,cb,cd,cf⟩:=id k.e
  obtain ⟨d68,ec,rfl,cl,cy,cS⟩:=id k.p
  obtain ⟨d73,ed,rfl,c0,da,db⟩:=id k.y
  obtain ⟨d78,eh,rfl,dd,df,dk⟩:=id k.t
  replace D:=m _ _ D
  replace E:=m _ _ E
  clear g0 R S T U V W X Y Z ab
  refine ⟨⟨m,fun a J=>by simp[keys] at J,trivial⟩,lU ?_⟩
  simp only[*,go_sem,-h,-hJ,-d]
  refine bn l _ (Gu b5 (k.mono aT) C (g.mono aT) h) ?_
  refine ⟨⟨m,fun a J=>by simp[keys] at J,trivial⟩,?_⟩
  clear o q r s u g k a9 bc bk bo bS I cf cS db dk h a3 a7 ba bd bl br b0 cb cl c0 dd a8 bb bj bm bz b1 cd cy da df l ca
  have i0:(0:Int)<=(i:Int):=by omega
  have i1:(i:Int)<(n:Int):=by omega
  cases a4:bs i
  ·repeat refine ax (d _) ?_
   refine cB (d _) (by simp only[*,go_sem]) ?_
   refine cD (d _) ?_
   exact ⟨(by simp only[*,go_sem]),.inl rfl,rfl,a4.symm,rfl⟩
  ·repeat refine ax (d _) ?_
   refine cV (d _) (by simp only[*,go_sem]) ?_
   repeat refine ax (d _) ?_
   refine cW d ?_
   refine ai.fX (d _) rfl (by rfl) rfl E3 (by simp only[*,go_sem]) (J7 aF x) fun v F' aL j=>?_
   obtain ⟨rfl,rfl,rfl⟩:=j
   refine ai.nil d ?_;try simp only[go_sem]
   repeat refine ax (d _) ?_
   refine cW d ?_
   refine ai.bw (hJ _ rfl) 3 (n:=1) _ rfl rfl ?_;simp only[*,go_sem]
   refine JY JN zZ KY aF ⟨_,rfl,(by first|rfl|simp only[*,go_sem]),rfl,rfl⟩ (by rfl) (by simp only[*,go_sem]) (by simp only[*,go_sem]) ?_
   refine ai.nil d ?_;try simp only[go_sem]
   repeat refine ax (d _) ?_
   refine cW d ?_
   refine ai.fX (d _) rfl (by rfl) rfl E4 (by simp only[*,go_sem]) (J8 aF x) fun v F' aL j=>?_
   obtain ⟨rfl,rfl,rfl⟩:=j
   refine ai.nil d ?_
   exact (show yD _ _ _ _ .normal _ _ _ from ⟨(by simp only[*,go_sem]),.inr rfl,rfl,a4.symm,rfl⟩)
end
end Go.Proofs.YtpgcmoanfifglaaGreatDoor
end
section
namespace Go.Proofs.YtpgcmoanfifglaaGreatDoor
open Go Go.Sep Go.Proofs Go.Conc
open Go.ConcN (upd upd_same)
open Go.ConcM (muA msA muBlock)
open Go.ConcR (stA smA wgBlock)
set_option maxRecDepth 100000
set_option maxHeartbeats 4000000
attribute [local go_sem] Int.reduceBEq Int.reduceBNe muA msA stA smA
def uk (u0:cR)(a:Int)(c:List aQ)(d:List Int):Option Bool:=ag (nE u0.book a d) fun b=>ny b c
def mS (f:List Int->Option Bool):List (List Int)->Option (List Bool)
 |[]=>some []
 |x::l=>ag (f x) fun b=>ag (mS f l) fun r=>some (b::r)
def qW (a:List Bool)(i23:Nat)(b:List Int)(st:List (List Int)):Option (Fl (List (List Int)) (List (List Int))):=
 ag (bf a (i23:Int)) fun c=>cond (c) (ag (cY st ([b])) fun d=>some (.nx d)) (some (.nx st))
def oN (u0:cR)(b:Int)(a:List (List Int)):Option (List (List Int)):=
 cond (decide (a.length<1048576)) (ag (nM u0) fun c=>ag (mS (uk u0 b c) a) fun bl=>ag (bB (qW bl) 0 a ([]:List (List Int))) fun o=>aB o (fun d=>some d) (fun _ _=>none) (fun r=>some r)) none
theorem Dx {f:List Int->Option Bool}:∀{l:List (List Int)} {bl:List Bool},mS f l=some bl->bl.length=l.length/\∀(i:Nat) (a:List Int),l[i]?=some a->f a=some (bl[i]?.getD false)
 |[],bl,h=>by
  simp[mS] at h;subst h
  exact ⟨rfl,fun i a hi=>by simp at hi⟩
 |x::l,bl,h=>by
  unfold mS at h
  obtain ⟨b,hb,h⟩:=fL h
  obtain ⟨r,c,h⟩:=fL h
  have h:=Option.some.inj h
  subst h
  obtain ⟨e1,e2⟩:=Dx c
  refine ⟨by simp[e1],fun i a hi=>?_⟩
  cases i with
  |zero=>simp at hi;subst hi;simpa using hb
  |succ i=>simp at hi;simpa using e2 i a hi
def Dy (x:X)(d:Addr->Option Value)(b3 b4 e f:Nat)(b:Value)(m:Nat)(a:Act)(F:aa)(z:Z):Prop:=
 ∃(i:Nat) (c:Addr->Option Value),m=x.n - i/\i<=x.n/\F=⟨c,[]⟩/\Ext d c/\slot a 2=b/\slot a 3= .pointer (some ⟨b3,0,none⟩)/\slot a 4= .pointer (some ⟨b4,0,none⟩)/\slot a 6= .slice none 0 0/\slot a 7= .pointer (some ⟨e,0,none⟩)/\slot a 8= .pointer (some ⟨f,0,none⟩)/\slot a 9= .pointer (some ⟨x.Mu,0,none⟩)/\slot a 10= .pointer (some ⟨x.Wg,0,none⟩)/\slot a 21=b/\slot a 22= .int .i64 x.n/\slot a 23= .int .i64 i/\sz a=49/\a.defers=[]/\z= .co x i (.opn 0) 0
theorem K0 (l:List Bool):(l.map fun b=>[Value.bool b]).flatten=l.map Value.bool:=by
 induction l with
 |nil=>rfl
 |cons b l ih=>simp only[List.map_cons,List.flatten_cons,ih];rfl
theorem K1:Tryz.prog.underlying 177=some (.slice 4):=by kernel_rfl
theorem K2:Tryz.prog.info? 4=some ((Tryz.prog.info? 4).getD default):=by kernel_rfl
theorem Dz {ro:Addr->Option Value}(u0:cR){s1:Value}(p:aC eZ ro s1 u0.book.av){bm:Value}(q:aC ez ro bm u0.book.props){bo:Value}(s:aC eT ro bo u0.book.aG){br:Value}(u:aC c9 ro br u0.book.told){bs:Value}(a3:aC gP ro bs u0.all)(ad:Int)(d:List (List Int)){bz:Value}(k:aC (rL rI) ro bz d){r:List (List Int)}(h:oN u0 ad d=some r):
  pH Tryz.prog 99 #[.agg #[.int .i64 u0.book.bG,.int .i64 u0.book.bO,.int .i64 u0.book.aY.num,.int .i64 u0.book.aY.den,s1,bm,bo,br,bs],.int .i64 ad,bz] ro (fun v aM=>∃bS,v=bS/\aC (rL rI) aM bS r):=by
 refine fE.KD (T:=TT) fun Φ=>?_
 obtain ⟨d3,c4,rfl,fw,fx,gg⟩:=id p
 obtain ⟨d10,gl,rfl,gn,gp,Q⟩:=id q
 obtain ⟨d17,H,rfl,gB,gC,gM⟩:=id s
 obtain ⟨d24,gT,rfl,gV,g0,g1⟩:=id u
 obtain ⟨d31,ix,rfl,g2,g3,g4⟩:=id a3
 obtain ⟨d38,b0,rfl,jC,b1,B⟩:=id k
 unfold oN at h
 have hlen:d.length<1048576:=by
  rcases Nat.lt_or_ge d.length 1048576 with y|y
  ·exact y
  ·rw[show decide (d.length<1048576)=false by simp;omega] at h;cases h
 rw[show decide (d.length<1048576)=true by simp;omega] at h
 simp only[cond_true] at h
 obtain ⟨b2,b5,h⟩:=fL h
 obtain ⟨bl,ca,h⟩:=fL h
 obtain ⟨cb,cd⟩:=Dx ca
 have a:=ZJ.eo TT Φ
 have hJ:=fun (z:Z) (R:yB z=true)=>ZJ.KO TT Φ z R
 refine cC.go (main:=true) a Tryz.func99 rfl Tryz.ntmps99 (by simp) fun A R hd hs=>?_
 have ha:=hs 0
 have k1:=hs 1
 have cf:=hs 2
 clear hs ca
 repeat refine ax (a _) ?_
 refine aZ a fun K c=>?_
 refine ai.bw (hJ _ rfl) 3 (n:=0) _ rfl rfl ?_;simp only[*,go_sem,-c,-a,-hJ]
 intro b3 f3;have r3:=eC f3;have n3:=fC f3
 try simp only[au] at n3
 intro b4 f4;have hc:=eC f4;have cl:=fC f4
 try simp only[au] at cl
 try simp only[*,go_sem,-c,-a,-hJ,-h]
 refine ai.nil a (c _ _ _ ?_);clear c K
 have o:=hJ .free rfl
 repeat refine ax (a _) ?_
 refine aZ a fun K c=>?_
 refine ai.bw (hJ _ rfl) 4 (n:=0) _ rfl rfl ?_;simp only[*,go_sem,-c,-a,-hJ]
 refine vi o _ (A3 u0 ⟨p,q,s,u⟩ a3 b5) fun v j1 I hf S=>?_
 obtain ⟨j2,rfl,J⟩:=S
 replace p:=p.mono I
 replace q:=q.mono I
 replace s:=s.mono I
 replace u:=u.mono I
 replace k:=k.mono I
 obtain ⟨d45,hg,rfl,hh,hj,hk⟩:=id J
 clear gg Q gM g1 g4 B hk r3 hc
 refine aK ?_
 try simp only[*,go_sem,-c,-a,-hJ,-h,-o]
 intro a4 f7;have hl:=eC f7;have cS:=fC f7
 try simp only[au] at cS
 try simp only[*,go_sem,-c,-a,-hJ,-h,-o]
 refine ai.nil a (c _ _ _ ?_);clear c K
 repeat refine ax (a _) ?_
 refine aZ a fun K c=>?_
 refine ai.bw (hJ _ rfl) 5 (n:=0) _ rfl rfl ?_;simp only[*,go_sem,-c,-a,-hJ]
 refine KN K1 K2 rfl zZ EO hlen fun g a5=>?_
 have rI:=eC a5;have nI:=fC a5
 try simp only[au] at nI
 refine aK ?_
 try simp only[*,go_sem,-c,-a,-hJ,-h,-o]
 intro U f8;have hn:=eC f8;have c0:=fC f8
 try simp only[au] at c0
 try simp only[*,go_sem,-c,-a,-hJ,-h,-o]
 refine ai.nil a (c _ _ _ ?_);clear c K
 repeat refine ax (a _) ?_
 refine aZ a fun K c=>?_
 refine ai.bw (hJ _ rfl) 1 (n:=0) _ rfl rfl ?_;simp only[*,go_sem,-c,-a,-hJ]
 intro L f9;have ho:=eC f9;have da:=fC f9
 try simp only[au] at da
 try simp only[*,go_sem,-c,-a,-hJ,-h,-o]
 refine ai.nil a (c _ _ _ ?_);clear c K
 repeat refine ax (a _) ?_
 refine aZ a fun K c=>?_
 refine ai.bw (hJ _ rfl) 1 (n:=0) _ rfl rfl ?_;simp only[*,go_sem,-c,-a,-hJ]
 intro M f10;have hp:=eC f10;have db:=fC f10
 try simp only[au] at db
 try simp only[*,go_sem,-c,-a,-hJ,-h,-o]
 refine ai.nil a (c _ _ _ ?_);clear c K
 repeat refine ax (a _) ?_
 refine aZ a fun K c=>?_
 refine ai.bw (hJ _ rfl) 3 (n:=0) _ rfl rfl ?_;simp only[*,go_sem,-c,-a,-hJ]
 refine ai.nil a (c _ _ _ ?_);clear c K
 refine yC o fun nd no=>?_
 obtain ⟨ae,C,hle,w,dd,df,dk⟩:=KP nd no
 clear nd no
 refine KA (T:=TT) (Φ:=Φ) ⟨ae,[]⟩ L M g d.length (fun i=>bl[i]?.getD false) hle ?_
 intro base B0 T0 hq aF
 clear hle
 have al:d.length<67108864:=by omega
 replace p:=p.mono C
 replace q:=q.mono C
 replace s:=s.mono C
 replace u:=u.mono C
 replace k:=k.mono C
 replace J:=J.mono C
 have dp:=w 0 (.int .i64 u0.book.bG) rfl
 have dq:=w 1 (.int .i64 u0.book.bO) rfl
 have ds:=w 2 (.int .i64 u0.book.aY.num) rfl
 have dt:=w 3 (.int .i64 u0.book.aY.den) rfl
 have du:=w 4 (.slice d3 u0.book.av.length c4) rfl
 have dv:=w 5 (.slice d10 u0.book.props.length gl) rfl
 have dC:=w 6 (.slice d17 u0.book.aG.length H) rfl
 have dE:=w 7 (.slice d24 u0.book.told.length gT) rfl
 have dT:=dd 0 (.int .i64 ad) rfl
 have ea:=df 0 (.slice d45 b2.length hg) rfl
 have a6:=dk 0 (.slice (some ⟨g,0,none⟩) d.length d.length) rfl
 clear w dd df dk f3 f4 f7 f8 f9 f10 a5 n3 cl cS c0 da db nI hl hn ho hp rI hf
 repeat refine ax (a _) ?_
 refine jI a ?_
 refine qR a (Dy (⟨L,M,g,d.length,(fun i=>bl[i]?.getD false),base,T0,B0⟩:X) ae b3 b4 a4 U (.slice d38 d.length b0)) d.length ?_ ?_
 ·exact ⟨0,ae,rfl,Nat.zero_le _,rfl,Ext.refl _,(by simp only[*,go_sem,-a,-hJ]),(by simp only[*,go_sem,-a,-hJ]),(by simp only[*,go_sem,-a,-hJ]),(by simp only[*,go_sem,-a,-hJ]),(by simp only[*,go_sem,-a,-hJ]),(by simp only[*,go_sem,-a,-hJ]),(by simp only[*,go_sem,-a,-hJ]),(by simp only[*,go_sem,-a,-hJ]),(by simp only[*,go_sem,-a,-hJ]),(by simp only[*,go_sem,-a,-hJ]),(by simp only[*,go_sem,-a,-hJ]),(by simp only[*,go_sem,-a,-hJ]),(by simp only[*,go_sem,-a,-hJ]),rfl⟩
 clear ha k1 cf R hd
 rintro m A F' eb ⟨i,O,rfl,hi,rfl,e,cf,hr,ht,kh,hv,kj,hx,hy,hz,hA,hB,R,hd,rfl⟩
 have hi:i<=d.length:=hi
 replace p:=p.mono e
 replace q:=q.mono e
 replace s:=s.mono e
 replace u:=u.mono e
 replace k:=k.mono e
 replace J:=J.mono e
 rcases Nat.lt_or_ge i d.length with ao|hD
 ·have c1:decide ((i:Int)<(d.length:Int))=true:=by simp;omega
  have i0:(0:Int)<=(i:Int):=by omega
  have i1:(i:Int)<(d.length:Int):=by omega
  obtain ⟨a7,ec⟩:∃x,d[i]?=some x:=⟨_,List.getElem?_eq_getElem ao⟩
  obtain ⟨_,_,B⟩:=k.op
  obtain ⟨hE,ed,a8,a9,V⟩:=B _ _ ec
  obtain ⟨hF,rfl,W⟩:=a9
  obtain ⟨d32,Y,rfl,hG,hI,-⟩:=id W
  cases a8
  have hK:=V 0 _ rfl
  simp only[go_sem] at hK
  clear V B
  have eh:=cq (n:=i) (by omega)
  repeat refine ax (a _) ?_
  refine aZ a fun K c=>?_
  refine ai.bw (hJ _ rfl) 1 (n:=0) _ rfl rfl ?_;simp only[*,go_sem,-c,-a,-hJ]
  refine ai.nil a (c _ _ _ ?_);clear c K
  repeat refine ax (a _) ?_
  refine cV (a _) (by simp only[*,go_sem,-a,-hJ]) ?_
  refine cD (a _) ?_
  repeat refine ax (a _) ?_
  refine jI a ?_
  repeat refine ax (a _) ?_
  refine aZ a fun K c=>?_
  refine ai.bw (hJ _ rfl) 7 (n:=0) _ rfl rfl ?_;simp only[*,go_sem,-c,-a,-hJ]
  intro hL f11;have hM:=eC f11;have et:=fC f11
  try simp only[au] at et
  try simp only[*,go_sem,-c,-a,-hJ,-h,-o]
  intro hN f12;have hP:=eC f12;have ev:=fC f12
  try simp only[au] at ev
  try simp only[*,go_sem,-c,-a,-hJ,-h,-o]
  refine ai.nil a (c _ _ _ ?_);clear c K
  refine yC (hJ _ rfl) fun nd no=>?_
  obtain ⟨hQ,f,hle,eQ,eS⟩:=KQ nd no
  clear nd no f11 f12 hM hP et ev
  refine Dw (hJ _ rfl) hle ?_
  clear hle
  have hR:=eQ 0 (.int .i64 i) rfl
  have hS:=eS 0 (.slice d32 a7.length Y) rfl
  clear eQ eS
  repeat refine ax (a _) ?_
  refine aZ a fun K c=>?_
  refine ai.fX (a _) rfl (by first|(simp only[*,go_sem,-c,-a,-hJ];done)|rfl) rfl z7 (by simp only[*,go_sem,-c,-a,-hJ]) (KL aF al) fun v F' eb S=>?_
  obtain ⟨rfl,rfl,rfl⟩:=S
  refine ai.nil a (c _ _ _ ?_);clear c K
  repeat refine ax (a _) ?_
  refine aZ a fun K c=>?_
  refine ai.bw (hJ _ rfl) 1 (n:=1) _ rfl rfl ?_;simp only[*,go_sem,-c,-a,-hJ]
  refine KR (caps:=#[.pointer (some ⟨M,0,none⟩),.pointer (some ⟨b3,0,none⟩),.pointer (some ⟨b4,0,none⟩),.pointer (some ⟨hN,0,none⟩),.pointer (some ⟨a4,0,none⟩),.pointer (some ⟨L,0,none⟩),.pointer (some ⟨U,0,none⟩),.pointer (some ⟨hL,0,none⟩)]) (f0:=133) ao ⟨_,rfl,(by first|(simp only[*,go_sem,-c,-a,-hJ];done)|rfl),rfl,rfl⟩ (by simp only[*,go_sem,-c,-a,-hJ]) ?_ ?_
  ·exact KZ aF al ao u0 (p.mono f) (q.mono f) (s.mono f) (u.mono f) ad a7 (W.mono f) b2 (J.mono f) (f _ _ (e _ _ dp)) (f _ _ (e _ _ dq)) (f _ _ (e _ _ ds)) (f _ _ (e _ _ dt)) (f _ _ (e _ _ du)) (f _ _ (e _ _ dv)) (f _ _ (e _ _ dC)) (f _ _ (e _ _ dE)) (f _ _ (e _ _ dT)) hS (f _ _ (e _ _ ea)) (f _ _ (e _ _ a6)) hR (cd i a7 ec)
  refine ai.nil a (c _ _ _ ?_);clear c K
  repeat refine ax (a _) ?_
  refine aZ a fun K c=>?_
  refine ai.bw (hJ _ rfl) 2 (n:=0) _ rfl rfl ?_;simp only[*,go_sem,-c,-a,-hJ]
  refine ai.nil a (c _ _ _ ?_);clear c K
  change ∃e0,e0<d.length - i/\Dy _ ae b3 b4 a4 U _ e0 _ _ _
  exact ⟨d.length - (i+1),by omega,i+1,hQ,rfl,ao,rfl,e.trans f,(by simp only[*,go_sem,-a,-hJ]),(by simp only[*,go_sem,-a,-hJ]),(by simp only[*,go_sem,-a,-hJ]),(by simp only[*,go_sem,-a,-hJ]),(by simp only[*,go_sem,-a,-hJ]),(by simp only[*,go_sem,-a,-hJ]),(by simp only[*,go_sem,-a,-hJ]),(by simp only[*,go_sem,-a,-hJ]),(by simp only[*,go_sem,-a,-hJ]),(by simp only[*,go_sem,-a,-hJ]),(by simp only[*,go_sem,-a,-hJ]),(by simp only[*,go_sem,-a,-hJ]),(by simp only[*,go_sem,-a,-hJ]),rfl⟩
 ·have c1:decide ((i:Int)<(d.length:Int))=false:=by simp;omega
  obtain rfl:i=d.length:=by omega
  repeat refine ax (a _) ?_
  refine aZ a fun K c=>?_
  refine ai.bw (hJ _ rfl) 1 (n:=0) _ rfl rfl ?_;simp only[*,go_sem,-c,-a,-hJ]
  refine ai.nil a (c _ _ _ ?_);clear c K
  repeat refine ax (a _) ?_
  refine cB (a _) (by simp only[*,go_sem,-a,-hJ]) ?_
  refine oG ?_
  simp only[go_sem]
  repeat refine ax (a _) ?_
  refine aZ a fun K c=>?_
  refine ai.fX (a _) rfl (by first|(simp only[*,go_sem,-c,-a,-hJ];done)|rfl) rfl E5 (by simp only[*,go_sem,-c,-a,-hJ]) (KM aF al) fun v F' eb S=>?_
  obtain ⟨rfl,rfl,rfl⟩:=S
  refine ai.nil a (c _ _ _ ?_);clear c K
  refine yC o fun nd no=>?_
  have rI:∀off sp,O ⟨g,off,sp⟩=none:=fun off sp=>no g (by simp[keys]) off sp
  have hle:Le ⟨bR O g (X.cy (⟨L,M,g,d.length,(fun i=>bl[i]?.getD false),base,T0,B0⟩:X) TT).fin,[]⟩ ⟨O,[(g,(X.cy (⟨L,M,g,d.length,(fun i=>bl[i]?.getD false),base,T0,B0⟩:X) TT).fin)]⟩:=jR (by simp[lk]) (by simp) trivial
  have ab:aC rB (bR O g (X.cy (⟨L,M,g,d.length,(fun i=>bl[i]?.getD false),base,T0,B0⟩:X) TT).fin) (.slice (some ⟨g,0,none⟩) bl.length bl.length) bl:=aC.flat (fun b=>[.bool b]) bl (fun _=>rfl) rI (by
   show (((List.range d.length).map fun i=>Value.bool (bl[i]?.getD false)).toArray).toList=_
   rw[<-cb]
   apply List.ext_getElem?
   intro j
   rw[K0 bl]
   simp only[List.getElem?_map]
   rcases Nat.lt_or_ge j bl.length with y|y
   ·simp[y]
   ·simp[y]) (by omega)
  obtain ⟨D,ba⟩:∃D,D=bR O g (X.cy (⟨L,M,g,d.length,(fun i=>bl[i]?.getD false),base,T0,B0⟩:X) TT).fin:=⟨_,rfl⟩
  have ar:Ext O D:=by rw[ba];exact fZ _ _ _
  have hT:Ext ro D:=I.trans (C.trans (e.trans ar))
  rw[<-ba] at hle ab
  refine Dw o hle ?_
  replace k:=k.mono ar
  have a6:D ⟨U,0,none⟩=some (.slice (some ⟨g,0,none⟩) bl.length bl.length):=by rw[cb];exact ar _ _ (e _ _ a6)
  clear hle nd no ba rI dp dq ds dt du dv dC dE dT ea a hJ aF al hq p q s u J b5 cd c1 hlen hD hi ar I C e hr ht hv hx hy hz hA hB fw fx gn gp gB gC gV g0 a3 g2 g3 hh hj
  obtain ⟨_,_,B⟩:=k.op
  obtain ⟨_,_,Q⟩:=ab.op
  have hJ:=o
  clear o
  refine cK.of hJ ?_
  repeat refine af hJ ?_
  refine aj hJ ?_
  simp only[*,go_sem,-h]
  repeat refine af hJ ?_
  refine aj hJ ?_
  simp only[*,go_sem,-h]
  repeat refine af hJ ?_
  refine aN hJ ?_
  have h':=fL h;clear h;obtain ⟨hV,E,hX⟩:=h';have h:=True.intro
  refine bQ hJ [13,14,15,34,35,36,37,38,39,40,41,42,43,44,45,46,47] (fun m e1 F'=>∃(i23:Nat) (d17:Option Addr) (H:Nat) (a0:List (Nat×Obj)) (G:(List (List Int))),m=d.length - i23/\i23<=d.length/\bB (qW bl) i23 (d.drop i23) G=some hV/\F'=⟨D,a0⟩/\aO (rL rI) D 35 (.slice d17 G.length H) G a0/\G.length<=H/\slot e1 34= .int .i64 (i23:Int)/\slot e1 13= .slice d17 G.length H) d.length ?_ ?_
  ·refine ⟨0,none,0,[],([]:List (List Int)),(Nat.sub_zero _).symm,Nat.zero_le _,E,rfl,aO.nil _ _ _,Nat.le_refl _,?_⟩
   simp only[*,go_sem,-h]
  ·rintro kk P F' N ⟨i23,d17,H,a0,G,rfl,kl,E,rfl,bb,hY,km,kn⟩
   have h:=True.intro
   have kp:sz P=49:=by rw[N.size];simp only[*,go_sem,-h]
   have ks:P.defers=[]:=by rw[N.defers];simp only[*,go_sem,-h]
   have kt:slot P 6= .slice none 0 0:=by rw[N.fe 6 (by decide)];simp only[*,go_sem,-h]
   have kv:slot P 8= .pointer (some ⟨U,0,none⟩):=by rw[N.fe 8 (by decide)];simp only[*,go_sem,-h]
   have kx:slot P 32= .slice d38 d.length b0:=by rw[N.fe 32 (by decide)];simp only[*,go_sem,-h]
   have ky:slot P 33= .int .i64 (d.length:Int):=by rw[N.fe 33 (by decide)];simp only[*,go_sem,-h]
   clear N R hd
   repeat refine af hJ ?_
   refine aj hJ ?_
   simp only[*,go_sem,-h]
   repeat refine af hJ ?_
   rcases Nat.lt_or_ge i23 d.length with hZ|e3
   ·refine bP hJ (by simp only[*,go_sem,-h]) ?_
    refine aI hJ ?_
    obtain ⟨a2,bc⟩:∃x,d[i23]?=some x:=⟨_,List.getElem?_eq_getElem hZ⟩
    rw[c8 bc] at E
    have h':=fL E;clear E h;obtain ⟨k0,h,fa⟩:=h'
    unfold qW at h
    try dsimp only at h
    obtain ⟨k2,lb,h0,h1,fb⟩:=B _ _ bc
    obtain ⟨hF,rfl,W⟩:=h1;obtain ⟨d32,Y,rfl,hG,hI,lh⟩:=id W
    cases h0
    have h2:=fb 0 _ rfl;simp only[go_sem] at h2
    clear fb bc
    repeat refine af hJ ?_
    refine aN hJ ?_
    repeat refine af hJ ?_
    refine az hJ fun lj=>?_
    refine aj hJ ?_
    simp only[*,go_sem,-h]
    repeat refine af hJ ?_
    refine az hJ fun ll=>?_
    refine aj hJ ?_
    have h':=fL h;clear h;obtain ⟨h3,h4,h⟩:=h'
    obtain ⟨ln,lo,fg⟩:=cH h4
    obtain ⟨hE,ed,a8,a9,V⟩:=Q _ _ fg
    obtain rfl:ed=[.bool h3]:=a9
    cases a8
    have h5:=V 0 _ rfl;simp only[go_sem] at h5
    clear V fg
    try simp only[*,go_sem,-h]
    have h':=iP h;clear h;rcases h' with ⟨bd,h⟩|⟨bd,h⟩
    ·try simp only[Int.ofNat_lt] at bd
     refine bP hJ (by simp only[*,go_sem,-h]) ?_
     refine az hJ fun h6=>?_
     refine aj hJ ?_
     have h':=fL h;clear h;obtain ⟨h7,h8,h⟩:=h'
     obtain ⟨h9,fi⟩:=dr h8
     simp only[*,go_sem,-h]
     intro fp f45;have ib:=eC f45;have fr:=fC f45
     have ic:=aP.cons fr h6
     try simp only[au] at fr
     try simp only[*,go_sem,-h]
     refine Ap (r:=(rL rI)) (l:=G) (x:=a2) (cs:=#[.slice d32 a2.length Y]) (e2:=35) [(fp,.cells #[.slice d32 a2.length Y] 35)] [] (by first|rfl|simp only[aV]|(simp only[aV];rfl)) bb ic h9 ⟨_,rfl,W⟩ (by simp only[*,go_sem,-h]) ib rfl rfl kP kP rJ rM rfl rK (by decide) (by decide) (fun lr fs bj ih ik lv=>?_)
     simp only[aV] at ik
     subst ih
     rw[<-fi] at bj;clear fi
     obtain ⟨d53,il,rfl,im⟩:=bj.len
     refine ⟨⟨D,(fp,.cells #[.slice d32 a2.length Y] 35)::fs⟩,Le.refl _,?_⟩
     refine aK ?_
     try simp only[*,go_sem,-h]
     have h':=Option.some.inj h;clear h;subst h'
     have h:=True.intro
     have eh:=cq (n:=i23) (by have:=b1;omega)
     refine aj hJ ?_
     simp only[*,go_sem,-h]
     refine ⟨d.length - (i23+1),by omega,_,Le.sub (List.Sublist.cons _ (List.Sublist.refl _)),i23+1,d53,il,fs,h7,rfl,by omega,fa,rfl,bj,im,?_⟩
     simp only[*,go_sem,-h]
    ·try simp only[Int.ofNat_lt] at bd
     refine bM hJ (by simp only[*,go_sem,-h]) ?_
     refine aI hJ ?_
     have h':=Option.some.inj h;clear h;subst h'
     have h:=True.intro
     have eh:=cq (n:=i23) (by have:=b1;omega)
     refine aj hJ ?_
     simp only[*,go_sem,-h]
     refine ⟨d.length - (i23+1),by omega,_,Le.sub (List.Sublist.refl _),i23+1,d17,H,a0,G,rfl,by omega,fa,rfl,bb,hY,?_⟩
     simp only[*,go_sem,-h]
   ·have lx:=Nat.not_lt.2 e3
    refine bM hJ (by simp only[*,go_sem,-h]) ?_
    rw[List.drop_eq_nil_of_le e3] at E
    have h':=Option.some.inj E;clear E h;subst h'
    have h:=hX
    dsimp only[aB] at h
    refine bJ ?_
    simp only[go_sem]
    repeat refine af hJ ?_
    refine az hJ fun ly=>?_
    refine aj hJ ?_
    simp only[*,go_sem,-h]
    have h':=Option.some.inj h;clear h;subst h'
    refine az hJ fun ft=>?_
    obtain ⟨fu,bk,lL,fv,iv⟩:=bb.kR (([]:List (Nat×Obj))) [] [] (by first|rfl|simp only[aV]|(simp only[aV];rfl)) (by first|rfl|simp only[aV]|(simp only[aV];rfl)) ft (aE.nil _)
    clear ft
    refine cG (F:=⟨fu,([]:List (Nat×Obj))⟩) hJ iv ?_
    obtain ⟨l1,l2,l3⟩:=fv.op
    replace k:=k.mono bk;clear B;obtain ⟨_,_,B⟩:=k.op
    replace ab:=ab.mono bk;clear Q;obtain ⟨_,_,Q⟩:=ab.op
    refine ay ?_
    exact (lB (t:=6) rfl (by simp only[*,go_sem]) (by simp only[*,go_sem]) ⟨rfl,fu,hT.trans bk,Le.refl _,_,rfl,fv⟩).2
end Go.Proofs.YtpgcmoanfifglaaGreatDoor
end
section
namespace Go.Proofs.YtpgcmoanfifglaaGreatDoor
open Go Go.Sep Go.Proofs
set_option maxRecDepth 100000
set_option maxHeartbeats 4000000
def mT (u0:ak)(b:Int):Option ((List Int)×Int):=
 ag (gD u0 ([(gf b),k3])) fun a=>cond ((a.2 != 0)) (some (([]:(List Int)),a.2)) (ag (nG a.1.book ([([]:(List Int))])) fun c=>ag (oN a.1 b c) fun d=>ag (qk d) fun e=>some (e,0))
theorem yE {ro:Addr->Option Value}(L:c7 ro)(u0:ak){s1 g i j:Value}(D:bK ro u0 s1 g i j)(a:Int){r:((List Int)×Int)}(h:mT u0 a=some r):pH Tryz.prog 43 #[bv u0 s1 g i j,.int .i64 a] ro (fun v aM=>∃W,v= .tuple #[W,.int .i64 r.2]/\aC rI aM W r.1):=by
 unfold mT at h;have ba:=D.oc;simp only[bE] at ba;refine fE.go Tryz.func43 rfl Tryz.ntmps43 Tryz.results43 (by simp) fun Φ hJ A b5 hd hs=>?_;have ca:=hs 0;have k1:=hs 1;clear hs;refine ah hJ ?_;simp only[*,go_sem];refine aA fun w c bb=>?_;try simp only[au] at bb
 try simp only[*,go_sem]
 refine af hJ ?_;refine az hJ fun bc=>?_;refine aj hJ ?_;revert h;refine bS fun n bd h=>?_;simp only[*,go_sem];refine aA fun z X Y=>?_;have Z:=aP.cons Y bc;try simp only[au] at Y
 try simp only[*,go_sem]
 obtain ⟨B,M,ab⟩:=fO (b:=z) (o:=(.cells #[.func (.func 96) #[.int .i64 a] #[],.func (.func 97) #[] #[]] 127)) [] ((w,bk u0 s1 g i j)::[]) Z X (aE.cons c (aE.nil _));have ad:aC (cZ) (bR ro z (.cells #[.func (.func 96) #[.int .i64 a] #[],.func (.func 97) #[] #[]] 127)) (.slice (some ⟨z,0,none⟩) 2 2) [(gf a),k3]:=(aC.two (r:=(cZ)) (e:=127) (v:=.func (.func 96) #[.int .i64 a] #[]) (u:=.func (.func 97) #[] #[]) (x:=(gf a)) (y:=k3) (own:=[(z,.cells #[.func (.func 96) #[.int .i64 a] #[],.func (.func 97) #[] #[]] 127)]) X (by simp[lk]) rfl ⟨96,#[.int .i64 a],#[],rfl,⟨by simp only[go_sem],fun bj bl N _ _ _ _ _ O P Q R h=>by simp only[go_sem];exact vK a N ⟨O,P,Q,R⟩ h⟩⟩ ⟨97,#[],#[],rfl,⟨by simp only[go_sem],fun bj bl N _ _ _ _ _ O P Q R h=>by simp only[go_sem];exact G9 N ⟨O,P,Q,R⟩ h⟩⟩)
 generalize bR ro z (.cells #[.func (.func 96) #[.int .i64 a] #[],.func (.func 97) #[] #[]] 127)=cb at ad M B ab;refine gO hJ ab ?_;replace D:=D.mono B;replace c:=M.hd;replace L:=L.mono B;simp only[bp] at M;have bm:=aP.tl Z;refine b8 hJ _ (jy L u0 D ([(gf a),k3]) ad bd) fun v ae al ao k=>?_;obtain ⟨E,F,G,H,I,rfl,d,q⟩:=k;have bo:=d.oc;simp only[bE] at bo;have br:=q.oc;simp only[bE] at br;replace c:=ao.hd;simp only[bp] at ao;refine aK ?_;try simp only[*,go_sem]
 refine aA fun J f ar=>?_;have cd:=aP.cons ar bm;try simp only[au] at ar
 try simp only[*,go_sem]
 refine af hJ (ah hJ ?_);simp only[*,go_sem];revert h;refine jC hJ (by simp only[*,go_sem]) (fun bs h=>?_) fun bs h=>?_
 ·obtain rfl:=sI h;refine ah hJ ?_;simp only[*,go_sem];refine ay ?_;simp only[*,go_sem];exact ⟨_,(B).trans al,Le.sub (List.nil_sublist _),_,rfl,aC.nil _ _⟩
 refine aI hJ (af hJ ?_);refine az hJ fun bz=>?_;refine cQ hJ mixed 4 2 (by simp only[*,go_sem]) (by kernel_rfl) ?_;revert h;refine bS fun b0 b1 h=>?_;simp only[*,go_sem];refine aA fun C a0 a2=>?_;have a3:=aP.cons a2 bz;try simp only[au] at a2
 try simp only[*,go_sem]
 obtain ⟨m,K,a4⟩:=fO (b:=C) (o:=(.cells #[.slice none 0 0] 35)) [] ((J,kn n.1 E F G H I)::(w,bk u0 s1 g i j)::[]) a3 a0 (aE.cons f (aE.cons c (aE.nil _)));have a5:aC (rL rI) (bR ae C (.cells #[.slice none 0 0] 35)) (.slice (some ⟨C,0,none⟩) 1 1) [([]:(List Int))]:=(aC.one (r:=(rL rI)) (e:=35) (cs:=#[.slice none 0 0]) (x:=([]:(List Int))) (own:=[(C,.cells #[.slice none 0 0] 35)]) a0 (by simp[lk]) ⟨_,rfl,aC.nil _ _⟩)
 generalize bR ae C (.cells #[.slice none 0 0] 35)=cf at a5 K m a4;refine gO hJ a4 ?_;replace d:=d.mono m;replace q:=q.mono m;replace f:=K.hd;replace c:=K.tl.hd;simp only[bp] at K;have cl:=aP.tl a3;refine b8 hJ _ (AV n.1.book d ([([]:(List Int))]) a5 b1) fun v cy s S k=>?_;obtain ⟨cS,rfl,a6⟩:=k;replace d:=d.mono s;replace q:=q.mono s;replace f:=S.hd;replace c:=S.tl.hd;simp only[bp] at S;obtain ⟨d92,c0,rfl,da,db,-⟩:=id a6;have dd:=eR (l:=[(J,kn n.1 E F G H I),(w,bk u0 s1 g i j)]) (m.trans s) (aE.cons f (aE.cons c (aE.nil _)));refine ⟨by simp only[*,go_sem],?_⟩;refine lU ?_;revert h;refine bS fun b2 b3 h=>?_;try simp only[*,go_sem]
 refine ng _ (Dz n.1 d.e d.p d.y d.t q a b0 a6 b3) fun v df T U k=>?_;obtain ⟨dk,rfl,a7⟩:=k;replace f:=U.hd;replace c:=U.tl.hd;simp only[bp] at U;obtain ⟨d111,dp,rfl,dq,ds,-⟩:=id a7;have dt:=eR (l:=[(J,kn n.1 E F G H I),(w,bk u0 s1 g i j)]) ((m.trans s).trans T) (aE.cons f (aE.cons c (aE.nil _)));refine ⟨by simp only[*,go_sem],?_⟩;refine lU ?_;revert h;refine bS fun du b4 h=>?_;obtain rfl:=sI h;try simp only[*,go_sem]
 refine b8 hJ _ (He b2 a7 b4) fun v dv a8 V k=>?_;obtain ⟨dC,rfl,a9⟩:=k;replace f:=V.hd;replace c:=V.tl.hd;simp only[bp] at V;obtain ⟨d124,dE,rfl,dT,ea,-⟩:=id a9;have eb:=eR (l:=[(J,kn n.1 E F G H I),(w,bk u0 s1 g i j)]) (((m.trans s).trans T).trans a8) (aE.cons f (aE.cons c (aE.nil _)));refine ⟨by simp only[*,go_sem],?_⟩;refine lU ?_;try simp only[*,go_sem]
 refine ay ?_;simp only[*,go_sem];exact ⟨_,(((((B).trans al).trans m).trans s).trans T).trans a8,Le.sub (List.nil_sublist _),_,rfl,a9⟩
def yF (u0:ak)(c:Int)(a:(cR×Int))(st:(Bool×Int×(List (List Int))×Int)):Option (Fl (Bool×Int×(List (List Int))×Int) ((List Int)×Bool×Int)):=
 cond (decide (st.2.2.2<(IntKind.i64.wrap ((IntKind.i64.wrap (3 - (u0.props.length:Int)))+1)))) (ag (oN a.1 c st.2.2.1) fun b=>cond (decide (0<(b.length:Int))) (ag (bf b 0) fun d=>some (.rt (d,true,0))) (ag (nG a.1.book st.2.2.1) fun e=>some (.nx (st.1,st.2.1,e,(IntKind.i64.wrap (st.2.2.2+1)))))) (some (.bk (st.1,st.2.1,st.2.2.1,st.2.2.2)))
def yG (u0:ak)(b:Int):Option ((List Int)×Bool×Int):=
 ag (gD u0 ([(gf b)])) fun a=>cond ((a.2 != 0)) (some (([]:(List Int)),false,a.2)) (ag (aR (yF u0 b a) fu (false,a.2,([([]:(List Int))]),0)) fun o=>aB o (fun c=>some (([]:(List Int)),false,0)) (fun _ _=>none) (fun r=>some r))
theorem K3 {ro:Addr->Option Value}(K:c7 ro)(u0:ak){s1 S k l:Value}(n:bK ro u0 s1 S k l)(a:Int){r:((List Int)×Bool×Int)}(h:yG u0 a=some r):pH Tryz.prog 47 #[bv u0 s1 S k l,.int .i64 a] ro (fun v aM=>∃T,v= .tuple #[T,.bool r.2.1,.int .i64 r.2.2]/\aC rI aM T r.1):=by
 obtain ⟨d10,L,rfl,ed,eh,-⟩:=id n.p;unfold yG at h;have bm:=n.oc;simp only[bE] at bm;refine fE.go Tryz.func47 rfl Tryz.ntmps47 Tryz.results47 (by simp) fun Φ hJ A bo hd hs=>?_;have br:=hs 0;have k1:=hs 1;clear hs;refine ah hJ ?_;simp only[*,go_sem];refine aA fun M C bs=>?_;try simp only[au] at bs
 try simp only[*,go_sem]
 refine af hJ ?_;refine az hJ fun bz=>?_;refine aj hJ ?_;revert h;refine bS fun f b0 h=>?_;simp only[*,go_sem];refine aA fun q U V=>?_;have W:=aP.cons V bz;try simp only[au] at V
 try simp only[*,go_sem]
 obtain ⟨g,N,X⟩:=fO (b:=q) (o:=(.cells #[.func (.func 96) #[.int .i64 a] #[]] 127)) [] ((M,bk u0 s1 (sl d10 u0.props L) k l)::[]) W U (aE.cons C (aE.nil _));have Y:aC (cZ) (bR ro q (.cells #[.func (.func 96) #[.int .i64 a] #[]] 127)) (.slice (some ⟨q,0,none⟩) 1 1) [(gf a)]:=(aC.one (r:=(cZ)) (e:=127) (cs:=#[.func (.func 96) #[.int .i64 a] #[]]) (x:=(gf a)) (own:=[(q,.cells #[.func (.func 96) #[.int .i64 a] #[]] 127)]) U (by simp[lk]) ⟨96,#[.int .i64 a],#[],rfl,⟨by simp only[go_sem],fun et ev b1 _ _ _ _ _ b2 b3 b4 b5 h=>by simp only[go_sem];exact vK a b1 ⟨b2,b3,b4,b5⟩ h⟩⟩)
 generalize bR ro q (.cells #[.func (.func 96) #[.int .i64 a] #[]] 127)=eQ at Y N g X;refine gO hJ X ?_;replace n:=n.mono g;replace C:=N.hd;replace K:=K.mono g;simp only[bp] at N;have ca:=aP.tl W;refine b8 hJ _ (jy K u0 n ([(gf a)]) Y b0) fun v Z O ab s=>?_;obtain ⟨ad,ae,al,ao,ar,rfl,c,i⟩:=s;have cb:=c.oc;simp only[bE] at cb;have cd:=i.oc;simp only[bE] at cd;replace C:=ab.hd;simp only[bp] at ab;refine aK ?_;try simp only[*,go_sem]
 refine aA fun a0 cf a2=>?_;have eS:=aP.cons a2 ca;try simp only[au] at a2
 try simp only[*,go_sem]
 refine af hJ (ah hJ ?_);simp only[*,go_sem];revert h;refine jC hJ (by simp only[*,go_sem]) (fun cl h=>?_) fun cl h=>?_
 ·obtain rfl:=sI h;refine ah hJ ?_;simp only[*,go_sem];refine ay ?_;simp only[*,go_sem];exact ⟨_,(g).trans O,Le.sub (List.nil_sublist _),_,rfl,aC.nil _ _⟩
 refine aI hJ (af hJ ?_);refine az hJ fun cy=>?_;refine aj hJ ?_;simp only[*,go_sem];refine aA fun j a3 a4=>?_;have e0:=aP.cons a4 cy;try simp only[au] at a4
 try simp only[*,go_sem]
 refine af hJ (ah hJ ?_);simp only[*,go_sem];refine az hJ fun a5=>?_;obtain ⟨u,a6,a7⟩:=fO (b:=j) (o:=(.cells #[.slice none 0 0] 35)) [] ((a0,kn f.1 ad ae al ao ar)::(M,bk u0 s1 (sl d10 u0.props L) k l)::[]) a5 a3 (aE.cons cf (aE.cons C (aE.nil _)));clear a5;have P:aC (rL rI) (bR Z j (.cells #[.slice none 0 0] 35)) (.slice (some ⟨j,0,none⟩) 1 1) [([]:(List Int))]:=(aC.one (r:=(rL rI)) (e:=35) (cs:=#[.slice none 0 0]) (x:=([]:(List Int))) (own:=[(j,.cells #[.slice none 0 0] 35)]) a3 (by simp[lk]) ⟨_,rfl,aC.nil _ _⟩)
 generalize bR Z j (.cells #[.slice none 0 0] 35)=a8 at u a6 a7 P;refine cG hJ a7 ?_;obtain ⟨e1,e2,-⟩:=P.op;replace c:=c.mono u;replace i:=i.mono u;simp only[bp] at a6;refine aN hJ ?_;revert h;refine bS fun cS D a9=>?_;refine bQ hJ [4,5,6,8,9,27,28,29,30,31,32,33,34,35,36,37,38,39,40,41,42,43] (fun m E F'=>∃(F:Addr->Option Value) (d98:Option Addr) (Q:Nat) (G:Bool) (H:Int) (d:(List (List Int))) (I:Int),aR (yF u0 a f) m (G,H,d,I)=some cS/\F'=⟨F,(a0,kn f.1 ad ae al ao ar)::(M,bk u0 s1 (sl d10 u0.props L) k l)::[]⟩/\Ext a8 F/\aC (rL rI) F (.slice d98 d.length Q) d/\slot E 5= .bool G/\slot E 6= .int .i64 H/\slot E 8= .slice d98 d.length Q/\slot E 27= .int .i64 I) fu ?_ ?_
 ·refine ⟨a8,(some ⟨j,0,none⟩),1,false,f.2,([([]:(List Int))]),0,D,rfl,Ext.refl _,P,?_⟩;simp only[*,go_sem]
 rintro R e3 F' ba ⟨F,d98,Q,G,H,d,I,D,rfl,w,z,fa,fb,fg,fi⟩;refine fP hJ fun _ c0=>?_;replace c:=c.mono w;replace i:=i.mono w;simp only[bp] at c0;obtain ⟨fp,fr,-⟩:=z.op;obtain ⟨da,db,dd⟩:=ba.pick [1,7,26] (by decide);simp only[*,go_sem] at da db dd;clear ba bo hd br k1;obtain _|R:=R
 ·exact absurd D (by simp only[aR,reduceCtorEq,not_false_eq_true])
 revert D;refine bS fun fs h B=>?_;unfold yF at h;try dsimp only at h
 refine ah hJ ?_;simp only[*,go_sem];refine af hJ ?_;revert h;refine jC hJ (by simp only[*,go_sem]) (fun df h=>?_) fun df h=>?_
 ·refine aI hJ (af hJ ?_);refine aN hJ (af hJ ?_);refine ah hJ ?_;revert h;refine bS fun ft dk h=>?_;simp only[*,go_sem];refine ng _ (Dz f.1 c.e c.p c.y c.t i a d z dk) fun v fv J dp s=>?_;obtain ⟨fw,rfl,bb⟩:=s;replace z:=z.mono J;replace c:=c.mono J;simp only[bp] at dp;obtain ⟨d121,fx,rfl,gg,gl,-⟩:=id bb;refine aK ?_;try simp only[*,go_sem]
  refine ah hJ ?_;simp only[*,go_sem];revert h;refine jC hJ (by simp only[*,go_sem]) (fun dq h=>?_) fun dq h=>?_
  ·refine ah hJ ?_;revert h;refine bS fun gn ds h=>?_;obtain rfl:=sI h;obtain ⟨gp,gB,bc⟩:=cH ds;obtain ⟨gC,gM,dt,du,bd⟩:=bb.el _ _ bc;obtain ⟨gT,rfl,bj⟩:=du;obtain ⟨d130,gV,rfl,g0,g1,g2⟩:=id bj;cases dt;have dv:=bd 0 _ rfl;simp only[go_sem] at dv;clear bd bc;(try simp only[*,go_sem]);obtain rfl:=sI B;clear B;have h:=a9;dsimp only[aB] at h;obtain rfl:=sI h;refine ay ?_;simp only[*,go_sem];exact ⟨_,((((g).trans O).trans u).trans w).trans J,Le.sub (List.nil_sublist _),_,rfl,bj⟩
  refine aI hJ (aj hJ ?_);revert h;refine bS fun dC dE h=>?_;obtain rfl:=sI h;simp only[*,go_sem];refine b8 hJ _ (AV f.1.book c d z dE) fun v dT ea eb s=>?_;obtain ⟨g3,rfl,bl⟩:=s;simp only[bp] at eb;obtain ⟨d144,ec,rfl,g4,ha,-⟩:=id bl;refine aK ?_;try simp only[*,go_sem]
  refine aj hJ ?_;simp only[*,go_sem];refine ⟨R,Nat.lt_succ_self _,_,Le.sub (List.Sublist.refl _),dT,d144,ec,G,H,dC,(IntKind.i64.wrap (I+1)),B,rfl,(w.trans (J.trans ea)),bl,?_⟩;simp only[*,go_sem]
 obtain rfl:=sI h;refine bJ ?_;simp only[go_sem];obtain rfl:=sI B;clear B;have h:=a9;dsimp only[aB] at h;obtain rfl:=sI h;refine ah hJ ?_;simp only[*,go_sem];refine ay ?_;simp only[*,go_sem];exact ⟨_,(((g).trans O).trans u).trans w,Le.sub (List.nil_sublist _),_,rfl,aC.nil _ _⟩
def yH (a:(Int×Int×Int))(e:(ak×Int))(b:((List Int)×Int))(f:(ak×Int))(g:(ak×Int))(c:(Int×Int))(d:((List Int)×Int)):Option Bool:=
 cond ((a.2.2==0)) (cond ((e.2==0)) (cond ((b.2==0)) (cond ((f.2==9)) (cond ((g.2==0)) (cond ((c.2==0)) (cond ((d.2==0)) (cond ((a.1==0)) (cond ((a.2.1==2)) (ag (mm b.1 ([11,12])) fun h=>cond (h) (cond ((c.1==2)) (ag (mm d.1 ([1])) fun i=>some i) (some false)) (some false)) (some false)) (some false)) (some false)) (some false)) (some false)) (some false)) (some false)) (some false)) (some false)
def yI (a:ak):Option Bool:=
 ag (wS a) fun d=>ag (mD 0 true) fun e=>ag (s0 a e) fun b=>ag (mw b.1 0) fun f=>ag (mD 1 true) fun g=>ag (s0 a g) fun h=>ag (qm 12 12) fun i=>ag (wT a 0 i) fun c=>ag (qi c.1) fun j=>ag (mD 0 true) fun k=>ag (qn a k) fun l=>ag (mD 1 true) fun m=>ag (qn l m) fun n=>ag (mD 0 false) fun o=>ag (qn n o) fun p=>ag (wX p) fun q=>yH d b f h c j q
def yJ (d:ak)(f:(Int×Int))(g:(Int×Int))(h:(Int×Int))(i:(Int×Int))(b:(Int×an×Int))(c:(Int×an×Int))(a:(an×an×Bool×Int)):Option Bool:=
 ag (mT d 2) fun j=>ag (yG d 2) fun e=>cond ((f.2 != 0)) (some false) (cond ((g.2 != 0)) (some false) (cond ((h.2 != 0)) (some false) (cond ((i.2 != 0)) (some false) (cond ((b.2.2 != 0)) (some false) (cond ((c.2.2 != 0)) (some false) (cond ((a.2.2.2 != 0)) (some false) (cond ((j.2 != 0)) (some false) (cond ((e.2.2 != 0)) (some false) (cond ((f.1 != 0)) (some false) (cond ((g.1 != 2)) (some false) (cond ((h.1 != 0)) (some false) (cond ((i.1 != 1)) (some false) (cond ((b.1 != 0)) (some false) (ag (gj 1 1) fun k=>cond (!((b.2.1.num==k.num)&&(b.2.1.den==k.den))) (some false) (cond ((c.1 != (-1))) (some false) (ag (gj 0 1) fun l=>cond (!((c.2.1.num==l.num)&&(c.2.1.den==l.den))) (some false) (cond (!a.2.2.1) (some false) (ag (gj 3 2) fun m=>cond (!((a.1.num==m.num)&&(a.1.den==m.den))) (some false) (ag (gj 3 2) fun n=>cond (!((a.2.1.num==n.num)&&(a.2.1.den==n.den))) (some false) (ag (mm j.1 ([11,12,13,14])) fun o=>cond (!o) (some false) (cond (!e.2.1) (some false) (ag (mm e.1 ([11])) fun p=>cond (!p) (some false) (yI d)))))))))))))))))))))))
def yK (a:ak)(b:ak):Option Bool:=
 ag (sY a 0) fun c=>ag (sY a 1) fun d=>ag (qi a) fun e=>ag (qi b) fun f=>ag (s6 a) fun g=>ag (s6 b) fun h=>ag (wZ a) fun i=>yJ a c d e f g h i
def yL (b:ak)(s:ak)(g:(an×Int))(c:(Int×an×Int))(h:(an×Int))(d:(an×Bool×Int))(e:(an×Bool×Int))(f:(an×Bool×Int)):Option Bool:=
 ag (nO b) fun i=>ag (mw b 0) fun j=>ag (w8 b 0) fun a=>cond ((g.2 != 0)) (some false) (cond ((c.2.2 != 0)) (some false) (cond ((h.2 != 0)) (some false) (cond ((d.2.2 != 0)) (some false) (cond ((e.2.2 != 0)) (some false) (cond ((f.2.2 != 0)) (some false) (cond ((i.2 != 0)) (some false) (cond ((j.2 != 0)) (some false) (cond ((a.2.2 != 0)) (some false) (ag (gj 13 4) fun k=>cond (!((g.1.num==k.num)&&(g.1.den==k.den))) (some false) (cond ((c.1 != 2)) (some false) (ag (gj 11 8) fun l=>cond (!((c.2.1.num==l.num)&&(c.2.1.den==l.den))) (some false) (ag (gj 1 4) fun m=>cond (!((h.1.num==m.num)&&(h.1.den==m.den))) (some false) (ag (gj 24 13) fun n=>cond (!((d.1.num==n.num)&&(d.1.den==n.den))) (some false) (cond (!d.2.1) (some false) (ag (gj 2 13) fun o=>cond (!((e.1.num==o.num)&&(e.1.den==o.den))) (some false) (cond (e.2.1) (some false) (ag (gj 1 1) fun p=>cond (!((f.1.num==p.num)&&(f.1.den==p.den))) (some false) (cond (!f.2.1) (some false) (cond ((i.1 != 3)) (some false) (ag (mm j.1 ([10,11,12])) fun t=>cond (!t) (some false) (ag (gj 1 4) fun q=>cond (!((a.1.num==q.num)&&(a.1.den==q.den))) (some false) (ag (gj 1 1) fun r=>cond (!((a.2.1.num==r.num)&&(a.2.1.den==r.den))) (some false) (yK b s)))))))))))))))))))))))
def lE :Option Bool:=
 ag (xe) fun a=>ag (n4 a ([11]) 2) fun b=>ag (vU a 5) fun c=>ag (j9 2 11) fun d=>ag (vV a d) fun e=>ag (j9 2 10) fun f=>ag (vW a f) fun g=>ag (j9 2 12) fun h=>ag (vX b h) fun i=>ag (j9 2 12) fun j=>ag (mq b j) fun k=>ag (j9 2 12) fun l=>ag (mq a l) fun m=>yL a b c e g i k m
theorem qX:lE=some true:=by decide+kernel
set_option maxHeartbeats 40000000 in
theorem DC {Φ:Goroutine->aa->Prop}(hJ:Closed Tryz.prog true (dZ Tryz.prog Φ)){A:Act}{ro:Addr->Option Value}(a:(Int×Int×Int))(f:(ak×Int))(b:((List Int)×Int))(g:(ak×Int))(i:(ak×Int))(d:(Int×Int))(c:((List Int)×Int))(Q:c7 ro){j:Value}(k:aC rI ro j b.1){l:Value}(m:aC rI ro l c.1)(q:sz A=439/\A.defers=[]/\slot A 0= .bool false/\slot A 4= .int .i64 a.2.2/\slot A 7= .int .i64 f.2/\slot A 9= .int .i64 b.2/\slot A 12= .int .i64 g.2/\slot A 15= .int .i64 i.2/\slot A 18= .int .i64 d.2/\slot A 20= .int .i64 c.2/\slot A 21=j/\slot A 28= .int .i64 d.1/\slot A 40= .int .i64 a.1/\slot A 41= .int .i64 a.2.1/\slot A 43=l)(h:yH a f b g i d c=some true):Wp (dZ Tryz.prog Φ) (bx (bx (bx (bx (bx (bx (bx (bx (bx (bx (bx (bx (bx (bx (bx (bx (bx (bx (bx (bx (bx (bx (bx (bx (bx (bx (bx (bx (bx (bx (bx (bx (Tryz.f13.body.getD .skip))))))))))))))))))))))))))))))))) (iL Tryz.prog [.tmp 0] (fun v _=>v= .bool true)) A ⟨ro,[]⟩:=by
 obtain ⟨R,hd,S,T,U,V,W,X,Y,Z,ab,ad,ae,al,ao⟩:=q;obtain ⟨ar,a0,rfl,a2,a3,-⟩:=id k;obtain ⟨a4,a5,rfl,a6,a7,-⟩:=id m;unfold yH at h;refine fP hJ fun s t=>?_;have u:=s.nd;try simp only[keys,List.map_cons,List.map_nil,List.map_append,List.cons_append,List.nil_append,List.nodup_cons,List.mem_cons,List.mem_append,List.not_mem_nil,or_false,not_or] at u
 simp only[bp] at t;refine af hJ ?_;refine az hJ fun w=>?_;refine eu hJ fun K n=>?_;revert h;refine cS (fun y h=>?_) fun y h=>?_
 ·revert h;refine cS (fun z h=>?_) fun z h=>?_
  ·revert h;refine cS (fun B h=>?_) fun B h=>?_
   ·revert h;refine cS (fun C h=>?_) fun C h=>?_
    ·revert h;refine cS (fun D h=>?_) fun D h=>?_
     ·revert h;refine cS (fun E h=>?_) fun E h=>?_
      ·revert h;refine cS (fun F h=>?_) fun F h=>?_
       ·revert h;refine cS (fun G h=>?_) fun G h=>?_
        ·revert h;refine cS (fun H h=>?_) fun H h=>?_
         ·revert h;refine bS fun a8 I h=>?_;(try simp (maxSteps:=9^9) only[*,go_sem]);refine aA fun a9 J o=>?_;have L:=aP.cons o w;try simp only[au] at o
          (try simp (maxSteps:=9^9) only[*,go_sem]);refine bn hJ _ (p7 b.1 (k.mono aT) ([11,12]) ((aC.flat (r:=rI) (e:=3) (cs:=#[.int .i64 11,.int .i64 12]) (fun x=>[.int .i64 x]) ([11,12]) (fun _=>rfl) J rfl (by simp)).mono (jq (by simp (maxSteps:=9^9) only[*,go_sem]))) I) (aK ?_);revert h;refine cS (fun M h=>?_) fun M h=>?_
          ·revert h;refine cS (fun N h=>?_) fun N h=>?_
           ·revert h;refine bS fun ba O h=>?_;obtain rfl:=sI h;(try simp (maxSteps:=9^9) only[*,go_sem]);refine aA fun bb P p=>?_;have bc:=aP.cons p L;try simp only[au] at p
            (try simp (maxSteps:=9^9) only[*,go_sem]);refine bn hJ _ (p7 c.1 (m.mono aT) ([1]) ((aC.flat (r:=rI) (e:=3) (cs:=#[.int .i64 1]) (fun x=>[.int .i64 x]) ([1]) (fun _=>rfl) P rfl (by simp)).mono (jq (by simp (maxSteps:=9^9) only[*,go_sem]))) O) (aK ?_);(try simp (maxSteps:=9^9) only[*,go_sem]);refine n.go ?_;clear n K;refine ay ?_;try simp only[*,go_sem]
           cases h
          cases h
         cases h
        cases h
       cases h
      cases h
     cases h
    cases h
   cases h
  cases h
 cases h
set_option maxHeartbeats 40000000 in
theorem K4 {Φ:Goroutine->aa->Prop}(hJ:Closed Tryz.prog true (dZ Tryz.prog Φ)){A:Act}{ro:Addr->Option Value}(d:ak)(eQ:((List Int)×Int))(eS:(Int×Int))(e0:(Int×Int))(b0:(Int×Int))(e1:(Int×Int))(e2:(Int×an×Int))(e3:(Int×an×Int))(fa:(an×an×Bool×Int)){i:Nat}(a:c7 ro){b1:Value}(fb:aC rI ro b1 eQ.1){j k m n:Value}(c:bK ro d j k m n)(fg:sz A=439/\A.defers=[]/\slot A 0= .bool false/\slot A 1= .pointer (some ⟨i,0,none⟩)/\slot A 4= .int .i64 eS.2/\slot A 7= .int .i64 e0.2/\slot A 9= .int .i64 b0.2/\slot A 12= .int .i64 e1.2/\slot A 15= .int .i64 e2.2.2/\slot A 18= .int .i64 e3.2.2/\slot A 20= .int .i64 fa.2.2.2/\slot A 21=b1/\slot A 28= .int .i64 b0.1)(h:yI d=some true):Wp (dZ Tryz.prog Φ) (bx (bx (bx (bx (bx (bx (bx (bx (bx (bx (bx (bx (bx (bx (bx (bx (bx (bx (bx (bx (bx (bx (bx (bx (bx (Tryz.f13.body.getD .skip)))))))))))))))))))))))))) (iL Tryz.prog [.tmp 0] (fun v _=>v= .bool true)) A ⟨ro,(i,bk d j k m n)::[]⟩:=by
 obtain ⟨b2,hd,b3,k1,b4,b5,ca,cb,cd,cf,cl,cy,cS⟩:=fg;obtain ⟨d125,j1,rfl,j2,kh,-⟩:=id fb;unfold yI at h;have fi:=c.oc;simp only[bE] at fi;refine fP hJ fun a2 c0=>?_;have fp:=a2.nd;try simp only[keys,List.map_cons,List.map_nil,List.map_append,List.cons_append,List.nil_append,List.nodup_cons,List.mem_cons,List.mem_append,List.not_mem_nil,or_false,not_or] at fp
 replace g:=c0.hd;simp only[bp] at c0;refine af hJ (eu hJ fun K b=>?_);revert h;refine bS fun da fr h=>?_;try simp (maxSteps:=9^9) only[*,go_sem]
 refine bn hJ _ (G8 (a.mono aT) d (c.mono aT) fr) (aK ?_);try simp (maxSteps:=9^9) only[*,go_sem]
 refine b.go ?_;clear b K;refine af hJ ?_;refine jZ hJ mixed [] (.rd 0 (.rd 1 (.two 2 (.pure 3 (.pure 4 (.pure 5 (.one 6 (.one 7 (.pure 8 .done)))))) 6 (.one 2 (.pure 3 (.pure 4 (.pure 5 (.one 7 (.pure 8 .done))))))))) ⟨ro,[(i,bk d j k m n)]⟩ (by simp (maxSteps:=9^9) only[*,go_sem]) (by kernel_rfl) fun K b=>?_;revert h;refine bS fun db fs h=>?_;try simp (maxSteps:=9^9) only[*,go_sem]
 refine ⟨_,bD hJ fun F u=>kg 0 true fs,bT ?_⟩;try simp (maxSteps:=9^9) only[*,go_sem]
 refine jY ?_ ?_
 ·revert h;refine bS fun Z ft h=>?_;try simp (maxSteps:=9^9) only[*,go_sem]
  refine b8 hJ _ (s3 a d c db ft) fun v kj a3 dd f=>?_;obtain ⟨df,dk,dp,dq,rfl,ds⟩:=f;have fu:=ds.oc;simp only[bE] at fu;replace c:=c.mono a3;replace g:=dd.hd;replace a:=a.mono a3;simp only[bp] at dd;have kk:=eR (l:=[(i,bk d j k m n)]) a3 (aE.cons g (aE.nil _));refine ⟨by simp (maxSteps:=9^9) only[*,go_sem],?_⟩;refine bT ?_;try simp (maxSteps:=9^9) only[*,go_sem]
  refine aA fun w s dt=>?_;have kl:=aP.cons dt a2;try simp only[au] at dt
  try simp (maxSteps:=9^9) only[*,go_sem]
  refine b.go ?_;clear b K;refine af hJ (eu hJ fun K b=>?_);revert h;refine bS fun fv fw h=>?_;try simp (maxSteps:=9^9) only[*,go_sem]
  refine b8 hJ _ (s5 a Z.1 ds 0 fw) fun v fx du a4 f=>?_;obtain ⟨km,rfl,o⟩:=f;have gg:=o.oc;simp only[bE] at gg;replace c:=c.mono du;replace s:=a4.hd;replace g:=a4.tl.hd;replace a:=a.mono du;simp only[bp] at a4;refine aK ?_;try simp (maxSteps:=9^9) only[*,go_sem]
  refine b.go ?_;clear b K;refine af hJ ?_;refine jZ hJ mixed [] (.rd 0 (.rd 1 (.one 2 (.pure 3 (.pure 4 (.pure 5 (.pure 6 .done))))))) ⟨fx,[(w,bk Z.1 df dk dp dq),(i,bk d j k m n)]⟩ (by simp (maxSteps:=9^9) only[*,go_sem]) (by kernel_rfl) fun K b=>?_;revert h;refine bS fun gl gn h=>?_;try simp (maxSteps:=9^9) only[*,go_sem]
  refine ⟨_,bD hJ fun F u=>kg 1 true gn,bT ?_⟩;revert h;refine bS fun gp gB h=>?_;try simp (maxSteps:=9^9) only[*,go_sem]
  refine b8 hJ _ (s3 a d c gl gB) fun v gC ab a5 f=>?_;obtain ⟨kn,kp,ks,kt,rfl,N⟩:=f;have gM:=N.oc;simp only[bE] at gM;replace o:=o.mono ab;replace c:=c.mono ab;replace s:=a5.hd;replace g:=a5.tl.hd;replace a:=a.mono ab;simp only[bp] at a5;obtain ⟨kv,kx,rfl,ky,k0,-⟩:=id N.e;obtain ⟨k2,lb,rfl,lh,lj,-⟩:=id N.p;obtain ⟨lk,ll,rfl,ln,lo,-⟩:=id N.y;obtain ⟨lr,lv,rfl,lx,ly,-⟩:=id N.t;have lL:=eR (l:=[(w,bk Z.1 df dk dp dq),(i,bk d j k m n)]) ab (aE.cons s (aE.cons g (aE.nil _)));refine ⟨by simp (maxSteps:=9^9) only[*,go_sem],?_⟩;refine bT ?_;try simp (maxSteps:=9^9) only[*,go_sem]
  refine b.go ?_;clear b K;refine af hJ ?_;refine ff [0,1,4,7,9,12,15,18,20,21,28,40,41,42] fun l1 gT gV g0=>?_;simp only[*,go_sem] at gT gV g0;clear b2 hd b3 k1 b4 b5 ca cb cd cf cl cy cS;refine jZ hJ mixed [] (.rd 0 (.rd 1 (.one 2 (.pure 3 (.pure 4 (.pure 5 (.one 6 (.pure 7 .done)))))))) ⟨gC,[(i,bk d j k m n)]⟩ (by simp (maxSteps:=9^9) only[*,go_sem]) (by kernel_rfl) fun K b=>?_;revert h;refine bS fun g1 g2 h=>?_;try simp (maxSteps:=9^9) only[*,go_sem]
  refine ⟨_,bD hJ fun F u=>s7 12 12 g2,bT ?_⟩;revert h;refine bS fun x g3 h=>?_;try simp (maxSteps:=9^9) only[*,go_sem]
  refine b8 hJ _ (A1 a d c 0 g1 g3) fun v g4 ad a6 f=>?_;obtain ⟨O,P,Q,R,rfl,dv⟩:=f;have ha:=dv.oc;simp only[bE] at ha;replace o:=o.mono ad;replace c:=c.mono ad;replace s:=a6.hd;replace g:=a6.tl.hd;replace a:=a.mono ad;simp only[bp] at a6;have l2:=eR (l:=[(i,bk d j k m n)]) ad (aE.cons g (aE.nil _));refine ⟨by simp (maxSteps:=9^9) only[*,go_sem],?_⟩;refine bT ?_;try simp (maxSteps:=9^9) only[*,go_sem]
  refine b.go ?_;clear b K;refine af hJ (eu hJ fun K b=>?_);revert h;refine bS fun hc hf h=>?_;try simp (maxSteps:=9^9) only[*,go_sem]
  refine bn hJ _ (sZ (a.mono aT) x.1 (dv.mono aT) hf) (aK ?_);try simp (maxSteps:=9^9) only[*,go_sem]
  refine b.go ?_;clear b K;refine af hJ ?_;refine jZ hJ mixed [] (.rd 0 (.rd 1 (.one 2 (.rd 3 (.one 4 (.rd 5 (.one 6 (.one 7 (.pure 8 (.pure 9 (.pure 10 (.pure 11 (.pure 12 .done))))))))))))) ⟨g4,[(w,bk x.1 O P Q R),(i,bk d j k m n)]⟩ (by simp (maxSteps:=9^9) only[*,go_sem]) (by kernel_rfl) fun K b=>?_;revert h;refine bS fun hg hh h=>?_;try simp (maxSteps:=9^9) only[*,go_sem]
  refine ⟨_,bD hJ fun F u=>kg 0 true hh,bT ?_⟩;revert h;refine bS fun hi hj h=>?_;try simp (maxSteps:=9^9) only[*,go_sem]
  refine b8 hJ _ (nW d c hg hj) fun v l3 z a7 f=>?_;obtain ⟨l4,ma,mf,mi,rfl,D⟩:=f;have hk:=D.oc;simp only[bE] at hk;replace o:=o.mono z;replace c:=c.mono z;replace s:=a7.hd;replace g:=a7.tl.hd;replace a:=a.mono z;simp only[bp] at a7;obtain ⟨ml,mn,rfl,mr,mx,-⟩:=id D.e;obtain ⟨my,m1,rfl,m2,na,-⟩:=id D.p;obtain ⟨nb,nf,rfl,nm,nn,-⟩:=id D.y;obtain ⟨np,ns,rfl,nx,nz,-⟩:=id D.t;have nA:=eR (l:=[(w,bk x.1 O P Q R),(i,bk d j k m n)]) z (aE.cons s (aE.cons g (aE.nil _)));refine ⟨by simp (maxSteps:=9^9) only[*,go_sem],?_⟩;refine bT ?_;revert h;refine bS fun hl hn h=>?_;try simp (maxSteps:=9^9) only[*,go_sem]
  refine ⟨_,bD hJ fun F u=>kg 1 true hn,bT ?_⟩;revert h;refine bS fun ho hp h=>?_;try simp (maxSteps:=9^9) only[*,go_sem]
  refine b8 hJ _ (nW hi D hl hp) fun v nH E a8 f=>?_;obtain ⟨nI,nK,nQ,nR,rfl,G⟩:=f;have hq:=G.oc;simp only[bE] at hq;replace o:=o.mono E;replace c:=c.mono E;replace s:=a8.hd;replace g:=a8.tl.hd;replace a:=a.mono E;simp only[bp] at a8;obtain ⟨nT,nV,rfl,nX,nY,-⟩:=id G.e;obtain ⟨n0,n1,rfl,n2,n3,-⟩:=id G.p;obtain ⟨oi,oj,rfl,ox,oy,-⟩:=id G.y;obtain ⟨o0,o1,rfl,o2,o4,-⟩:=id G.t;have pa:=eR (l:=[(w,bk x.1 O P Q R),(i,bk d j k m n)]) (z.trans E) (aE.cons s (aE.cons g (aE.nil _)));refine ⟨by simp (maxSteps:=9^9) only[*,go_sem],?_⟩;refine bT ?_;revert h;refine bS fun hr hs h=>?_;try simp (maxSteps:=9^9) only[*,go_sem]
  refine ⟨_,bD hJ fun F u=>kg 0 false hs,bT ?_⟩;revert h;refine bS fun ht hv h=>?_;try simp (maxSteps:=9^9) only[*,go_sem]
  refine b8 hJ _ (nW ho G hr hv) fun v pb S a9 f=>?_;obtain ⟨pd,pf,ph,pj,rfl,H⟩:=f;have hx:=H.oc;simp only[bE] at hx;replace o:=o.mono S;replace c:=c.mono S;replace s:=a9.hd;replace g:=a9.tl.hd;replace a:=a.mono S;simp only[bp] at a9;obtain ⟨pk,po,rfl,pr,ps,-⟩:=id H.e;obtain ⟨pt,pv,rfl,pw,px,-⟩:=id H.p;obtain ⟨py,pA,rfl,pB,pC,-⟩:=id H.y;obtain ⟨pD,pL,rfl,pT,p0,-⟩:=id H.t;have p1:=eR (l:=[(w,bk x.1 O P Q R),(i,bk d j k m n)]) ((z.trans E).trans S) (aE.cons s (aE.cons g (aE.nil _)));refine ⟨by simp (maxSteps:=9^9) only[*,go_sem],?_⟩;refine bT ?_;revert h;refine bS fun hy hz h=>?_;try simp (maxSteps:=9^9) only[*,go_sem]
  refine b8 hJ _ (A4 a ht H hz) fun v q0 ae ba f=>?_;obtain ⟨q1,rfl,dC⟩:=f;replace o:=o.mono ae;replace c:=c.mono ae;replace s:=ba.hd;replace g:=ba.tl.hd;replace a:=a.mono ae;simp only[bp] at ba;obtain ⟨ra,rb,rfl,re,rh,-⟩:=id dC;have rk:=eR (l:=[(w,bk x.1 O P Q R),(i,bk d j k m n)]) (((z.trans E).trans S).trans ae) (aE.cons s (aE.cons g (aE.nil _)));refine ⟨by simp (maxSteps:=9^9) only[*,go_sem],?_⟩;refine bT ?_;try simp (maxSteps:=9^9) only[*,go_sem]
  refine b.go ?_;clear b K;show Wp _ _ _ _ _;exact cG hJ (Le.sub (.cons _ (.cons _ (List.Sublist.refl _)))) (DC hJ da Z fv gp x hc hy a o dC (by simp (maxSteps:=9^9) only[*,go_sem]) h)
 revert h;refine bS fun al hA h=>?_;try simp (maxSteps:=9^9) only[*,go_sem]
 refine aA fun B r dE=>?_;have rl:=aP.cons dE a2;try simp only[au] at dE
 try simp (maxSteps:=9^9) only[*,go_sem]
 refine b8 hJ _ (s3 a d c db hA) fun v rn bb bc f=>?_;obtain ⟨dT,ea,eb,ec,rfl,ed⟩:=f;have hB:=ed.oc;simp only[bE] at hB;replace c:=c.mono bb;replace r:=bc.hd;replace g:=bc.tl.hd;replace a:=a.mono bb;simp only[bp] at bc;have rp:=eR (l:=[(i,bk d j k m n)]) bb (aE.cons g (aE.nil _));refine ⟨by simp (maxSteps:=9^9) only[*,go_sem],?_⟩;refine bT ?_;try simp (maxSteps:=9^9) only[*,go_sem]
 refine b.go ?_;clear b K;refine af hJ (eu hJ fun K b=>?_);revert h;refine bS fun hD hE h=>?_;try simp (maxSteps:=9^9) only[*,go_sem]
 refine b8 hJ _ (s5 a al.1 ed 0 hE) fun v hF eh bd f=>?_;obtain ⟨rr,rfl,q⟩:=f;have hG:=q.oc;simp only[bE] at hG;replace c:=c.mono eh;replace r:=bd.hd;replace g:=bd.tl.hd;replace a:=a.mono eh;simp only[bp] at bd;refine aK ?_;try simp (maxSteps:=9^9) only[*,go_sem]
 refine b.go ?_;clear b K;refine af hJ ?_;refine jZ hJ mixed [] (.rd 0 (.rd 1 (.one 2 (.pure 3 (.pure 4 (.pure 5 (.pure 6 .done))))))) ⟨hF,[(B,bk al.1 dT ea eb ec),(i,bk d j k m n)]⟩ (by simp (maxSteps:=9^9) only[*,go_sem]) (by kernel_rfl) fun K b=>?_;revert h;refine bS fun hI hK h=>?_;try simp (maxSteps:=9^9) only[*,go_sem]
 refine ⟨_,bD hJ fun F u=>kg 1 true hK,bT ?_⟩;revert h;refine bS fun hL hM h=>?_;try simp (maxSteps:=9^9) only[*,go_sem]
 refine b8 hJ _ (s3 a d c hI hM) fun v hN ao bj f=>?_;obtain ⟨rv,rB,rL,sa,rfl,T⟩:=f;have hP:=T.oc;simp only[bE] at hP;replace q:=q.mono ao;replace c:=c.mono ao;replace r:=bj.hd;replace g:=bj.tl.hd;replace a:=a.mono ao;simp only[bp] at bj;obtain ⟨sb,sc,rfl,sf,sg,-⟩:=id T.e;obtain ⟨sh,sl,rfl,sm,ss,-⟩:=id T.p;obtain ⟨sy,sI,rfl,sT,tb,-⟩:=id T.y;obtain ⟨te,ti,rfl,tk,tm,-⟩:=id T.t;have tp:=eR (l:=[(B,bk al.1 dT ea eb ec),(i,bk d j k m n)]) ao (aE.cons r (aE.cons g (aE.nil _)));refine ⟨by simp (maxSteps:=9^9) only[*,go_sem],?_⟩;refine bT ?_;try simp (maxSteps:=9^9) only[*,go_sem]
 refine b.go ?_;clear b K;refine af hJ ?_;refine ff [0,1,4,7,9,12,15,18,20,21,28,40,41,42] fun ts hQ hR hS=>?_;simp only[*,go_sem] at hQ hR hS;clear b2 hd b3 k1 b4 b5 ca cb cd cf cl cy cS;refine jZ hJ mixed [] (.rd 0 (.rd 1 (.one 2 (.pure 3 (.pure 4 (.pure 5 (.one 6 (.pure 7 .done)))))))) ⟨hN,[(i,bk d j k m n)]⟩ (by simp (maxSteps:=9^9) only[*,go_sem]) (by kernel_rfl) fun K b=>?_;revert h;refine bS fun hT hV h=>?_;try simp (maxSteps:=9^9) only[*,go_sem]
 refine ⟨_,bD hJ fun F u=>s7 12 12 hV,bT ?_⟩;revert h;refine bS fun C hX h=>?_;try simp (maxSteps:=9^9) only[*,go_sem]
 refine b8 hJ _ (A1 a d c 0 hT hX) fun v hY ar bl f=>?_;obtain ⟨U,V,W,X,rfl,et⟩:=f;have hZ:=et.oc;simp only[bE] at hZ;replace q:=q.mono ar;replace c:=c.mono ar;replace r:=bl.hd;replace g:=bl.tl.hd;replace a:=a.mono ar;simp only[bp] at bl;have tt:=eR (l:=[(i,bk d j k m n)]) ar (aE.cons g (aE.nil _));refine ⟨by simp (maxSteps:=9^9) only[*,go_sem],?_⟩;refine bT ?_;try simp (maxSteps:=9^9) only[*,go_sem]
 refine b.go ?_;clear b K;refine af hJ (eu hJ fun K b=>?_);revert h;refine bS fun h0 h1 h=>?_;try simp (maxSteps:=9^9) only[*,go_sem]
 refine bn hJ _ (sZ (a.mono aT) C.1 (et.mono aT) h1) (aK ?_);try simp (maxSteps:=9^9) only[*,go_sem]
 refine b.go ?_;clear b K;refine af hJ ?_;refine jZ hJ mixed [] (.rd 0 (.rd 1 (.one 2 (.rd 3 (.one 4 (.rd 5 (.one 6 (.one 7 (.pure 8 (.pure 9 (.pure 10 (.pure 11 (.pure 12 .done))))))))))))) ⟨hY,[(B,bk C.1 U V W X),(i,bk d j k m n)]⟩ (by simp (maxSteps:=9^9) only[*,go_sem]) (by kernel_rfl) fun K b=>?_;revert h;refine bS fun h2 h3 h=>?_;try simp (maxSteps:=9^9) only[*,go_sem]
 refine ⟨_,bD hJ fun F u=>kg 0 true h3,bT ?_⟩;revert h;refine bS fun h4 h5 h=>?_;try simp (maxSteps:=9^9) only[*,go_sem]
 refine b8 hJ _ (nW d c h2 h5) fun v tx I bm f=>?_;obtain ⟨tz,tI,tM,tW,rfl,J⟩:=f;have h6:=J.oc;simp only[bE] at h6;replace q:=q.mono I;replace r:=bm.hd;replace g:=bm.tl.hd;replace a:=a.mono I;simp only[bp] at bm;obtain ⟨ub,ui,rfl,u1,u2,-⟩:=id J.e;obtain ⟨u3,u4,rfl,va,vd,-⟩:=id J.p;obtain ⟨vs,vx,rfl,vy,v3,-⟩:=id J.y;obtain ⟨wa,wb,rfl,wc,wi,-⟩:=id J.t;have wx:=eR (l:=[(B,bk C.1 U V W X),(i,bk d j k m n)]) I (aE.cons r (aE.cons g (aE.nil _)));refine ⟨by simp (maxSteps:=9^9) only[*,go_sem],?_⟩;refine bT ?_;revert h;refine bS fun h7 h8 h=>?_;try simp (maxSteps:=9^9) only[*,go_sem]
 refine ⟨_,bD hJ fun F u=>kg 1 true h8,bT ?_⟩;revert h;refine bS fun h9 ib h=>?_;try simp (maxSteps:=9^9) only[*,go_sem]
 refine b8 hJ _ (nW h4 J h7 ib) fun v wy Y bo f=>?_;obtain ⟨w0,xa,xc,xf,rfl,L⟩:=f;have ic:=L.oc;simp only[bE] at ic;replace q:=q.mono Y;replace r:=bo.hd;replace g:=bo.tl.hd;replace a:=a.mono Y;simp only[bp] at bo;obtain ⟨xi,xn,rfl,xr,xt,-⟩:=id L.e;obtain ⟨xv,x0,rfl,x1,yi,-⟩:=id L.p;obtain ⟨yk,yn,rfl,yr,ys,-⟩:=id L.y;obtain ⟨yv,y0,rfl,y1,zc,-⟩:=id L.t;have zr:=eR (l:=[(B,bk C.1 U V W X),(i,bk d j k m n)]) (I.trans Y) (aE.cons r (aE.cons g (aE.nil _)));refine ⟨by simp (maxSteps:=9^9) only[*,go_sem],?_⟩;refine bT ?_;revert h;refine bS fun ih ik h=>?_;try simp (maxSteps:=9^9) only[*,go_sem]
 refine ⟨_,bD hJ fun F u=>kg 0 false ik,bT ?_⟩;revert h;refine bS fun il im h=>?_;try simp (maxSteps:=9^9) only[*,go_sem]
 refine b8 hJ _ (nW h9 L ih im) fun v zs a0 br f=>?_;obtain ⟨zt,Ag,At,Bd,rfl,M⟩:=f;have iv:=M.oc;simp only[bE] at iv;replace q:=q.mono a0;replace r:=br.hd;replace g:=br.tl.hd;replace a:=a.mono a0;simp only[bp] at br;obtain ⟨BF,B0,rfl,Cy,CY,-⟩:=id M.e;obtain ⟨Ex,Fl,rfl,F0,Gp,-⟩:=id M.p;obtain ⟨Gr,Ha,rfl,Hb,Hc,-⟩:=id M.y;obtain ⟨Hd,Hk,rfl,Hm,Hn,-⟩:=id M.t;have H0:=eR (l:=[(B,bk C.1 U V W X),(i,bk d j k m n)]) ((I.trans Y).trans a0) (aE.cons r (aE.cons g (aE.nil _)));refine ⟨by simp (maxSteps:=9^9) only[*,go_sem],?_⟩;refine bT ?_;revert h;refine bS fun ix jC h=>?_;try simp (maxSteps:=9^9) only[*,go_sem]
 refine b8 hJ _ (A4 a il M jC) fun v H2 bs bz f=>?_;obtain ⟨H3,rfl,ev⟩:=f;replace q:=q.mono bs;replace r:=bz.hd;replace g:=bz.tl.hd;replace a:=a.mono bs;simp only[bp] at bz;obtain ⟨H4,H5,rfl,Is,IH,-⟩:=id ev;have JF:=eR (l:=[(B,bk C.1 U V W X),(i,bk d j k m n)]) (((I.trans Y).trans a0).trans bs) (aE.cons r (aE.cons g (aE.nil _)));refine ⟨by simp (maxSteps:=9^9) only[*,go_sem],?_⟩;refine bT ?_;try simp (maxSteps:=9^9) only[*,go_sem]
 refine b.go ?_;clear b K;show Wp _ _ _ _ _;exact cG hJ (Le.sub (.cons _ (.cons _ (List.Sublist.refl _)))) (DC hJ da al hD hL C h0 ix a q ev (by simp (maxSteps:=9^9) only[*,go_sem]) h)
set_option maxHeartbeats 40000000 in
theorem K5 {Φ:Goroutine->aa->Prop}(hJ:Closed Tryz.prog true (dZ Tryz.prog Φ)){A:Act}{ro:Addr->Option Value}(g:ak)(q:((List Int)×Int))(N:(an×an×Int))(k:(Int×Int))(l:(Int×Int))(m:(Int×Int))(n:(Int×Int))(c:(Int×an×Int))(d:(Int×an×Int))(a:(an×an×Bool×Int)){s t u w y:Nat}(i:c7 ro){I:Value}(j:aC rI ro I q.1){z B C D:Value}(f:bK ro g z B C D)(O:sz A=439/\A.defers=[]/\slot A 0= .bool false/\slot A 1= .pointer (some ⟨y,0,none⟩)/\slot A 4= .int .i64 k.2/\slot A 7= .int .i64 l.2/\slot A 9= .int .i64 m.2/\slot A 12= .int .i64 n.2/\slot A 15= .int .i64 c.2.2/\slot A 18= .int .i64 d.2.2/\slot A 20= .int .i64 a.2.2.2/\slot A 21=I/\slot A 22= .int .i64 q.2/\slot A 25= .int .i64 N.2.2/\slot A 26= .int .i64 k.1/\slot A 27= .int .i64 l.1/\slot A 28= .int .i64 m.1/\slot A 29= .int .i64 n.1/\slot A 30= .int .i64 c.1/\slot A 31= .pointer (some ⟨w,0,none⟩)/\slot A 32= .int .i64 d.1/\slot A 33= .pointer (some ⟨u,0,none⟩)/\slot A 34= .pointer (some ⟨t,0,none⟩)/\slot A 35= .pointer (some ⟨s,0,none⟩)/\slot A 36= .bool a.2.2.1)(h:yJ g k l m n c d a=some true):Wp (dZ Tryz.prog Φ) (bx (bx (bx (bx (bx (bx (bx (bx (bx (bx (bx (bx (bx (bx (bx (bx (bx (bx (bx (bx (bx (Tryz.f13.body.getD .skip)))))))))))))))))))))) (iL Tryz.prog [.tmp 0] (fun v _=>v= .bool true)) A ⟨ro,(s,rt a.2.1.num a.2.1.den)::(t,rt a.1.num a.1.den)::(u,rt d.2.1.num d.2.1.den)::(w,rt c.2.1.num c.2.1.den)::(y,bk g z B C D)::[]⟩:=by
 obtain ⟨P,hd,Q,k1,R,S,T,U,V,W,X,Y,Z,ab,ad,ae,al,ao,ar,a0,a2,a3,a4,a5,a6⟩:=O;unfold yJ at h;have a7:=f.oc;simp only[bE] at a7;have a8:=j.oc;simp only[bE] at a8;refine fP hJ fun a9 ba=>?_;have bb:=a9.nd;try simp only[keys,List.map_cons,List.map_nil,List.map_append,List.cons_append,List.nil_append,List.nodup_cons,List.mem_cons,List.mem_append,List.not_mem_nil,or_false,not_or] at bb
 simp only[bp] at ba;refine af hJ (eu hJ fun K b=>?_);revert h;refine bS fun bc bd h=>?_;try simp (maxSteps:=9^9) only[*,go_sem]
 refine ng _ (yE i g f 2 bd) fun v e0 E bj G=>?_;obtain ⟨e1,rfl,o⟩:=G;have bl:=o.oc;simp only[bE] at bl;replace j:=j.mono E;replace f:=f.mono E;replace i:=i.mono E;simp only[bp] at bj;refine aK ?_;try simp (maxSteps:=9^9) only[*,go_sem]
 refine b.go ?_;clear b K;refine af hJ (eu hJ fun K b=>?_);revert h;refine bS fun bm bo h=>?_;try simp (maxSteps:=9^9) only[*,go_sem]
 refine ng _ (K3 i g f 2 bo) fun v br p bs G=>?_;obtain ⟨e2,rfl,J⟩:=G;have bz:=J.oc;simp only[bE] at bz;replace j:=j.mono p;replace f:=f.mono p;replace o:=o.mono p;replace i:=i.mono p;simp only[bp] at bs;refine aK ?_;try simp (maxSteps:=9^9) only[*,go_sem]
 refine b.go ?_;clear b K;refine af hJ (af hJ (eu hJ fun K b=>?_));revert h;refine cS (fun b0 h=>?_) fun b0 h=>?_
 ·cases h
 revert h;refine cS (fun b1 h=>?_) fun b1 h=>?_
 ·cases h
 revert h;refine cS (fun b2 h=>?_) fun b2 h=>?_
 ·cases h
 revert h;refine cS (fun b3 h=>?_) fun b3 h=>?_
 ·cases h
 revert h;refine cS (fun b4 h=>?_) fun b4 h=>?_
 ·cases h
 revert h;refine cS (fun b5 h=>?_) fun b5 h=>?_
 ·cases h
 revert h;refine cS (fun ca h=>?_) fun ca h=>?_
 ·cases h
 revert h;refine cS (fun cb h=>?_) fun cb h=>?_
 ·cases h
 try simp (maxSteps:=9^9) only[*,go_sem]
 revert h;refine cS (fun cd h=>?_) fun cd h=>?_
 ·cases h
 refine b.go ?_;clear b K;refine bM hJ (by simp (maxSteps:=9^9) only[*,go_sem]) ?_;refine aI hJ (af hJ ?_);refine af hJ ?_;refine ff [0,1,4,7,9,12,15,18,20,21,26,27,28,29,30,31,32,33,34,35,36,37,38,39] fun e3 cf cl cy=>?_;simp only[*,go_sem] at cf cl cy;clear P hd Q k1 R S T U V W X Y Z ab ad ae al ao ar a0 a2 a3 a4 a5 a6;refine az hJ fun c0=>?_;refine jZ hJ mixed [] (.pure 0 (.pure 1 (.pure 2 (.pure 3 (.pure 4 (.pure 5 (.pure 6 (.pure 7 (.pure 8 (.pure 9 (.pure 10 (.pure 11 (.pure 12 (.pure 13 (.pure 14 (.pure 15 (.pure 16 (.pure 17 (.pure 18 (.rd 19 (.rd 20 (.pure 21 (.pure 22 (.pure 23 (.pure 24 (.pure 25 (.pure 26 (.pure 27 (.rd 28 (.rd 29 (.pure 30 (.pure 31 (.pure 32 (.pure 33 (.pure 34 (.pure 35 (.pure 36 (.rd 37 (.rd 38 (.pure 39 (.pure 40 (.pure 41 (.rd 42 (.rd 43 (.pure 44 (.pure 45 (.pure 46 (.pure 47 (.one 48 (.one 49 (.pure 50 (.pure 51 (.pure 52 (.pure 53 (.pure 54 (.pure 55 (.pure 56 (.pure 57 (.one 58 (.one 59 (.pure 60 (.pure 61 .done)))))))))))))))))))))))))))))))))))))))))))))))))))))))))))))) ⟨br,[(s,rt a.2.1.num a.2.1.den),(t,rt a.1.num a.1.den),(u,rt d.2.1.num d.2.1.den),(w,rt c.2.1.num c.2.1.den),(y,bk g z B C D)]⟩ (by simp (maxSteps:=9^9) only[*,go_sem]) (by kernel_rfl) fun K b=>?_;revert h;refine cS (fun da h=>?_) fun da h=>?_
 ·cases h
 revert h;refine cS (fun db h=>?_) fun db h=>?_
 ·cases h
 revert h;refine cS (fun dd h=>?_) fun dd h=>?_
 ·cases h
 revert h;refine cS (fun df h=>?_) fun df h=>?_
 ·cases h
 revert h;refine cS (fun dk h=>?_) fun dk h=>?_
 ·cases h
 revert h;refine bS fun fa dp h=>?_;try simp (maxSteps:=9^9) only[*,go_sem]
 refine ⟨_,bD hJ fun F H=>gS 1 1 dp,bT ?_⟩;revert h;refine cS (fun dq h=>?_) fun dq h=>?_
 ·cases h
 revert h;refine cS (fun ds h=>?_) fun ds h=>?_
 ·cases h
 revert h;refine bS fun fb dt h=>?_;try simp (maxSteps:=9^9) only[*,go_sem]
 refine ⟨_,bD hJ fun F H=>gS 0 1 dt,bT ?_⟩;revert h;refine cS (fun du h=>?_) fun du h=>?_
 ·cases h
 revert h;refine cS (fun dv h=>?_) fun dv h=>?_
 ·cases h
 revert h;refine bS fun fg dC h=>?_;try simp (maxSteps:=9^9) only[*,go_sem]
 refine ⟨_,bD hJ fun F H=>gS 3 2 dC,bT ?_⟩;revert h;refine cS (fun dE h=>?_) fun dE h=>?_
 ·cases h
 revert h;refine bS fun fi dT h=>?_;try simp (maxSteps:=9^9) only[*,go_sem]
 refine ⟨_,bD hJ fun F H=>gS 3 2 dT,bT ?_⟩;revert h;refine cS (fun ea h=>?_) fun ea h=>?_
 ·cases h
 revert h;refine bS fun fp eb h=>?_;try simp (maxSteps:=9^9) only[*,go_sem]
 refine aA fun fr ec L=>?_;have ed:=aP.cons L c0;try simp only[au] at L
 try simp (maxSteps:=9^9) only[*,go_sem]
 refine bn hJ _ (p7 bc.1 (o.mono aT) ([11,12,13,14]) ((aC.flat (r:=rI) (e:=3) (cs:=#[.int .i64 11,.int .i64 12,.int .i64 13,.int .i64 14]) (fun x=>[.int .i64 x]) ([11,12,13,14]) (fun _=>rfl) ec rfl (by simp)).mono (jq (by simp (maxSteps:=9^9) only[*,go_sem]))) eb) ⟨by simp (maxSteps:=9^9) only[*,go_sem],bT ?_⟩;revert h;refine cS (fun eh h=>?_) fun eh h=>?_
 ·cases h
 revert h;refine cS (fun et h=>?_) fun et h=>?_
 ·cases h
 revert h;refine bS fun fs ev h=>?_;try simp (maxSteps:=9^9) only[*,go_sem]
 refine aA fun ft eQ M=>?_;have fu:=aP.cons M ed;try simp only[au] at M
 try simp (maxSteps:=9^9) only[*,go_sem]
 refine bn hJ _ (p7 bm.1 (J.mono aT) ([11]) ((aC.flat (r:=rI) (e:=3) (cs:=#[.int .i64 11]) (fun x=>[.int .i64 x]) ([11]) (fun _=>rfl) eQ rfl (by simp)).mono (jq (by simp (maxSteps:=9^9) only[*,go_sem]))) ev) ⟨by simp (maxSteps:=9^9) only[*,go_sem],bT ?_⟩;try simp (maxSteps:=9^9) only[*,go_sem]
 revert h;refine cS (fun eS h=>?_) fun eS h=>?_
 ·cases h
 refine b.go ?_;clear b K;refine bM hJ (by simp (maxSteps:=9^9) only[*,go_sem]) ?_;refine aI hJ ?_;show Wp _ _ _ _ _;exact cG hJ (Le.sub (.cons _ (.cons _ (.cons _ (.cons _ (.cons _ (.cons _ (.cons₂ _ (List.Sublist.refl _))))))))) (K4 hJ g q k l m n c d a i j f (by simp (maxSteps:=9^9) only[*,go_sem]) h)
set_option maxHeartbeats 40000000 in
theorem K6 {Φ:Goroutine->aa->Prop}(hJ:Closed Tryz.prog true (dZ Tryz.prog Φ)){A:Act}{ro:Addr->Option Value}(c:ak)(g:ak)(G:(an×Int))(H:(Int×an×Int))(I:(an×Int))(J:(an×Bool×Int))(L:(an×Bool×Int))(M:(an×Bool×Int))(N:(Int×Int))(i:((List Int)×Int))(j:(an×an×Int)){k l:Nat}(d:c7 ro){m:Value}(n:aC rI ro m i.1){o q r s:Value}(f:bK ro g o q r s){u w x z:Value}(b:bK ro c u w x z)(O:sz A=439/\A.defers=[]/\slot A 0= .bool false/\slot A 1= .pointer (some ⟨l,0,none⟩)/\slot A 2= .pointer (some ⟨k,0,none⟩)/\slot A 4= .int .i64 G.2/\slot A 7= .int .i64 H.2.2/\slot A 9= .int .i64 I.2/\slot A 12= .int .i64 J.2.2/\slot A 15= .int .i64 L.2.2/\slot A 18= .int .i64 M.2.2/\slot A 20= .int .i64 N.2/\slot A 21=m/\slot A 22= .int .i64 i.2/\slot A 25= .int .i64 j.2.2)(h:yK c g=some true):Wp (dZ Tryz.prog Φ) (bx (bx (bx (bx (bx (bx (bx (bx (bx (bx (bx (bx (bx (bx (Tryz.f13.body.getD .skip))))))))))))))) (iL Tryz.prog [.tmp 0] (fun v _=>v= .bool true)) A ⟨ro,(k,bk g o q r s)::(l,bk c u w x z)::[]⟩:=by
 obtain ⟨P,hd,Q,k1,R,S,T,U,V,W,X,Y,Z,ab,ad⟩:=O;obtain ⟨d45,b1,rfl,b2,b3,-⟩:=id f.e;obtain ⟨d52,b4,rfl,b5,ca,-⟩:=id f.p;obtain ⟨d59,cb,rfl,cd,cf,-⟩:=id f.y;obtain ⟨d66,cl,rfl,cy,cS,-⟩:=id f.t;obtain ⟨d8,c0,rfl,da,db,-⟩:=id b.e;obtain ⟨d15,dd,rfl,df,dk,-⟩:=id b.p;obtain ⟨d22,dp,rfl,dq,ds,-⟩:=id b.y;obtain ⟨d29,dt,rfl,du,dv,-⟩:=id b.t;unfold yK at h;have ae:=f.oc;simp only[bE] at ae;have al:=b.oc;simp only[bE] at al;have ao:=n.oc;simp only[bE] at ao;refine fP hJ fun B ar=>?_;have a0:=B.nd;try simp only[keys,List.map_cons,List.map_nil,List.map_append,List.cons_append,List.nil_append,List.nodup_cons,List.mem_cons,List.mem_append,List.not_mem_nil,or_false,not_or] at a0
 simp only[bp] at ar;refine af hJ (eu hJ fun K a=>?_);revert h;refine bS fun a2 a3 h=>?_;try simp (maxSteps:=9^9) only[*,go_sem]
 refine bn hJ _ (A0 (d.mono aT) c (b.mono aT) 0 a3) (aK ?_);try simp (maxSteps:=9^9) only[*,go_sem]
 refine a.go ?_;clear a K;refine af hJ (eu hJ fun K a=>?_);revert h;refine bS fun a4 a5 h=>?_;try simp (maxSteps:=9^9) only[*,go_sem]
 refine bn hJ _ (A0 (d.mono aT) c (b.mono aT) 1 a5) (aK ?_);try simp (maxSteps:=9^9) only[*,go_sem]
 refine a.go ?_;clear a K;refine af hJ (eu hJ fun K a=>?_);revert h;refine bS fun a6 a7 h=>?_;try simp (maxSteps:=9^9) only[*,go_sem]
 refine bn hJ _ (sZ (d.mono aT) c (b.mono aT) a7) (aK ?_);try simp (maxSteps:=9^9) only[*,go_sem]
 refine a.go ?_;clear a K;refine af hJ (eu hJ fun K a=>?_);revert h;refine bS fun a8 a9 h=>?_;try simp (maxSteps:=9^9) only[*,go_sem]
 refine bn hJ _ (sZ (d.mono aT) g (f.mono aT) a9) (aK ?_);try simp (maxSteps:=9^9) only[*,go_sem]
 refine a.go ?_;clear a K;refine af hJ (eu hJ fun K a=>?_);revert h;refine bS fun ba bb h=>?_;try simp (maxSteps:=9^9) only[*,go_sem]
 refine bn hJ _ (A5 (d.mono aT) c (b.mono aT) bb) (aK ?_);try simp (maxSteps:=9^9) only[*,go_sem]
 refine aA fun dC dE C=>?_;have bc:=aP.cons C B;try simp only[au] at C
 try simp (maxSteps:=9^9) only[*,go_sem]
 refine a.go ?_;clear a K;refine af hJ ?_;refine ff [0,1,2,4,7,9,12,15,18,20,21,22,25,26,27,28,29,30,31] fun dT bd bj bl=>?_;simp only[*,go_sem] at bd bj bl;clear P hd Q k1 R S T U V W X Y Z ab ad;refine eu hJ fun K a=>?_;revert h;refine bS fun bm bo h=>?_;try simp (maxSteps:=9^9) only[*,go_sem]
 refine bn hJ _ (A5 (d.mono aT) g (f.mono aT) bo) (aK ?_);try simp (maxSteps:=9^9) only[*,go_sem]
 refine aA fun ea eb D=>?_;have br:=aP.cons D bc;try simp only[au] at D
 try simp (maxSteps:=9^9) only[*,go_sem]
 refine a.go ?_;clear a K;refine af hJ (eu hJ fun K a=>?_);revert h;refine bS fun bs bz h=>?_;try simp (maxSteps:=9^9) only[*,go_sem]
 refine bn hJ _ (Hf (d.mono aT) c (b.mono aT) bz) (aK ?_);try simp (maxSteps:=9^9) only[*,go_sem]
 refine aA fun ec ed E=>?_;have b0:=aP.cons E br;try simp only[au] at E
 refine aA fun eh et F=>?_;have ev:=aP.cons F b0;try simp only[au] at F
 try simp (maxSteps:=9^9) only[*,go_sem]
 refine a.go ?_;clear a K;show Wp _ _ _ _ _;exact cG hJ (Le.sub (.cons₂ _ (.cons₂ _ (.cons₂ _ (.cons₂ _ (.cons _ (.cons₂ _ (List.Sublist.refl _)))))))) (K5 hJ c i j a2 a4 a6 a8 ba bm bs d n b (by simp (maxSteps:=9^9) only[*,go_sem]) h)
set_option maxHeartbeats 40000000 in
theorem K7 {Φ:Goroutine->aa->Prop}(hJ:Closed Tryz.prog true (dZ Tryz.prog Φ)){A:Act}{ro:Addr->Option Value}(b:ak)(n:ak)(i:(an×Int))(c:(Int×an×Int))(j:(an×Int))(d:(an×Bool×Int))(f:(an×Bool×Int))(g:(an×Bool×Int)){q s t u w y z B:Nat}(m:c7 ro){C D E G:Value}(p:bK ro n C D E G){H I J L:Value}(k:bK ro b H I J L)(T:sz A=439/\A.defers=[]/\slot A 0= .bool false/\slot A 1= .pointer (some ⟨B,0,none⟩)/\slot A 2= .pointer (some ⟨z,0,none⟩)/\slot A 3= .pointer (some ⟨y,0,none⟩)/\slot A 4= .int .i64 i.2/\slot A 5= .int .i64 c.1/\slot A 6= .pointer (some ⟨w,0,none⟩)/\slot A 7= .int .i64 c.2.2/\slot A 8= .pointer (some ⟨u,0,none⟩)/\slot A 9= .int .i64 j.2/\slot A 10= .pointer (some ⟨t,0,none⟩)/\slot A 11= .bool d.2.1/\slot A 12= .int .i64 d.2.2/\slot A 13= .pointer (some ⟨s,0,none⟩)/\slot A 14= .bool f.2.1/\slot A 15= .int .i64 f.2.2/\slot A 16= .pointer (some ⟨q,0,none⟩)/\slot A 17= .bool g.2.1/\slot A 18= .int .i64 g.2.2)(h:yL b n i c j d f g=some true):Wp (dZ Tryz.prog Φ) (bx (bx (bx (bx (bx (bx (bx (bx (bx (Tryz.f13.body.getD .skip)))))))))) (iL Tryz.prog [.tmp 0] (fun v _=>v= .bool true)) A ⟨ro,(q,rt g.1.num g.1.den)::(s,rt f.1.num f.1.den)::(t,rt d.1.num d.1.den)::(u,rt j.1.num j.1.den)::(w,rt c.2.1.num c.2.1.den)::(y,rt i.1.num i.1.den)::(z,bk n C D E G)::(B,bk b H I J L)::[]⟩:=by
 obtain ⟨U,hd,V,k1,W,X,Y,Z,ab,ad,ae,al,ao,ar,a0,a2,a3,a4,a5,a6,a7⟩:=T;unfold yL at h;have a8:=p.oc;simp only[bE] at a8;have a9:=k.oc;simp only[bE] at a9;refine fP hJ fun O ba=>?_;have bb:=O.nd;try simp only[keys,List.map_cons,List.map_nil,List.map_append,List.cons_append,List.nil_append,List.nodup_cons,List.mem_cons,List.mem_append,List.not_mem_nil,or_false,not_or] at bb
 simp only[bp] at ba;refine af hJ (eu hJ fun K a=>?_);revert h;refine bS fun bc bd h=>?_;try simp (maxSteps:=9^9) only[*,go_sem]
 refine bn hJ _ (A6 (m.mono aT) b (k.mono aT) bd) (aK ?_);try simp (maxSteps:=9^9) only[*,go_sem]
 refine a.go ?_;clear a K;refine af hJ (eu hJ fun K a=>?_);revert h;refine bS fun P bj h=>?_;try simp (maxSteps:=9^9) only[*,go_sem]
 refine b8 hJ _ (s5 m b k 0 bj) fun v bl M bm bo=>?_;obtain ⟨e3,rfl,N⟩:=bo;have br:=N.oc;simp only[bE] at br;replace k:=k.mono M;replace p:=p.mono M;replace m:=m.mono M;simp only[bp] at bm;refine aK ?_;try simp (maxSteps:=9^9) only[*,go_sem]
 refine a.go ?_;clear a K;refine af hJ (eu hJ fun K a=>?_);revert h;refine bS fun o bs h=>?_;try simp (maxSteps:=9^9) only[*,go_sem]
 refine bn hJ _ (Hg (m.mono aT) b (k.mono aT) 0 bs) (aK ?_);try simp (maxSteps:=9^9) only[*,go_sem]
 refine aA fun bz fa Q=>?_;have b0:=aP.cons Q O;try simp only[au] at Q
 refine aA fun b1 fb R=>?_;have fg:=aP.cons R b0;try simp only[au] at R
 try simp (maxSteps:=9^9) only[*,go_sem]
 refine a.go ?_;clear a K;refine af hJ (af hJ (eu hJ fun K a=>?_));revert h;refine cS (fun b2 h=>?_) fun b2 h=>?_
 ·cases h
 revert h;refine cS (fun b3 h=>?_) fun b3 h=>?_
 ·cases h
 revert h;refine cS (fun b4 h=>?_) fun b4 h=>?_
 ·cases h
 revert h;refine cS (fun b5 h=>?_) fun b5 h=>?_
 ·cases h
 revert h;refine cS (fun ca h=>?_) fun ca h=>?_
 ·cases h
 revert h;refine cS (fun cb h=>?_) fun cb h=>?_
 ·cases h
 revert h;refine cS (fun cd h=>?_) fun cd h=>?_
 ·cases h
 revert h;refine cS (fun cf h=>?_) fun cf h=>?_
 ·cases h
 try simp (maxSteps:=9^9) only[*,go_sem]
 revert h;refine cS (fun cl h=>?_) fun cl h=>?_
 ·cases h
 refine a.go ?_;clear a K;refine bM hJ (by simp (maxSteps:=9^9) only[*,go_sem]) ?_;refine aI hJ (af hJ ?_);refine af hJ ?_;refine ff [0,1,2,3,4,5,6,7,8,9,10,11,12,13,14,15,16,17,18,19,20,21,22,23,24,25] fun fi cy c0 da=>?_;simp only[*,go_sem] at cy c0 da;clear U hd V k1 W X Y Z ab ad ae al ao ar a0 a2 a3 a4 a5 a6 a7;refine az hJ fun db=>?_;refine jZ hJ mixed [] (.rd 0 (.rd 1 (.pure 2 (.pure 3 (.pure 4 (.pure 5 (.pure 6 (.pure 7 (.rd 8 (.rd 9 (.pure 10 (.pure 11 (.pure 12 (.rd 13 (.rd 14 (.pure 15 (.pure 16 (.pure 17 (.rd 18 (.rd 19 (.pure 20 (.pure 21 (.pure 22 (.pure 23 (.pure 24 (.pure 25 (.pure 26 (.rd 27 (.rd 28 (.pure 29 (.pure 30 (.pure 31 (.pure 32 (.pure 33 (.pure 34 (.rd 35 (.rd 36 (.pure 37 (.pure 38 (.pure 39 (.pure 40 (.pure 41 (.pure 42 (.pure 43 (.pure 44 (.pure 45 (.pure 46 (.pure 47 (.pure 48 (.one 49 (.one 50 (.pure 51 (.pure 52 (.pure 53 (.rd 54 (.rd 55 (.pure 56 (.pure 57 (.pure 58 (.rd 59 (.rd 60 (.pure 61 (.pure 62 .done))))))))))))))))))))))))))))))))))))))))))))))))))))))))))))))) ⟨bl,[(b1,rt o.2.1.num o.2.1.den),(bz,rt o.1.num o.1.den),(q,rt g.1.num g.1.den),(s,rt f.1.num f.1.den),(t,rt d.1.num d.1.den),(u,rt j.1.num j.1.den),(w,rt c.2.1.num c.2.1.den),(y,rt i.1.num i.1.den),(z,bk n C D E G),(B,bk b H I J L)]⟩ (by simp (maxSteps:=9^9) only[*,go_sem]) (by kernel_rfl) fun K a=>?_;revert h;refine bS fun fp dd h=>?_;try simp (maxSteps:=9^9) only[*,go_sem]
 refine ⟨_,bD hJ fun F l=>gS 13 4 dd,bT ?_⟩;revert h;refine cS (fun df h=>?_) fun df h=>?_
 ·cases h
 revert h;refine cS (fun dk h=>?_) fun dk h=>?_
 ·cases h
 revert h;refine bS fun fr dp h=>?_;try simp (maxSteps:=9^9) only[*,go_sem]
 refine ⟨_,bD hJ fun F l=>gS 11 8 dp,bT ?_⟩;revert h;refine cS (fun dq h=>?_) fun dq h=>?_
 ·cases h
 revert h;refine bS fun fs ds h=>?_;try simp (maxSteps:=9^9) only[*,go_sem]
 refine ⟨_,bD hJ fun F l=>gS 1 4 ds,bT ?_⟩;revert h;refine cS (fun dt h=>?_) fun dt h=>?_
 ·cases h
 revert h;refine bS fun ft du h=>?_;try simp (maxSteps:=9^9) only[*,go_sem]
 refine ⟨_,bD hJ fun F l=>gS 24 13 du,bT ?_⟩;revert h;refine cS (fun dv h=>?_) fun dv h=>?_
 ·cases h
 revert h;refine cS (fun dC h=>?_) fun dC h=>?_
 ·cases h
 revert h;refine bS fun fu dE h=>?_;try simp (maxSteps:=9^9) only[*,go_sem]
 refine ⟨_,bD hJ fun F l=>gS 2 13 dE,bT ?_⟩;revert h;refine cS (fun dT h=>?_) fun dT h=>?_
 ·cases h
 revert h;refine cS (fun ea h=>?_) fun ea h=>?_
 ·cases h
 revert h;refine bS fun fv eb h=>?_;try simp (maxSteps:=9^9) only[*,go_sem]
 refine ⟨_,bD hJ fun F l=>gS 1 1 eb,bT ?_⟩;revert h;refine cS (fun ec h=>?_) fun ec h=>?_
 ·cases h
 revert h;refine cS (fun ed h=>?_) fun ed h=>?_
 ·cases h
 revert h;refine cS (fun eh h=>?_) fun eh h=>?_
 ·cases h
 revert h;refine bS fun fw et h=>?_;try simp (maxSteps:=9^9) only[*,go_sem]
 refine aA fun fx ev S=>?_;have gg:=aP.cons S db;try simp only[au] at S
 try simp (maxSteps:=9^9) only[*,go_sem]
 refine bn hJ _ (p7 P.1 (N.mono aT) ([10,11,12]) ((aC.flat (r:=rI) (e:=3) (cs:=#[.int .i64 10,.int .i64 11,.int .i64 12]) (fun x=>[.int .i64 x]) ([10,11,12]) (fun _=>rfl) ev rfl (by simp)).mono (jq (by simp (maxSteps:=9^9) only[*,go_sem]))) et) ⟨by simp (maxSteps:=9^9) only[*,go_sem],bT ?_⟩;revert h;refine cS (fun eQ h=>?_) fun eQ h=>?_
 ·cases h
 revert h;refine bS fun gl eS h=>?_;try simp (maxSteps:=9^9) only[*,go_sem]
 refine ⟨_,bD hJ fun F l=>gS 1 4 eS,bT ?_⟩;revert h;refine cS (fun e0 h=>?_) fun e0 h=>?_
 ·cases h
 revert h;refine bS fun gn e1 h=>?_;try simp (maxSteps:=9^9) only[*,go_sem]
 refine ⟨_,bD hJ fun F l=>gS 1 1 e1,bT ?_⟩;try simp (maxSteps:=9^9) only[*,go_sem]
 revert h;refine cS (fun e2 h=>?_) fun e2 h=>?_
 ·cases h
 refine a.go ?_;clear a K;refine bM hJ (by simp (maxSteps:=9^9) only[*,go_sem]) ?_;refine aI hJ ?_;show Wp _ _ _ _ _;exact cG hJ (Le.sub (.cons _ (.cons _ (.cons _ (.cons _ (.cons _ (.cons _ (.cons _ (.cons _ (.cons _ (.cons₂ _ (.cons₂ _ (List.Sublist.refl _))))))))))))) (K6 hJ b n i c j d f g bc P o m N p k (by simp (maxSteps:=9^9) only[*,go_sem]) h)
set_option maxHeartbeats 40000000 in
theorem K8 {ro:Addr->Option Value}(d:c7 ro){r:Bool}(I:r=true)(h:lE=some r):fE Tryz.prog 13 #[] ⟨ro,[]⟩ (fun v _=>v= .bool r):=by
 subst I;unfold lE at h;refine fE.go Tryz.func13 rfl Tryz.ntmps13 Tryz.results13 (by simp) fun Φ hJ A J hd hs=>?_;clear hs;refine af hJ (eu hJ fun K a=>?_);try simp (maxSteps:=9^9) only[*,go_sem]
 refine a.go ?_;clear a K;refine af hJ (eu hJ fun K a=>?_);revert h;refine bS fun g L h=>?_;try simp (maxSteps:=9^9) only[*,go_sem]
 refine b8 hJ _ (Hr L) fun v n M b5 k=>?_;obtain ⟨N,O,P,Q,rfl,f⟩:=k;have R:=f.oc;simp only[bE] at R;replace d:=d.mono M;refine aK ?_;try simp (maxSteps:=9^9) only[*,go_sem]
 refine aA fun S T U=>?_;try simp only[au] at U
 try simp (maxSteps:=9^9) only[*,go_sem]
 refine a.go ?_;clear a K;refine af hJ ?_;refine az hJ fun V=>?_;refine eu hJ fun K a=>?_;revert h;refine bS fun l W h=>?_;try simp (maxSteps:=9^9) only[*,go_sem]
 refine aA fun i p q=>?_;have s:=aP.cons q V;try simp only[au] at q
 try simp (maxSteps:=9^9) only[*,go_sem]
 obtain ⟨m,t,u⟩:=fO (b:=i) (o:=(ic 11)) [] ((S,bk g N O P Q)::[]) s p (aE.cons T (aE.nil _));have w:aC rI (bR n i (ic 11)) (.slice (some ⟨i,0,none⟩) 1 1) [11]:=(aC.flat (r:=rI) (e:=3) (cs:=#[.int .i64 11]) (fun x=>[.int .i64 x]) ([11]) (fun _=>rfl) p rfl (by simp))
 generalize bR n i (ic 11)=ca at w t m u;refine gO hJ u ?_;replace f:=f.mono m;replace d:=d.mono m;simp only[bp] at t;have X:=aP.tl s;refine b8 hJ _ (A8 g f ([11]) w 2 W) fun v cb y Y k=>?_;obtain ⟨cd,cf,cl,cy,rfl,j⟩:=k;have Z:=j.oc;simp only[bE] at Z;replace f:=f.mono y;replace d:=d.mono y;simp only[bp] at Y;refine aK ?_;try simp (maxSteps:=9^9) only[*,go_sem]
 refine aA fun cS c0 z=>?_;have ab:=aP.cons z X;try simp only[au] at z
 try simp (maxSteps:=9^9) only[*,go_sem]
 refine a.go ?_;clear a K;refine af hJ (eu hJ fun K a=>?_);revert h;refine bS fun ad ae h=>?_;try simp (maxSteps:=9^9) only[*,go_sem]
 refine bn hJ _ (GB (d.mono aT) g (f.mono aT) 5 ae) (aK ?_);try simp (maxSteps:=9^9) only[*,go_sem]
 refine aA fun da db B=>?_;have al:=aP.cons B ab;try simp only[au] at B
 try simp (maxSteps:=9^9) only[*,go_sem]
 refine a.go ?_;clear a K;refine af hJ ?_;refine pP hJ mixed 7 3 (by simp (maxSteps:=9^9) only[*,go_sem]) (by kernel_rfl) fun K a=>?_;revert h;refine bS fun ao ar h=>?_;try simp (maxSteps:=9^9) only[*,go_sem]
 refine ⟨_,bD hJ fun F c=>nU 2 11 ar,b9 ?_⟩;revert h;refine bS fun a0 a2 h=>?_;try simp (maxSteps:=9^9) only[*,go_sem]
 refine ⟨_,bD hJ fun F c=>GC (d.mono (bZ c)) g (f.mono (bZ c)) ao a2,b9 ?_⟩;try simp (maxSteps:=9^9) only[*,go_sem]
 refine aA fun dd df C=>?_;have a3:=aP.cons C al;try simp only[au] at C
 try simp (maxSteps:=9^9) only[*,go_sem]
 refine a.go ?_;clear a K;refine af hJ ?_;refine pP hJ mixed 6 4 (by simp (maxSteps:=9^9) only[*,go_sem]) (by kernel_rfl) fun K a=>?_;revert h;refine bS fun a4 a5 h=>?_;try simp (maxSteps:=9^9) only[*,go_sem]
 refine ⟨_,bD hJ fun F c=>nU 2 10 a5,b9 ?_⟩;revert h;refine bS fun a6 a7 h=>?_;try simp (maxSteps:=9^9) only[*,go_sem]
 refine ⟨_,bD hJ fun F c=>GD (d.mono (bZ c)) g (f.mono (bZ c)) a4 a7,b9 ?_⟩;try simp (maxSteps:=9^9) only[*,go_sem]
 refine aA fun dk dp D=>?_;have a8:=aP.cons D a3;try simp only[au] at D
 try simp (maxSteps:=9^9) only[*,go_sem]
 refine a.go ?_;clear a K;refine af hJ ?_;refine ff [0,1,2,3,4,5,6,7,8,9] fun dq a9 ba bb=>?_;simp only[*,go_sem] at a9 ba bb;clear J hd;refine pP hJ mixed 7 5 (by simp (maxSteps:=9^9) only[*,go_sem]) (by kernel_rfl) fun K a=>?_;revert h;refine bS fun bc bd h=>?_;try simp (maxSteps:=9^9) only[*,go_sem]
 refine ⟨_,bD hJ fun F c=>nU 2 12 bd,b9 ?_⟩;revert h;refine bS fun bj bl h=>?_;try simp (maxSteps:=9^9) only[*,go_sem]
 refine ⟨_,bD hJ fun F c=>GF (d.mono (bZ c)) l (j.mono (bZ c)) bc bl,b9 ?_⟩;try simp (maxSteps:=9^9) only[*,go_sem]
 refine aA fun ds dt E=>?_;have bm:=aP.cons E a8;try simp only[au] at E
 try simp (maxSteps:=9^9) only[*,go_sem]
 refine a.go ?_;clear a K;refine af hJ ?_;refine pP hJ mixed 7 6 (by simp (maxSteps:=9^9) only[*,go_sem]) (by kernel_rfl) fun K a=>?_;revert h;refine bS fun bo br h=>?_;try simp (maxSteps:=9^9) only[*,go_sem]
 refine ⟨_,bD hJ fun F c=>nU 2 12 br,b9 ?_⟩;revert h;refine bS fun bs bz h=>?_;try simp (maxSteps:=9^9) only[*,go_sem]
 refine ⟨_,bD hJ fun F c=>vY (d.mono (bZ c)) l (j.mono (bZ c)) bo bz,b9 ?_⟩;try simp (maxSteps:=9^9) only[*,go_sem]
 refine aA fun du dv G=>?_;have b0:=aP.cons G bm;try simp only[au] at G
 try simp (maxSteps:=9^9) only[*,go_sem]
 refine a.go ?_;clear a K;refine af hJ ?_;refine pP hJ mixed 7 7 (by simp (maxSteps:=9^9) only[*,go_sem]) (by kernel_rfl) fun K a=>?_;revert h;refine bS fun b1 b2 h=>?_;try simp (maxSteps:=9^9) only[*,go_sem]
 refine ⟨_,bD hJ fun F c=>nU 2 12 b2,b9 ?_⟩;revert h;refine bS fun b3 b4 h=>?_;try simp (maxSteps:=9^9) only[*,go_sem]
 refine ⟨_,bD hJ fun F c=>vY (d.mono (bZ c)) g (f.mono (bZ c)) b1 b4,b9 ?_⟩;try simp (maxSteps:=9^9) only[*,go_sem]
 refine aA fun dC dE H=>?_;have dT:=aP.cons H b0;try simp only[au] at H
 try simp (maxSteps:=9^9) only[*,go_sem]
 refine a.go ?_;clear a K;show Wp _ _ _ _ _;exact cG hJ (Le.sub (.cons₂ _ (.cons₂ _ (.cons₂ _ (.cons₂ _ (.cons₂ _ (.cons₂ _ (.cons₂ _ (.cons₂ _ (List.Sublist.refl _)))))))))) (K7 hJ g l ad a0 a6 bj bs b3 d j f (by simp (maxSteps:=9^9) only[*,go_sem]) h)
theorem um {ro:Addr->Option Value}(a:c7 ro){r:Bool}(h:lE=some r):fE Tryz.prog 13 #[] ⟨ro,[]⟩ (fun v _=>v= .bool r):=
 K8 a (Option.some.inj (h.symm.trans qX)) h
end Go.Proofs.YtpgcmoanfifglaaGreatDoor
end
section
namespace Go.Proofs.YtpgcmoanfifglaaGreatDoor
open Go Go.Sep Go.Proofs
def uo (u0:ak)(h:Int)(i:Int)(j:Int):Option Bool:=
 ag (n5 u0) fun k=>cond (!k) (ag (lE) fun l=>some l) (cond (decide (3<=(u0.props.length:Int))) (ag (lE) fun m=>some m) (ag (ga (IntKind.i64.wrap h) 20) fun b=>ag (bf u0.av 0) fun c=>ag (bf u0.av (IntKind.i64.wrap ((u0.av.length:Int) - 1))) fun n=>ag (ga (IntKind.i64.wrap i) (IntKind.i64.wrap ((IntKind.i64.wrap (n.aH - c.aH))+1))) fun e=>ag (mT u0 (IntKind.i64.wrap (1+b))) fun a=>ag (ga (IntKind.i64.wrap j) 5) fun f=>ag (mT u0 (if IntKind.i64.wrap ((IntKind.i64.wrap (1+b))+f)<20 then IntKind.i64.wrap ((IntKind.i64.wrap (1+b))+f) else 20)) fun d=>ag (nO u0) fun g=>cond ((a.2 != d.2)) (some false) (cond ((g.2 != 0)) (some false) (cond (!((a.2==0)==(decide (0<g.1)))) (some false) (cond ((a.2 != 0)) (cond ((a.2==9)) (cond (((IntKind.i64.wrap ((a.1.length:Int)+(d.1.length:Int)))==0)) (ag (lE) fun o=>some o) (some false)) (some false)) (ag (qq a.1 60) fun p=>cond ((p==0)) (ag (qt a.1 d.1) fun q=>cond (q) (ag (n7 a.1 (IntKind.i64.wrap (c.aH+e))) fun r=>ag (qv u0 ([IntKind.i64.wrap (c.aH+e)]) (IntKind.i64.wrap (1+b))) fun s=>cond ((r==s)) (ag (lE) fun t=>some t) (some false)) (some false)) (some false)))))))
end Go.Proofs.YtpgcmoanfifglaaGreatDoor
end
section
namespace Go.Proofs.YtpgcmoanfifglaaGreatDoor
open Go Go.Sep Go.Proofs
set_option maxRecDepth 100000
set_option maxHeartbeats 4000000
theorem K9 {ro:Addr->Option Value}(b:c7 ro)(u0:ak){s1 t j k:Value}(a:bK ro u0 s1 t j k)(u:Int)(w:Int)(y:Int){r:Bool}(O:r=true)(h:uo u0 u w y=some r):lY Tryz.prog 8 #[bv u0 s1 t j k,.int .u8 u,.int .u8 w,.int .u8 y] ⟨ro,[]⟩ (fun v _=>v= .bool r):=by
 obtain ⟨d3,c4,rfl,db,dd,-⟩:=id a.e;obtain ⟨d10,P,rfl,df,dk,-⟩:=id a.p;subst O;unfold uo at h;refine lY.go Tryz.func8 rfl Tryz.ntmps8 Tryz.results8 (by simp) (by kernel_rfl) fun Φ hJ A Q hd hs=>?_;have R:=hs 0;have k1:=hs 1;have S:=hs 2;have T:=hs 3;clear hs;refine ah hJ ?_;simp only[*,go_sem];refine aA fun U dp V=>?_;try simp only[au] at V
 try simp only[*,go_sem]
 refine af hJ (ah hJ ?_);revert h;refine bS fun dq W h=>?_;simp only[*,go_sem];refine bn hJ _ (Hx u0 (a.mono aT) W) (aK ?_);revert h;refine cS (fun l h=>?_) fun l h=>?_
 ·rw[Bool.not_eq_true'] at l;try simp only[*,go_sem]
  refine bP hJ (by simp only[*,go_sem]) ?_;refine ah hJ ?_;revert h;refine bS fun ds X h=>?_;obtain rfl:=sI h;simp only[*,go_sem];refine rH _ (um b X) (aK ?_);try simp only[*,go_sem]
  refine ay ?_;simp only[*,go_sem]
 rw[Bool.not_eq_false'] at l;try simp only[*,go_sem]
 revert h;refine jC hJ (by simp only[*,go_sem]) (fun Y h=>?_) fun Y h=>?_
 ·refine ah hJ ?_;revert h;refine bS fun dt Z h=>?_;obtain rfl:=sI h;simp only[*,go_sem];refine rH _ (um b Z) (aK ?_);try simp only[*,go_sem]
  refine ay ?_;simp only[*,go_sem]
 refine aI hJ (af hJ ?_);refine aj hJ ?_;revert h;refine bS fun g z h=>?_;obtain ⟨du,dv⟩:=m6 z;clear z;try simp only[*,go_sem]
 refine af hJ ?_;refine cQ hJ mixed 26 1 (by simp only[*,go_sem]) (by kernel_rfl) ?_;revert h;refine bS fun f ab h=>?_;obtain ⟨dC,dE,B⟩:=cH ab;obtain ⟨ad,ae,al,ao,m⟩:=a.e.el _ _ B;obtain rfl:ae=f.cells:=ao;cases al;have ar:=m 0 _ rfl;simp only[go_sem] at ar;have a0:=m 1 _ rfl;simp only[go_sem] at a0;clear m B;revert h;refine bS fun a2 a3 h=>?_;obtain ⟨dT,ea,C⟩:=cH a3;obtain ⟨eb,a4,a5,a6,n⟩:=a.e.el _ _ C;obtain rfl:a4=a2.cells:=a6;cases a5;have a7:=n 0 _ rfl;simp only[go_sem] at a7;have a8:=n 1 _ rfl;simp only[go_sem] at a8;clear n C;revert h;refine bS fun i D h=>?_;obtain ⟨ec,ed⟩:=m6 D;clear D;try simp only[*,go_sem]
 refine af hJ ?_;refine ff [3,4,8,9,10] fun eh E G H=>?_;simp only[*,go_sem] at E G H;clear Q hd R k1 S T;refine aj hJ ?_;revert h;refine bS fun o a9 h=>?_;simp only[*,go_sem];refine ng _ (yE b u0 a (IntKind.i64.wrap (1+g)) a9) fun v et I ba q=>?_;obtain ⟨ev,rfl,c⟩:=q;replace a:=a.mono I;replace b:=b.mono I;simp only[bp] at ba;obtain ⟨d56,eQ,rfl,eS,e0,-⟩:=id c;refine aK ?_;try simp only[*,go_sem]
 refine ah hJ ?_;revert h;refine bS fun J K h=>?_;obtain ⟨e1,e2⟩:=m6 K;clear K;revert h;refine bS fun bb bc h=>?_;try simp only[*,go_sem]
 refine ng _ (yE b u0 a (if IntKind.i64.wrap ((IntKind.i64.wrap (1+g))+J)<20 then IntKind.i64.wrap ((IntKind.i64.wrap (1+g))+J) else 20) bc) fun v bd s bj q=>?_;obtain ⟨e3,rfl,L⟩:=q;replace a:=a.mono s;replace c:=c.mono s;replace b:=b.mono s;simp only[bp] at bj;obtain ⟨d70,fa,rfl,fb,fg,-⟩:=id L;refine aK ?_;try simp only[*,go_sem]
 refine ah hJ ?_;revert h;refine bS fun fi bl h=>?_;simp only[*,go_sem];refine bn hJ _ (A6 (b.mono aT) u0 (a.mono aT) bl) (aK ?_);try simp only[*,go_sem]
 refine af hJ (ah hJ ?_);revert h;refine cS (fun bm h=>?_) fun bm h=>?_
 ·cases h
 revert h;refine cS (fun bo h=>?_) fun bo h=>?_
 ·cases h
 try simp only[*,go_sem]
 revert h;refine jC hJ (by simp only[*,go_sem]) (fun M h=>?_) fun M h=>?_
 ·cases h
 rw[Bool.not_eq_false'] at M;refine aI hJ (af hJ ?_);refine af hJ ?_;refine ff [4,8,9,10,11,12,13] fun fp br bs bz=>?_;simp only[*,go_sem] at br bs bz;clear E G H;refine aj hJ ?_;simp only[*,go_sem];revert h;refine jC hJ (by simp only[*,go_sem]) (fun b0 h=>?_) fun b0 h=>?_
 ·refine ah hJ ?_;revert h;refine cS (fun b1 h=>?_) fun b1 h=>?_
  ·revert h;refine cS (fun b2 h=>?_) fun b2 h=>?_
   ·revert h;refine bS fun fr b3 h=>?_;obtain rfl:=sI h;(try simp only[*,go_sem]);refine rH _ (um b b3) (aK ?_);(try simp only[*,go_sem]);refine ay ?_;simp only[*,go_sem]
   cases h
  cases h
 refine aI hJ (af hJ ?_);refine az hJ fun b4=>?_;refine eE hJ mixed [] (.pure 0 (.rd 1 (.pure 2 (.pure 3 (.pure 4 (.pure 5 (.rd 6 (.pure 7 (.pure 8 (.pure 9 (.pure 10 (.rd 11 (.rd 12 (.pure 13 (.pure 15 (.one 14 (.one 16 (.pure 17 (.pure 18 (.pure 19 (.one 20 (.pure 21 (.pure 22 .done))))))))))))))))))))))) ⟨bd,[(U,bk u0 (sl (some ad) u0.av c4) (sl d10 u0.props P) j k)]⟩ (by simp only[*,go_sem]) (by kernel_rfl) ?_;revert h;refine bS fun fs b5 h=>?_;simp only[*,go_sem];refine ⟨_,bD hJ fun F d=>Hy o.1 (c.mono (bZ d)) 60 b5,bT ?_⟩;revert h;refine cS (fun ca h=>?_) fun ca h=>?_
 ·revert h;refine bS fun ft cb h=>?_;try simp only[*,go_sem]
  refine ⟨_,bD hJ fun F d=>Hz o.1 (c.mono (bZ d)) bb.1 (L.mono (bZ d)) cb,bT ?_⟩;revert h;refine cS (fun cd h=>?_) fun cd h=>?_
  ·revert h;refine bS fun fu cf h=>?_;(try simp only[*,go_sem]);refine ⟨_,bD hJ fun F d=>Bb o.1 (c.mono (bZ d)) (IntKind.i64.wrap (f.aH+i)) cf,bT ?_⟩;revert h;refine bS fun fv cl h=>?_;(try simp only[*,go_sem]);refine aA fun fw cy N=>?_;have fx:=aP.cons N b4;try simp only[au] at N
   (try simp only[*,go_sem]);refine bn hJ _ (HA (b.mono aT) u0 (a.mono aT) ([IntKind.i64.wrap (f.aH+i)]) ((aC.flat (r:=rI) (e:=3) (cs:=#[.int .i64 (IntKind.i64.wrap (f.aH+i))]) (fun x=>[.int .i64 x]) ([IntKind.i64.wrap (f.aH+i)]) (fun _=>rfl) cy rfl (by simp)).mono (jq (by simp only[*,go_sem]))) (IntKind.i64.wrap (1+g)) cl) ⟨by simp only[*,go_sem],bT ?_⟩;revert h;refine cS (fun c0 h=>?_) fun c0 h=>?_
   ·revert h;refine bS fun gg da h=>?_;obtain rfl:=sI h;(try simp only[*,go_sem]);refine rH _ (um b da) ⟨by simp only[*,go_sem],bT ?_⟩;(try simp only[*,go_sem]);refine ay ?_;simp only[*,go_sem]
   cases h
  cases h
 cases h
theorem La {u:ak}(h:mC u=some false):xR u:=by
 unfold mC at h;rcases iP h with ⟨a,h⟩|⟨a,h⟩
 ·cases h
 rcases iP h with ⟨b,h⟩|⟨b,h⟩
 ·cases h
 rcases iP h with ⟨c,h⟩|⟨c,h⟩
 ·cases h
 have d:=Option.some.inj h;simp only[decide_eq_false_iff_not] at a b c d;exact ⟨by omega,by omega,by omega,by omega⟩
theorem Lb (u:ak):∃b,mC u=some b:=by
 unfold mC;cases decide (20<(u.av.length:Int))<;>cases decide (20<(u.props.length:Int))<;>cases decide (20<(u.aG.length:Int))<;>exact ⟨_,rfl⟩
theorem Lc (u:ak):n5 u=some false\/(n5 u=some true/\xR u/\e4 u=some 0/\Fit u):=by
 unfold n5;obtain ⟨b,hb⟩:=Lb u;rw[hb];cases b with
 |true=>exact .inl rfl
 |false=>
  have L:=La hb;obtain ⟨c,a,d⟩:=bars L;simp only[ag,Bool.not_false,cond_true,d];cases f:(c==0) with
  |false=>exact .inl rfl
  |true=>
   have e:c=0:=by simpa using f
   subst e;exact .inr ⟨rfl,L,a,HK u L.e a⟩
theorem yM {a b:Int}(hb:0<b):ga a b=some (a.tmod b):=by
 unfold ga;rw[if_neg (by omega)]
theorem yN {a b:Int}(c:0<=a)(hb:0<b):0<=a.tmod b/\a.tmod b<b:=⟨Int.tmod_nonneg _ c,Int.tmod_lt_of_pos _ hb⟩
theorem Ld {u:ak}(F:Fit u){k:Int}(e:0<=k/\k<=255):∃a z:bY,u.av[0]?=some a/\u.av[u.av.length - 1]?=some z/\bf u.av 0=some a/\bf u.av (IntKind.i64.wrap ((u.av.length:Int) - 1))=some z/\
  ∃r,ga (IntKind.i64.wrap k) (IntKind.i64.wrap ((IntKind.i64.wrap (z.aH - a.aH))+1))=some r/\IntKind.i64.wrap (a.aH+r)=a.aH+r/\a.aH<=a.aH+r/\a.aH+r<=z.aH:=by
 have f:=F.av
 have c:u.av[0]?=some (u.av[0]'(by omega)):=List.getElem?_eq_getElem _
 have d:u.av[u.av.length - 1]?=some (u.av[u.av.length - 1]'(by omega)):=List.getElem?_eq_getElem _
 have g:=F.gm _ _ c
 have h:=F.gm _ _ d
 have i:=F.bG
 have j:(u.av[0]'(by omega)).aH<(u.av[u.av.length - 1]'(by omega)).aH:=xJ F (u.av.length - 2) 0 _ _ c (by rw[<-d];congr 1;omega)
 refine ⟨_,_,c,d,fj c,?_,?_⟩
 ·rw[cc (by omega)]
  have:=fj d
  rwa [show (((u.av.length - 1:Nat)):Int)=(u.av.length:Int) - 1 by omega] at this
 ·generalize (u.av[0]'(by omega)).aH=x at*
  generalize (u.av[u.av.length - 1]'(by omega)).aH=y at*
  rw[cc (n:=y - x) (by omega),cc (n:=y - x+1) (by omega),cc (n:=k) (by omega),yM (by omega)]
  have l:=yN (a:=k) (b:=y - x+1) e.1 (by omega)
  exact ⟨_,rfl,cc (by omega),by omega,by omega⟩
theorem Lf {a b:an}{A B C D:Nat}(c:Sm a A B)(hb:Sm b C D):Sm (fT a b) (A*D+C*B) (B*D)/\∃n d,0<d/\fT a b=bH n d:=by
 have e:=dy c.num (show b.den.natAbs<=D by have:=hb.den;omega);have f:=dy hb.num (show a.den.natAbs<=B by have:=c.den;omega);have g:=dy (show a.den.natAbs<=B by have:=c.den;omega) (show b.den.natAbs<=D by have:=hb.den;omega);have h:0<a.den*b.den:=Int.mul_pos c.den.1 hb.den.1;have:=iZ (a.num*b.den - b.num*a.den) (a.den*b.den).toNat (by omega);refine ⟨?_,_,_,by omega,rfl⟩;unfold fT;exact ⟨Nat.le_trans this.num (by omega),this.den.1,by have:=this.den.2;omega⟩
theorem yO {α ρ:Type}:∀(l:List α) (i:Nat),fH (fun _ _=>(none:Option ρ)) i l=none
 |[],_=>rfl
 |x::l,i=>by unfold fH;exact yO l (i+1)
section
variable {u : ak} {s : aQ} (F : Fit u) (hs : (1 ≤ s.back ∧ s.back ≤ 20) ∧ 0 ≤ s.high ∧ s.high ≤ 60)
include F hs
theorem Lg:Sm (eG u s).2 10000 100/\∃n d,0<d/\(eG u s).2=bH n d:=by
 obtain ⟨n,p,e,a,-⟩:=H6 F hs;have b:=F.gm n p a;rw[e];exact ⟨Bw u F s hs n p a,_,_,by omega,rfl⟩
end
abbrev Lw (x:an):Prop:=∃n d,0<d/\x=bH n d
theorem Lw.more {a b:an}(c:Lw a)(hb:Lw b):Lw (cm a b):=by
 unfold cm;cases bA a b;exact c;exact hb
theorem Lh:Lw ⟨0,1⟩:=⟨0,1,by decide,by decide⟩
section
variable {u : ak} {s : aQ} (F : Fit u) (hs : (1 ≤ s.back ∧ s.back ≤ 20) ∧ 0 ≤ s.high ∧ s.high ≤ 60)
include F hs
theorem Li:Sm (gZ u s) 10000 100:=by
 unfold gZ;cases bA (eG u s).2 ⟨u.bO,1⟩
 ·exact (Lg F hs).1
 ·exact (xA F hs).mono (by decide) (by decide)
theorem DD:Sm (gF u s) 300000000 800000/\Lw (gF u s):=by
 obtain ⟨a,b⟩:=Lf (Li F hs) (qL F hs);unfold gF;refine ⟨?_,Lw.more b Lh⟩;have z:Sm (⟨0,1⟩:an) 300000000 800000:=⟨by decide,by decide,by decide⟩
 have c:=a.mono (show _<=300000000 by decide) (show _<=800000 by decide);unfold cm;cases bA (fT (gZ u s) (gE u s)) ⟨0,1⟩
 ·exact c
 ·exact z
end
theorem yP {α ρ:Type}{g:α->Bool}{r:ρ}:∀(l:List α) (i:Nat),fH (fun _ x=>if g x then some r else none) i l=if l.any g then some r else none
 |[],_=>rfl
 |x::l,i=>by
  unfold fH
  cases h:g x with
  |true=>simp[h]
  |false=>
   simp only[h,Bool.false_eq_true,if_false,List.any_cons,Bool.false_or]
   exact yP l (i+1)
theorem DF {l:List Int}(b:l.length<=1000)(n:Int):n7 l n=some (l.any (· ==n)):=by
 unfold n7
 rw[og (t:=fun _ x=>if x==n then some true else none) l b (fun i x s a=>by
  have c:=(List.getElem?_eq_some_iff.1 a).1;unfold qs;rw[show decide ((s,(i:Int)).2<(l.length:Int))=true by simp;omega];simp only[cond_true,fj a,ag];rw[cc (n:=(i:Int)+1) (by omega)]
  cases (x==n)<;>rfl) (fun s=>by
  unfold qs
  simp) false,yP]
 cases l.any (· ==n)<;>rfl
theorem any_eq {l:List Int}{n:Int}:l.any (· ==n)=true↔n∈l:=by
 rw[List.any_eq_true];constructor
 ·rintro ⟨y,a,e⟩;have:y=n:=by simpa using e
  rw[<-this];exact a
 ·exact fun h=>⟨n,h,by simp⟩
theorem Lj {l m:List Int}(b:l.length<=1000)(hm:m.length<=1000)(h:∀n,n∈l->n∈m):qt l m=some true:=by
 unfold qt
 have:=og (t:=fun _ _=>(none:Option Bool)) l b (f:=n8 l m) (fun i x s a=>by
  have c:=(List.getElem?_eq_some_iff.1 a).1;unfold n8;rw[show decide ((s,(i:Int)).2<(l.length:Int))=true by simp;omega];simp only[cond_true,fj a,ag,DF hm,any_eq.2 (h x (List.mem_of_getElem? a)),Bool.not_true,cond_false];rw[cc (n:=(i:Int)+1) (by omega)]
  rfl) (fun s=>by
  unfold n8
  simp) false
 rw[this,yO];rfl
theorem Ll {a b c:an}(h:bA c a=false)(h':bA c b=false):bA c (cm a b)=false:=by
 unfold cm;cases bA a b<;>assumption
theorem Lm {a b c d:an}(g:0<a.den)(hb:0<b.den)(e:0<c.den)(f:0<d.den)(h:bA c a=false)(h':bA d b=false):bA (cm c d) (cm a b)=false:=
 Ll (oe (qM e f) e g B2 h) (oe (qM e f) f hb B3 h')
inductive e6:List bN->List bN->Prop
 |nil:e6 [] []
 |cons {p h h':Int} {P Q:List bN} (hh:h<=h') (t:e6 P Q):e6 (⟨p,h⟩::P) (⟨p,h'⟩::Q)
theorem e6.refl:∀P:List bN,e6 P P
 |[]=>.nil
 |⟨p,h⟩::P=>.cons (Int.le_refl _) (e6.refl P)
theorem e6.app {P Q a b:List bN}(t:e6 P Q)(c:e6 a b):e6 (P++a) (Q++b):=by
 induction t with
 |nil=>exact c
 |cons hh t ih=>exact .cons hh ih
theorem e6.places {h h':Int}(hh:h<=h'):∀l:List Int,e6 (l.map fun p=>⟨p,h⟩) (l.map fun p=>⟨p,h'⟩)
 |[]=>.nil
 |p::l=>.cons hh (e6.places hh l)
theorem e6.len {P Q:List bN}(t:e6 P Q):P.length=Q.length:=by
 induction t with
 |nil=>rfl
 |cons hh t ih=>simp[ih]
section
variable {u : ak} {s : aQ} (F : Fit u) (hs : (1 ≤ s.back ∧ s.back ≤ 20) ∧ 0 ≤ s.high ∧ s.high ≤ 60)
include F hs
theorem Ln {P Q:List bN}(t:e6 P Q):∀(i:Nat) (b a:an),(∀x,x∈P->ef u x.place=some true)->(i=0/\P≠[]\/0<b.den/\0<a.den/\bA a b=false)->
  bA (foldI (gM u s) i Q a) (foldI (gM u s) i P b)=false:=by
 induction t with
 |nil=>
  intro i b a _ h
  rcases h with ⟨_,h⟩|h
  ·exact absurd rfl h
  ·exact h.2.2
 | @cons p h h' P Q hh t ih=>
  intro i b a e hb
  have d:=e ⟨p,h⟩ (by simp)
  have d1:=B6 F hs (h:=h) d
  have d2:=B6 F hs (h:=h') d
  have m:=Ik F hs d hh
  unfold foldI
  refine ih (i+1) _ _ (fun x f=>e x (by simp[f])) (.inr ?_)
  unfold gM
  by_cases c:i=0
  ·rw[if_pos c,if_pos c];exact ⟨d1,d2,m⟩
  ·rw[if_neg c,if_neg c]
   obtain ⟨e1,e2,g⟩:=hb.resolve_left fun y=>c y.1
   exact ⟨qM e1 d1,qM e2 d2,Lm e1 d1 e2 d2 g m⟩
theorem Lo {P Q:List bN}(t:e6 P Q)(g:∀x,x∈P->ef u x.place=some true)(G:Fit (wp u P))(b:Fit (wp u Q))(h:dz (wp u P) s=false):dz (wp u Q) s=false:=by
 rw[tF G hs] at h;rw[tF b hs];have d:=t.len;have i:bA (gE (wp u Q) s) (gE (wp u P) s)=false:=by
  by_cases c:P=[]
  ·subst c;have:Q=[]:=List.length_eq_zero_iff.1 d.symm;subst this;exact k8 _
  ·have f:Q≠[]:=fun e=>c (List.length_eq_zero_iff.1 (by rw[d,e];rfl));have l:0<P.length:=List.length_pos_iff.2 c;have p2:0<Q.length:=List.length_pos_iff.2 f;unfold gE;rw[decide_eq_true (show (0:Int)<((wp u Q).props.length:Int) by show (0:Int)<(Q.length:Int);omega),decide_eq_true (show (0:Int)<((wp u P).props.length:Int) by show (0:Int)<(P.length:Int);omega)];have k:bA (lf (wp u Q) s) (lf (wp u P) s)=false:=by
    unfold lf;rw[xO,xO];exact Ln F hs t 0 _ _ g (.inl ⟨rfl,c⟩)
   exact Ib (a:=om u s) (xM F hs).den.1 (qK G hs c).den.1 (qK b hs f).den.1 k
 have j:0<u.aY.den:=by have:=F.den;omega
 exact oe j (DD G hs).1.den.1 (DD b hs).1.den.1 h (Ie G b hs rfl i)
end
section
variable {u : ak} (F : Fit u) (h : e4 u = some 0) {i : Nat} {e : b6} (he : u.aG[i]? = some e)
include F h he
theorem Lp:eU u [eK (i:Int)]=some (u,0):=by
 have hi:i<u.aG.length:=(List.getElem?_eq_some_iff.1 he).1;rw[Bt h (Iv u i),(Iw F).2 ⟨by omega,by omega⟩];rfl
theorem Lq:mw u (i:Int)=some (if (cn u).isEmpty then ([],9) else (dj u i e,0)):=by
 unfold mw;rw[Ch F (Lp F h he)];cases hs:(cn u).isEmpty with
 |true=>rfl
 |false=>
  simp only[ag,Bool.false_eq_true,if_false,bne_self_eq_false,cond_false];rw[CC F (by intro c;rw[c] at hs;cases hs) he]
omit h in
theorem yQ {n:Int}(a:n∈dj u i e):(1<=e.back/\e.back<=20)/\0<=n/\n<=60:=by
 obtain ⟨c1,c2,c3,c4,b⟩:=F.aW _ _ he;have:=oo.1 (List.mem_filter.1 a).1;exact ⟨c1,by omega,by omega⟩
end
abbrev Bd (s:aQ):Prop:=(1<=s.back/\s.back<=20)/\0<=s.high/\s.high<=60
section
variable {u : ak} (F : Fit u)
include F
omit F in
theorem uq {i:Nat}{e:b6}(he:u.aG[i]?=some e)(n:Int):ja u i n=⟨e.back,n⟩:=by unfold ja;rw[he];rfl
def oO (u:ak)(k:Nat)(i:Nat)(m:Int):Prop:=i<k/\∃e,u.aG[i]?=some e/\m∈dj u i e
omit F in
theorem yR {α:Type}{l:List α}{j:Nat}{x y:α}(h:l[j]?=some x):y∈l.take (j+1)↔y∈l.take j\/y=x:=by
 rw[List.take_add_one,h];simp
end
theorem Lr (l:List aQ)(x:aQ):p8 l x=some (l.any fun y=>x.back==y.back&&x.high==y.high):=by
 unfold p8 su
 rw[tC (t:=fun i y=>if (x.back==y.back&&x.high==y.high) then some (i:Int) else none) l 0 0 fun j y s c=>by
  unfold sr
  cases (x.back==y.back&&x.high==y.high)<;>rfl]
 obtain ⟨r,a,b⟩:=tD (g:=fun y=>x.back==y.back&&x.high==y.high) l 0;rw[a,<-b];cases r with
 |none=>rfl
 |some n=>simp[ag,aB,ko]
theorem Ls (l:List aQ)(x:aQ):(l.any fun y=>x.back==y.back&&x.high==y.high)=true↔x∈l:=by
 rw[List.any_eq_true];constructor
 ·rintro ⟨y,a,e⟩;simp only[Bool.and_eq_true,beq_iff_eq] at e;obtain ⟨e1,e2⟩:=e;cases x;cases y;simp only at e1 e2;subst e1;subst e2;exact a
 ·exact fun h=>⟨x,h,by simp⟩
def Sg (u:ak)(D:Nat->Int->Prop)(m:Nat)(l:List aQ):Prop:=l.length<=m/\∀s,s∈l↔∃i n,D i n/\s=ja u i n
section
variable {u : ak} (F : Fit u) (aF : cn u ≠ [])
theorem DG {D E:Nat->Int->Prop}{m k:Nat}{l:List aQ}(h:∀i m,D i m↔E i m)(a:m<=k)(W:Sg u D m l):Sg u E k l:=by
 have:D=E:=by funext i m;exact propext (h i m)
 rw[<-this];exact ⟨Nat.le_trans W.1 a,W.2⟩
include F aF
theorem yS {i:Nat}{e:b6}(he:u.aG[i]?=some e):1<=(dj u i e).length/\(dj u i e).length<=3:=by
 obtain ⟨c,T,d,a,b⟩:=xY F aF he;rw[b,List.length_map];exact CB a
theorem Lt {k:Nat}{e:b6}(he:u.aG[k]?=some e){l:List aQ}(W:Sg u (oO u k) (3*k) l):
  ∃q,bB (k5 ⟨u,(cn u).map dc⟩ k) 0 (dj u k e) l=some (.nx q)/\Sg u (oO u (k+1)) (3*(k+1)) q:=by
 have w:=(yS F aF he).2
 have x:k<u.aG.length:=(List.getElem?_eq_some_iff.1 he).1
 have d:=F.aG
 have key:=jD (f:=k5 ⟨u,(cn u).map dc⟩ k) (ρ:=List aQ) (g:=fun _ n (l:List aQ)=>cond (!(l.any fun y=>e.back==y.back&&n==y.high)) (l++[⟨e.back,n⟩]) l)
  (I:=fun j l=>j<=3/\Sg u (fun i m=>oO u k i m\/(i=k/\m∈(dj u k e).take j)) (3*k+j) l) (dj u k e) 0 l
  ⟨by omega,DG (fun i m=>by simp) (by omega) W⟩
  (fun j n l b o=>by
   have z:j<(dj u k e).length:=(List.getElem?_eq_some_iff.1 b).1
   have r:=Ls l ⟨e.back,n⟩
   have t:=Lr l ⟨e.back,n⟩
   have p:=o.2.1
   rw[Nat.zero_add] at o p ⊢
   refine ⟨?_,by omega,?_,fun s=>?_⟩
   ·unfold k5 iU
    simp only[fj he,ag,t]
    cases (l.any fun y=>e.back==y.back&&n==y.high) with
    |true=>rfl
    |false=>
     simp only[Bool.not_false,cond_true]
     unfold cY
     rw[if_pos (by simp;omega)]
   ·cases (l.any fun y=>e.back==y.back&&n==y.high)<;>simp<;>omega
   ·have key:s∈(cond (!(l.any fun y=>e.back==y.back&&n==y.high)) (l++[⟨e.back,n⟩]) l)↔s∈l\/s=⟨e.back,n⟩:=by
     cases c:(l.any fun y=>e.back==y.back&&n==y.high) with
     |true=>
      simp only[Bool.not_true,cond_false]
      have:=r.1 c
      constructor
      ·exact fun h=>.inl h
      ·rintro (h|rfl)
       ·exact h
       ·exact this
     |false=>simp
    rw[key,o.2.2 s]
    constructor
    ·rintro (⟨i,m,h,rfl⟩|rfl)
     ·refine ⟨i,m,?_,rfl⟩
      rcases h with h|⟨h,h'⟩
      ·exact .inl h
      ·exact .inr ⟨h,(yR b).2 (.inl h')⟩
     ·exact ⟨k,n,.inr ⟨rfl,(yR b).2 (.inr rfl)⟩,(uq he n).symm⟩
    ·rintro ⟨i,m,h,rfl⟩
     rcases h with h|⟨rfl,h'⟩
     ·exact .inl ⟨i,m,.inl h,rfl⟩
     ·rcases (yR b).1 h' with h'|rfl
      ·exact .inl ⟨i,m,.inr ⟨rfl,h'⟩,rfl⟩
      ·exact .inr (uq he m))
 refine ⟨_,key.1,DG (fun i m=>?_) (by omega) key.2.2⟩
 rw[Nat.zero_add,List.take_length]
 unfold oO
 constructor
 ·rintro (⟨p,a⟩|⟨rfl,h⟩)
  ·exact ⟨by omega,a⟩
  ·exact ⟨by omega,e,he,h⟩
 ·rintro ⟨p,v,a,d⟩
  by_cases c:i=k
  ·subst c
   rw[he] at a;cases a
   exact .inr ⟨rfl,d⟩
  ·exact .inl ⟨by omega,v,a,d⟩
theorem Lu:∃l,nM ⟨u,(cn u).map dc⟩=some l/\l≠[]/\l.length<=9/\∀s,s∈l↔∃i e n,u.aG[i]?=some e/\n∈dj u i e/\s=⟨e.back,n⟩:=by
 have o:=F.aG;have key:=jD (f:=ql ⟨u,(cn u).map dc⟩) (ρ:=List aQ)
  (g:=fun i e l=>match bB (k5 ⟨u,(cn u).map dc⟩ i) 0 (dj u i e) l with|some (.nx s)=>s|_=>l)
  (I:=fun i l=>Sg u (oO u i) (3*i) l) u.aG 0 [] ⟨by simp,fun s=>⟨fun h=>by simp at h,fun ⟨i,n,h,_⟩=>absurd h.1 (by omega)⟩⟩
  (fun j e l he b=>by
   rw[Nat.zero_add] at b ⊢;obtain ⟨s1,k1,d⟩:=Lt F aF he b;simp only[k1];refine ⟨?_,d⟩;unfold ql
   simp only[CC F aF he,ag,k1,aB])
 obtain ⟨k1,d,m⟩:=key;have hm:∀s,s∈(foldI (fun i e l=>match bB (k5 ⟨u,(cn u).map dc⟩ i) 0 (dj u i e) l with|some (.nx s)=>s|_=>l) 0 u.aG [])↔∃i e n,u.aG[i]?=some e/\n∈dj u i e/\s=⟨e.back,n⟩:=fun s=>by
  rw[m s];unfold oO;constructor
  ·rintro ⟨i,n,⟨_,e,he,a⟩,rfl⟩;exact ⟨i,e,n,he,a,uq he n⟩
  ·rintro ⟨i,e,n,he,a,rfl⟩;exact ⟨i,n,⟨by have:=(List.getElem?_eq_some_iff.1 he).1;omega,e,he,a⟩,(uq he n).symm⟩
 refine ⟨_,?_,?_,by omega,hm⟩
 ·unfold nM;simp only[k1,ag,aB]
 ·have k:u.aG[0]?=some (u.aG[0]'(by omega)):=List.getElem?_eq_getElem _;obtain ⟨f1,-⟩:=yS F aF k;obtain ⟨n,a⟩:=List.exists_mem_of_length_pos (l:=dj u 0 (u.aG[0]'(by omega))) (by omega);intro c;have:=(hm ⟨_,n⟩).2 ⟨0,_,n,k,a,rfl⟩;rw[c] at this;cases this
end
def ep (u o:ak):Bool:=(List.range u.aG.length).all fun i=>match u.aG[i]? with
 |some e=>(dj u i e).all fun n=>!dz o ⟨e.back,n⟩
 |none=>true
theorem uu {u o:ak}:ep u o=true↔∀i e n,u.aG[i]?=some e->n∈dj u i e->dz o ⟨e.back,n⟩=false:=by
 unfold ep;rw[List.all_eq_true];constructor
 ·intro a i e n he b;have:=a i (by rw[List.mem_range];exact (List.getElem?_eq_some_iff.1 he).1);rw[he] at this;have:=List.all_eq_true.1 this n b;simpa using this
 ·intro a i hi;have hi:i<u.aG.length:=by simpa using hi
  have he:u.aG[i]?=some u.aG[i]:=List.getElem?_eq_getElem hi;rw[he];refine List.all_eq_true.2 fun n b=>?_;simpa using a i _ n he b
def pr (u:ak)(h:Int)(P:List Int):ak:=wp u (u.props++P.map fun p=>⟨p,h⟩)
def dS (u:ak):Int:=((u.av[0]?).getD (⟨0,0⟩:bY)).aH
def dG (u:ak):Int:=((u.av[u.av.length - 1]?).getD (⟨0,0⟩:bY)).aH
section
variable {u : ak} (F : Fit u)
include F
theorem oP:∃a z,u.av[0]?=some a/\u.av[u.av.length - 1]?=some z/\dS u=a.aH/\dG u=z.aH/\0<=a.aH/\a.aH<z.aH/\z.aH<=59:=by
 have e:=F.av;have f:=F.bG;have b:u.av[0]?=some (u.av[0]'(by omega)):=List.getElem?_eq_getElem _;have c:u.av[u.av.length - 1]?=some (u.av[u.av.length - 1]'(by omega)):=List.getElem?_eq_getElem _;have g:=F.gm _ _ b;have h:=F.gm _ _ c;have d:=xJ F (u.av.length - 2) 0 _ _ b (by rw[<-c];congr 1;omega);exact ⟨_,_,b,c,by unfold dS;rw[b];rfl,by unfold dG;rw[c];rfl,by omega,d,by omega⟩
theorem yT (p:Int):ef u p=some (bI p (dS u) (dG u)):=by
 obtain ⟨a,z,d,e,e1,e2,-⟩:=oP F;obtain ⟨f,g,b,c,k1,h⟩:=qF u F p;rw[d] at b;cases b;rw[e] at c;cases c;rw[k1,e1,e2]
theorem DH {p:Int}(h:dS u<=p/\p<=dG u):ef u p=some true:=by
 rw[yT F,oq h.1 h.2]
theorem uv {h:Int}{P:List Int}(hh:1<=h/\h<=20)(a:∀p,p∈P->dS u<=p/\p<=dG u)(d:u.props.length+P.length<=3):Fit (pr u h P):=by
 refine Ii F (by simp;omega) fun x b=>?_;rcases List.mem_append.1 b with m|m
 ·obtain ⟨i,hi⟩:=List.mem_iff_getElem?.1 m;exact F.prop i x hi
 ·rw[List.mem_map] at m;obtain ⟨p,c,rfl⟩:=m;exact ⟨DH F (a p c),hh⟩
theorem Lv {h:Int}{P:List Int}(a:∀p,p∈P->dS u<=p/\p<=dG u):∀x,x∈u.props++P.map (fun p=>(⟨p,h⟩:bN))->ef u x.place=some true:=fun x b=>by
 rcases List.mem_append.1 b with m|m
 ·obtain ⟨i,hi⟩:=List.mem_iff_getElem?.1 m
  exact (F.prop i x hi).1
 ·rw[List.mem_map] at m
  obtain ⟨p,c,rfl⟩:=m
  exact DH F (a p c)
theorem Lx {h h':Int}{P:List Int}(d:1<=h)(f:h<=h')(g:h'<=20)(a:∀p,p∈P->dS u<=p/\p<=dG u)(b:u.props.length+P.length<=3)(hd:ep u (pr u h P)=true):ep u (pr u h' P)=true:=by
 rw[uu] at hd ⊢;intro i e n he c;exact Lo F (yQ F he c) ((e6.refl _).app (e6.places f P)) (Lv F a) (uv F ⟨d,by omega⟩ a b) (uv F ⟨by omega,g⟩ a b) (hd i e n he c)
end
section
variable {u : ak} (F : Fit u) (h : e4 u = some 0) (aF : cn u ≠ [])
include F h aF
omit F h in
theorem Ly:(cn u).isEmpty=false:=by
 cases e:cn u with
 |nil=>exact absurd e aF
 |cons a l=>rfl
end
end Go.Proofs.YtpgcmoanfifglaaGreatDoor
end

/- A part of the proof: QS10. -/
import Derived.Test.YtbpddfapodiemaaGreatDoorQS9
import Derived.Conc.AtomicLaws2
import Derived.Conc.WgArith
set_option linter.all false
section
namespace Go.Sep
open Go Go.Conc
open Go.ConcN (sumTo upd upd_ne upd_same)
open Go.ConcM (MuAt muA msA muBlock OsLater)
open Go.ConcR (WgAt wgBlock stA smA)
section
variable {c:Cy}{i:Nat}{ph:Ph}{ops:Array Oper}{j n:Nat}{Q:Act->af->Ph->Prop}{a:Act}{F:af}{f fi:FuncId}{d:Option Tmp}
theorem eg {s:Sh}:s.ms<=s.ms/\s.ws<=s.ws:=⟨Int.le_refl _,Int.le_refl _⟩
theorem zO (g:Entry c.P f (fun _=>do mark .disable;pure Extern.Race.none_)){vals:List Value}(l:At ops j a f vals d)(m:ph.gp≠ .gone)(p:ph.gp≠ .new)
  (h:ak (WJ c i) fi ops (j+1) n Q (bB a d (.tuple #[])) F {ph with deaf:=ph.deaf+1}):ak (WJ c i) fi ops j (n+1) Q a F ph:=by
 obtain ⟨o,cP,dQ,e,hg,q,_,rfl⟩:=l
 refine gd e m fun w s k φ p0 _ hs hi he r=>.inr ⟨.tuple #[],w,_,s,_,fun b t cs hb=>?_,hs,.refl _ _,r.Ey hi he p _,La,.inr eg,h⟩
 obtain ⟨fn,f1,f2,f3,f4,f5⟩:=g.ex
 exact stepG_mark0 .disable ax e (cB hg) hb.kind q f1 f2 f3 f4 f5
theorem vw (l:Entry c.P f (fun _=>do mark .enable;pure Extern.Race.none_)){vals:List Value}(m:At ops j a f vals d)(p:ph.gp≠ .gone)(q:ph.gp≠ .new){e:Nat}(hd:ph.deaf=e+1)
  (h:ak (WJ c i) fi ops (j+1) n Q (bB a d (.tuple #[])) F {ph with deaf:=e}):ak (WJ c i) fi ops j (n+1) Q a F ph:=by
 obtain ⟨o,cP,dQ,g,hg,r,_,rfl⟩:=m
 refine gd g p fun w s k φ p0 _ hs hi he t=>.inr ⟨.tuple #[],w,_,s,_,fun b u cs hb=>?_,hs,.refl _ _,t.Ey hi he q _,Lb hd,.inr eg,h⟩
 obtain ⟨fn,f1,f2,f3,f4,f5⟩:=l.ex
 exact stepG_mark0 .enable ax g (cB hg) hb.kind r f1 f2 f3 f4 f5
theorem qm {k:Nat}{φ:Nat->Ph}{p0:P0}{s:Sh}(he:φ i=ph)(a:Inv c.n c.bs k φ p0 s):Inv c.n c.bs k (upd φ i ph) p0 s:=by rw[<-he,zJ];exact a
theorem Ez (l:Entry c.P f (Extern.Race.marked .acquire))(m:At ops j a f [.pointer (some (muA c.Mu))] d)(e:ph.gp= .cnt)
  (h:ak (WJ c i) fi ops (j+1) n Q (bB a d (.tuple #[])) F ph):ak (WJ c i) fi ops j (n+1) Q a F ph:=by
 obtain ⟨o,cP,dQ,g,hg,p,q,rfl⟩:=m
 obtain ⟨x,rfl,r⟩:=kK q
 refine gd g (by rw[e];simp) fun w s k φ p0 _ hs hi he t=>.inr ⟨.tuple #[],w,_,s,ph,fun b u cs hb=>?_,hs,.refl _ _,qm he t,.word (.acquire (muA c.Mu)) rfl (.inl rfl) rfl ⟨e,e⟩,.inr eg,h⟩
 obtain ⟨fn,f1,f2,f3,f4,f5⟩:=l.ex
 exact stepG_markAt .acquire ax g (cB hg) hb.kind p f1 f2 f3 f4 f5 (by simp[e6,r])
theorem Lc (l:Entry c.P f (Extern.Race.marked .releaseMerge))(m:At ops j a f [.pointer (some (muA c.Mu))] d)(e:ph.gp= .cnt)
  (h:ak (WJ c i) fi ops (j+1) n Q (bB a d (.tuple #[])) F ph):ak (WJ c i) fi ops j (n+1) Q a F ph:=by
 obtain ⟨o,cP,dQ,g,hg,p,q,rfl⟩:=m
 obtain ⟨x,rfl,r⟩:=kK q
 refine gd g (by rw[e];simp) fun w s k φ p0 _ hs hi he t=>.inr ⟨.tuple #[],w,_,s,ph,fun b u cs hb=>?_,hs,.refl _ _,qm he t,.word (.releaseMerge (muA c.Mu)) rfl (.inr rfl) rfl ⟨e,e⟩,.inr eg,h⟩
 obtain ⟨fn,f1,f2,f3,f4,f5⟩:=l.ex
 exact stepG_markAt .releaseMerge ax g (cB hg) hb.kind p f1 f2 f3 f4 f5 (by simp[e6,r])
theorem Ld (q:Entry c.P f (Extern.Race.marked .releaseMerge))(r:At ops j a f [.pointer (some (stA c.Wg))] d)(g:ph.gp= .cnt)
  (hd:ph.deaf=0) (t:ph.mp= .idle\/ph.mp= .fin) (u:ph.stored=c.bs i)
  (h:ak (WJ c i) fi ops (j+1) n Q (bB a d (.tuple #[])) F {mp:=.fin,gp:=.rel,stored:=ph.stored,deaf:=0}):ak (WJ c i) fi ops j (n+1) Q a F ph:=by
 obtain ⟨o,cP,dQ,p,hg,v,y,rfl⟩:=r
 obtain ⟨x,rfl,z⟩:=kK y
 refine gd p (by rw[g];simp) fun w s k φ p0 _ hs hi he l=>.inr ⟨.tuple #[],w,_,s,{mp:=.fin,gp:=.rel,stored:=ph.stored,deaf:=0},fun b A cs hb=>?_,hs,.refl _ _,?_,.rel rfl ⟨hd,rfl⟩ g,.inr eg,h⟩
 .obtain ⟨fn,f1,f2,f3,f4,f5⟩:=q.ex
  exact stepG_markAt .releaseMerge ax p (cB hg) hb.kind v f1 f2 f3 f4 f5 (by simp[e6,z])
 .obtain ⟨C,S,W,L,m,hm⟩:=l.m
  refine l.kH hi he (by rw[g];simp) ax ⟨C,S,W,L,m,oo hm hi _ ?_⟩ (vl l.w hi _ (.inr ⟨by rw[he];exact g,rfl⟩)) ?_ (fun _=>⟨u,rfl⟩)
  .rw[he];rcases t with e|e
   .exact .inr ⟨e,rfl⟩
   .exact .inl e.symm
  .have:=l.i.all i hi
   rw[he] at this
   exact (zN this).symm
theorem vz (old nw:Int)(I:Entry c.P f (Extern.Atomic.casT (.int .i32)))(aN:c.Mu≠c.Wg/\c.Mu≠c.Is/\c.Wg≠c.Is)(J:At ops j a f [.pointer (some (muA c.Mu)),.int .i32 old,.int .i32 nw] d)
  (e:ph.gp= .cnt) (B:0<ph.deaf)
  (K:∀φ ms C S W L m,φ i=ph->i<c.n->cL c.n φ old ms C S W L m->∃mp,(∃g h l p q,cL c.n (upd φ i {ph with mp:=mp}) nw ms g h l p q)/\ak (WJ c i) fi ops (j+1) n Q (bB a d (.bool true)) F {ph with mp:=mp})
  (M:∀φ mu ms C S W L m,φ i=ph->i<c.n->cL c.n φ mu ms C S W L m->mu≠old->∃mp,(∃g h l p q,cL c.n (upd φ i {ph with mp:=mp}) mu ms g h l p q)/\ak (WJ c i) fi ops (j+1) n Q (bB a d (.bool false)) F {ph with mp:=mp}):ak (WJ c i) fi ops j (n+1) Q a F ph:=by
 obtain ⟨o,cP,dQ,r,hg,D,N,rfl⟩:=J
 obtain ⟨x,y,z,rfl,E,G,H⟩:=sJ N
 obtain ⟨fn,f1,f2,f3,f4,f5⟩:=I.ex
 refine gd r (by rw[e];simp) fun w s k φ p0 _ hs hi he t=>.inr ?_
 obtain ⟨C,S,W,L,m,hm⟩:=t.m
 by_cases u:s.mu=old
 .subst u
  obtain ⟨mp,v,A⟩:=K φ s.ms C S W L m he hi hm
  exact ⟨.bool true,_,_,{s with mu:=nw},{ph with mp:=mp},fun b O cs hb=>stepG_cas_hit r (cB hg) hb.kind D f1 f2 f3 f4 .i32 f5 E G H hs.mu.1 hs.mu.2,hs.Eu aN nw,.set _ (.inl rfl),t.mutex hi he e v,zL rfl Iff.rfl B (.inr ⟨rfl,e⟩),.inr eg,A⟩
 .obtain ⟨mp,v,A⟩:=M φ s.mu s.ms C S W L m he hi hm u
  exact ⟨.bool false,_,_,{s with mu:=s.mu},{ph with mp:=mp},fun b O cs hb=>stepG_cas_miss r (cB hg) hb.kind D f1 f2 f3 f4 .i32 f5 E G H hs.mu.1 hs.mu.2 u,hs,.refl _ _,t.mutex hi he e v,zK false rfl Iff.rfl B (.inr ⟨rfl,e⟩),.inr eg,A⟩
theorem zP (dl:Int)(q:Entry c.P f (Extern.Atomic.update (Op.intArith .add) .i32 true))(aN:c.Mu≠c.Wg/\c.Mu≠c.Is/\c.Wg≠c.Is)(r:At ops j a f [.pointer (some (muA c.Mu)),.int .i32 dl] d)
  (g:ph.gp= .cnt) (t:0<ph.deaf)
  (h:∀φ mu ms C S W L m,φ i=ph->i<c.n->cL c.n φ mu ms C S W L m->∃mp nw,IntKind.i32.wrap (mu+dl)=nw/\(∃u v z A B,cL c.n (upd φ i {ph with mp:=mp}) nw ms u v z A B)/\ak (WJ c i) fi ops (j+1) n Q (bB a d (.int .i32 nw)) F {ph with mp:=mp}):
  ak (WJ c i) fi ops j (n+1) Q a F ph:=by
 obtain ⟨o,cP,dQ,l,hg,D,E,rfl⟩:=r
 obtain ⟨x,y,rfl,G,H⟩:=sH E
 obtain ⟨fn,f1,f2,f3,f4,f5⟩:=q.ex
 refine gd l (by rw[g];simp) fun w s k φ p0 _ hs hi he p=>.inr ?_
 obtain ⟨C,S,W,L,m,hm⟩:=p.m
 obtain ⟨mp,nw,e,I,J⟩:=h φ s.mu s.ms C S W L m he hi hm
 exact ⟨.int .i32 nw,_,_,{s with mu:=nw},{ph with mp:=mp},fun b K cs hb=>by rw[<-e];exact stepG_add_atomic l (cB hg) hb.kind D f1 f2 f3 f4 .i32 f5 G H hs.mu.1 hs.mu.2,by rw[<-e];exact hs.Eu aN _,.set _ (.inl rfl),p.mutex hi he g I,zL rfl Iff.rfl t (.inr ⟨rfl,g⟩),.inr eg,J⟩
theorem qn {ty:TypeId}(p:(c.P.funcs[fi]?).any (·.norace)=true)(e:c.P.underlying ty=some (.int .i32)){x:Operand}(q:ot ops j a (.load ty x) d)(f:ph.gp= .cnt)(r:ev a x= .pointer (some (muA c.Mu)))
  (h:∀φ mu ms C S W L m,φ i=ph->i<c.n->cL c.n φ mu ms C S W L m->∃mp,(∃t u v y z,cL c.n (upd φ i {ph with mp:=mp}) mu ms t u v y z)/\ak (WJ c i) fi ops (j+1) n Q (bB a d (.int .i32 mu)) F {ph with mp:=mp}):
  ak (WJ c i) fi ops j (n+1) Q a F ph:=by
 obtain ⟨o,g,hg,A,rfl⟩:=q
 refine gd g (by rw[f];simp) fun w s k φ p0 _ hs hi he l=>.inr ?_
 obtain ⟨C,S,W,L,m,hm⟩:=l.m
 obtain ⟨mp,B,D⟩:=h φ s.mu s.ms C S W L m he hi hm
 have e1:execOp a.eval o=(do pure (.value (<-loadVar ty (muA c.Mu))):Sem Next):=by
  unfold execOp
  simp only[A,e6,r]
  rfl
 have E:(execOp a.eval o).run c.P w= .ok (.value (.int .i32 s.mu)) w:=by
  rw[e1]
  have:=hs.mu.1
  simp[loadVar,isAgg,run_underlying e,this]
 have G:(execOp a.eval o).events c.P w #[]=#[⟨.cell (muA c.Mu),false,false⟩]:=by
  rw[e1]
  have:=hs.mu.1
  simp[loadVar,isAgg,run_underlying e,events_load,this]
 have H:seen c.P fi #[⟨.cell (muA c.Mu),false,false⟩]=#[]:=by rw[seen_def];simp[seenStep,p]
 refine ⟨.int .i32 s.mu,w,#[],{s with mu:=s.mu},{ph with mp:=mp},fun b I cs hb=>?_,hs,.refl _ _,l.mutex hi he f B,ou rfl Iff.rfl,.inr eg,D⟩
 rw[stepG_value g (cB hg) hb.kind E]
 unfold listed
 rw[G,hb.fn,H]
end
section
variable {c:Cy}{i:Nat}{ph:Ph}{ops:Array Oper}{j n:Nat}{Q:Act->af->Ph->Prop}{a:Act}{F:af}{f fi:FuncId}{d:Option Tmp}
theorem Lf (t u:Value)(v:Entry c.P f Extern.Sync.semacquire)(aN:c.Mu≠c.Wg/\c.Mu≠c.Is/\c.Wg≠c.Is)(A:At ops j a f [.pointer (some (msA c.Mu)),t,u] d)
  (e:ph.gp= .cnt) {G:Nat} (hm:ph.mp= .jg G) (h:ak (WJ c i) fi ops (j+1) n Q (bB a d (.tuple #[])) F {ph with mp:=.kF G}):ak (WJ c i) fi ops j (n+1) Q a F ph:=by
 obtain ⟨o,cP,dQ,g,hg,p,B,rfl⟩:=A
 obtain ⟨x,y,z,rfl,q,_,_⟩:=sJ B
 obtain ⟨fn,f1,f2,f3,f4,f5⟩:=v.ex
 refine gd g (by rw[e];simp) fun w s k φ p0 _ hs hi he r=>?_
 by_cases l:s.ms=0
 .refine .inl ⟨by rw[hm];rfl,l,fun b D cs=>stepG_semacquire_wait g (cB hg) p f1 f2 f3 f4 f5 (ad:=msA c.Mu) (by simp[e6,q]) (by rw[hs.ms.1,l])⟩
 .obtain ⟨C,S,W,L,m,hM⟩:=r.m
  have hc:=hM.cnt
  refine .inr ⟨.tuple #[],_,_,{s with ms:=s.ms - 1},{ph with mp:=.kF G},fun b D cs hb=>stepG_semacquire g (cB hg) hb.kind p f1 f2 f3 f4 f5 (by simp[e6,q]) hs.ms.1 l hs.ms.2,hs.Ev aN _,.set _ (.inl rfl),
   r.mutex hi he e ⟨C,S,W,L,m - 1,Kl hM hi _ (by rw[he];exact hm) rfl aa⟩,zM rfl Iff.rfl (.inr ⟨rfl,e⟩),.inr ⟨by simp only;omega,Int.le_refl _⟩,h⟩
theorem EA (t u:Value)(l:Entry c.P f Extern.Sync.semrelease)(aN:c.Mu≠c.Wg/\c.Mu≠c.Is/\c.Wg≠c.Is)(v:At ops j a f [.pointer (some (msA c.Mu)),t,u] d)
  (e:ph.gp= .cnt) (hm:ph.mp= .qa\/ph.mp= .qb) (h:ak (WJ c i) fi ops (j+1) n Q (bB a d (.tuple #[])) F {ph with mp:=.fin}):ak (WJ c i) fi ops j (n+1) Q a F ph:=by
 obtain ⟨o,cP,dQ,p,hg,q,A,rfl⟩:=v
 obtain ⟨x,y,z,rfl,g,_,_⟩:=sJ A
 obtain ⟨fn,f1,f2,f3,f4,f5⟩:=l.ex
 refine gd p (by rw[e];simp) fun w s k φ p0 _ hs hi he r=>.inr ?_
 obtain ⟨C,S,W,L,m,hM⟩:=r.m
 have hc:=hM.cnt
 have hb:=hM.st.w
 have D:=hM.st.s
 have E:m<=1:=by
  rcases Nat.lt_or_ge S 1 with y|y
  .have:=hM.norm aa;omega
  .have:=hM.gH aa;omega
 have B:IntKind.u32.wrap (s.ms+1)=s.ms+1:=by
  unfold IntKind.wrap
  simp[IntKind.bits,IntKind.signed]
  omega
 refine ⟨.tuple #[],_,_,{s with ms:=s.ms+1},{ph with mp:=.fin},fun b G cs hb=>stepG_semrelease p (cB hg) hb.kind q f1 f2 f3 f4 f5 (by simp[e6,g]) hs.ms.1 hs.ms.2,by rw[B];exact hs.Ev aN _,.set _ (.inl rfl),
  r.mutex hi he e ⟨C,S,W,L,m+1,Kr hM hi _ (by rw[he];exact hm) rfl⟩,zM rfl Iff.rfl (.inr ⟨rfl,e⟩),.inl ⟨_,q,fun x g=>?_⟩,h⟩
 cases g
 exact ⟨f,rfl,l.Ek⟩
theorem EB (l:Entry c.P f Extern.OsHooks.nano)(e:(c.P.funcs[f]?).any (·.norace)=true){vals:List Value}(m:At ops j a f vals d)
  (p:ph.gp≠ .gone) (h:∀x:Int,ak (WJ c i) fi ops (j+1) n Q (bB a d (.int .i64 x)) F ph):ak (WJ c i) fi ops j (n+1) Q a F ph:=by
 obtain ⟨o,cP,dQ,g,hg,q,_,rfl⟩:=m
 obtain ⟨fn,f1,f2,f3,f4,f5⟩:=l.ex
 refine gd g p fun w s k φ p0 _ hs hi he r=>.inr ⟨_,w.later,#[],s,ph,fun b t cs hb=>stepG_nanotime g (cB hg) hb.kind q f1 f2 f3 f4 f5 (by rw[f1] at e;simpa using e),hs,⟨rfl,rfl,rfl,⟨w.tick,rfl⟩,fun _ _=>rfl⟩,qm he r,ou rfl Iff.rfl,.inr eg,h _⟩
theorem Lg (it:Int)(m:Entry c.P f Extern.Sync.canSpin)(p:At ops j a f [.int .i64 it] d)
  (q:ph.gp≠ .gone) (h:∀t:Bool,(t=true->it<4)->ak (WJ c i) fi ops (j+1) n Q (bB a d (.bool t)) F ph):ak (WJ c i) fi ops j (n+1) Q a F ph:=by
 obtain ⟨o,cP,dQ,e,hg,g,r,rfl⟩:=p
 obtain ⟨x,rfl,u⟩:=kK r
 obtain ⟨fn,f1,f2,f3,f4,f5⟩:=m.ex
 have hm:(#[x]:Array Operand).map a.eval=#[.int .i64 it]:=by simp[e6,u]
 refine gd e q fun w s k φ p0 _ hs hi he l=>.inr ?_
 by_cases v:4<=it
 .exact ⟨_,w,#[],s,ph,fun b y cs hb=>stepG_canSpin_no e (cB hg) hb.kind g f1 f2 f3 f4 f5 hm v,hs,.refl _ _,qm he l,ou rfl Iff.rfl,.inr eg,h false ax⟩
 .exact ⟨_,w.asked,#[],s,ph,fun b y cs hb=>stepG_canSpin_ask e (cB hg) hb.kind g f1 f2 f3 f4 f5 hm aa,hs,⟨rfl,rfl,rfl,.refl _,fun _ _=>rfl⟩,qm he l,ou rfl Iff.rfl,.inr eg,h _ (fun _=>aa)⟩
end
theorem ak.entry {P:Program}{main:Bool}{S:Type}{JF:S->Goroutine->af->Prop}{fi f:FuncId}{ops:Array Oper}{j n:Nat}{Q:Act->af->S->Prop}{a:Act}{F:af}{ph:S}{d:Option Tmp}(v:Value)(hM:eF P main (JF ph))(e:Entry P f (fun _=>pure v))
  {vals:List Value} (g:At ops j a f vals d) (h:ak JF fi ops (j+1) n Q (bB a d v) F ph):ak JF fi ops j (n+1) Q a F ph:=fun b c cs hb i=>by
 obtain ⟨fn,f1,f2,f3,f4,f5⟩:=e.ex
 obtain ⟨o,cP,dQ,k,hg,l,_,rfl⟩:=g
 rw[List.range'_succ,ff hb.round]
 refine hM.move (fr':=b.at (a.put o.dst v) (.inRegion ops (List.range' (j+1) n)::c)) (fun w=>stepG_entry_pure v k (cB hg) hb.kind l f1 f2 f3 f4 f5) (by rw[<-ff hb.round];exact h b c cs hb i)
section
variable {c:Cy}{i:Nat}{ph:Ph}{ops:Array Oper}{j n:Nat}{Q:Act->af->Ph->Prop}{a:Act}{F:af}{f fi:FuncId}{d:Option Tmp}
theorem vA (ad:Addr){src dst t:TypeId}(hs:c.P.underlying src=some (.pointer t))(hd:c.P.underlying dst=some .unsafePointer)(e:(c.P.info? t).map (fun i=>decide (i.size=0))=some false){x:Operand}
  (m:ot ops j a (.convert src dst x) d) (p:ph.gp≠ .gone) (q:ev a x= .pointer (some ad)) (hc:∀w s,cO c w s->∃v,w.cell? ad=some v) (h:ak (WJ c i) fi ops (j+1) n Q (bB a d (.pointer (some ad))) F ph):ak (WJ c i) fi ops j (n+1) Q a F ph:=by
 obtain ⟨o,f,hg,r,rfl⟩:=m
 refine gd f p fun w s k φ p0 _ g hi he u=>.inr ⟨_,w,#[],s,ph,fun b A cs hb=>?_,g,.refl _ _,qm he u,ou rfl Iff.rfl,.inr eg,h⟩
 obtain ⟨v,l⟩:=hc w s g
 have e1:execOp a.eval o=(do pure (.value (<-convert src dst (.pointer (some ad)))):Sem Next):=by
  unfold execOp
  simp only[r,e6,q]
 have y:(execOp a.eval o).run c.P w= .ok (.value (.pointer (some ad))) w:=by
  rw[e1];simp[run_convert_to_unsafe hs hd e l]
 have z:(execOp a.eval o).events c.P w #[]=#[]:=by
  rw[e1];simp[events_convert_to_unsafe hs hd e l]
 rw[stepG_value f (cB hg) hb.kind y]
 unfold listed
 rw[z,seen_none]
theorem Lh {ty:TypeId}(J:c.P.underlying ty=some .bool)(z:cq c.P ty=some 1)(A:(c.P.funcs[fi]?).any (·.norace)=false)(aN:c.Mu≠c.Wg/\c.Mu≠c.Is/\c.Wg≠c.Is){x y:Operand}
  (B:ot ops j a (.store ty x y) d) (e:ph.gp= .cnt) (g:ev a x= .pointer (some ⟨c.Is,i,none⟩)) (l:ev a y= .bool true) (h:ak (WJ c i) fi ops (j+1) n Q (bB a d undef) F {ph with stored:=true}):ak (WJ c i) fi ops j (n+1) Q a F ph:=by
 obtain ⟨o,p,hg,q,rfl⟩:=B
 refine gd p (by rw[e];simp) fun w s k φ p0 _ hs hi he f=>.inr ?_
 have hlen:=f.i.len
 have r:w.cell? ⟨c.Is,i,none⟩=some (.bool (s.is[i]'aa)):=by
  have:=hs.2.2
  simp[World.cell?,this,hlen,hi]
 have t:w.frozen? ⟨c.Is,i,none⟩=false:=by
  have:=hs.2.2
  simp[World.frozen?,this]
 have u:(sizeOf ty).run c.P w= .ok 1 w:=by
  obtain ⟨inf,e,D⟩:=Option.map_eq_some_iff.1 z
  simp[Go.sizeOf,typeInfo,e,D]
 have v:Instr.sureAddr (.pointer (some ⟨c.Is,i,none⟩))=(Pure.pure ⟨c.Is,i,none⟩:Sem Addr):=rfl
 have E:(execOp a.eval o).run c.P w= .ok .skip (w.setCell ⟨c.Is,i,none⟩ (.bool true)):=by
  unfold execOp
  simp only[q,e6,g,l]
  simp[Instr.storeAt,v,storeVar,u,Value.cells,storeCells,Addr.add,r,t,run_store c.P w ⟨c.Is,i,none⟩ (.bool true) .plain rfl,Result.andThen]
 have G:(execOp a.eval o).events c.P w #[]=#[⟨.cell ⟨c.Is,i,none⟩,true,false⟩]:=by
  unfold execOp
  simp only[q,e6,g,l]
  simp[Instr.storeAt,v,storeVar,u,Value.cells,storeCells,Addr.add,r,t,events_store c.P w _ ⟨c.Is,i,none⟩ (.bool true) .plain rfl,run_store c.P w ⟨c.Is,i,none⟩ (.bool true) .plain rfl,Result.evThen]
 have H:seen c.P fi #[⟨.cell ⟨c.Is,i,none⟩,true,false⟩]=#[⟨.cell ⟨c.Is,i,none⟩,true,false⟩]:=by rw[seen_def];simp[seenStep,A]
 obtain ⟨C,S,W,L,m,hm⟩:=f.m
 refine ⟨undef,_,_,{s with is:=s.is.set i true},{ph with stored:=true},fun b K cs hb=>?_,hs.K9 aN i true,.set _ (.inr (.inr rfl)),?_,.store rfl rfl ⟨e,e⟩,.inr eg,h⟩
 .rw[stepG_none p (cB hg) hb.kind E]
  unfold listed
  rw[G,hb.fn,H]
 .exact f.kH hi he (by rw[e];simp) (by simp[e]) ⟨C,S,W,L,m,oo hm hi _ (.inl (by rw[he]))⟩ (vl f.w hi _ (.inl (by rw[he]))) rfl (fun I=>absurd e I)
end
theorem ak.shr {P:Program}{main:Bool}{S:Type}{JF:S->Goroutine->af->Prop}{fi:FuncId}{ops:Array Oper}{j n:Nat}{Q:Act->af->S->Prop}{a:Act}{F:af}{ph:S}{d:Option Tmp}{t f:TypeId}{k b:IntKind}{u m:Int}(v:Int)(hM:eF P main (JF ph)){x y:Operand}
  (g:ot ops j a (.binOp .shr t x y f) d) (i:ev a x= .int k u) (l:ev a y= .int b m) (hm:0<=m) (c:u.fdiv (2 ^ min m.toNat k.bits)=v) (h:ak JF fi ops (j+1) n Q (bB a d (.int k v)) F ph):ak JF fi ops j (n+1) Q a F ph:=by
 obtain ⟨o,p,hg,q,rfl⟩:=g
 have e:¬m<0:=aa
 have e1:execOp a.eval o=(do eqGuard .shr t x y (.int k u) (.int b m);pure (.value (<-binOp .shr t (.int k u) (.int b m))):Sem Next):=by
  unfold execOp
  simp only[q,e6,i,l]
  simp
 refine ak.plain hM (.int k v) p hg (fun w=>?_) (fun w=>?_) h
 .rw[e1];subst c;simp[eqGuard,binOp,Op.shift,e]
 .rw[e1];subst c;simp[eqGuard,binOp,Op.shift,e]
theorem ak.ov {P:Program}{main:Bool}{S:Type}{JF:S->Goroutine->af->Prop}{fi:FuncId}{ops:Array Oper}{j n:Nat}{Q:Act->af->S->Prop}{a:Act}{F:af}{ph:S}{d:Option Tmp}{t b:TypeId}(u v:Int)(hM:eF P main (JF ph)){x y:Operand}
  (c:ot ops j a (.binOp .shr t x y b) d) (e:ev a x= .int .i32 u) (f:ev a y= .int .u64 3) (g:u.fdiv 8=v) (h:ak JF fi ops (j+1) n Q (bB a d (.int .i32 v)) F ph):ak JF fi ops j (n+1) Q a F ph:=
 ak.shr v hM c e f aB g h
end Go.Sep
end
section
namespace Go.Proofs.YtbpddfapodiemaaGreatDoor
open Go Go.Sep Go.Proofs Go.Conc
open Go.ConcN (upd upd_same)
open Go.ConcM (muA msA)
open Go.ConcR (stA smA)
set_option maxRecDepth 100000
set_option maxHeartbeats 4000000
attribute [local go_sem] Int.reduceBEq Int.reduceBNe muA msA stA smA
section
variable {Mu Wg Is n base T0 i:Nat}{bs:Nat->Bool}{st:Bool}{F:af}
theorem zQ (w:World)(s:Sh)(h:cO (CY Mu Wg Is n bs base T0) w s):∃v,w.cell? ⟨Mu,0,none⟩=some v:=⟨_,h.mu.1⟩
theorem Li (aN:Mu≠Wg/\Mu≠Is/\Wg≠Is)
  (a:cW Tryz.prog (WJ (CY Mu Wg Is n bs base T0) i) 186 #[.pointer (some (muA Mu))] F ⟨.idle,.cnt,st,1⟩ (fun v F' aU=>v= .tuple #[]/\F'=F/\aU=⟨.held,.cnt,st,0⟩)):
  cW Tryz.prog (WJ (CY Mu Wg Is n bs base T0) i) 165 #[.pointer (some (muA Mu))] F ⟨.idle,.cnt,st,0⟩ (fun v F' aU=>v= .tuple #[]/\F'=F/\aU=⟨.held,.cnt,st,0⟩):=by
 have hM:=WJ.eU (CY Mu Wg Is n bs base T0) i
 have hJ:∀ph:Ph,ph.gp= .cnt->Go.Sep.Closed Tryz.prog false (WJ (CY Mu Wg Is n bs base T0) i ph):=fun ph h=>Wk.closed (CY Mu Wg Is n bs base T0) i ph h
 refine cW.go (main:=false) hM Tryz.func165 rfl Tryz.ntmps165 ax fun A c hd hs=>?_
 have d:=hs 0
 clear hs
 repeat apply aL (hM _)
 refine dD hM ?_
 refine zO sG ⟨_,_,_,rfl,(by first|rfl|simp only[*,go_sem]),rfl,by first|(simp only[*,go_sem];done)|(simp only[*,go_sem];rfl),rfl⟩ ax ax ?_
 refine ak.nil hM ?_;try simp only[go_sem]
 repeat apply aL (hM _)
 refine dD hM ?_
 refine ak.bL (hJ _ rfl) 3 (n:=1) _ rfl rfl ?_;apply ag _
 refine vz 0 1 vt aN ⟨_,_,_,rfl,(by first|rfl|simp only[*,go_sem]),rfl,by first|(simp only[*,go_sem];done)|(simp only[*,go_sem];rfl),rfl⟩ (by rfl) ax (fun φ ms C S W L m he hi hm=>⟨.held,⟨0,0,0,1,m,Kg hm hi _ (by rw[he]) rfl rfl⟩,?_⟩) (fun φ mu ms C S W L m he hi hm e=>⟨.idle,⟨C,S,W,L,m,oo hm hi _ (.inl (by rw[he]))⟩,?_⟩)
 .refine ak.nil hM ?_;try simp only[go_sem]
  repeat apply aL (hM _)
  refine dB (hM _) aM ?_
  repeat apply aL (hM _)
  refine dB (hM _) aM ?_
  repeat apply aL (hM _)
  refine dD hM ?_
  refine vw mJ ⟨_,_,_,rfl,(by first|rfl|simp only[*,go_sem]),rfl,by first|(simp only[*,go_sem];done)|(simp only[*,go_sem];rfl),rfl⟩ ax ax rfl ?_
  refine ak.nil hM ?_;try simp only[go_sem]
  repeat apply aL (hM _)
  refine dD hM ?_
  refine ak.bL (hJ _ rfl) 1 (n:=2) _ rfl rfl ?_;apply ag _
  refine vA ⟨Mu,0,none⟩ zF mK zH ⟨_,rfl,(by first|rfl|simp only[*,go_sem]),rfl,rfl⟩ ax aM zQ ?_
  refine Ez vr ⟨_,_,_,rfl,(by first|rfl|simp only[*,go_sem]),rfl,by first|(simp only[*,go_sem];done)|(simp only[*,go_sem];rfl),rfl⟩ (by rfl) ?_
  refine ak.nil hM ?_;try simp only[go_sem]
  refine gb ?_;try simp only[go_sem]
  exact qj rfl aM ⟨rfl,rfl,rfl⟩
 .refine ak.nil hM ?_;try simp only[go_sem]
  repeat apply aL (hM _)
  refine cU (hM _) aM ?_
  apply cX (hM _);try simp only[go_sem]
  repeat apply aL (hM _)
  refine dD hM ?_
  refine ak.bL (hJ _ rfl) 1 (n:=1) _ rfl rfl ?_;apply ag _
  refine ak.gK (hM _) rfl rfl rfl GF (by simp only[*,go_sem,muA]) a fun v F' aU b=>?_
  obtain ⟨rfl,rfl,rfl⟩:=b
  refine ak.nil hM ?_
  exact mH rfl aM ⟨rfl,rfl,rfl⟩
def jV (C S W:Nat)(nw:Int)(G:Nat):Mp:=if S=1 then .qb else if 0<C/\W=0 then .g6 nw G else .fin
def Lj (Mu n:Nat)(st:Bool)(F:af)(m:Nat)(a:Act)(F':af)(aU:Ph):Prop:=
 ∃(old:Int) (C S W L G:Nat),F'=F/\slot a 0= .pointer (some ⟨Mu,0,none⟩)/\slot a 4= .int .i32 old/\sz a=43/\a.defers=[]/\Wd old C S W L/\C<=3*n/\G<=m/\
   ((S=0/\L=0/\W=0/\0<C/\aU=⟨.g6 old G,.cnt,st,1⟩)\/(¬(S=0/\L=0/\W=0/\0<C)/\aU=⟨.fin,.cnt,st,1⟩))
theorem Ll (aN:Mu≠Wg/\Mu≠Is/\Wg≠Is)(Y:n<67108864){nw:Int}{C S W G:Nat}(hw:Wd nw C S W 0)(hC:C<=3*n):
  cW Tryz.prog (WJ (CY Mu Wg Is n bs base T0) i) 188 #[.pointer (some (muA Mu)),.int .i32 nw] F ⟨jV C S W nw G,.cnt,st,1⟩ (fun v F' aU=>v= .tuple #[]/\F'=F/\aU=⟨.fin,.cnt,st,1⟩):=by
 have hM:=WJ.eU (CY Mu Wg Is n bs base T0) i
 have hJ:∀ph:Ph,ph.gp= .cnt->Go.Sep.Closed Tryz.prog false (WJ (CY Mu Wg Is n bs base T0) i ph):=fun ph h=>Wk.closed (CY Mu Wg Is n bs base T0) i ph h
 refine cW.go (main:=false) hM Tryz.func188 rfl Tryz.ntmps188 ax fun A r hd hs=>?_
 have t:=hs 0
 have k1:=hs 1
 clear hs
 have u:=hw.st.s
 have hW:=hw.st.w
 have w1:IntKind.i32.wrap (nw+1)=nw+1:=by have e0:=hw.st.eq;exact ji aa aa
 have y:Wd (nw+1) C S W 1:=by have e0:=hw.st.eq;exact wd ⟨aa,aa,hW,u⟩ aa
 have I:eE (nw+1) 1=1:=y.a1
 repeat apply aL (hM _)
 refine dD hM ?_
 refine ak.bL (hJ _ rfl) 4 (n:=0) _ rfl rfl ?_;apply ag _
 refine ak.nil hM ?_;try simp only[go_sem]
 repeat apply aL (hM _)
 refine cU (hM _) aM ?_
 apply cX (hM _);try simp only[go_sem]
 rcases (by omega:S=1\/S=0) with rfl|rfl
 ·
  have b4:eE nw 4=4:=hw.a4
  repeat apply aL (hM _)
  refine dD hM ?_
  refine ak.bL (hJ _ rfl) 3 (n:=0) _ rfl rfl ?_;apply ag _
  refine ak.nil hM ?_;try simp only[go_sem]
  repeat apply aL (hM _)
  refine cU (hM _) aM ?_
  repeat apply aL (hM _)
  refine dD hM ?_
  refine ak.bL (hJ _ rfl) 3 (n:=1) _ rfl rfl ?_;apply ag _
  refine EA (.bool true) (.int .i64 2) Em aN ⟨_,_,_,rfl,(by first|rfl|simp only[*,go_sem]),rfl,by first|(simp only[*,go_sem];done)|(simp only[*,go_sem];rfl),rfl⟩ (by rfl) (by simp[jV]) ?_
  refine ak.nil hM ?_;try simp only[go_sem]
  exact mH rfl aM ⟨rfl,rfl,rfl⟩
 .have b4:eE nw 4=0:=hw.a4
  repeat apply aL (hM _)
  refine dD hM ?_
  refine ak.bL (hJ _ rfl) 3 (n:=0) _ rfl rfl ?_;apply ag _
  refine ak.nil hM ?_;try simp only[go_sem]
  repeat apply aL (hM _)
  refine dB (hM _) aM ?_
  repeat apply aL (hM _)
  refine dD hM ?_
  refine ak.bL (hJ _ rfl) 2 (n:=0) _ rfl rfl ?_;apply ag _
  refine ak.nil hM ?_;try simp only[go_sem]
  repeat apply aL (hM _)
  refine kI hM ?_
  refine sF hM (fun m J F' aU=>Lj Mu n st F m J F' aU) G ?_ ?_
  .refine ⟨nw,C,0,W,0,G,rfl,by simp only[*,go_sem,muA],aM,aM,aM,hw,hC,Nat.le_refl _,?_⟩
   by_cases hc:0<C/\W=0
   .exact .inl ⟨rfl,rfl,hc.2,hc.1,by simp[jV,hc]⟩
   .exact .inr ⟨fun x=>hc ⟨x.2.2.2,x.2.2.1⟩,by simp[jV,hc]⟩
  .clear hw hC b4 I y w1 u hW t k1 r hd
   rintro m A F' aU ⟨old,C,S,W,L,G,rfl,t,Z,r,hd,hw,hC,ab,K⟩
   repeat apply aL (hM _)
   refine kI hM ?_
   have sh:old.fdiv 8=(C:Int):=hw.sh
   rcases K with ⟨rfl,rfl,rfl,f,rfl⟩|⟨ad,rfl⟩
   ·
    have M:eE old 7=0:=hw.a7
    have z:((C:Int)==0)=false:=by simp;omega
    repeat apply aL (hM _)
    refine dD hM ?_
    refine ak.bL (hJ _ rfl) 1 (n:=7) _ rfl rfl ?_;apply ag _
    refine ak.ov old (C:Int) (hM _) ⟨_,rfl,(by first|rfl|simp only[*,go_sem]),rfl,rfl⟩ aM aM hw.sh ?_
    refine ak.bL (hJ _ rfl) 6 (n:=0) _ rfl rfl ?_;apply ag _
    refine ak.nil hM ?_;try simp only[go_sem]
    repeat apply aL (hM _)
    refine cU (hM _) aM ?_
    apply cX (hM _);try simp only[go_sem]
    have ae:IntKind.i32.wrap (old - 8)=old - 8:=by have e0:=hw.st.eq;exact ji aa aa
    have N:Wd (old - 8) (C - 1) 0 0 0:=by have e0:=hw.st.eq;exact wd ⟨aa,aa,aa,aa⟩ aa
    have o2:jQ (old - 8) 2=old - 8+2:=N.o2
    repeat apply aL (hM _)
    refine dD hM ?_
    refine ak.bL (hJ _ rfl) 4 (n:=0) _ rfl rfl ?_;apply ag _
    refine ak.nil hM ?_;try simp only[go_sem]
    repeat apply aL (hM _)
    refine dD hM ?_
    refine ak.bL (hJ _ rfl) 5 (n:=1) _ rfl rfl ?_;apply ag _
    refine vz old (old - 8+2) vt aN ⟨_,_,_,rfl,(by first|rfl|simp only[*,go_sem]),rfl,by first|(simp only[*,go_sem];done)|(simp only[*,go_sem];rfl),rfl⟩ (by rfl) ax (fun φ ms O P Q R g he hi hm=>?_) (fun φ mu ms O P Q R g he hi hm T=>?_)
    .obtain ⟨rfl,rfl,rfl,rfl⟩:=hm.st.uniq hw.st
     refine ⟨.qa,⟨_,_,_,_,g,Kp hm hi _ (by rw[he]) rfl rfl rfl rfl f⟩,?_⟩
     refine ak.nil hM ?_;try simp only[go_sem]
     repeat apply aL (hM _)
     refine dB (hM _) aM ?_
     repeat apply aL (hM _)
     refine dD hM ?_
     refine ak.bL (hJ _ rfl) 3 (n:=1) _ rfl rfl ?_;apply ag _
     refine EA (.bool false) (.int .i64 2) Em aN ⟨_,_,_,rfl,(by first|rfl|simp only[*,go_sem]),rfl,by first|(simp only[*,go_sem];done)|(simp only[*,go_sem];rfl),rfl⟩ (by rfl) ax ?_
     refine ak.nil hM ?_;try simp only[go_sem]
     refine gb ?_;try simp only[go_sem]
     exact qj rfl aM ⟨rfl,rfl,rfl⟩
    .obtain ⟨U,al,V⟩:=Kq hm hi {mp:=.g6 mu (b8 n φ ms),gp:=.cnt,stored:=st,deaf:=1} (by rw[he]) rfl
     have ao:b8 n φ ms<G:=V T
     refine ⟨.g6 mu (b8 n φ ms),⟨_,_,_,_,g,U⟩,?_⟩
     refine ak.nil hM ?_;try simp only[go_sem]
     repeat apply aL (hM _)
     refine cU (hM _) aM ?_
     apply cX (hM _);try simp only[go_sem]
     repeat apply aL (hM _)
     refine dD hM ?_
     refine ak.bL (hJ _ rfl) 3 (n:=2) _ rfl rfl ?_;apply ag _
     refine qn K8 ql ⟨_,rfl,(by first|rfl|simp only[*,go_sem]),rfl,rfl⟩ (by rfl) aM (fun b e c j k l o B D E d=>?_)
     have H:=wd d.st (by have:=d.bound;simp only[CY] at this;omega)
     by_cases a:k=0/\o=0/\l=0/\0<j
     .obtain ⟨p,q,_⟩:=DY d E {mp:=.g6 e (b8 n b c),gp:=.cnt,stored:=st,deaf:=1} (by rw[D]) (.inl ⟨a.1,a.2.1,a.2.2.1,a.2.2.2,rfl⟩)
      have X:b8 n b c<=b8 n φ ms:=q
      refine ⟨.g6 e (b8 n b c),⟨_,_,_,_,B,p⟩,?_⟩
      refine ak.bL (hJ _ rfl) 1 (n:=0) _ rfl rfl ?_;apply ag _
      refine ak.nil hM ?_;try simp only[go_sem]
      exact ⟨b8 n b c,aa,e,j,k,l,o,b8 n b c,rfl,aM,aM,aM,aM,H,d.bound,Nat.le_refl _,.inl ⟨a.1,a.2.1,a.2.2.1,a.2.2.2,rfl⟩⟩
     .obtain ⟨p,q,_⟩:=DY d E {mp:=.fin,gp:=.cnt,stored:=st,deaf:=1} (by rw[D]) (.inr ⟨a,rfl⟩)
      have X:b8 n b c<=b8 n φ ms:=q
      refine ⟨.fin,⟨_,_,_,_,B,p⟩,?_⟩
      refine ak.bL (hJ _ rfl) 1 (n:=0) _ rfl rfl ?_;apply ag _
      refine ak.nil hM ?_;try simp only[go_sem]
      exact ⟨b8 n b c,aa,e,j,k,l,o,b8 n b c,rfl,aM,aM,aM,aM,H,d.bound,Nat.le_refl _,.inr ⟨a,rfl⟩⟩
   ·
    by_cases f:C=0
    .have z:((C:Int)==0)=true:=by simp[f]
     repeat apply aL (hM _)
     refine dD hM ?_
     refine ak.bL (hJ _ rfl) 1 (n:=7) _ rfl rfl ?_;apply ag _
     refine ak.ov old (C:Int) (hM _) ⟨_,rfl,(by first|rfl|simp only[*,go_sem]),rfl,rfl⟩ aM aM hw.sh ?_
     refine ak.bL (hJ _ rfl) 6 (n:=0) _ rfl rfl ?_;apply ag _
     refine ak.nil hM ?_;try simp only[go_sem]
     repeat apply aL (hM _)
     refine dB (hM _) aM ?_
     refine gb ?_;try simp only[go_sem]
     exact qj rfl aM ⟨rfl,rfl,rfl⟩
    .have z:((C:Int)==0)=false:=by simp;omega
     have M:=hw.a7
     have ar:(((4*S+(2*W+L):Nat):Int) != 0)=true:=by simp;omega
     repeat apply aL (hM _)
     refine dD hM ?_
     refine ak.bL (hJ _ rfl) 1 (n:=7) _ rfl rfl ?_;apply ag _
     refine ak.ov old (C:Int) (hM _) ⟨_,rfl,(by first|rfl|simp only[*,go_sem]),rfl,rfl⟩ aM aM hw.sh ?_
     refine ak.bL (hJ _ rfl) 6 (n:=0) _ rfl rfl ?_;apply ag _
     refine ak.nil hM ?_;try simp only[go_sem]
     repeat apply aL (hM _)
     refine dB (hM _) aM ?_
     refine gb ?_;try simp only[go_sem]
     exact qj rfl aM ⟨rfl,rfl,rfl⟩
theorem Lm (aN:Mu≠Wg/\Mu≠Is/\Wg≠Is)(g:n<67108864):
  cW Tryz.prog (WJ (CY Mu Wg Is n bs base T0) i) 166 #[.pointer (some (muA Mu))] F ⟨.held,.cnt,st,0⟩ (fun v F' aU=>v= .tuple #[]/\F'=F/\aU=⟨.fin,.cnt,st,0⟩):=by
 have hM:=WJ.eU (CY Mu Wg Is n bs base T0) i
 have hJ:∀ph:Ph,ph.gp= .cnt->Go.Sep.Closed Tryz.prog false (WJ (CY Mu Wg Is n bs base T0) i ph):=fun ph h=>Wk.closed (CY Mu Wg Is n bs base T0) i ph h
 refine cW.go (main:=false) hM Tryz.func166 rfl Tryz.ntmps166 ax fun A u hd hs=>?_
 have x:=hs 0
 clear hs
 repeat apply aL (hM _)
 refine dB (hM _) aM ?_
 repeat apply aL (hM _)
 refine dD hM ?_
 refine ak.bL (hJ _ rfl) 3 (n:=1) _ rfl rfl ?_;apply ag _
 refine qn K7 ql ⟨_,rfl,(by first|rfl|simp only[*,go_sem]),rfl,rfl⟩ (by rfl) aM (fun y z B D E G H j k l o=>⟨.held,⟨_,_,_,_,j,oo o l _ (.inl (by rw[k]))⟩,?_⟩)
 refine ak.nil hM ?_;try simp only[go_sem]
 repeat apply aL (hM _)
 refine dD hM ?_
 refine ak.bL (hJ _ rfl) 1 (n:=2) _ rfl rfl ?_;apply ag _
 refine vA ⟨Mu,0,none⟩ zF mK zH ⟨_,rfl,(by first|rfl|simp only[*,go_sem]),rfl,rfl⟩ ax aM zQ ?_
 refine Lc El ⟨_,_,_,rfl,(by first|rfl|simp only[*,go_sem]),rfl,by first|(simp only[*,go_sem];done)|(simp only[*,go_sem];rfl),rfl⟩ (by rfl) ?_
 refine ak.nil hM ?_;try simp only[go_sem]
 repeat apply aL (hM _)
 refine dD hM ?_
 refine zO sG ⟨_,_,_,rfl,(by first|rfl|simp only[*,go_sem]),rfl,by first|(simp only[*,go_sem];done)|(simp only[*,go_sem];rfl),rfl⟩ ax ax ?_
 refine ak.nil hM ?_;try simp only[go_sem]
 repeat apply aL (hM _)
 refine dD hM ?_
 refine ak.bL (hJ _ rfl) 3 (n:=2) _ rfl rfl ?_;apply ag _
 refine zP (-1) zD aN ⟨_,_,_,rfl,(by first|rfl|simp only[*,go_sem]),rfl,by first|(simp only[*,go_sem];done)|(simp only[*,go_sem];rfl),rfl⟩ (by rfl) ax (fun φ mu ms C S W L m he hi hm=>?_)
 have p:=DX hm hi (by rw[he])
 subst p
 have hb:C<=3*n:=hm.bound
 have q:=hm.st.s
 have hW:=hm.st.w
 have c:IntKind.i32.wrap (mu+ -1)=mu - 1:=by have e0:=hm.st.eq;exact ji aa aa
 have f:St (mu - 1) C S W 0:=⟨by have e0:=hm.st.eq;omega,aa,hW,q⟩
 have hw:Wd (mu - 1) C S W 0:=wd f aa
 have d:cL n (upd φ i ⟨jV C S W (mu - 1) (sm n φ Mp.wt+2*m),.cnt,st,1⟩) (mu - 1) ms C S W 0 m:=by
  refine Ko hm hi _ (by rw[he]) ?_
  by_cases a:S=1
  .exact .inl ⟨a,by simp[jV,a]⟩
  .by_cases b:0<C/\W=0
   .exact .inr (.inl ⟨aa,b.1,b.2,by simp[jV,a,b]⟩)
   .exact .inr (.inr ⟨aa,aa,by simp[jV,a,b]⟩)
 refine ⟨jV C S W (mu - 1) (sm n φ Mp.wt+2*m),mu - 1,c,⟨_,_,_,_,m,d⟩,?_⟩
 refine ak.bL (hJ _ rfl) 1 (n:=0) _ rfl rfl ?_;apply ag _
 refine ak.nil hM ?_;try simp only[go_sem]
 by_cases e:mu - 1=0
 .have e0:=f.eq
  have r:jV C S W (mu - 1) (sm n φ Mp.wt+2*m)= .fin:=by
   have:C=0:=aa
   have:S=0:=aa
   simp[jV, *]
  clear hw d c e0
  rw[r]
  rw[e]
  repeat apply aL (hM _)
  refine dD hM ?_
  refine ak.bL (hJ _ rfl) 2 (n:=0) _ rfl rfl ?_;apply ag _
  refine ak.nil hM ?_;try simp only[go_sem]
  repeat apply aL (hM _)
  refine cU (hM _) aM ?_
  apply cX (hM _);try simp only[go_sem]
  repeat apply aL (hM _)
  refine dD hM ?_
  refine vw mJ ⟨_,_,_,rfl,(by first|rfl|simp only[*,go_sem]),rfl,by first|(simp only[*,go_sem];done)|(simp only[*,go_sem];rfl),rfl⟩ ax ax rfl ?_
  refine ak.nil hM ?_;try simp only[go_sem]
  exact mH rfl aM ⟨rfl,rfl,rfl⟩
 .have I:(mu - 1 != 0)=true:=by simpa using e
  clear d c e
  repeat apply aL (hM _)
  refine dD hM ?_
  refine ak.bL (hJ _ rfl) 2 (n:=0) _ rfl rfl ?_;apply ag _
  refine ak.nil hM ?_;try simp only[go_sem]
  repeat apply aL (hM _)
  refine dB (hM _) aM ?_
  repeat apply aL (hM _)
  refine dD hM ?_
  refine ak.bL (hJ _ rfl) 2 (n:=1) _ rfl rfl ?_;apply ag _
  refine ak.gK (hM _) rfl rfl rfl GG (by simp only[*,go_sem,muA]) (Ll aN g hw hb) fun v F' aU t=>?_
  obtain ⟨rfl,rfl,rfl⟩:=t
  refine ak.nil hM ?_;try simp only[go_sem]
  repeat apply aL (hM _)
  refine dD hM ?_
  refine vw mJ ⟨_,_,_,rfl,(by first|rfl|simp only[*,go_sem]),rfl,by first|(simp only[*,go_sem];done)|(simp only[*,go_sem];rfl),rfl⟩ ax ax rfl ?_
  refine ak.nil hM ?_;try simp only[go_sem]
  exact mH rfl aM ⟨rfl,rfl,rfl⟩
end
end Go.Proofs.YtbpddfapodiemaaGreatDoor
end
section
namespace Go.Sep
open Go Go.Conc
def vB {S:Type}(b:Act->af->S->Prop)(Q:Ex->Act->af->S->Prop):Ex->Act->af->S->Prop
 | .normal,a,F,ph=>b a F ph
 |e,a,F,ph=>Q e a F ph
attribute [go_sem] vB
theorem lJ {P:Program}{main:Bool}{S:Type}{JF:S->Goroutine->af->Prop}{fi:FuncId}{Q:Ex->Act->af->S->Prop}{a:Act}{F:af}{ph:S}(hM:∀ph,eF P main (JF ph)){x y:Code}(b:Act->af->S->Prop)
  (c:c6 JF fi x (vB b Q) a F ph) (d:∀a F ph,b a F ph->c6 JF fi y Q a F ph):c6 JF fi (.seq x y) Q a F ph:=
 aL (hM _) (c.mono fun e a F ph h=>by
  cases e with
  |normal=>exact d a F ph h
  |exit i=>exact h
  |ret=>exact h)
theorem vC {P:Program}{main:Bool}{S:Type}{JF:S->Goroutine->af->Prop}{fi:FuncId}{Q:Ex->Act->af->S->Prop}{a:Act}{F:af}{ph:S}(hM:∀ph,eF P main (JF ph)){x:Code}(b:Act->af->S->Prop)
  (c:c6 JF fi x (vB b Q) a F ph) (d:∀a F ph,b a F ph->Q .normal a F ph):c6 JF fi x Q a F ph:=
 c.mono fun e a F ph h=>by
  cases e with
  |normal=>exact d a F ph h
  |exit i=>exact h
  |ret=>exact h
theorem bD {P:Program}{main:Bool}{S:Type}{JF:S->Goroutine->af->Prop}{fi:FuncId}{Q:Ex->Act->af->S->Prop}{a:Act}{F:af}{ph:S}(hM:∀ph,eF P main (JF ph)){id:Nat}{ops:Array Oper}
  (h:∀K:Act->af->S->Prop,(∀a F ph,Q .normal a F ph->K a F ph)->ak JF fi ops 0 ops.size K a F ph):c6 JF fi (.region id ops false) Q a F ph:=dD hM (h _ fun _ _ _ h=>h)
theorem e4 {S:Type}{b:Act->af->S->Prop}{Q:Ex->Act->af->S->Prop}{a:Act}{F:af}{ph:S}(h:b a F ph):vB b Q .normal a F ph:=h
theorem jI {S:Type}{I:Nat->Act->af->S->Prop}{n:Nat}{Q:Ex->Act->af->S->Prop}{a:Act}{F:af}{ph:S}(h:∃m,m<n/\I m a F ph):zB I n Q .normal a F ph:=h
theorem Ln {x:Int}(a: -9223372036854775808<=x)(b:x<9223372036854775808):IntKind.i64.wrap x=x:=by
 unfold IntKind.wrap;simp[IntKind.bits,IntKind.signed];omega
end Go.Sep
namespace Go.Proofs.YtbpddfapodiemaaGreatDoor
open Go Go.Sep Go.Proofs Go.Conc
open Go.ConcN (upd upd_same)
open Go.ConcM (muA msA)
open Go.ConcR (stA smA)
set_option maxRecDepth 100000
set_option maxHeartbeats 8000000
set_option linter.all false
attribute [local go_sem] Int.reduceBEq Int.reduceBNe muA msA stA smA
def vD (Mu n:Nat)(st:Bool)(F:af)(m:Nat)(a:Act)(F':af)(ph:Ph):Prop:=
 ∃(wt it old:Int) (sv aw:Bool) (C S W L G:Nat),F'=F/\slot a 0= .pointer (some ⟨Mu,0,none⟩)/\slot a 2= .int .i64 wt/\slot a 3= .bool sv/\slot a 4= .bool aw/\slot a 5= .int .i64 it/\slot a 6= .int .i32 old/\sz a=139/\a.defers=[]/\
  Wd old C S W L/\C<=3*n/\0<=it/\it<=4/\(sv=true->aw=true)/\(aw=true->S=0/\W=1)/\8*G+(5 - it).toNat<=m/\ph=⟨.want aw old G,.cnt,st,1⟩
def vE (Mu:Nat)(st:Bool)(F:af)(a:Act)(F':af)(ph:Ph):Prop:=F'=F/\slot a 0= .pointer (some ⟨Mu,0,none⟩)/\sz a=139/\a.defers=[]/\ph=⟨.held,.cnt,st,1⟩
def Lo (Mu:Nat)(st:Bool)(F:af)(wt it:Int)(sv:Bool)(G:Nat)(a:Act)(F':af)(ph:Ph):Prop:=
 ∃(aw:Bool) (o:Int) (b:Nat),F'=F/\slot a 0= .pointer (some ⟨Mu,0,none⟩)/\slot a 2= .int .i64 wt/\slot a 3= .bool sv/\slot a 4= .bool aw/\slot a 5= .int .i64 it/\sz a=139/\a.defers=[]/\(sv=true->aw=true)/\b<=G/\ph=⟨.want aw o b,.cnt,st,1⟩
def sK (Mu:Nat)(st:Bool)(F:af)(wt it old:Int)(x:Option Int)(sv aw:Bool)(G:Nat)(a:Act)(F':af)(ph:Ph):Prop:=
 F'=F/\slot a 0= .pointer (some ⟨Mu,0,none⟩)/\slot a 2= .int .i64 wt/\slot a 3= .bool sv/\slot a 4= .bool aw/\slot a 5= .int .i64 it/\slot a 6= .int .i32 old/\(∀y,x=some y->slot a 7= .int .i32 y)/\sz a=139/\a.defers=[]/\ph=⟨.want aw old G,.cnt,st,1⟩
def EC (Mu:Nat)(st:Bool)(F:af)(sv:Bool)(mp:Mp)(a:Act)(F':af)(ph:Ph):Prop:=
 ∃wt:Int,F'=F/\slot a 0= .pointer (some ⟨Mu,0,none⟩)/\slot a 2= .int .i64 wt/\slot a 3= .bool sv/\sz a=139/\a.defers=[]/\ph=⟨mp,.cnt,st,1⟩
def ED (Mu:Nat)(st:Bool)(F:af)(mp:Mp)(a:Act)(F':af)(ph:Ph):Prop:=
 ∃(wt:Int) (sv:Bool),F'=F/\slot a 0= .pointer (some ⟨Mu,0,none⟩)/\slot a 2= .int .i64 wt/\slot a 3= .bool sv/\sz a=139/\a.defers=[]/\ph=⟨mp,.cnt,st,1⟩
def Lp (Mu:Nat)(st:Bool)(F:af)(y:Bool)(a:Act)(F':af)(ph:Ph):Prop:=
 ∃e:Bool,F'=F/\slot a 0= .pointer (some ⟨Mu,0,none⟩)/\slot a 9= .int .i32 (-7)/\slot a 123= .bool e/\sz a=139/\a.defers=[]/\(e=false->y=true)/\ph=⟨.lG y,.cnt,st,1⟩
section
variable {Mu Wg Is n base T0 i:Nat}{bs:Nat->Bool}{st:Bool}{F:af}
theorem Lq (aN:Mu≠Wg/\Mu≠Is/\Wg≠Is)(eQ:n<67108864):
  cW Tryz.prog (WJ (CY Mu Wg Is n bs base T0) i) 186 #[.pointer (some (muA Mu))] F ⟨.idle,.cnt,st,1⟩ (fun v F' aU=>v= .tuple #[]/\F'=F/\aU=⟨.held,.cnt,st,0⟩):=by
 have hM:=WJ.eU (CY Mu Wg Is n bs base T0) i
 have hJ:∀ph:Ph,ph.gp= .cnt->Go.Sep.Closed Tryz.prog false (WJ (CY Mu Wg Is n bs base T0) i ph):=fun ph h=>Wk.closed (CY Mu Wg Is n bs base T0) i ph h
 refine cW.go (main:=false) hM Tryz.func186 rfl Tryz.ntmps186 ax fun A b hd hs=>?_
 have c:=hs 0
 clear hs
 repeat apply aL (hM _)
 refine bD hM fun K hK=>?_
 refine ak.bL (hJ _ rfl) 1 (n:=0) _ rfl rfl ?_;apply cc _
 refine ak.nil hM (hK _ _ _ ?_);clear hK K
 repeat apply aL (hM _)
 refine bD hM fun K hK=>?_
 refine ak.bL (hJ _ rfl) 1 (n:=0) _ rfl rfl ?_;apply cc _
 refine ak.nil hM (hK _ _ _ ?_);clear hK K
 repeat apply aL (hM _)
 refine bD hM fun K hK=>?_
 refine ak.bL (hJ _ rfl) 1 (n:=0) _ rfl rfl ?_;apply cc _
 refine ak.nil hM (hK _ _ _ ?_);clear hK K
 repeat apply aL (hM _)
 refine bD hM fun K hK=>?_
 refine ak.bL (hJ _ rfl) 1 (n:=0) _ rfl rfl ?_;apply cc _
 refine ak.nil hM (hK _ _ _ ?_);clear hK K
 repeat apply aL (hM _)
 refine bD hM fun K hK=>?_
 refine ak.bL (hJ _ rfl) 3 (n:=2) _ rfl rfl ?_;apply cc _
 refine qn vu ql ⟨_,rfl,cD,rfl,rfl⟩ (by rfl) ep (fun φ mu ms C S W L m he hi hm=>⟨.want false mu (b8 n φ ms),⟨_,_,_,_,m,Kh hm hi _ (by rw[he]) rfl⟩,?_⟩)
 have hw:=wd hm.st (by have:C<=3*n:=hm.bound;omega)
 have hC:C<=3*n:=hm.bound
 refine ak.bL (hJ _ rfl) 1 (n:=0) _ rfl rfl ?_;apply cc _
 refine ak.nil hM (hK _ _ _ ?_);clear hK K
 refine lJ hM (vE Mu st F) ?_ ?_
 .repeat apply aL (hM _)
  refine kI hM ?_
  refine sF hM (vD Mu n st F) (8*b8 n φ ms+5) ?_ ?_
  .exact ⟨0,0,mu,false,false,C,S,W,L,b8 n φ ms,rfl,aA,aA,aA,aA,aA,aA,aA,aA,hw,hC,aa,aa,ax,ax,ax,rfl⟩
  .clear hw hC hm hi he b hd c
   rintro m A F' aU ⟨wt,it,old,sv,aw,C,S,W,L,G,rfl,c,g,j,u,x,E,b,hd,hw,hC,eS,e3,T,U,fa,rfl⟩
   have cS:S=0\/S=1:=by have:=hw.st.s;omega
   have a0:L=0\/L=1:=by have:=hw.st.l;omega
   have bb:W=0\/W=1:=by have:=hw.st.w;omega
   repeat apply aL (hM _)
   refine kI hM ?_
   refine lJ hM (sK Mu st F' wt it old none sv aw G) ?_ ?_
   ·
    by_cases V:S=0/\L=1
    .obtain ⟨rfl,rfl⟩:=V
     have b5:eE old 5=1:=hw.a5
     repeat apply aL (hM _)
     refine bD hM fun K hK=>?_
     refine ak.bL (hJ _ rfl) 5 (n:=2) _ rfl rfl ?_;apply cc _
     refine Lg it KY ⟨_,_,_,rfl,cD,rfl,ei,rfl⟩ ax fun t ht=>?_
     refine ak.bL (hJ _ rfl) 1 (n:=0) _ rfl rfl ?_;apply cc _
     refine ak.nil hM (hK _ _ _ ?_);clear hK K
     cases t
     .repeat apply aL (hM _)
      refine cU (hM _) aA ?_
      apply cX (hM _)
      exact e4 ⟨rfl,aA,aA,aA,aA,aA,aA,ax,aA,aA,rfl⟩
     .have fb:=ht rfl
      repeat apply aL (hM _)
      refine dB (hM _) aA ?_
      refine lJ hM (Lo Mu st F' wt it sv G) ?_ ?_
      .cases aw
       .obtain rfl:sv=false:=by cases sv<;>simp_all
        rcases bb with rfl|rfl
        .have b2:eE old 2=0:=hw.a2
         by_cases dv:C=0
         .have bm:((C:Int) != 0)=false:=by simp[dv]
          repeat apply aL (hM _)
          refine bD hM fun K hK=>?_
          refine ak.bL (hJ _ rfl) 9 (n:=12) _ rfl rfl ?_;apply cc _
          refine ak.ov old (C:Int) (hM _) ⟨_,rfl,cD,rfl,rfl⟩ ep ep hw.sh ?_
          refine ak.bL (hJ _ rfl) 11 (n:=0) _ rfl rfl ?_;apply cc _
          refine ak.nil hM (hK _ _ _ ?_);clear hK K
          repeat apply aL (hM _)
          refine cU (hM _) aA ?_
          apply cX (hM _)
          exact e4 ⟨false,old,G,rfl,aA,aA,aA,aA,aA,aA,aA,ax,Nat.le_refl _,rfl⟩
         .have bm:((C:Int) != 0)=true:=by simp;omega
          have o2:jQ old 2=old+2:=hw.o2
          repeat apply aL (hM _)
          refine bD hM fun K hK=>?_
          refine ak.bL (hJ _ rfl) 9 (n:=12) _ rfl rfl ?_;apply cc _
          refine ak.ov old (C:Int) (hM _) ⟨_,rfl,cD,rfl,rfl⟩ ep ep hw.sh ?_
          refine ak.bL (hJ _ rfl) 9 (n:=2) _ rfl rfl ?_;apply cc _
          refine vz old (old+2) vt aN ⟨_,_,_,rfl,cD,rfl,ei,rfl⟩ (by rfl) ax (fun φ ms bo ae br X k he hi hm=>?_) (fun φ mu ms bo ae br X k he hi hm db=>?_)
          .obtain ⟨rfl,rfl,rfl,rfl⟩:=hm.st.uniq hw.st
           refine ⟨.want true old G,⟨_,_,_,_,k,Ki hm hi _ (by rw[he]) rfl rfl rfl rfl rfl⟩,?_⟩
           refine ak.bL (hJ _ rfl) 1 (n:=0) _ rfl rfl ?_;apply cc _
           refine ak.nil hM (hK _ _ _ ?_);clear hK K
           repeat apply aL (hM _)
           refine dB (hM _) aA ?_
           repeat apply aL (hM _)
           refine bD hM fun K hK=>?_
           refine ak.bL (hJ _ rfl) 1 (n:=0) _ rfl rfl ?_;apply cc _
           refine ak.nil hM (hK _ _ _ ?_);clear hK K
           exact e4 ⟨true,old,G,rfl,aA,aA,aA,aA,aA,aA,aA,ax,Nat.le_refl _,rfl⟩
          .obtain ⟨H,a6,bc⟩:=vj hm hi {mp:=.want false mu (b8 n φ ms),gp:=.cnt,stored:=st,deaf:=1} (by rw[he]) rfl
           refine ⟨.want false mu (b8 n φ ms),⟨_,_,_,_,k,H⟩,?_⟩
           refine ak.bL (hJ _ rfl) 1 (n:=0) _ rfl rfl ?_;apply cc _
           refine ak.nil hM (hK _ _ _ ?_);clear hK K
           repeat apply aL (hM _)
           refine cU (hM _) aA ?_
           apply cX (hM _)
           exact e4 ⟨false,mu,b8 n φ ms,rfl,aA,aA,aA,aA,aA,aA,aA,ax,a6,rfl⟩
        .have b2:eE old 2=2:=hw.a2
         repeat apply aL (hM _)
         refine bD hM fun K hK=>?_
         refine ak.bL (hJ _ rfl) 21 (n:=0) _ rfl rfl ?_;apply cc _
         refine ak.nil hM (hK _ _ _ ?_);clear hK K
         repeat apply aL (hM _)
         refine cU (hM _) aA ?_
         apply cX (hM _)
         exact e4 ⟨false,old,G,rfl,aA,aA,aA,aA,aA,aA,aA,ax,Nat.le_refl _,rfl⟩
       .repeat apply aL (hM _)
        refine bD hM fun K hK=>?_
        refine ak.bL (hJ _ rfl) 21 (n:=0) _ rfl rfl ?_;apply cc _
        refine ak.nil hM (hK _ _ _ ?_);clear hK K
        repeat apply aL (hM _)
        refine cU (hM _) aA ?_
        apply cX (hM _)
        exact e4 ⟨true,old,G,rfl,aA,aA,aA,aA,aA,aA,aA,ax,Nat.le_refl _,rfl⟩
      .clear c g j u x E b hd b5
       rintro A a Y ⟨bd,o2,dC,rfl,c,g,j,u,x,b,hd,dE,fg,rfl⟩
       have fi:IntKind.i64.wrap (it+1)=it+1:=Ln aa aa
       repeat apply aL (hM _)
       refine bD hM fun K hK=>?_
       refine ak.entry _ (hM _) KZ ⟨_,_,_,rfl,cD,rfl,ei,rfl⟩ ?_
       refine ak.nil hM (hK _ _ _ ?_);clear hK K
       repeat apply aL (hM _)
       refine bD hM fun K hK=>?_
       refine ak.bL (hJ _ rfl) 3 (n:=0) _ rfl rfl ?_;apply cc _
       refine ak.nil hM (hK _ _ _ ?_);clear hK K
       repeat apply aL (hM _)
       refine bD hM fun K hK=>?_
       refine ak.bL (hJ _ rfl) 3 (n:=2) _ rfl rfl ?_;apply cc _
       refine qn vu ql ⟨_,rfl,cD,rfl,rfl⟩ (by rfl) ep (fun φ mu ms N ad bj bz bS he hi hm=>?_)
       obtain ⟨H,a6,bc⟩:=vj hm hi {mp:=.want bd mu (b8 n φ ms),gp:=.cnt,stored:=st,deaf:=1} (by rw[he]) rfl
       have Z:=wd hm.st (by have:N<=3*n:=hm.bound;omega)
       have a7:N<=3*n:=hm.bound
       have b0:b8 n φ ms<=dC:=a6
       have b1:bd=true->ad=0/\bj=1:=fun e=>by subst e;exact DV hm hi (by rw[he])
       refine ⟨.want bd mu (b8 n φ ms),⟨_,_,_,_,bS,H⟩,?_⟩
       refine ak.bL (hJ _ rfl) 1 (n:=0) _ rfl rfl ?_;apply cc _
       refine ak.nil hM (hK _ _ _ ?_);clear hK K
       refine qi ?_
       change ∃k,k<m/\vD Mu n st a k _ _ _
       exact ⟨8*b8 n φ ms+(5 - (it+1)).toNat,aa,wt,it+1,mu,sv,bd,N,ad,bj,bz,b8 n φ ms,rfl,aA,aA,aA,aA,aA,aA,aA,aA,Z,a7,aa,aa,dE,b1,Nat.le_refl _,rfl⟩
    .have b5:=hw.a5
     have ca:(((4*S+L:Nat):Int)==1)=false:=by simp;omega
     repeat apply aL (hM _)
     refine bD hM fun K hK=>?_
     refine ak.bL (hJ _ rfl) 7 (n:=0) _ rfl rfl ?_;apply cc _
     refine ak.nil hM (hK _ _ _ ?_);clear hK K
     repeat apply aL (hM _)
     refine cU (hM _) aA ?_
     apply cX (hM _)
     exact e4 ⟨rfl,aA,aA,aA,aA,aA,aA,ax,aA,aA,rfl⟩
   .clear c g j u x E b hd
    rintro A a Y ⟨rfl,c,g,j,u,x,E,o,b,hd,rfl⟩
    clear o
    repeat apply aL (hM _)
    refine bD hM fun K hK=>?_
    refine ak.bL (hJ _ rfl) 2 (n:=0) _ rfl rfl ?_;apply cc _
    refine ak.nil hM (hK _ _ _ ?_);clear hK K
    obtain ⟨O,f,p⟩:∃O:Int,(S=0->O=old+1 - L)/\(S=1->O=old):=⟨if S=0 then old+1 - L else old,fun e=>by simp[e],fun e=>by simp[e]⟩
    refine lJ hM (sK Mu st a wt it old (some O) sv aw G) ?_ ?_
    .rcases cS with rfl|rfl
     .have b4:eE old 4=0:=hw.a4
      have o1:jQ old 1=O:=by rw[f rfl,hw.o1];omega
      clear f p
      repeat apply aL (hM _)
      refine bD hM fun K hK=>?_
      refine ak.bL (hJ _ rfl) 3 (n:=0) _ rfl rfl ?_;apply cc _
      refine ak.nil hM (hK _ _ _ ?_);clear hK K
      repeat apply aL (hM _)
      refine dB (hM _) aA ?_
      repeat apply aL (hM _)
      refine bD hM fun K hK=>?_
      refine ak.bL (hJ _ rfl) 3 (n:=0) _ rfl rfl ?_;apply cc _
      refine ak.nil hM (hK _ _ _ ?_);clear hK K
      exact e4 ⟨rfl,aA,aA,aA,aA,aA,aA,fun y d=>by cases d;simp only[*,go_sem,-hM,-hJ],aA,aA,rfl⟩
     .have b4:eE old 4=4:=hw.a4
      obtain rfl:=p rfl
      clear f p
      repeat apply aL (hM _)
      refine bD hM fun K hK=>?_
      refine ak.bL (hJ _ rfl) 3 (n:=0) _ rfl rfl ?_;apply cc _
      refine ak.nil hM (hK _ _ _ ?_);clear hK K
      repeat apply aL (hM _)
      refine cU (hM _) aA ?_
      apply cX (hM _)
      exact e4 ⟨rfl,aA,aA,aA,aA,aA,aA,fun y d=>by cases d;simp only[*,go_sem,-hM,-hJ],aA,aA,rfl⟩
    clear c g j u x E b hd
    rintro A a Y ⟨rfl,c,g,j,u,x,E,o,b,hd,rfl⟩
    replace o:=o _ rfl
    obtain ⟨P,r,z⟩:∃P:Int,(S=1\/L=1->P=O+8)/\(S=0->L=0->P=O):=⟨if S=1\/L=1 then O+8 else O,fun e=>by simp[e],fun e cb=>by simp[e,cb]⟩
    refine lJ hM (sK Mu st a wt it old (some P) sv aw G) ?_ ?_
    .by_cases V:S=1\/L=1
     .have b5:=hw.a5
      have ca:(((4*S+L:Nat):Int) != 0)=true:=by simp;omega
      have fp:IntKind.i32.wrap (O+8)=P:=by
       have e0:=hw.st.eq
       rw[r V]
       refine ji ?_ ?_<;>rcases cS with rfl|rfl<;>first|(have:=f rfl;omega)|(have:=p rfl;omega)
      clear f p r z V
      repeat apply aL (hM _)
      refine bD hM fun K hK=>?_
      refine ak.bL (hJ _ rfl) 3 (n:=0) _ rfl rfl ?_;apply cc _
      refine ak.nil hM (hK _ _ _ ?_);clear hK K
      repeat apply aL (hM _)
      refine dB (hM _) aA ?_
      repeat apply aL (hM _)
      refine bD hM fun K hK=>?_
      refine ak.bL (hJ _ rfl) 3 (n:=0) _ rfl rfl ?_;apply cc _
      refine ak.nil hM (hK _ _ _ ?_);clear hK K
      exact e4 ⟨rfl,aA,aA,aA,aA,aA,aA,fun y d=>by cases d;simp only[*,go_sem,-hM,-hJ],aA,aA,rfl⟩
     .obtain rfl:S=0:=aa
      obtain rfl:L=0:=aa
      have b5:eE old 5=0:=hw.a5
      obtain rfl:=z rfl rfl
      clear f p r z V
      repeat apply aL (hM _)
      refine bD hM fun K hK=>?_
      refine ak.bL (hJ _ rfl) 3 (n:=0) _ rfl rfl ?_;apply cc _
      refine ak.nil hM (hK _ _ _ ?_);clear hK K
      repeat apply aL (hM _)
      refine cU (hM _) aA ?_
      apply cX (hM _)
      exact e4 ⟨rfl,aA,aA,aA,aA,aA,aA,fun y d=>by cases d;simp only[*,go_sem,-hM,-hJ],aA,aA,rfl⟩
    clear c g j u x E o b hd
    rintro A a Y ⟨rfl,c,g,j,u,x,E,o,b,hd,rfl⟩
    replace o:=o _ rfl
    obtain ⟨I,J,q⟩:∃I:Int,(sv=true->L=1->I=P+4)/\(¬(sv=true/\L=1)->I=P):=⟨if sv=true/\L=1 then P+4 else P,fun e cb=>by simp[e,cb],fun e=>by simp[e]⟩
    refine lJ hM (sK Mu st a wt it old (some I) sv aw G) ?_ ?_
    .cases sv
     .obtain rfl:=q ax
      clear f p r z J q
      repeat apply aL (hM _)
      refine bD hM fun K hK=>?_
      refine ak.bL (hJ _ rfl) 6 (n:=0) _ rfl rfl ?_;apply cc _
      refine ak.nil hM (hK _ _ _ ?_);clear hK K
      repeat apply aL (hM _)
      refine cU (hM _) aA ?_
      apply cX (hM _)
      exact e4 ⟨rfl,aA,aA,aA,aA,aA,aA,fun y d=>by cases d;simp only[*,go_sem,-hM,-hJ],aA,aA,rfl⟩
     .obtain rfl:aw=true:=T rfl
      rcases a0 with rfl|rfl
      .have dT:eE old 1=0:=hw.a1
       obtain rfl:=q ax
       clear f p r z J q
       repeat apply aL (hM _)
       refine bD hM fun K hK=>?_
       refine ak.bL (hJ _ rfl) 6 (n:=0) _ rfl rfl ?_;apply cc _
       refine ak.nil hM (hK _ _ _ ?_);clear hK K
       repeat apply aL (hM _)
       refine cU (hM _) aA ?_
       apply cX (hM _)
       exact e4 ⟨rfl,aA,aA,aA,aA,aA,aA,fun y d=>by cases d;simp only[*,go_sem,-hM,-hJ],aA,aA,rfl⟩
      .have dT:eE old 1=1:=hw.a1
       have o4:jQ P 4=I:=by
        have e0:=hw.st.eq
        obtain ⟨rfl,rfl⟩:=U rfl
        have e1:=f rfl
        have e2:=r (.inr rfl)
        rw[J rfl rfl,(wd (C:=C+1) (S:=0) (W:=1) (L:=1) ⟨aa,aa,aa,aa⟩ aa).o4]
        omega
       clear f p r z J q
       repeat apply aL (hM _)
       refine bD hM fun K hK=>?_
       refine ak.bL (hJ _ rfl) 6 (n:=0) _ rfl rfl ?_;apply cc _
       refine ak.nil hM (hK _ _ _ ?_);clear hK K
       repeat apply aL (hM _)
       refine dB (hM _) aA ?_
       repeat apply aL (hM _)
       refine bD hM fun K hK=>?_
       refine ak.bL (hJ _ rfl) 3 (n:=0) _ rfl rfl ?_;apply cc _
       refine ak.nil hM (hK _ _ _ ?_);clear hK K
       exact e4 ⟨rfl,aA,aA,aA,aA,aA,aA,fun y d=>by cases d;simp only[*,go_sem,-hM,-hJ],aA,aA,rfl⟩
    clear c g j u x E o b hd
    rintro A a Y ⟨rfl,c,g,j,u,x,E,o,b,hd,rfl⟩
    replace o:=o _ rfl
    obtain ⟨ab,Q,R⟩:∃ab:Int,(aw=true->ab=I - 2)/\(aw=false->ab=I):=⟨if aw then I - 2 else I,fun e=>by simp[e],fun e=>by simp[e]⟩
    refine lJ hM (sK Mu st a wt it old (some ab) sv aw G) ?_ ?_
    .cases aw
     .obtain rfl:=R rfl
      clear f p r z J q Q R
      repeat apply aL (hM _)
      refine bD hM fun K hK=>?_
      refine ak.bL (hJ _ rfl) 1 (n:=0) _ rfl rfl ?_;apply cc _
      refine ak.nil hM (hK _ _ _ ?_);clear hK K
      repeat apply aL (hM _)
      refine cU (hM _) aA ?_
      apply cX (hM _)
      exact e4 ⟨rfl,aA,aA,aA,aA,aA,aA,fun y d=>by cases d;simp only[*,go_sem,-hM,-hJ],aA,aA,rfl⟩
     .obtain ⟨rfl,rfl⟩:=U rfl
      have Z:∃N ad,Wd I N ad 1 1:=by
       have e0:=hw.st.eq
       have e1:=f rfl
       rcases a0 with rfl|rfl
       .have e2:=z rfl rfl
        have al:=q ax
        exact ⟨C,0,wd ⟨aa,aa,aa,aa⟩ aa⟩
       .have e2:=r (.inr rfl)
        cases sv
        .have al:=q ax
         exact ⟨C+1,0,wd ⟨aa,aa,aa,aa⟩ aa⟩
        .have al:=J rfl rfl
         exact ⟨C+1,1,wd ⟨aa,aa,aa,aa⟩ aa⟩
      obtain ⟨N,ad,Z⟩:=Z
      have b2:eE I 2=2:=Z.a2
      have n2:sE I 2=ab:=by rw[Q rfl,Z.n2];rfl
      clear f p r z J q Q R
      repeat apply aL (hM _)
      refine bD hM fun K hK=>?_
      refine ak.bL (hJ _ rfl) 1 (n:=0) _ rfl rfl ?_;apply cc _
      refine ak.nil hM (hK _ _ _ ?_);clear hK K
      repeat apply aL (hM _)
      refine dB (hM _) aA ?_
      repeat apply aL (hM _)
      refine bD hM fun K hK=>?_
      refine ak.bL (hJ _ rfl) 3 (n:=0) _ rfl rfl ?_;apply cc _
      refine ak.nil hM (hK _ _ _ ?_);clear hK K
      repeat apply aL (hM _)
      refine cU (hM _) aA ?_
      apply cX (hM _)
      repeat apply aL (hM _)
      refine bD hM fun K hK=>?_
      refine ak.bL (hJ _ rfl) 3 (n:=0) _ rfl rfl ?_;apply cc _
      refine ak.nil hM (hK _ _ _ ?_);clear hK K
      exact e4 ⟨rfl,aA,aA,aA,aA,aA,aA,fun y d=>by cases d;simp only[*,go_sem,-hM,-hJ],aA,aA,rfl⟩
    clear c g j u x E o b hd
    rintro A a Y ⟨rfl,c,g,j,u,x,E,o,b,hd,rfl⟩
    replace o:=o _ rfl
    repeat apply aL (hM _)
    refine bD hM fun K hK=>?_
    refine ak.bL (hJ _ rfl) 5 (n:=1) _ rfl rfl ?_;apply cc _
    refine vz old ab vt aN ⟨_,_,_,rfl,cD,rfl,ei,rfl⟩ (by rfl) ax (fun φ ms bo ae br X k he hi hm=>?_) (fun φ mu ms bo ae br X k he hi hm db=>?_)
    .obtain ⟨rfl,rfl,rfl,rfl⟩:=hm.st.uniq hw.st
     by_cases V:ae=0/\X=0
     .obtain ⟨rfl,rfl⟩:=V
      have M:ab=old+1 - (if aw then 2 else 0):=by
       have e1:=f rfl
       have e2:=z rfl rfl
       have al:=q ax
       cases aw
       .have M:=R rfl
        simp;omega
       .have M:=Q rfl
        simp;omega
      have b5:eE old 5=0:=hw.a5
      refine ⟨.held,by rw[M];exact ⟨_,_,_,_,k,Kj hm hi _ (by rw[he]) rfl rfl rfl (fun e=>(U e).2)⟩,?_⟩
      clear f p r z J q Q R M he hi hm T U cS a0 bb
      refine ak.nil hM (hK _ _ _ ?_);clear hK K
      repeat apply aL (hM _)
      refine dB (hM _) aA ?_
      repeat apply aL (hM _)
      refine bD hM fun K hK=>?_
      refine ak.bL (hJ _ rfl) 3 (n:=0) _ rfl rfl ?_;apply cc _
      refine ak.nil hM (hK _ _ _ ?_);clear hK K
      repeat apply aL (hM _)
      refine dB (hM _) aA ?_
      refine qi ?_
      change vE Mu st a _ _ _
      exact ⟨rfl,aA,aA,aA,rfl⟩
     .have cd:ae=1\/X=1:=aa
      have M:ab=old+8+(if sv then 4 else 0) - (if aw then 2 else 0):=by
       have e2:=r cd
       rcases cS with rfl|rfl
       .have e1:=f rfl
        obtain rfl:X=1:=aa
        cases sv
        .have al:=q ax
         cases aw
         .have M:=R rfl
          simp;omega
         .have M:=Q rfl
          simp;omega
        .obtain rfl:aw=true:=T rfl
         have al:=J rfl rfl
         have M:=Q rfl
         simp;omega
       .have ea:aw=false:=by
         cases aw
         .rfl
         .exact absurd (U rfl).1 aa
        subst ea
        have eb:sv=false:=by
         cases sv
         .rfl
         .exact absurd (T rfl) ax
        subst eb
        have e1:=p rfl
        have al:=q ax
        have M:=R rfl
        simp;omega
      have dd:sv=true->aw=true/\X=1:=fun e=>⟨T e,by have:=U (T e);omega⟩
      have df:b8 n φ ms<=G:=(hm.seen i hi (some old) G (by rw[he];rfl)).1
      have b5:=hw.a5
      have ca:(((4*ae+X:Nat):Int)==0)=false:=by simp;omega
      refine ⟨.jg (b8 n φ ms),by rw[M];exact ⟨_,_,_,_,k,Kk hm hi _ (by rw[he]) rfl cd dd⟩,?_⟩
      clear f p r z J q Q R M he hi hm T U cS a0 bb V cd dd
      revert df
      generalize b8 n φ ms=B
      intro df
      refine ak.nil hM (hK _ _ _ ?_);clear hK K
      repeat apply aL (hM _)
      refine dB (hM _) aA ?_
      repeat apply aL (hM _)
      refine bD hM fun K hK=>?_
      refine ak.bL (hJ _ rfl) 3 (n:=0) _ rfl rfl ?_;apply cc _
      refine ak.nil hM (hK _ _ _ ?_);clear hK K
      repeat apply aL (hM _)
      refine cU (hM _) aA ?_
      apply cX (hM _)
      repeat apply aL (hM _)
      refine bD hM fun K hK=>?_
      refine ak.bL (hJ _ rfl) 3 (n:=0) _ rfl rfl ?_;apply cc _
      refine ak.nil hM (hK _ _ _ ?_);clear hK K
      repeat apply aL (hM _)
      refine bD hM fun K hK=>?_
      refine ak.bL (hJ _ rfl) 2 (n:=0) _ rfl rfl ?_;apply cc _
      refine ak.nil hM (hK _ _ _ ?_);clear hK K
      first|refine lJ hM (EC Mu st a sv (.jg B)) ?_ ?_|refine vC hM (EC Mu st a sv (.jg B)) ?_ ?_
      .cases fr:(wt==0)
       .repeat apply aL (hM _)
        refine cU (hM _) aA ?_
        apply cX (hM _)
        exact e4 ⟨wt,rfl,aA,aA,aA,aA,aA,rfl⟩
       .repeat apply aL (hM _)
        refine dB (hM _) aA ?_
        repeat apply aL (hM _)
        refine bD hM fun K hK=>?_
        refine EB En Et ⟨_,_,_,rfl,cD,rfl,ei,rfl⟩ ax fun t=>?_
        refine ak.bL (hJ _ rfl) 1 (n:=0) _ rfl rfl ?_;apply cc _
        refine ak.nil hM (hK _ _ _ ?_);clear hK K
        exact e4 ⟨t,rfl,aA,aA,aA,aA,aA,rfl⟩
      clear c g j u x E o b hd b5 ca
      rintro A a Y ⟨dk,rfl,c,g,j,b,hd,rfl⟩
      repeat apply aL (hM _)
      refine bD hM fun K hK=>?_
      refine ak.bL (hJ _ rfl) 4 (n:=1) _ rfl rfl ?_;apply cc _
      refine Lf (slot A 8) (.int .i64 2) KX aN ⟨_,_,_,rfl,cD,rfl,ei,rfl⟩ (by rfl) rfl ?_
      refine ak.nil hM (hK _ _ _ ?_);clear hK K
      first|refine lJ hM (ED Mu st a (.kF B)) ?_ ?_|refine vC hM (ED Mu st a (.kF B)) ?_ ?_
      .cases sv
       .repeat apply aL (hM _)
        refine bD hM fun K hK=>?_
        refine ak.bL (hJ _ rfl) 2 (n:=6) _ rfl rfl ?_;apply cc _
        refine EB En Et ⟨_,_,_,rfl,cD,rfl,ei,rfl⟩ ax fun t=>?_
        refine ak.bL (hJ _ rfl) 5 (n:=0) _ rfl rfl ?_;apply cc _
        refine ak.nil hM (hK _ _ _ ?_);clear hK K
        exact e4 ⟨dk,_,rfl,aA,aA,(by simp only[*,go_sem,-hM,-hJ];rfl),aA,aA,rfl⟩
       .repeat apply aL (hM _)
        refine bD hM fun K hK=>?_
        refine ak.bL (hJ _ rfl) 8 (n:=0) _ rfl rfl ?_;apply cc _
        refine ak.nil hM (hK _ _ _ ?_);clear hK K
        exact e4 ⟨dk,true,rfl,aA,aA,aA,aA,aA,rfl⟩
      clear c g j b hd
      rintro A a Y ⟨ec,dp,rfl,c,g,j,b,hd,rfl⟩
      repeat apply aL (hM _)
      refine bD hM fun K hK=>?_
      refine ak.bL (hJ _ rfl) 3 (n:=2) _ rfl rfl ?_;apply cc _
      refine qn vu ql ⟨_,rfl,cD,rfl,rfl⟩ (by rfl) ep (fun φ mu ms D a8 cf cl bk he hi hm=>?_)
      have dq:D<=3*n:=hm.bound
      have ao:=wd hm.st aa
      rcases (by have:=hm.st.s;omega:a8=0\/a8=1) with rfl|rfl
      .obtain ⟨H,rfl,cy⟩:=Km hm hi {mp:=.want true mu (b8 n φ ms),gp:=.cnt,stored:=st,deaf:=1} (by rw[he]) rfl rfl
       have fs:b8 n φ ms<B:=cy
       refine ⟨.want true mu (b8 n φ ms),⟨_,_,_,_,bk,H⟩,?_⟩
       have b4:eE mu 4=0:=ao.a4
       clear H cy
       refine ak.bL (hJ _ rfl) 1 (n:=0) _ rfl rfl ?_;apply cc _
       refine ak.nil hM (hK _ _ _ ?_);clear hK K
       repeat apply aL (hM _)
       refine bD hM fun K hK=>?_
       refine ak.bL (hJ _ rfl) 3 (n:=0) _ rfl rfl ?_;apply cc _
       refine ak.nil hM (hK _ _ _ ?_);clear hK K
       repeat apply aL (hM _)
       refine cU (hM _) aA ?_
       apply cX (hM _)
       repeat apply aL (hM _)
       refine bD hM fun K hK=>?_
       refine ak.bL (hJ _ rfl) 1 (n:=0) _ rfl rfl ?_;apply cc _
       refine ak.nil hM (hK _ _ _ ?_);clear hK K
       repeat apply aL (hM _)
       refine bD hM fun K hK=>?_
       refine ak.bL (hJ _ rfl) 1 (n:=0) _ rfl rfl ?_;apply cc _
       refine ak.nil hM (hK _ _ _ ?_);clear hK K
       change ∃k,k<m/\vD Mu n st a k _ _ _
       exact ⟨8*b8 n φ ms+5,aa,ec,0,mu,dp,true,D,0,1,cl,b8 n φ ms,rfl,aA,aA,aA,aA,aA,aA,aA,aA,ao,dq,aa,aa,fun _=>rfl,fun _=>⟨rfl,rfl⟩,ax,rfl⟩
      .obtain ⟨H,rfl,rfl,ed⟩:=Kn hm hi {mp:=.lG (decide (2<=D)),gp:=.cnt,stored:=st,deaf:=1} (by rw[he]) rfl rfl
       refine ⟨.lG (decide (2<=D)),⟨_,_,_,_,bk,H⟩,?_⟩
       have b4:eE mu 4=4:=ao.a4
       have b3:eE mu 3=0:=ao.a3
       have bm:((D:Int)==0)=false:=by simp;omega
       have c0:=ao.sh
       obtain ⟨y,d⟩:∃y,decide (2<=D)=y:=⟨_,rfl⟩
       have ar:((D:Int)==1)=false->y=true:=fun e=>by rw[<-d];simp at e ⊢;omega
       rw[d]
       clear H he hi hm ao dq ed d
       refine ak.bL (hJ _ rfl) 1 (n:=0) _ rfl rfl ?_;apply cc _
       refine ak.nil hM (hK _ _ _ ?_);clear hK K
       repeat apply aL (hM _)
       refine bD hM fun K hK=>?_
       refine ak.bL (hJ _ rfl) 3 (n:=0) _ rfl rfl ?_;apply cc _
       refine ak.nil hM (hK _ _ _ ?_);clear hK K
       repeat apply aL (hM _)
       refine dB (hM _) aA ?_
       repeat apply aL (hM _)
       refine bD hM fun K hK=>?_
       refine ak.bL (hJ _ rfl) 5 (n:=3) _ rfl rfl ?_;apply cc _
       refine ak.ov mu (D:Int) (hM _) ⟨_,rfl,cD,rfl,rfl⟩ ep ep c0 ?_
       refine ak.bL (hJ _ rfl) 2 (n:=0) _ rfl rfl ?_;apply cc _
       refine ak.nil hM (hK _ _ _ ?_);clear hK K
       repeat apply aL (hM _)
       refine cU (hM _) aA ?_
       apply cX (hM _)
       repeat apply aL (hM _)
       refine bD hM fun K hK=>?_
       refine ak.bL (hJ _ rfl) 1 (n:=0) _ rfl rfl ?_;apply cc _
       refine ak.nil hM (hK _ _ _ ?_);clear hK K
       repeat apply aL (hM _)
       refine vC hM (Lp Mu st a y) ?_ ?_
       .cases dp
        .repeat apply aL (hM _)
         refine bD hM fun K hK=>?_
         refine ak.bL (hJ _ rfl) 7 (n:=0) _ rfl rfl ?_;apply cc _
         refine ak.nil hM (hK _ _ _ ?_);clear hK K
         exact e4 ⟨true,rfl,aA,aA,aA,aA,aA,ax,rfl⟩
        .repeat apply aL (hM _)
         refine bD hM fun K hK=>?_
         refine ak.bL (hJ _ rfl) 4 (n:=3) _ rfl rfl ?_;apply cc _
         refine ak.ov mu (D:Int) (hM _) ⟨_,rfl,cD,rfl,rfl⟩ ep ep c0 ?_
         refine ak.bL (hJ _ rfl) 2 (n:=0) _ rfl rfl ?_;apply cc _
         refine ak.nil hM (hK _ _ _ ?_);clear hK K
         exact e4 ⟨(D:Int)==1,rfl,aA,aA,aA,aA,aA,ar,rfl⟩
       clear c g j b hd b4 b3 bm c0 ar
       rintro A a Y ⟨e,rfl,c,ft,fu,b,hd,ar,rfl⟩
       cases e
       .obtain rfl:=ar rfl
        clear ar
        repeat apply aL (hM _)
        refine cU (hM _) aA ?_
        apply cX (hM _)
        repeat apply aL (hM _)
        refine bD hM fun K hK=>?_
        refine ak.bL (hJ _ rfl) 4 (n:=1) _ rfl rfl ?_;apply cc _
        refine zP (-7) zD aN ⟨_,_,_,rfl,cD,rfl,ei,rfl⟩ (by rfl) ax (fun φ mu ms N ad bj bz bS he hi hm=>⟨.held,_,?_,⟨_,_,_,_,_,DW hm hi {mp:=.held,gp:=.cnt,stored:=st,deaf:=1} false (by rw[he]) rfl (fun _=>rfl)⟩,?_⟩)
        .have e0:=hm.st.eq
         have a7:N<=3*n:=hm.bound
         have eh:=hm.st.s
         have et:=hm.st.w
         have ev:=hm.st.l
         rw[ji aa aa]
         simp;omega
        refine ak.nil hM (hK _ _ _ ?_);clear hK K
        refine qi ?_
        change vE Mu st a _ _ _
        exact ⟨rfl,aA,aA,aA,rfl⟩
       .clear ar
        repeat apply aL (hM _)
        refine dB (hM _) aA ?_
        repeat apply aL (hM _)
        refine bD hM fun K hK=>?_
        refine ak.bL (hJ _ rfl) 3 (n:=0) _ rfl rfl ?_;apply cc _
        refine ak.nil hM (hK _ _ _ ?_);clear hK K
        repeat apply aL (hM _)
        refine bD hM fun K hK=>?_
        refine ak.bL (hJ _ rfl) 4 (n:=1) _ rfl rfl ?_;apply cc _
        refine zP (-11) zD aN ⟨_,_,_,rfl,cD,rfl,ei,rfl⟩ (by rfl) ax (fun φ mu ms N ad bj bz bS he hi hm=>⟨.held,_,?_,⟨_,_,_,_,_,DW hm hi {mp:=.held,gp:=.cnt,stored:=st,deaf:=1} true (by rw[he]) rfl ax⟩,?_⟩)
        .have e0:=hm.st.eq
         have a7:N<=3*n:=hm.bound
         have eh:=hm.st.s
         have et:=hm.st.w
         have ev:=hm.st.l
         rw[ji aa aa]
         simp;omega
        refine ak.nil hM (hK _ _ _ ?_);clear hK K
        refine qi ?_
        change vE Mu st a _ _ _
        exact ⟨rfl,aA,aA,aA,rfl⟩
    .obtain ⟨H,a6,bc⟩:=vj hm hi {mp:=.want aw mu (b8 n φ ms),gp:=.cnt,stored:=st,deaf:=1} (by rw[he]) rfl
     have cy:b8 n φ ms<G:=bc db
     refine ⟨.want aw mu (b8 n φ ms),⟨_,_,_,_,k,H⟩,?_⟩
     clear f p r z J q Q R H a6 bc he hi hm U cS a0 bb
     refine ak.nil hM (hK _ _ _ ?_);clear hK K
     repeat apply aL (hM _)
     refine cU (hM _) aA ?_
     repeat apply aL (hM _)
     refine bD hM fun K hK=>?_
     refine ak.bL (hJ _ rfl) 3 (n:=2) _ rfl rfl ?_;apply cc _
     refine qn vu ql ⟨_,rfl,cD,rfl,rfl⟩ (by rfl) ep (fun a9 da ba D a8 cf cl bk ds dt bl=>?_)
     obtain ⟨b0,du,_⟩:=vj bl dt {mp:=.want aw da (b8 n a9 ba),gp:=.cnt,stored:=st,deaf:=1} (by rw[ds]) rfl
     have fv:b8 n a9 ba<=b8 n φ ms:=du
     have a7:D<=3*n:=bl.bound
     have Z:=wd bl.st aa
     have b1:aw=true->a8=0/\cf=1:=fun e=>by subst e;exact DV bl dt (by rw[ds])
     refine ⟨.want aw da (b8 n a9 ba),⟨_,_,_,_,bk,b0⟩,?_⟩
     clear b0 du
     refine ak.bL (hJ _ rfl) 1 (n:=0) _ rfl rfl ?_;apply cc _
     refine ak.nil hM (hK _ _ _ ?_);clear hK K
     change ∃k,k<m/\vD Mu n st a k _ _ _
     exact ⟨8*b8 n a9 ba+(5 - it).toNat,aa,wt,it,da,sv,aw,D,a8,cf,cl,b8 n a9 ba,rfl,aA,aA,aA,aA,aA,aA,aA,aA,Z,a7,aa,aa,T,b1,Nat.le_refl _,rfl⟩
 .rintro A F' aU ⟨rfl,c,b,hd,rfl⟩
  repeat apply aL (hM _)
  refine dB (hM _) aA ?_
  repeat apply aL (hM _)
  refine bD hM fun K hK=>?_
  refine vw mJ ⟨_,_,_,rfl,cD,rfl,ei,rfl⟩ ax ax rfl ?_
  refine ak.nil hM (hK _ _ _ ?_);clear hK K
  repeat apply aL (hM _)
  refine bD hM fun K hK=>?_
  refine ak.bL (hJ _ rfl) 1 (n:=2) _ rfl rfl ?_;apply cc _
  refine vA ⟨Mu,0,none⟩ zF mK zH ⟨_,rfl,cD,rfl,rfl⟩ ax ep zQ ?_
  refine Ez vr ⟨_,_,_,rfl,cD,rfl,ei,rfl⟩ (by rfl) ?_
  refine ak.nil hM (hK _ _ _ ?_);clear hK K
  exact mH rfl aA ⟨rfl,rfl,rfl⟩
end
end Go.Proofs.YtbpddfapodiemaaGreatDoor
end
section
namespace Go.Proofs.YtbpddfapodiemaaGreatDoor
open Go Go.Sep Go.Proofs Go.Conc
open Go.ConcN (upd upd_same)
open Go.ConcM (muA msA)
open Go.ConcR (stA smA)
set_option maxRecDepth 100000
set_option maxHeartbeats 4000000
attribute [local go_sem] Int.reduceBEq Int.reduceBNe muA msA stA smA
section
variable {Mu Wg Is n base T0 i:Nat}{bs:Nat->Bool}{st:Bool}{F:af}
theorem Lr (aN:Mu≠Wg/\Mu≠Is/\Wg≠Is)(a:n<67108864):
  cW Tryz.prog (WJ (CY Mu Wg Is n bs base T0) i) 131 #[.pointer (some (muA Mu))] F ⟨.idle,.cnt,st,0⟩ (fun v F' aU=>v= .tuple #[]/\F'=F/\aU=⟨.held,.cnt,st,0⟩):=by
 have hM:=WJ.eU (CY Mu Wg Is n bs base T0) i
 have hJ:∀ph:Ph,ph.gp= .cnt->Go.Sep.Closed Tryz.prog false (WJ (CY Mu Wg Is n bs base T0) i ph):=fun ph h=>Wk.closed (CY Mu Wg Is n bs base T0) i ph h
 refine cW.go (main:=false) hM Tryz.func131 rfl Tryz.ntmps131 ax fun A c hd hs=>?_
 have d:=hs 0
 clear hs
 repeat apply aL (hM _)
 refine dD hM ?_
 refine ak.bL (hJ _ rfl) 3 (n:=1) _ rfl rfl ?_;apply ag _
 refine ak.gK (hM _) rfl rfl rfl GB (by simp only[*,go_sem,muA]) (Li aN (Lq aN a)) fun v F' aU b=>?_
 obtain ⟨rfl,rfl,rfl⟩:=b
 refine ak.nil hM ?_
 exact mH rfl aM ⟨rfl,rfl,rfl⟩
theorem Ls (aN:Mu≠Wg/\Mu≠Is/\Wg≠Is)(a:n<67108864):
  cW Tryz.prog (WJ (CY Mu Wg Is n bs base T0) i) 132 #[.pointer (some (muA Mu))] F ⟨.held,.cnt,st,0⟩ (fun v F' aU=>v= .tuple #[]/\F'=F/\aU=⟨.fin,.cnt,st,0⟩):=by
 have hM:=WJ.eU (CY Mu Wg Is n bs base T0) i
 have hJ:∀ph:Ph,ph.gp= .cnt->Go.Sep.Closed Tryz.prog false (WJ (CY Mu Wg Is n bs base T0) i ph):=fun ph h=>Wk.closed (CY Mu Wg Is n bs base T0) i ph h
 refine cW.go (main:=false) hM Tryz.func132 rfl Tryz.ntmps132 ax fun A c hd hs=>?_
 have d:=hs 0
 clear hs
 repeat apply aL (hM _)
 refine dD hM ?_
 refine ak.bL (hJ _ rfl) 3 (n:=1) _ rfl rfl ?_;apply ag _
 refine ak.gK (hM _) rfl rfl rfl GC (by simp only[*,go_sem,muA]) (Lm aN a) fun v F' aU b=>?_
 obtain ⟨rfl,rfl,rfl⟩:=b
 refine ak.nil hM ?_
 exact mH rfl aM ⟨rfl,rfl,rfl⟩
end
end Go.Proofs.YtbpddfapodiemaaGreatDoor
end
section
namespace Go.Sep
open Go Go.Conc
def vF (op:BinOp)(u v:Value):Option Value:=match op with
 | .shl=>match u,v with
  | .int k a,.int _ b=>if b<0 then none else some (.int k (k.wrap (a*2 ^ min b.toNat k.bits)))
  |_,_=>none
 | .shr=>match u,v with
  | .int k a,.int _ b=>if b<0 then none else some (.int k (a.fdiv (2 ^ min b.toNat k.bits)))
  |_,_=>none
 |_=>oG op u v
def qo (P:Program)(op:Op)(a:Act):Option Value:=match op with
 | .move x| .assign x=>some (ev a x)
 | .nilCheck x=>match ev a x with
  | .pointer (some ad)=>some (.pointer (some ad))
  |_=>none
 | .pick c x y=>match ev a c with
  | .bool b=>some (if b then ev a x else ev a y)
  |_=>none
 | .binOp op t x y _=>vF op (ev a x) (ev a y)
 | .unOp op _ x=>mU op (ev a x)
 | .convert src dst x=>mY P src dst (ev a x)
 | .fieldAddr s x n=>match ev a x with
  | .pointer (some ad)=>match c9 P s n with
   |some k=>some (.pointer (some (ad.add k)))
   |none=>none
  |_=>none
 |_=>none
theorem Lt {P:Program}{op:BinOp}{t:TypeId}{x y:Operand}{u v r:Value}(h:vF op u v=some r)(w:World):
  (do eqGuard op t x y u v;pure (.value (<-binOp op t u v)):Sem Next).run P w= .ok (.value r) w/\(do eqGuard op t x y u v;pure (.value (<-binOp op t u v)):Sem Next).events P w #[]=#[]:=by
 unfold vF at h
 split at h
 .split at h
  case h_2=>cases h
  split at h
  .cases h
  .rename_i hb;cases h;simp[eqGuard,binOp,Op.shift,hb]
 .split at h
  case h_2=>cases h
  split at h
  .cases h
  .rename_i hb;cases h;simp[eqGuard,binOp,Op.shift,hb]
 .rename_i n1 n2
  unfold oG at h
  split at h
  case h_2=>cases h
  rename_i k a d b
  split at h
  case isFalse=>cases h
  rename_i c
  subst c
  cases op<;>simp only[binOp,ne_eq,not_true_eq_false,if_false,Op.intArith,Op.intDiv,Op.intCmp,Op.intBits,Op.shift,eqGuard] at h ⊢<;>first
   |(cases h;done)
   |(exact absurd rfl n1)
   |(exact absurd rfl n2)
   |(cases h;simp;done)
   |(split at h
     .cases h
     .rename_i hb;cases h;simp[hb])
theorem EE {P:Program}{o:Oper}{a:Act}{v:Value}(h:qo P o.op a=some v)(w:World):(execOp a.eval o).run P w= .ok (.value v) w/\(execOp a.eval o).events P w #[]=#[]:=by
 obtain ⟨dst,op,type,pos,after,guard⟩:=o;unfold execOp;simp only[e6] at h ⊢;unfold qo at h;cases op<;>simp only[reduceCtorEq] at h ⊢
 case move x=>cases h;simp
 case assign x=>cases h;simp
 case nilCheck x=>
  split at h
  .rename_i ad e;cases h;simp[e]
  .cases h
 case pick c x y=>
  split at h
  .rename_i b hb;cases h;simp[hb,asBool]
  .cases h
 case binOp op t x y r=>have:=Lt (P:=P) (t:=t) (x:=x) (y:=y) h w;simpa using this
 case unOp op t x=>
  revert h;cases ev a x<;>cases op<;>simp only[mU,reduceCtorEq,false_implies,Option.some.injEq]<;>intro h<;>subst h<;>simp[Op.unary,Op.intArith]
 case convert src dst x=>
  revert h;cases e:ev a x<;>simp only[mY,reduceCtorEq,false_implies];intro h;split at h
  .rename_i k1 A i j;cases h;simp[convert,run_underlying i,run_underlying j,Conv.intToInt]
  .cases h
 case fieldAddr s x n=>
  split at h
  case h_2=>cases h
  rename_i ad l;split at h
  case h_2=>cases h
  rename_i k d;cases h;unfold c9 at d;split at d
  case h_2=>cases d
  rename_i B g;split at d
  case h_2=>cases d
  rename_i f p;split at d
  case h_2=>cases d
  rename_i m hm;cases d;obtain ⟨inf,q,u⟩:=Option.map_eq_some_iff.1 hm;have z:Instr.sureAddr (.pointer (some ad))=(Pure.pure ad:Sem Addr):=rfl;simp[Instr.fieldAt,run_underlying g,g,p,l,z,fieldPlace,Go.sizeOf,typeInfo,q,u,Result.andThen,Result.evThen]
def jm (P:Program)(ops:Array Oper)(K:Act->Prop):List Oper->Act->Prop
 |[],a=>K a
 |o::rest,a=>match cQ ops o a with
  |some true=>match qo P o.op a with
   |some v=>jm P ops K rest (bB a o.dst v)
   |none=>False
  |some false=>jm P ops K rest (bB a o.dst undef)
  |none=>False
theorem Lu {P:Program}{ops:Array Oper}{K:Act->Prop}{a:Act}:jm P ops K [] a=K a:=(Eq.refl _).trans (Eq.refl _)
theorem Lv {P:Program}{ops:Array Oper}{K:Act->Prop}{o:Oper}{rest:List Oper}{a:Act}:jm P ops K (o::rest) a=match cQ ops o a with
  |some true=>match qo P o.op a with
   |some v=>jm P ops K rest (bB a o.dst v)
   |none=>False
  |some false=>jm P ops K rest (bB a o.dst undef)
  |none=>False:=(Eq.refl _).trans (Eq.refl _)
attribute [go_sem] Lu Lv qo vF
section
variable {P:Program}{main:Bool}{S:Type}{JF:S->Goroutine->af->Prop}{fi:FuncId}{ops:Array Oper}{F:af}{ph:S}{Q:Act->af->S->Prop}
theorem zR (hM:eF P main (JF ph)):∀(l:List Oper) (i n:Nat) (a:Act),(∀j o,l[j]?=some o->ops[i+j]?=some o)->jm P ops (fun b=>ak JF fi ops (i+l.length) n Q b F ph) l a->ak JF fi ops i (l.length+n) Q a F ph
 |[],i,n,a,_,h=>by rw[List.length_nil,Nat.zero_add];exact h
 |o::rest,i,n,a,g,h=>by
  have k:ops[i]?=some o:=g 0 o rfl
  have m:∀j x,rest[j]?=some x->ops[i+1+j]?=some x:=fun j x p=>by rw[Nat.add_assoc,Nat.add_comm 1 j];exact g (j+1) x p
  have e:(o::rest).length+n=(rest.length+n)+1:=by rw[List.length_cons];omega
  have e2:∀b,ak JF fi ops (i+(o::rest).length) n Q b F ph->ak JF fi ops (i+1+rest.length) n Q b F ph:=fun b x=>by
   rw[show i+1+rest.length=i+(o::rest).length by rw[List.length_cons];omega];exact x
  rw[e]
  have mono:∀(l:List Oper) (a:Act) {K d:Act->Prop},(∀a,K a->d a)->jm P ops K l a->jm P ops d l a:=by
   intro l
   induction l with
   |nil=>intro a K d f h;exact f a h
   |cons o l ih=>
    intro a K d f h
    unfold jm at h ⊢
    cases hg:cQ ops o a with
    |none=>rw[hg] at h;exact h.elim
    |some t=>
     rw[hg] at h
     cases t with
     |false=>exact ih _ f h
     |true=>
      simp only at h ⊢
      cases c:qo P o.op a with
      |none=>rw[c] at h;exact h.elim
      |some v=>rw[c] at h;exact ih _ f h
  unfold jm at h
  split at h
  .rename_i hg
   split at h
   .rename_i v c
    exact ak.plain hM v k hg (fun w=>(EE c w).1) (fun w=>(EE c w).2) (zR hM rest (i+1) n _ m (mono _ _ e2 h))
   .exact h.elim
  .rename_i hg
   exact ak.skip hM k hg (zR hM rest (i+1) n _ m (mono _ _ e2 h))
  .exact h.elim
theorem ak.pure (hM:eF P main (JF ph))(m:Nat){i n:Nat}{a:Act}(l:List Oper)(c:(ops.toList.drop i).take m=l)(hm:l.length=m)(h:jm P ops (fun d=>ak JF fi ops (i+m) n Q d F ph) l a):ak JF fi ops i (m+n) Q a F ph:=by
 subst hm;refine zR hM l i n a (fun j o b=>?_) h;rw[<-c] at b;have e:j<l.length:=by
  rcases Nat.lt_or_ge j l.length with x|x
  .exact x
  .rw[c,List.getElem?_eq_none x] at b;cases b
 rw[List.getElem?_take,if_pos e,List.getElem?_drop] at b;simpa using b
end
end Go.Sep
end
section
namespace Go.Sep
open Go Go.Conc
open Go.ConcN (sumTo upd upd_ne upd_same)
open Go.ConcM (MuAt muA msA muBlock OsLater)
open Go.ConcR (WgAt wgBlock stA smA)
section
variable {c:Cy}{i:Nat}{ph:Ph}{ops:Array Oper}{j n:Nat}{Q:Act->af->Ph->Prop}{a:Act}{F:af}{f fi:FuncId}{d:Option Tmp}
theorem Inv.group {k:Nat}{φ:Nat->Ph}{p0:P0}{s:Sh}(h:Inv c.n c.bs k φ p0 s)(hi:i<c.n)(he:φ i=ph)(a:ph.gp≠ .new)(b:ph.gp≠ .cnt){gp:Gp}(d:gp≠ .new){wg ws:Int}
  (hw:dY c.n (upd φ i {ph with gp:=gp}) p0 wg ws):Inv c.n c.bs k (upd φ i {ph with gp:=gp}) p0 {s with wg:=wg,ws:=ws}:=by
 obtain ⟨C,S,W,L,m,hm⟩:=h.m
 refine h.kH hi he a d ⟨C,S,W,L,m,oo hm hi _ (.inl (by rw[he]))⟩ hw ?_ (fun _=>?_)
 .have:=h.i.all i hi
  rw[he] at this
  exact (zN this).symm
 .have:=h.i.done i hi (by rw[he];exact b) (by rw[he];exact a)
  rw[he] at this
  exact this
theorem Lx (m:Entry c.P f (Extern.Atomic.update (Op.intArith .add) .u64 true))(aN:c.Mu≠c.Wg/\c.Mu≠c.Is/\c.Wg≠c.Is)(H:c.n<67108864)(p:At ops j a f [.pointer (some (stA c.Wg)),.int .u64 18446744069414584320] d)
  (e:ph.gp= .rel) (q:0<ph.deaf)
  (h:∀v t:Nat,v<=c.n->t<=1->ak (WJ c i) fi ops (j+1) n Q (bB a d (.int .u64 ((v:Int)*4294967296+t))) F {ph with gp:=if v=0/\t=1 then .ld else .gone}):
  ak (WJ c i) fi ops j (n+1) Q a F ph:=by
 obtain ⟨o,cP,dQ,l,hg,r,u,rfl⟩:=p
 obtain ⟨x,y,rfl,z,A⟩:=sH u
 obtain ⟨fn,f1,f2,f3,f4,f5⟩:=m.ex
 refine gd l (by rw[e];simp) fun w s k φ p0 _ hs hi he g=>.inr ?_
 obtain ⟨v,t,e1,ht,B,_⟩:=DZ g.w hi ph (by rw[he];exact e)
 obtain ⟨C,D,E,I,_,hw⟩:=DZ g.w hi {ph with gp:=if v=0/\t=1 then .ld else .gone} (by rw[he];exact e)
 obtain ⟨rfl,rfl⟩:v=C/\t=D:=by simp only[dz] at e1 E;omega
 have e2:IntKind.u64.wrap (s.wg+18446744069414584320)=(v:Int)*4294967296+t:=by
  rw[e1]
  unfold IntKind.wrap
  simp only[IntKind.bits,IntKind.signed,dz]
  simp
  omega
 have G:s.wg - dz=(v:Int)*4294967296+t:=by rw[e1];simp only[dz];omega
 refine ⟨.int .u64 ((v:Int)*4294967296+t),_,_,{s with wg:=(v:Int)*4294967296+t},{ph with gp:=if v=0/\t=1 then .ld else .gone},fun b J cs hb=>by rw[<-e2];exact stepG_add_atomic l (cB hg) hb.kind r f1 f2 f3 f4 .u64 f5 z A hs.wg.1 hs.wg.2,by rw[<-e2];exact hs.vv aN _,.set _ (.inr (.inl rfl)),?_,zL rfl ?_ q (.inl rfl),.inr eg,h v t B ht⟩
 .refine g.group hi he (by rw[e];simp) (by rw[e];simp) (by split<;>simp) ?_
  rw[<-G]
  exact hw rfl
 .simp only[e];split<;>simp
theorem Ly (m:Entry c.P f (Extern.Atomic.loadT (.int .u64)))(p:At ops j a f [.pointer (some (stA c.Wg))] d)(e:ph.gp= .ld)(q:0<ph.deaf)
  (h:ak (WJ c i) fi ops (j+1) n Q (bB a d (.int .u64 1)) F {ph with gp:=.st}):ak (WJ c i) fi ops j (n+1) Q a F ph:=by
 obtain ⟨o,cP,dQ,g,hg,r,t,rfl⟩:=p
 obtain ⟨x,rfl,u⟩:=kK t
 obtain ⟨fn,f1,f2,f3,f4,f5⟩:=m.ex
 refine gd g (by rw[e];simp) fun w s k φ p0 _ hs hi he l=>.inr ?_
 obtain ⟨e1,hw⟩:=Kt l.w hi {ph with gp:=.st} (by rw[he];exact e) rfl
 exact ⟨.int .u64 1,_,_,s,{ph with gp:=.st},fun b v cs hb=>by rw[<-e1];exact stepG_load_atomic g (cB hg) hb.kind r f1 f2 f3 f4 .u64 f5 u hs.wg.1,hs,.refl _ _,l.group hi he (by rw[e];simp) (by rw[e];simp) ax hw,zK false rfl (by simp[e]) q (.inl rfl),.inr eg,h⟩
theorem Lz (m:Entry c.P f Extern.Atomic.storeT)(aN:c.Mu≠c.Wg/\c.Mu≠c.Is/\c.Wg≠c.Is)(p:At ops j a f [.pointer (some (stA c.Wg)),.int .u64 0] d)(e:ph.gp= .st)(q:0<ph.deaf)
  (h:ak (WJ c i) fi ops (j+1) n Q (bB a d (.tuple #[])) F {ph with gp:=.sm}):ak (WJ c i) fi ops j (n+1) Q a F ph:=by
 obtain ⟨o,cP,dQ,g,hg,r,t,rfl⟩:=p
 obtain ⟨x,y,rfl,u,v⟩:=sH t
 obtain ⟨fn,f1,f2,f3,f4,f5⟩:=m.ex
 refine gd g (by rw[e];simp) fun w s k φ p0 _ hs hi he l=>.inr ?_
 obtain ⟨e1,hw⟩:=Ku l.w hi {ph with gp:=.sm} (by rw[he];exact e) rfl
 exact ⟨.tuple #[],_,_,{s with wg:=0},{ph with gp:=.sm},fun b z cs hb=>stepG_store_atomic g (cB hg) hb.kind r f1 f2 f3 f4 f5 u v hs.wg.1 hs.wg.2,hs.vv aN _,.set _ (.inr (.inl rfl)),l.group hi he (by rw[e];simp) (by rw[e];simp) ax hw,zK true rfl (by simp[e]) q (.inl rfl),.inr eg,h⟩
theorem LA (r t:Value)(l:Entry c.P f Extern.Sync.semrelease)(aN:c.Mu≠c.Wg/\c.Mu≠c.Is/\c.Wg≠c.Is)(u:At ops j a f [.pointer (some (smA c.Wg)),r,t] d)(e:ph.gp= .sm)
  (h:ak (WJ c i) fi ops (j+1) n Q (bB a d (.tuple #[])) F {ph with gp:=.gone}):ak (WJ c i) fi ops j (n+1) Q a F ph:=by
 obtain ⟨o,cP,dQ,m,hg,p,v,rfl⟩:=u
 obtain ⟨x,y,z,rfl,g,_,_⟩:=sJ v
 obtain ⟨fn,f1,f2,f3,f4,f5⟩:=l.ex
 refine gd m (by rw[e];simp) fun w s k φ p0 _ hs hi he q=>.inr ?_
 obtain ⟨e1,hw⟩:=Kv q.w hi {ph with gp:=.gone} (by rw[he];exact e) rfl
 have A:IntKind.u32.wrap (s.ws+1)=s.ws+1:=by rw[e1];decide
 refine ⟨.tuple #[],_,_,{s with ws:=s.ws+1},{ph with gp:=.gone},fun b B cs hb=>stepG_semrelease m (cB hg) hb.kind p f1 f2 f3 f4 f5 (by simp[e6,g]) hs.ws.1 hs.ws.2,by rw[A];exact hs.Ew aN _,.set _ (.inr (.inl rfl)),
  q.group hi he (by rw[e];simp) (by rw[e];simp) ax hw,zM rfl (by simp[e]) (.inl rfl),.inl ⟨_,p,fun x g=>?_⟩,h⟩
 cases g
 exact ⟨f,rfl,l.Ek⟩
end
end Go.Sep
end
section
namespace Go.Sep
open Go Go.Conc
open Go.ConcN (sumTo upd upd_ne upd_same)
theorem ak.defer {P:Program}{main:Bool}{S:Type}{JF:S->Goroutine->af->Prop}{fi f:FuncId}{ops:Array Oper}{j n:Nat}{Q:Act->af->S->Prop}{a:Act}{F:af}{ph:S}(hM:eF P main (JF ph)){o:Oper}{cP:Array Operand}{dQ:Array TypeId}{vals:Array Value}
  (e:ops[j]?=some o) (hg:cQ ops o a=some true) (g:o.op= .defer {callee:=.value (.func f),args:=cP,argTypes:=dQ}) (hd:o.dst=none) (k:cP.map a.eval=vals)
  (h:∀c:Act,(∀i,slot c i=slot a i)->sz c=sz a->c.defers=dcall f vals::a.defers->ak JF fi ops (j+1) n Q c F ph):ak JF fi ops j (n+1) Q a F ph:=fun b d cs hb l=>by
 rw[List.range'_succ,ff hb.round]
 refine hM.move (fr':=b.at (Act.put ⟨a.tmps,dcall f (cP.map a.eval)::a.defers⟩ o.dst undef) (.inRegion ops (List.range' (j+1) n)::d)) (fun w=>stepG_defer e (cB hg) hb.kind g) ?_
 rw[<-ff hb.round,hd,k]
 exact h ⟨a.tmps,dcall f vals::a.defers⟩ (fun _=>rfl) rfl rfl b d cs hb l
section
variable {c:Cy}{i:Nat}{ph:Ph}{F:af}{f:FuncId}
theorem LB (g:Entry c.P f (fun _=>do mark .enable;pure Extern.Race.none_))(hg:ph.gp= .gone){d:Nat}(hd:ph.deaf=d+1){b:Frame}{a:Act}{todo:List Item}{cs:List Frame}{e:List Deferred}(j:a.defers=dcall f #[]::e)
  (h:WJ c i {ph with deaf:=d} (G {b.at ⟨a.tmps,e⟩ todo with mode:=.returning} cs) F):WJ c i ph (G {b.at a todo with mode:=.returning} cs) F:=by
 obtain ⟨F0,r,hle,hW⟩:=h
 obtain ⟨q,_,k⟩:=hW.left hg
 obtain ⟨fn,f1,f2,f3,f4,f5⟩:=g.ex
 refine Wk.gone (q:=q+1) hg (QuitsD.unwind_mark .enable rfl ax j f1 f2 f3 f4 f5 ?_)
 rw[hd]
 exact k
def lK (f:FuncId)(R:Value->af->Ph->Prop):Ex->Act->af->Ph->Prop
 | .exit _,_,_,_=>False
 |_,a,F,ph=>a.defers=[dcall f #[]]/\ph.gp= .gone/\∃b,ph.deaf=b+1/\R (.tuple #[]) F {ph with deaf:=b}
theorem cW.LC {f0:FuncId}(o:Entry c.P f (fun _=>do mark .enable;pure Extern.Race.none_)){fn:Func}{cd:Code}{n:Nat}{args:Array Value}{R:Value->af->Ph->Prop}(k:c.P.funcs[f0]?=some fn)(hb:fn.body=some cd)(l:fn.results=#[])(m:fn.ntmps=n)(u:args.size<=n)
  (h:∀A:Act,sz A=n->A.defers=[]->(∀i,slot A i=args.getD i undef)->c6 (WJ c i) f0 cd (lK f R) A F ph):cW c.P (WJ c i) f0 args F ph R:=by
 intro d cs p
 let b:Frame:={(default:Frame) with fn:=f0,kind:=.normal}
 have q:b.roundOf=none:=rfl
 have r:Frame.enter c.P f0 args .normal=on b {tmps:=args++Array.replicate (fn.ntmps - args.size) undef,defers:=[]} [.code cd]:=by
  simp[Frame.enter,on,k,hb,b]
  rfl
 rw[r]
 have hM:=WJ.eU c i
 have leave:∀(a:Act) (todo:List Item) F' (aU:Ph),(a.defers=[dcall f #[]]/\aU.gp= .gone/\∃g,aU.deaf=g+1/\R (.tuple #[]) F' {aU with deaf:=g})->WJ c i aU (G {on b a todo with mode:=.returning} (d::cs)) F':=by
  intro a todo F' aU ⟨hd,hg,g,s,t⟩
  rw[ff q]
  refine LB o hg s hd ((hM _).move (fr':=d.finish (.tuple #[])) (cs':=cs) (fun w=>?_) (p _ F' _ t))
  exact stepG_leave rfl rfl k (results_none l _ c.P w) (events_results_none l _ _)
 refine h _ (by simp[sz,m];omega) rfl (fun i=>?_) b [] (d::cs) ⟨by simp[b],rfl,rfl⟩ fun e a F' aU j=>?_
 .simp only[slot,m,Array.getD_eq_getD_getElem?]
  rcases Nat.lt_or_ge i args.size with hi|hi
  .rw[Array.getElem?_append_left hi]
  .rw[Array.getElem?_append_right hi,Array.getElem?_replicate,Array.getElem?_eq_none hi]
   split<;>rfl
 .cases e with
  |normal=>exact (hM aU).move (fun _=>mP rfl) (leave a _ F' aU j)
  |exit i=>exact j.elim
  |ret=>exact fun v=>(hM aU).move (fun _=>stepG_ret' rfl) (leave a _ F' aU j)
def zS (R:af->Ph->Prop):Ex->Act->af->Ph->Prop
 | .exit _,_,_,_=>False
 |_,a,F,ph=>a.defers=[]/\R F ph
theorem LD {f0:FuncId}{fn:Func}{cd:Code}{n:Nat}{args:Array Value}{R:af->Ph->Prop}(j:c.P.funcs[f0]?=some fn)(o:(fn.name== "runtime.NumGoroutine")=false)(hb:fn.body=some cd)(k:fn.results=#[])(l:fn.ntmps=n)(s:args.size<=n)
  {b:Frame} {a:Act} {todo:List Item} {cs:List Frame} {f:List Deferred} (p:a.defers=dcall f0 args::f)
  (h:∀A:Act,sz A=n->A.defers=[]->(∀i,slot A i=args.getD i undef)->c6 (WJ c i) f0 cd (zS R) A F ph)
  (q:∀F' aU,R F' aU->WJ c i aU (G {b.at ⟨a.tmps,f⟩ todo with mode:=.returning} cs) F'):WJ c i ph (G {b.at a todo with mode:=.returning} cs) F:=by
 have hM:=WJ.eU c i
 refine (hM ph).move (fun w=>stepG_unwind_enter p j o hb) ?_
 have leave:∀(d:Act) (m:List Item) F' (aU:Ph),(d.defers=[]/\R F' aU)->WJ c i aU (G {(baseD f0).at d m with mode:=.returning} ({b.at ⟨a.tmps,f⟩ todo with mode:=.returning}::cs)) F':=by
  intro d m F' aU ⟨hd,r⟩
  exact (hM _).move (fun w=>stepG_leave_deferred rfl hd j (results_none k _ c.P w) (events_results_none k _ _) rfl) (q F' aU r)
 have:=h {tmps:=args++Array.replicate (fn.ntmps - args.size) undef,defers:=[]} (by simp[sz,l];omega) rfl (fun i=>?_) (baseD f0) [] ({b.at ⟨a.tmps,f⟩ todo with mode:=.returning}::cs) ⟨by simp[baseD],rfl,rfl⟩ fun e d F' aU g=>?_
 .rw[ff rfl] at this;exact this
 .simp only[slot,l,Array.getD_eq_getD_getElem?]
  rcases Nat.lt_or_ge i args.size with hi|hi
  .rw[Array.getElem?_append_left hi]
  .rw[Array.getElem?_append_right hi,Array.getElem?_replicate,Array.getElem?_eq_none hi]
   split<;>rfl
 .cases e with
  |normal=>exact (hM aU).move (fun _=>mP rfl) (leave d _ F' aU g)
  |exit i=>exact g.elim
  |ret=>exact fun t=>(hM aU).move (fun _=>stepG_ret' rfl) (leave d _ F' aU g)
end
attribute [go_sem] lK zS
end Go.Sep
end
section
namespace Go.Sep
open Go
def lM (x y:Int):Int:=IntKind.u64.wrap ((BitVec.ofInt 64 x&&& BitVec.ofInt 64 y).toNat:Int)
@[go_sem] theorem Tl (x y:Int):IntKind.u64.wrap ((@HAnd.hAnd (BitVec 64) (BitVec 64) (BitVec 64) (@instHAndOfAndOp (BitVec IntKind.u64.bits) (@BitVec.instAndOp IntKind.u64.bits)) (BitVec.ofInt 64 x) (BitVec.ofInt 64 y)).toNat:Int)=lM x y:=rfl
theorem zT (v t:Nat)(a:v<2147483648)(ht:t<=1):lM ((v:Int)*4294967296+(t:Int)) 2147483648=0:=Go.ConcN.st_flag v t a ht
theorem zU (v t:Nat)(a:v<2147483648)(ht:t<=1):lM ((v:Int)*4294967296+(t:Int)) 2147483647=(t:Int):=Go.ConcN.st_waiters v t a ht
theorem zV (v t:Nat)(ht:t<=1):((v:Int)*4294967296+(t:Int)).fdiv 4294967296=v:=by
 rw[Int.fdiv_eq_ediv_of_nonneg _ aB];omega
end Go.Sep
namespace Go.Proofs.YtbpddfapodiemaaGreatDoor
open Go Go.Sep Go.Proofs Go.Conc
open Go.ConcN (upd upd_same)
open Go.ConcM (muA msA)
open Go.ConcR (stA smA)
set_option maxRecDepth 100000
set_option maxHeartbeats 4000000
set_option linter.all false
attribute [local go_sem] Int.reduceBEq Int.reduceBNe muA msA stA smA
section
variable {Mu Wg Is n base T0 i:Nat}{bs:Nat->Bool}{st:Bool}{F:af}
theorem LF (w:World)(s:Sh)(h:cO (CY Mu Wg Is n bs base T0) w s):∃v,w.cell? ⟨Wg,0,none⟩=some v:=⟨_,h.wg.1⟩
theorem LG (aN:Mu≠Wg/\Mu≠Is/\Wg≠Is)(a:n<67108864){mp:Mp}:
  cW Tryz.prog (WJ (CY Mu Wg Is n bs base T0) i) 158 #[.pointer (some (stA Wg)),.int .u64 18446744069414584320] F ⟨mp,.rel,st,1⟩
   (fun r F' aU=>F'=F/\∃v t:Nat,v<=n/\t<=1/\r= .int .u64 ((v:Int)*4294967296+(t:Int))/\aU=⟨mp,if v=0/\t=1 then .ld else .gone,st,1⟩):=by
 have hM:=WJ.eU (CY Mu Wg Is n bs base T0) i
 refine cW.go (main:=false) hM Tryz.func158 rfl Tryz.ntmps158 ax fun A c hd hs=>?_
 have d:=hs 0
 have k1:=hs 1
 clear hs
 repeat apply aL (hM _)
 refine dD hM ?_
 refine ak.pure (hM _) 1 (n:=0) _ rfl rfl ?_;apply ag _
 refine ak.nil hM ?_;try simp only[go_sem]
 repeat apply aL (hM _)
 refine dD hM ?_
 refine ak.pure (hM _) 4 (n:=2) _ rfl rfl ?_;apply ag _
 refine Lx Eo aN a ⟨_,_,_,rfl,(by first|rfl|simp only[*,go_sem]),rfl,by first|(simp only[*,go_sem];done)|(simp only[*,go_sem];rfl),rfl⟩ (by rfl) ax fun v t b ht=>?_
 refine ak.pure (hM _) 1 (n:=0) _ rfl rfl ?_;apply ag _
 refine ak.nil hM ?_;try simp only[go_sem]
 refine gb ?_;try simp only[go_sem]
 exact (mI rfl aM aM ⟨rfl,v,t,b,ht,rfl,rfl⟩).2
theorem LH {mp:Mp}:
  cW Tryz.prog (WJ (CY Mu Wg Is n bs base T0) i) 160 #[.pointer (some (stA Wg))] F ⟨mp,.ld,st,1⟩
   (fun r F' aU=>F'=F/\r= .int .u64 1/\aU=⟨mp,.st,st,1⟩):=by
 have hM:=WJ.eU (CY Mu Wg Is n bs base T0) i
 refine cW.go (main:=false) hM Tryz.func160 rfl Tryz.ntmps160 ax fun A a hd hs=>?_
 have b:=hs 0
 clear hs
 repeat apply aL (hM _)
 refine dD hM ?_
 refine ak.pure (hM _) 1 (n:=0) _ rfl rfl ?_;apply ag _
 refine ak.nil hM ?_;try simp only[go_sem]
 repeat apply aL (hM _)
 refine dD hM ?_
 refine ak.pure (hM _) 3 (n:=2) _ rfl rfl ?_;apply ag _
 refine Ly zE ⟨_,_,_,rfl,(by first|rfl|simp only[*,go_sem]),rfl,by first|(simp only[*,go_sem];done)|(simp only[*,go_sem];rfl),rfl⟩ (by rfl) ax ?_
 refine ak.pure (hM _) 1 (n:=0) _ rfl rfl ?_;apply ag _
 refine ak.nil hM ?_;try simp only[go_sem]
 refine gb ?_;try simp only[go_sem]
 exact (mI rfl aM aM ⟨rfl,rfl,rfl⟩).2
theorem LI (aN:Mu≠Wg/\Mu≠Is/\Wg≠Is){mp:Mp}:
  cW Tryz.prog (WJ (CY Mu Wg Is n bs base T0) i) 161 #[.pointer (some (stA Wg)),.int .u64 0] F ⟨mp,.st,st,1⟩
   (fun r F' aU=>F'=F/\r= .tuple #[]/\aU=⟨mp,.sm,st,1⟩):=by
 have hM:=WJ.eU (CY Mu Wg Is n bs base T0) i
 refine cW.go (main:=false) hM Tryz.func161 rfl Tryz.ntmps161 ax fun A a hd hs=>?_
 have b:=hs 0
 have k1:=hs 1
 clear hs
 repeat apply aL (hM _)
 refine dD hM ?_
 refine ak.pure (hM _) 4 (n:=1) _ rfl rfl ?_;apply ag _
 refine Lz K1 aN ⟨_,_,_,rfl,(by first|rfl|simp only[*,go_sem]),rfl,by first|(simp only[*,go_sem];done)|(simp only[*,go_sem];rfl),rfl⟩ (by rfl) ax ?_
 refine ak.nil hM ?_;try simp only[go_sem]
 exact mH rfl aM ⟨rfl,rfl,rfl⟩
end
end Go.Proofs.YtbpddfapodiemaaGreatDoor
end
section
namespace Go.Sep
open Go Go.Conc
open Go.ConcN (sumTo upd upd_ne upd_same)
open Go.ConcM (MuAt muA msA muBlock OsLater)
open Go.ConcR (WgAt wgBlock stA smA)
structure X where
 Mu:Nat
 Wg:Nat
 Is:Nat
 n:Nat
 bs:Nat->Bool
 base:Nat
 T0:Nat
 B0:Nat
inductive Z where
 |free
 |co (x:X) (k:Nat) (p:P0) (d:Nat)
structure PT where
 P:Program
 tM:TypeId
 tW:TypeId
 tI:TypeId
abbrev X.cy (x:X)(T:PT):Cy:=⟨T.P,x.Mu,x.Wg,x.Is,T.tM,T.tW,T.tI,x.n,x.bs,x.base,x.T0⟩
def ZJ (T:PT)(Φ:Goroutine->af->Prop):Z->Goroutine->af->Prop
 | .free=>jl T.P Φ
 | .co x k p d=>fun g F=>(p= .reg->k=x.n)/\eT (x.cy T) x.B0 (jl T.P Φ) k p d g F
section
variable {T:PT}{Φ:Goroutine->af->Prop}{x:X}{k d:Nat}{p:P0}{ops:Array Oper}{j n:Nat}{Q:Act->af->Z->Prop}{a:Act}{F:af}{o:Oper}{f fi:FuncId}{dt:Option Tmp}
theorem EF {c:Cy}:Ev0 c d d #[]:=⟨ax,rfl⟩
theorem LJ {c:Cy}:Ev0 c d (d+1) #[cZ .disable]:=⟨fun e he=>by simp at he;exact .inl he,rfl⟩
theorem EG {c:Cy}:Ev0 c (d+1) d #[cZ .enable]:=⟨fun e he=>by simp at he;exact .inr (.inl he),rfl⟩
theorem zW {c:Cy}{ad:Addr}(y:Bool)(h:ad.block=c.Wg):Ev0 c d d #[⟨.cell ad,y,true⟩]:=⟨fun e he=>by simp at he;exact .inr (.inr ⟨ad,h,.inl ⟨y,he⟩⟩),by simp[deafBehind]⟩
theorem EH {c:Cy}{ad:Addr}(h:ad.block=c.Wg):Ev0 c d d #[⟨.cell ad,false,true⟩,⟨.cell ad,true,true⟩]:=
 ⟨fun e he=>by simp at he;rcases he with he|he<;>exact .inr (.inr ⟨ad,h,.inl ⟨_,he⟩⟩),by simp[deafBehind]⟩
theorem LK {c:Cy}{ad:Addr}(h:ad.block=c.Wg):Ev0 c d d #[cZ (.read ad)]:=⟨fun e he=>by simp at he;exact .inr (.inr ⟨ad,h,.inr (.inl he)⟩),by simp[deafBehind,cZ]⟩
theorem LL {c:Cy}{ad:Addr}(h:ad.block=c.Wg):Ev0 c d d #[cZ (.write ad)]:=⟨fun e he=>by simp at he;exact .inr (.inr ⟨ad,h,.inr (.inr he)⟩),by simp[deafBehind,cZ]⟩
theorem LM {c:Cy}{ad:Addr}(h:ad.block=c.Wg):Ev0 c d d (semEvents ad):=by
 refine ⟨fun e he=>?_,by simp[deafBehind,semEvents]⟩;simp[semEvents] at he;rcases he with rfl|rfl|rfl|rfl
 .exact .inl rfl
 .exact .inr (.inr ⟨ad,h,.inl ⟨_,rfl⟩⟩)
 .exact .inr (.inr ⟨ad,h,.inl ⟨_,rfl⟩⟩)
 .exact .inr (.inl rfl)
theorem ZJ.eU (T:PT)(Φ:Goroutine->af->Prop)(z:Z):eF T.P true (ZJ T Φ z):=by
 cases z with
 |free=>exact Closed.eU (Ee T.P Φ)
 |co x k p d=>
  refine ⟨fun {fr fr' cs cs' F} hs h=>⟨h.1,eT.zz (c:=x.cy T) rfl rfl h.1 fun w s φ e a b=>?_⟩⟩;exact ⟨_,w,#[],s,p,d,hs w,a,.refl _ _,b,EF,.inr eg,h.2⟩
theorem ZJ.closed (T:PT)(Φ:Goroutine->af->Prop){z:Z}(b:∀x k d,z≠ .co x k .reg d):Closed T.P true (ZJ T Φ z):=by
 cases z with
 |free=>exact Ee T.P Φ
 |co x k p d=>
  have a:p≠ .reg:=fun e=>b x k d (by rw[e]);have hC:=eT.closed (x.cy T) x.B0 (jl T.P Φ) k p d a
  exact ⟨fun hle h=>⟨h.1,hC.mono hle h.2⟩,fun {fr cs F} h=>⟨fun e=>absurd e a,hC.step fun w hw=>by
   obtain ⟨g',w',es,F',k1,c,f,g,i⟩:=h w hw
   exact ⟨g',w',es,F',k1,c,f,g,i.2⟩⟩⟩
theorem lN (A:ops[j]?=some o)(i:p= .reg->k=x.n)
  (h:∀(w:World) (s:Sh) (φ:Nat->Ph),Has F w->cO (x.cy T) w s->Inv x.n x.bs k φ p s->
   ∃(v:Value) (w':World) (es:Array Event) (s':Sh) (f:P0) (g:Nat),(∀(b:Frame) (e:List Item) (cs:List Frame),BF fi b->
    stepG T.P true (G (b.at a (.inRegion ops (j::List.range' (j+1) n)::e)) cs) w= .go (G (b.at (a.put o.dst v) (.inRegion ops (List.range' (j+1) n)::e)) cs) w' es)/\cO (x.cy T) w' s'/\iM (x.cy T) w w'/\Inv x.n x.bs k φ f s'/\Ev0 (x.cy T) d g es/\
    (s'.ms<=s.ms/\s'.ws<=s.ws)/\ak (ZJ T Φ) fi ops (j+1) n Q (a.put o.dst v) F (.co x k f g)):ak (ZJ T Φ) fi ops j (n+1) Q a F (.co x k p d):=fun b e cs hb l=>by
 rw[List.range'_succ,ff hb.round]
 refine ⟨i,eT.zz (c:=x.cy T) rfl rfl i fun w s φ e1 e2 m=>?_⟩
 obtain ⟨v,w',es,s',f,g,k1,q,r,t,u,y,z⟩:=h w s φ e1 e2 m
 have:=z b e cs hb l
 rw[ff hb.round] at this
 exact ⟨_,w',es,s',f,g,k1 b e cs hb,q,r,t,u,.inr y,this.2⟩
theorem qp {k:Nat}{φ:Nat->Ph}{p a:P0}{s:Sh}(h:Inv x.n x.bs k φ p s){wg ws:Int}(hw:dY x.n φ a wg ws):Inv x.n x.bs k φ a {s with wg:=wg,ws:=ws}:=⟨h.m,hw,h.i⟩
theorem EI (i:Entry T.P f (fun _=>do mark .disable;pure Extern.Race.none_)){vals:List Value}(l:At ops j a f vals dt)(m:p= .reg->k=x.n)(c:P0)(q:∀φ wg ws,dY x.n φ p wg ws->dY x.n φ c wg ws)
  (h:ak (ZJ T Φ) fi ops (j+1) n Q (bB a dt (.tuple #[])) F (.co x k c (d+1))):ak (ZJ T Φ) fi ops j (n+1) Q a F (.co x k p d):=by
 obtain ⟨o,cP,dQ,e,hg,r,_,rfl⟩:=l
 obtain ⟨fn,f1,f2,f3,f4,f5⟩:=i.ex
 exact lN e m fun w s φ _ hs g=>⟨.tuple #[],w,_,s,c,d+1,fun b t cs hb=>stepG_mark0 .disable ax e (cB hg) hb.kind r f1 f2 f3 f4 f5,hs,.refl _ _,qp g (q _ _ _ g.w),LJ,eg,h⟩
theorem EJ (e:Entry T.P f (fun _=>do mark .enable;pure Extern.Race.none_)){vals:List Value}(g:At ops j a f vals dt)(i:p= .reg->k=x.n)
  (h:ak (ZJ T Φ) fi ops (j+1) n Q (bB a dt (.tuple #[])) F (.co x k p d)):ak (ZJ T Φ) fi ops j (n+1) Q a F (.co x k p (d+1)):=by
 obtain ⟨o,cP,dQ,c,hg,l,_,rfl⟩:=g
 obtain ⟨fn,f1,f2,f3,f4,f5⟩:=e.ex
 exact lN c i fun w s φ _ hs m=>⟨.tuple #[],w,_,s,p,d,fun b q cs hb=>stepG_mark0 .enable ax c (cB hg) hb.kind l f1 f2 f3 f4 f5,hs,.refl _ _,m,EG,eg,h⟩
theorem LN (e:Entry T.P f (Extern.Race.marked .read))(g:At ops j a f [.pointer (some (smA x.Wg))] dt)(i:p= .reg->k=x.n)
  (h:ak (ZJ T Φ) fi ops (j+1) n Q (bB a dt (.tuple #[])) F (.co x k p d)):ak (ZJ T Φ) fi ops j (n+1) Q a F (.co x k p d):=by
 obtain ⟨o,cP,dQ,c,hg,l,m,rfl⟩:=g
 obtain ⟨y,rfl,q⟩:=kK m
 obtain ⟨fn,f1,f2,f3,f4,f5⟩:=e.ex
 exact lN c i fun w s φ _ hs r=>⟨.tuple #[],w,_,s,p,d,fun b t cs hb=>stepG_markAt .read ax c (cB hg) hb.kind l f1 f2 f3 f4 f5 (by simp[e6,q]),hs,.refl _ _,r,LK (ad:=smA x.Wg) rfl,eg,h⟩
theorem LO (e:Entry T.P f (Extern.Race.marked .write))(g:At ops j a f [.pointer (some (smA x.Wg))] dt)(i:p= .reg->k=x.n)
  (h:ak (ZJ T Φ) fi ops (j+1) n Q (bB a dt (.tuple #[])) F (.co x k p d)):ak (ZJ T Φ) fi ops j (n+1) Q a F (.co x k p d):=by
 obtain ⟨o,cP,dQ,c,hg,l,m,rfl⟩:=g
 obtain ⟨y,rfl,q⟩:=kK m
 obtain ⟨fn,f1,f2,f3,f4,f5⟩:=e.ex
 exact lN c i fun w s φ _ hs r=>⟨.tuple #[],w,_,s,p,d,fun b t cs hb=>stepG_markAt .write ax c (cB hg) hb.kind l f1 f2 f3 f4 f5 (by simp[e6,q]),hs,.refl _ _,r,LL (ad:=smA x.Wg) rfl,eg,h⟩
theorem vG (ad:Addr){src dst t:TypeId}(hs:T.P.underlying src=some (.pointer t))(hd:T.P.underlying dst=some .unsafePointer)(c:(T.P.info? t).map (fun i=>decide (i.size=0))=some false){y:Operand}
  (l:ot ops j a (.convert src dst y) dt) (m:p= .reg->k=x.n) (q:ev a y= .pointer (some ad)) (hc:∀w s,cO (x.cy T) w s->∃v,w.cell? ad=some v) (h:ak (ZJ T Φ) fi ops (j+1) n Q (bB a dt (.pointer (some ad))) F (.co x k p d)):ak (ZJ T Φ) fi ops j (n+1) Q a F (.co x k p d):=by
 obtain ⟨o,e,hg,r,rfl⟩:=l
 refine lN e m fun w s φ _ f u=>⟨_,w,#[],s,p,d,fun b B cs hb=>?_,f,.refl _ _,u,EF,eg,h⟩
 obtain ⟨v,g⟩:=hc w s f
 have e1:execOp a.eval o=(do pure (.value (<-convert src dst (.pointer (some ad)))):Sem Next):=by
  unfold execOp
  simp only[r,e6,q]
 have z:(execOp a.eval o).run T.P w= .ok (.value (.pointer (some ad))) w:=by
  rw[e1];simp[run_convert_to_unsafe hs hd c g]
 have A:(execOp a.eval o).events T.P w #[]=#[]:=by
  rw[e1];simp[events_convert_to_unsafe hs hd c g]
 rw[stepG_value e (cB hg) hb.kind z]
 unfold listed
 rw[A,seen_none]
theorem LP (i:Entry T.P f (Extern.Atomic.update (Op.intArith .add) .u64 true))(aN:x.Mu≠x.Wg/\x.Mu≠x.Is/\x.Wg≠x.Is)(A:x.n<67108864)(l:At ops j a f [.pointer (some (stA x.Wg)),.int .u64 4294967296] dt)
  (h:∀v:Nat,v<=x.n->ak (ZJ T Φ) fi ops (j+1) n Q (bB a dt (.int .u64 (((v+1:Nat):Int)*4294967296+((0:Nat):Int)))) F (.co x k (.opn 1) d)):ak (ZJ T Φ) fi ops j (n+1) Q a F (.co x k (.opn 0) d):=by
 obtain ⟨o,cP,dQ,c,hg,m,p,rfl⟩:=l
 obtain ⟨y,z,rfl,q,r⟩:=sH p
 obtain ⟨fn,f1,f2,f3,f4,f5⟩:=i.ex
 refine lN c (fun e=>by cases e) fun w s φ _ hs g=>?_
 obtain ⟨v,e1,t,hw⟩:=Kw g.w
 have e2:IntKind.u64.wrap (s.wg+4294967296)=((v+1:Nat):Int)*4294967296+((0:Nat):Int):=by
  rw[e1]
  unfold IntKind.wrap
  simp only[IntKind.bits,IntKind.signed,dz]
  simp
  omega
 have u:s.wg+dz=((v+1:Nat):Int)*4294967296+((0:Nat):Int):=by rw[e1];simp only[dz];omega
 rw[u] at hw
 exact ⟨_,_,_,{s with wg:=((v+1:Nat):Int)*4294967296+((0:Nat):Int)},.opn 1,d,fun b B cs hb=>by rw[<-e2];exact stepG_add_atomic c (cB hg) hb.kind m f1 f2 f3 f4 .u64 f5 q r hs.wg.1 hs.wg.2,by rw[<-e2];exact hs.vv aN _,.set _ (.inr (.inl rfl)),qp g hw,EH rfl,eg,h v t⟩
theorem LQ (i:Entry T.P f (Extern.Atomic.loadT (.int .u64)))(l:At ops j a f [.pointer (some (stA x.Wg))] dt){u:Nat}
  (h:∀v:Nat,v<=u->ak (ZJ T Φ) fi ops (j+1) n Q (bB a dt (.int .u64 ((v:Int)*4294967296+((0:Nat):Int)))) F (.co x k (if v=0 then .fB else .look v) d)):ak (ZJ T Φ) fi ops j (n+1) Q a F (.co x k (.look u) d):=by
 obtain ⟨o,cP,dQ,c,hg,m,p,rfl⟩:=l
 obtain ⟨y,rfl,q⟩:=kK p
 obtain ⟨fn,f1,f2,f3,f4,f5⟩:=i.ex
 refine lN c (fun e=>by cases e) fun w s φ _ hs g=>?_
 obtain ⟨v,e1,r,hw⟩:=Kz g.w
 have e2:s.wg=(v:Int)*4294967296+((0:Nat):Int):=by rw[e1];simp only[dz];omega
 exact ⟨_,_,_,s,_,d,fun b t cs hb=>by rw[<-e2];exact stepG_load_atomic c (cB hg) hb.kind m f1 f2 f3 f4 .u64 f5 q hs.wg.1,hs,.refl _ _,qp g hw,zW false rfl,eg,h v r⟩
theorem LR (i:Entry T.P f (Extern.Atomic.loadT (.int .u64)))(l:At ops j a f [.pointer (some (stA x.Wg))] dt)
  (h:ak (ZJ T Φ) fi ops (j+1) n Q (bB a dt (.int .u64 0)) F (.co x k .fB d)):ak (ZJ T Φ) fi ops j (n+1) Q a F (.co x k .fB d):=by
 obtain ⟨o,cP,dQ,c,hg,m,p,rfl⟩:=l
 obtain ⟨y,rfl,q⟩:=kK p
 obtain ⟨fn,f1,f2,f3,f4,f5⟩:=i.ex
 refine lN c (fun e=>by cases e) fun w s φ _ hs g=>?_
 have e2:s.wg=0:=(D1 g.w).1
 exact ⟨_,_,_,s,_,d,fun b r cs hb=>by rw[<-e2];exact stepG_load_atomic c (cB hg) hb.kind m f1 f2 f3 f4 .u64 f5 q hs.wg.1,hs,.refl _ _,g,zW false rfl,eg,h⟩
theorem LS (q:Entry T.P f (Extern.Atomic.casT (.int .u64)))(aN:x.Mu≠x.Wg/\x.Mu≠x.Is/\x.Wg≠x.Is){v:Nat}(r:0<v)(G:k=x.n)(t:At ops j a f [.pointer (some (stA x.Wg)),.int .u64 ((v:Int)*4294967296+((0:Nat):Int)),.int .u64 ((v:Int)*4294967296+((0:Nat):Int)+1)] dt)
  (u:ak (ZJ T Φ) fi ops (j+1) n Q (bB a dt (.bool true)) F (.co x k .reg d)) (A:ak (ZJ T Φ) fi ops (j+1) n Q (bB a dt (.bool false)) F (.co x k (.look (v - 1)) d)):ak (ZJ T Φ) fi ops j (n+1) Q a F (.co x k (.look v) d):=by
 obtain ⟨o,cP,dQ,g,hg,h,B,rfl⟩:=t
 obtain ⟨y,z,H,rfl,i,l,m⟩:=sJ B
 obtain ⟨fn,f1,f2,f3,f4,f5⟩:=q.ex
 refine lN g (fun e=>by cases e) fun w s φ _ hs c=>?_
 by_cases e:s.wg=(v:Int)*4294967296+((0:Nat):Int)
 .have e1:s.wg=(v:Int)*dz:=by rw[e];simp only[dz];omega
  have hw:=c.w
  rw[e1] at hw
  have p:=KA hw r
  have C:(v:Int)*dz+1=(v:Int)*4294967296+((0:Nat):Int)+1:=by simp only[dz];omega
  rw[C] at p
  exact ⟨.bool true,_,_,{s with wg:=(v:Int)*4294967296+((0:Nat):Int)+1},.reg,d,fun b D cs hb=>stepG_cas_hit g (cB hg) hb.kind h f1 f2 f3 f4 .u64 f5 i l m (by rw[<-e];exact hs.wg.1) hs.wg.2,hs.vv aN _,.set _ (.inr (.inl rfl)),qp c p,EH rfl,eg,u⟩
 .have e1:s.wg≠(v:Int)*dz:=fun E=>e (by rw[E];simp only[dz];omega)
  exact ⟨.bool false,_,_,s,.look (v - 1),d,fun b D cs hb=>stepG_cas_miss g (cB hg) hb.kind h f1 f2 f3 f4 .u64 f5 i l m hs.wg.1 hs.wg.2 e,hs,.refl _ _,qp c (KB c.w e1).2,zW false rfl,eg,A⟩
theorem LU (q:Value)(r:Entry T.P f Extern.Sync.semacquire)(aN:x.Mu≠x.Wg/\x.Mu≠x.Is/\x.Wg≠x.Is)(g:k=x.n)(t:At ops j a f [.pointer (some (smA x.Wg)),q] dt)
  (h:ak (ZJ T Φ) fi ops (j+1) n Q (bB a dt (.tuple #[])) F (.co x k .fB d)):ak (ZJ T Φ) fi ops j (n+1) Q a F (.co x k .reg d):=fun b u cs hb v=>by
 obtain ⟨o,cP,dQ,i,hg,l,A,rfl⟩:=t
 obtain ⟨y,z,rfl,m,_⟩:=sH A
 obtain ⟨fn,f1,f2,f3,f4,f5⟩:=r.ex
 rw[List.range'_succ,ff hb.round]
 refine ⟨fun _=>g,eT.act (c:=x.cy T) rfl rfl (fun _=>⟨g,fun w s hs e=>?_⟩) fun w s φ e1 hs p B=>?_⟩
 .exact stepG_semacquire_wait i (cB hg) l f1 f2 f3 f4 f5 (ad:=smA x.Wg) (by simp[e6,m]) (by rw[hs.ws.1,e])
 .have e:=B rfl
  obtain ⟨C,D,hw⟩:=KC p.w e
  have:=h b u cs hb v
  rw[ff hb.round] at this
  exact ⟨_,_,_,{s with ws:=s.ws - 1},.fB,d,stepG_semacquire i (cB hg) hb.kind l f1 f2 f3 f4 f5 (by simp[e6,m]) hs.ws.1 e hs.ws.2,hs.Ew aN _,.set _ (.inr (.inl rfl)),qp p hw,LM rfl,.inr ⟨Int.le_refl _,by simp only;omega⟩,this.2⟩
theorem EK (d:Entry T.P f (Extern.Race.marked .acquire))(e:k=x.n)(g:At ops j a f [.pointer (some (stA x.Wg))] dt)
  (h:ak (ZJ T Φ) fi ops (j+1) n Q (bB a dt (.tuple #[])) ⟨F.ro,(x.Is,(x.cy T).fin)::F.own⟩ .free):ak (ZJ T Φ) fi ops j (n+1) Q a F (.co x k .fB 0):=fun b i cs hb l=>by
 obtain ⟨o,cP,dQ,m,hg,p,q,rfl⟩:=g
 obtain ⟨y,rfl,r⟩:=kK q
 obtain ⟨fn,f1,f2,f3,f4,f5⟩:=d.ex
 rw[List.range'_succ,ff hb.round]
 subst e
 have:=h b i cs hb l
 rw[ff hb.round] at this
 exact ⟨fun _=>rfl,eT.join (c:=x.cy T) rfl rfl fun w hw=>⟨_,stepG_markAt .acquire ax m (cB hg) hb.kind p f1 f2 f3 f4 f5 (by simp[e6,r]),rfl,this⟩⟩
theorem LV (i:k<x.n){d:Deferred}{fv:Operand}{g:Fn}{caps:Array Value}(l:ops[j]?=some o)(hg:cQ ops o a=some true)(f:∀w,(execOp a.eval o).run T.P w= .ok (.spawn d) w/\(execOp a.eval o).events T.P w #[]=#[])(hd:d.target= .fn g caps)
  (hW:Wk (x.cy T) k ⟨.idle,.cnt,false,0⟩ (born T.P d) ⟨F.ro,[]⟩) (h:ak (ZJ T Φ) fi ops (j+1) n Q (bB a o.dst undef) F (.co x (k+1) (.opn 0) 0)):ak (ZJ T Φ) fi ops j (n+1) Q a F (.co x k (.opn 1) 0):=fun b m cs hb p=>by
 rw[List.range'_succ,ff hb.round]
 have:=h b m cs hb p
 rw[ff hb.round] at this
 refine ⟨fun e=>(by cases e),eT.spawn (c:=x.cy T) rfl rfl i fun w hw=>⟨_,_,?_,hW,rfl,rfl,this.2⟩⟩
 rw[stepG_spawn l (cB hg) hb.kind (f w).1 hd]
 unfold listed
 rw[(f w).2,seen_none]
 rfl
end
section
variable {T:PT}{Φ:Goroutine->af->Prop}{fi f:FuncId}
theorem LW {cd:Code}{Q:Ex->Act->af->Z->Prop}{a:Act}{F:af}(c:af)(Mu Wg Is n:Nat)(bs:Nat->Bool)
  (hle:Le ⟨c.ro,(Mu,muBlock T.tM 0 0)::(Wg,wgBlock T.tW 0 0)::(Is,.cells (List.replicate n (Value.bool false)).toArray T.tI)::c.own⟩ F)
  (h:∀base B0 T0,0<base->(Mu≠Wg/\Mu≠Is/\Wg≠Is)->c6 (ZJ T Φ) fi cd Q a c (.co ⟨Mu,Wg,Is,n,bs,base,T0,B0⟩ 0 (.opn 0) 0)):c6 (ZJ T Φ) fi cd Q a F .free:=fun b k cs hb d=>
 jl.found bs rfl rfl hle fun base B0 T0 e aN=>(h base B0 T0 e aN b k cs hb d).2
theorem LX (l:Entry T.P f (fun _=>do mark .enable;pure Extern.Race.none_)){x:X}{k d:Nat}{p:P0}{F:af}(e:p= .reg->k=x.n){b:Frame}{a:Act}{todo:List Item}{cs:List Frame}{i:List Deferred}(m:a.defers=dcall f #[]::i)
  (h:ZJ T Φ (.co x k p d) (G {b.at ⟨a.tmps,i⟩ todo with mode:=.returning} cs) F):ZJ T Φ (.co x k p (d+1)) (G {b.at a todo with mode:=.returning} cs) F:=by
 obtain ⟨fn,f1,f2,f3,f4,f5⟩:=l.ex
 refine ⟨e,eT.zz (c:=x.cy T) rfl rfl e fun w s φ e1 hs o=>⟨_,w,#[cZ .enable],s,p,d,?_,hs,.refl _ _,o,EG,.inr eg,h.2⟩⟩
 exact stepG_unwind_entry (v:=.tuple #[]) m f1 f2 f3 f4 f5 (by simp[Extern.Race.none_]) (by simp[cZ]) (by
  intro y j
  simp[cZ] at j
  subst j
  exact ⟨rfl,fun g h=>by cases h⟩)
def zX (f:FuncId)(R:Value->af->Z->Prop):Ex->Act->af->Z->Prop
 | .exit _,_,_,_=>False
 |_,a,F,z=>a.defers=[dcall f #[]]/\∃x k p d,(p= .reg->k=x.n)/\z= .co x k p (d+1)/\R (.tuple #[]) F (.co x k p d)
theorem cW.LY {f0:FuncId}(q:Entry T.P f (fun _=>do mark .enable;pure Extern.Race.none_)){fn:Func}{cd:Code}{n:Nat}{args:Array Value}{R:Value->af->Z->Prop}{F:af}{z:Z}(l:T.P.funcs[f0]?=some fn)(hb:fn.body=some cd)(m:fn.results=#[])(o:fn.ntmps=n)(B:args.size<=n)
  (h:∀A:Act,sz A=n->A.defers=[]->(∀i,slot A i=args.getD i undef)->c6 (ZJ T Φ) f0 cd (zX f R) A F z):cW T.P (ZJ T Φ) f0 args F z R:=by
 intro g cs r
 let b:Frame:={(default:Frame) with fn:=f0,kind:=.normal}
 have s:b.roundOf=none:=rfl
 have t:Frame.enter T.P f0 args .normal=on b {tmps:=args++Array.replicate (fn.ntmps - args.size) undef,defers:=[]} [.code cd]:=by
  simp[Frame.enter,on,l,hb,b]
  rfl
 rw[t]
 have hM:=ZJ.eU T Φ
 have leave:∀(c:Act) (todo:List Item) F' (a:Z),(c.defers=[dcall f #[]]/\∃x k p d,(p= .reg->k=x.n)/\a= .co x k p (d+1)/\R (.tuple #[]) F' (.co x k p d))->ZJ T Φ a (G {on b c todo with mode:=.returning} (g::cs)) F':=by
  intro c todo F' a ⟨hd,x,k,p,d,u,v,y⟩
  subst v
  rw[ff s]
  refine LX q u hd ((hM _).move (fr':=g.finish (.tuple #[])) (cs':=cs) (fun w=>?_) (r _ F' _ y))
  exact stepG_leave rfl rfl l (results_none m _ T.P w) (events_results_none m _ _)
 refine h _ (by simp[sz,o];omega) rfl (fun i=>?_) b [] (g::cs) ⟨by simp[b],rfl,rfl⟩ fun e c F' a j=>?_
 .simp only[slot,o,Array.getD_eq_getD_getElem?]
  rcases Nat.lt_or_ge i args.size with hi|hi
  .rw[Array.getElem?_append_left hi]
  .rw[Array.getElem?_append_right hi,Array.getElem?_replicate,Array.getElem?_eq_none hi]
   split<;>rfl
 .cases e with
  |normal=>exact (hM a).move (fun _=>mP rfl) (leave c _ F' a j)
  |exit i=>exact j.elim
  |ret=>exact fun C=>(hM a).move (fun _=>stepG_ret' rfl) (leave c _ F' a j)
theorem gq.LZ {args:Array Value}{ro:Addr->Option Value}{R:Value->af->Prop}(h:∀Φ,cW T.P (ZJ T Φ) f args ⟨ro,[]⟩ .free (fun v F' z=>z= .free/\R v F')):gq T.P f args ⟨ro,[]⟩ R:=
 gq.KW fun Φ c cs hK=>h Φ c cs fun v F' z ⟨a,b⟩=>by subst a;exact hK v F' b
end
end Go.Sep
end
section
namespace Go.Proofs.YtbpddfapodiemaaGreatDoor
open Go Go.Sep Go.Proofs Go.Conc
open Go.ConcN (upd upd_same)
open Go.ConcM (muA msA)
open Go.ConcR (stA smA)
set_option maxRecDepth 100000
set_option maxHeartbeats 4000000
attribute [local go_sem] Int.reduceBEq Int.reduceBNe muA msA stA smA
noncomputable abbrev TT:PT:=⟨Tryz.prog,179,186,4⟩
theorem L0 {f:FuncId}{R:Value->af->Z->Prop}{a:Act}{F:af}{x:X}{k d:Nat}{p:P0}(hd:a.defers=[dcall f #[]])(b:p= .reg->k=x.n)(c:R (.tuple #[]) F (.co x k p d)):zX f R .ret a F (.co x k p (d+1)):=⟨hd,x,k,p,d,b,rfl,c⟩
section
variable {Φ:Goroutine->af->Prop}{x:X}{F:af}{k:Nat}
theorem EL (w:World)(s:Sh)(h:cO (x.cy TT) w s):∃v,w.cell? ⟨x.Wg,0,none⟩=some v:=⟨_,h.wg.1⟩
theorem EM (w:World)(s:Sh)(h:cO (x.cy TT) w s):∃v,w.cell? ⟨x.Wg,1,none⟩=some v:=⟨_,h.ws.1⟩
theorem L1 (aN:x.Mu≠x.Wg/\x.Mu≠x.Is/\x.Wg≠x.Is)(a:x.n<67108864):
  cW Tryz.prog (ZJ TT Φ) 158 #[.pointer (some (stA x.Wg)),.int .u64 4294967296] F (.co x k (.opn 0) 1)
   (fun r F' b=>F'=F/\∃v:Nat,v<=x.n/\r= .int .u64 (((v+1:Nat):Int)*4294967296+((0:Nat):Int))/\b= .co x k (.opn 1) 1):=by
 have hM:=ZJ.eU TT Φ
 have hJ:True:=trivial
 refine cW.go (main:=true) hM Tryz.func158 rfl Tryz.ntmps158 ax fun A d hd hs=>?_
 have e:=hs 0
 have k1:=hs 1
 clear hs
 repeat apply aL (hM _)
 refine bD hM fun K hK=>?_
 refine ak.pure (hM _) 1 (n:=0) _ rfl rfl ?_;simp only[*,go_sem,-hK,-hM]
 refine ak.nil hM (hK _ _ _ ?_);clear hK K
 repeat apply aL (hM _)
 refine bD hM fun K hK=>?_
 refine ak.pure (hM _) 4 (n:=2) _ rfl rfl ?_;simp only[*,go_sem,-hK,-hM]
 refine LP Eo aN a ⟨_,_,_,rfl,cD,rfl,ei,rfl⟩ fun v c=>?_
 refine ak.pure (hM _) 1 (n:=0) _ rfl rfl ?_;simp only[*,go_sem,-hK,-hM]
 refine ak.nil hM (hK _ _ _ ?_);clear hK K
 exact gb (mI rfl aA aA ⟨rfl,v,c,rfl,rfl⟩).2
theorem L2 {u:Nat}:
  cW Tryz.prog (ZJ TT Φ) 160 #[.pointer (some (stA x.Wg))] F (.co x k (.look u) 1)
   (fun r F' a=>F'=F/\∃v:Nat,v<=u/\r= .int .u64 ((v:Int)*4294967296+((0:Nat):Int))/\a= .co x k (if v=0 then .fB else .look v) 1):=by
 have hM:=ZJ.eU TT Φ
 have hJ:True:=trivial
 refine cW.go (main:=true) hM Tryz.func160 rfl Tryz.ntmps160 ax fun A c hd hs=>?_
 have d:=hs 0
 clear hs
 repeat apply aL (hM _)
 refine bD hM fun K hK=>?_
 refine ak.pure (hM _) 1 (n:=0) _ rfl rfl ?_;simp only[*,go_sem,-hK,-hM]
 refine ak.nil hM (hK _ _ _ ?_);clear hK K
 repeat apply aL (hM _)
 refine bD hM fun K hK=>?_
 refine ak.pure (hM _) 3 (n:=2) _ rfl rfl ?_;simp only[*,go_sem,-hK,-hM]
 refine LQ zE ⟨_,_,_,rfl,cD,rfl,ei,rfl⟩ fun v b=>?_
 refine ak.pure (hM _) 1 (n:=0) _ rfl rfl ?_;simp only[*,go_sem,-hK,-hM]
 refine ak.nil hM (hK _ _ _ ?_);clear hK K
 exact gb (mI rfl aA aA ⟨rfl,v,b,rfl,rfl⟩).2
theorem L3:
  cW Tryz.prog (ZJ TT Φ) 160 #[.pointer (some (stA x.Wg))] F (.co x k .fB 1)
   (fun r F' a=>F'=F/\r= .int .u64 0/\a= .co x k .fB 1):=by
 have hM:=ZJ.eU TT Φ
 have hJ:True:=trivial
 refine cW.go (main:=true) hM Tryz.func160 rfl Tryz.ntmps160 ax fun A b hd hs=>?_
 have c:=hs 0
 clear hs
 repeat apply aL (hM _)
 refine bD hM fun K hK=>?_
 refine ak.pure (hM _) 1 (n:=0) _ rfl rfl ?_;simp only[*,go_sem,-hK,-hM]
 refine ak.nil hM (hK _ _ _ ?_);clear hK K
 repeat apply aL (hM _)
 refine bD hM fun K hK=>?_
 refine ak.pure (hM _) 3 (n:=2) _ rfl rfl ?_;simp only[*,go_sem,-hK,-hM]
 refine LR zE ⟨_,_,_,rfl,cD,rfl,ei,rfl⟩ ?_
 refine ak.pure (hM _) 1 (n:=0) _ rfl rfl ?_;simp only[*,go_sem,-hK,-hM]
 refine ak.nil hM (hK _ _ _ ?_);clear hK K
 exact gb (mI rfl aA aA ⟨rfl,rfl,rfl⟩).2
theorem L4 (aN:x.Mu≠x.Wg/\x.Mu≠x.Is/\x.Wg≠x.Is){v:Nat}(b:0<v):
  cW Tryz.prog (ZJ TT Φ) 169 #[.pointer (some (stA x.Wg)),.int .u64 ((v:Int)*4294967296+((0:Nat):Int)),.int .u64 ((v:Int)*4294967296+((0:Nat):Int)+1)] F (.co x x.n (.look v) 1)
   (fun r F' a=>F'=F/\((r= .bool true/\a= .co x x.n .reg 1)\/(r= .bool false/\a= .co x x.n (.look (v - 1)) 1))):=by
 have hM:=ZJ.eU TT Φ
 have hJ:True:=trivial
 refine cW.go (main:=true) hM Tryz.func169 rfl Tryz.ntmps169 ax fun A c hd hs=>?_
 have d:=hs 0
 have k1:=hs 1
 have e:=hs 2
 clear hs
 repeat apply aL (hM _)
 refine bD hM fun K hK=>?_
 refine ak.pure (hM _) 1 (n:=0) _ rfl rfl ?_;simp only[*,go_sem,-hK,-hM]
 refine ak.nil hM (hK _ _ _ ?_);clear hK K
 repeat apply aL (hM _)
 refine bD hM fun K hK=>?_
 refine ak.pure (hM _) 5 (n:=2) _ rfl rfl ?_;simp only[*,go_sem,-hK,-hM]
 refine LS K0 aN b rfl ⟨_,_,_,rfl,cD,rfl,ei,rfl⟩ ?_ ?_
 .refine ak.pure (hM _) 1 (n:=0) _ rfl rfl ?_;simp only[*,go_sem,-hK,-hM]
  refine ak.nil hM (hK _ _ _ ?_);clear hK K
  exact gb (mI rfl aA aA ⟨rfl,.inl ⟨rfl,rfl⟩⟩).2
 .refine ak.pure (hM _) 1 (n:=0) _ rfl rfl ?_;simp only[*,go_sem,-hK,-hM]
  refine ak.nil hM (hK _ _ _ ?_);clear hK K
  exact gb (mI rfl aA aA ⟨rfl,.inr ⟨rfl,rfl⟩⟩).2
end
attribute [local go_sem] Int.reduceBEq Int.reduceBNe muA msA stA smA
def L5 (Wg:Nat)(F:af)(z:Z)(v:Int)(a:Act)(F':af)(b:Z):Prop:=
 F'=F/\slot a 1= .int .i64 1/\slot a 7= .int .i32 v/\slot a 8= .int .u32 0/\sz a=117/\a.defers=[dcall 153 #[]]/\b=z
section
variable {Φ:Goroutine->af->Prop}{x:X}{F:af}{k:Nat}
theorem L6 (aN:x.Mu≠x.Wg/\x.Mu≠x.Is/\x.Wg≠x.Is)(l:x.n<67108864):
  cW Tryz.prog (ZJ TT Φ) 126 #[.pointer (some (stA x.Wg)),.int .i64 1] F (.co x k (.opn 0) 0)
   (fun r F' d=>r= .tuple #[]/\F'=F/\d= .co x k (.opn 1) 0):=by
 have hM:=ZJ.eU TT Φ
 have hJ:True:=trivial
 refine cW.LY mJ Tryz.func126 rfl rfl Tryz.ntmps126 ax fun A f hd hs=>?_
 have m:=hs 0
 have k1:=hs 1
 clear hs
 have c1:decide ((1:Int)<0)=false:=aB
 have c2:decide ((1:Int)>0)=true:=aB
 repeat apply aL (hM _)
 refine dB (hM _) aA ?_
 repeat apply aL (hM _)
 refine bD hM fun K hK=>?_
 refine ak.pure (hM _) 2 (n:=0) _ rfl rfl ?_;simp only[*,go_sem,-hK,-hM]
 refine ak.nil hM (hK _ _ _ ?_);clear hK K
 repeat apply aL (hM _)
 refine cU (hM _) aA ?_
 apply cX (hM _)
 repeat apply aL (hM _)
 refine bD hM fun K hK=>?_
 refine EI sG ⟨_,_,_,rfl,cD,rfl,ei,rfl⟩ (fun e=>by cases e) (.opn 0) (fun _ _ _ h=>h) ?_
 refine ak.nil hM (hK _ _ _ ?_);clear hK K
 repeat apply aL (hM _)
 refine bD hM fun K hK=>?_
 refine ak.defer (hM _) rfl cD rfl rfl (by simp;rfl) fun b e1 e2 g=>?_
 have l0:slot b 0= .pointer (some ⟨x.Wg,0,none⟩):=(e1 0).trans aA
 have i:slot b 1= .int .i64 1:=(e1 1).trans aA
 replace f:sz b=117:=e2.trans aA
 replace hd:b.defers=[dcall 153 #[]]:=g.trans aA
 clear e1 e2 g m k1
 refine ak.nil hM (hK _ _ _ ?_);clear hK K
 repeat apply aL (hM _)
 refine bD hM fun K hK=>?_
 refine ak.pure (hM _) 1 (n:=0) _ rfl rfl ?_;simp only[*,go_sem,-hK,-hM]
 refine ak.nil hM (hK _ _ _ ?_);clear hK K
 repeat apply aL (hM _)
 refine bD hM fun K hK=>?_
 refine ak.entry (.bool false) (hM _) Ep ⟨_,_,_,rfl,cD,rfl,ei,rfl⟩ ?_
 refine ak.nil hM (hK _ _ _ ?_);clear hK K
 repeat apply aL (hM _)
 refine cU (hM _) aA ?_
 apply cX (hM _)
 have w1:IntKind.u64.wrap 1=1:=aB
 have w2:IntKind.u64.wrap (1*2 ^ min 32 64)=4294967296:=aB
 repeat apply aL (hM _)
 refine bD hM fun K hK=>?_
 refine ak.pure (hM _) 6 (n:=2) _ rfl rfl ?_;simp only[*,go_sem,-hK,-hM]
 refine ak.gK (hM _) rfl cD rfl Bq ep (L1 aN l) fun r F' aU o=>?_
 obtain ⟨rfl,v,p,rfl,rfl⟩:=o
 obtain ⟨y,a⟩:∃y:Int,y=((v+1:Nat):Int)*4294967296+((0:Nat):Int):=⟨_,rfl⟩
 rw[<-a]
 have a1:iR y 2147483648=0:=by show lM y 2147483648=0;rw[a];exact zT (v+1) 0 aa aa
 have a2:iR y 2147483647=0:=by show lM y 2147483647=0;rw[a];exact zU (v+1) 0 aa aa
 obtain ⟨V,j⟩:∃V:Int,V=((v+1:Nat):Int):=⟨_,rfl⟩
 have a3:y.fdiv (2 ^ min 32 64)=V:=by rw[a,j];exact zV (v+1) 0 aa
 have a4:IntKind.i32.wrap V=V:=ji aa aa
 have a5:IntKind.u32.wrap 0=0:=aB
 have t:IntKind.i32.wrap 1=1:=aB
 have c3:decide (V<0)=false:=by simp;omega
 have c4:decide (V>0)=true:=by simp;omega
 have c:(V==1)=true\/(V==1)=false:=by cases (V==1)<;>simp
 clear a j p
 refine ak.pure (hM _) 1 (n:=0) _ rfl rfl ?_;simp only[*,go_sem,-hK,-hM]
 refine ak.nil hM (hK _ _ _ ?_);clear hK K
 repeat apply aL (hM _)
 refine bD hM fun K hK=>?_
 refine ak.pure (hM _) 7 (n:=0) _ rfl rfl ?_;simp only[*,go_sem,-hK,-hM]
 refine ak.nil hM (hK _ _ _ ?_);clear hK K
 repeat apply aL (hM _)
 refine cU (hM _) aA ?_
 apply cX (hM _)
 repeat apply aL (hM _)
 refine bD hM fun K hK=>?_
 refine ak.pure (hM _) 4 (n:=0) _ rfl rfl ?_;simp only[*,go_sem,-hK,-hM]
 refine ak.nil hM (hK _ _ _ ?_);clear hK K
 repeat apply aL (hM _)
 refine bD hM fun K hK=>?_
 refine ak.pure (hM _) 4 (n:=0) _ rfl rfl ?_;simp only[*,go_sem,-hK,-hM]
 refine ak.nil hM (hK _ _ _ ?_);clear hK K
 repeat apply aL (hM _)
 refine bD hM fun K hK=>?_
 refine ak.pure (hM _) 10 (n:=0) _ rfl rfl ?_;simp only[*,go_sem,-hK,-hM]
 refine ak.nil hM (hK _ _ _ ?_);clear hK K
 repeat apply aL (hM _)
 refine vC hM (L5 x.Wg F' (.co x k (.opn 1) 1) V) ?_ ?_
 .rcases c with c|c
  .repeat apply aL (hM _)
   refine dB (hM _) aA ?_
   repeat apply aL (hM _)
   refine bD hM fun K hK=>?_
   refine ak.pure (hM _) 3 (n:=2) _ rfl rfl ?_;simp only[*,go_sem,-hK,-hM]
   refine vG ⟨x.Wg,1,none⟩ Er mK Es ⟨_,rfl,cD,rfl,rfl⟩ (fun e=>by cases e) ep EM ?_
   refine LN K2 ⟨_,_,_,rfl,cD,rfl,ei,rfl⟩ (fun e=>by cases e) ?_
   refine ak.nil hM (hK _ _ _ ?_);clear hK K
   exact e4 ⟨rfl,aA,aA,aA,aA,aA,rfl⟩
  .repeat apply aL (hM _)
   refine cU (hM _) aA ?_
   apply cX (hM _)
   exact e4 ⟨rfl,aA,aA,aA,aA,aA,rfl⟩
 clear c l0 i f hd a1 a2 a3
 rintro A q u ⟨rfl,i,w,z,f,hd,rfl⟩
 repeat apply aL (hM _)
 refine bD hM fun K hK=>?_
 refine ak.pure (hM _) 2 (n:=0) _ rfl rfl ?_;simp only[*,go_sem,-hK,-hM]
 refine ak.nil hM (hK _ _ _ ?_);clear hK K
 repeat apply aL (hM _)
 refine cU (hM _) aA ?_
 apply cX (hM _)
 repeat apply aL (hM _)
 refine bD hM fun K hK=>?_
 refine ak.pure (hM _) 12 (n:=0) _ rfl rfl ?_;simp only[*,go_sem,-hK,-hM]
 refine ak.nil hM (hK _ _ _ ?_);clear hK K
 repeat apply aL (hM _)
 refine cU (hM _) aA ?_
 apply cX (hM _)
 repeat apply aL (hM _)
 refine bD hM fun K hK=>?_
 refine ak.pure (hM _) 6 (n:=0) _ rfl rfl ?_;simp only[*,go_sem,-hK,-hM]
 refine ak.nil hM (hK _ _ _ ?_);clear hK K
 repeat apply aL (hM _)
 refine dB (hM _) aA ?_
 exact gb (show zX 153 (fun r s d=>r= .tuple #[]/\s=q/\d= .co x k (.opn 1) 0) .ret _ _ _ from L0 aA (fun e=>by cases e) ⟨rfl,rfl,rfl⟩)
end
attribute [local go_sem] Int.reduceBEq Int.reduceBNe muA msA stA smA
def EN (x:X)(F:af)(m:Nat)(a:Act)(F':af)(z:Z):Prop:=
 ∃u:Nat,u<=m/\u<=x.n/\F'=F/\slot a 0= .pointer (some ⟨x.Wg,0,none⟩)/\sz a=84/\a.defers=[]/\z= .co x x.n (.look u) 1
section
variable {Φ:Goroutine->af->Prop}{x:X}{F:af}{k:Nat}
theorem L7 (aN:x.Mu≠x.Wg/\x.Mu≠x.Is/\x.Wg≠x.Is)(t:x.n<67108864):
  cW Tryz.prog (ZJ TT Φ) 133 #[.pointer (some (stA x.Wg))] F (.co x x.n (.opn 0) 0)
   (fun r F' b=>r= .tuple #[]/\F'=⟨F.ro,(x.Is,(x.cy TT).fin)::F.own⟩/\b= .free):=by
 have hM:=ZJ.eU TT Φ
 have hJ:True:=trivial
 refine cW.go (main:=true) hM Tryz.func133 rfl Tryz.ntmps133 ax fun A k hd hs=>?_
 have l:=hs 0
 clear hs
 repeat apply aL (hM _)
 refine dB (hM _) aA ?_
 repeat apply aL (hM _)
 refine bD hM fun K hK=>?_
 refine EI sG ⟨_,_,_,rfl,cD,rfl,ei,rfl⟩ (fun e=>by cases e) (.look x.n) (fun _ _ _ h=>Ky h) ?_
 refine ak.nil hM (hK _ _ _ ?_);clear hK K
 repeat apply aL (hM _)
 refine kI hM ?_
 refine sF hM (EN x F) x.n ?_ ?_
 .exact ⟨x.n,Nat.le_refl _,Nat.le_refl _,rfl,aA,aA,aA,rfl⟩
 .clear k hd l
  rintro m A F' b ⟨u,w,z,rfl,l,k,hd,rfl⟩
  repeat apply aL (hM _)
  refine kI hM ?_
  repeat apply aL (hM _)
  refine bD hM fun K hK=>?_
  refine ak.pure (hM _) 3 (n:=2) _ rfl rfl ?_;simp only[*,go_sem,-hK,-hM]
  refine ak.gK (hM _) rfl cD rfl w5 ep L2 fun r i B c=>?_
  obtain ⟨rfl,v,q,rfl,rfl⟩:=c
  obtain ⟨y,a⟩:∃y:Int,y=(v:Int)*4294967296+((0:Nat):Int):=⟨_,rfl⟩
  rw[<-a]
  have a1:iR y 2147483648=0:=by show lM y 2147483648=0;rw[a];exact zT v 0 aa aa
  have a2:iR y 2147483647=0:=by show lM y 2147483647=0;rw[a];exact zU v 0 aa aa
  obtain ⟨V,f⟩:∃V:Int,V=(v:Int):=⟨_,rfl⟩
  have a3:y.fdiv (2 ^ min 32 64)=V:=by rw[a,f];exact zV v 0 aa
  have a4:IntKind.i32.wrap V=V:=ji aa aa
  have a5:IntKind.u32.wrap 0=0:=aB
  have C:IntKind.u64.wrap (y+1)=y+1:=by
   unfold IntKind.wrap
   simp only[IntKind.bits,IntKind.signed]
   simp
   omega
  by_cases g:v=0
  ·
   have c1:(V==0)=true:=by rw[f,g];rfl
   have d:(if v=0 then P0.fB else .look v)= .fB:=if_pos g
   rw[d]
   clear d a f q g
   refine ak.pure (hM _) 1 (n:=0) _ rfl rfl ?_;simp only[*,go_sem,-hK,-hM]
   refine ak.nil hM (hK _ _ _ ?_);clear hK K
   repeat apply aL (hM _)
   refine bD hM fun K hK=>?_
   refine ak.pure (hM _) 4 (n:=0) _ rfl rfl ?_;simp only[*,go_sem,-hK,-hM]
   refine ak.nil hM (hK _ _ _ ?_);clear hK K
   repeat apply aL (hM _)
   refine bD hM fun K hK=>?_
   refine ak.pure (hM _) 4 (n:=0) _ rfl rfl ?_;simp only[*,go_sem,-hK,-hM]
   refine ak.nil hM (hK _ _ _ ?_);clear hK K
   repeat apply aL (hM _)
   refine bD hM fun K hK=>?_
   refine ak.pure (hM _) 2 (n:=0) _ rfl rfl ?_;simp only[*,go_sem,-hK,-hM]
   refine ak.nil hM (hK _ _ _ ?_);clear hK K
   repeat apply aL (hM _)
   refine dB (hM _) aA ?_
   repeat apply aL (hM _)
   refine dB (hM _) aA ?_
   repeat apply aL (hM _)
   refine bD hM fun K hK=>?_
   refine EJ mJ ⟨_,_,_,rfl,cD,rfl,ei,rfl⟩ (fun e=>by cases e) ?_
   refine ak.nil hM (hK _ _ _ ?_);clear hK K
   repeat apply aL (hM _)
   refine bD hM fun K hK=>?_
   refine ak.pure (hM _) 1 (n:=2) _ rfl rfl ?_;simp only[*,go_sem,-hK,-hM]
   refine vG ⟨x.Wg,0,none⟩ zG mK zI ⟨_,rfl,cD,rfl,rfl⟩ (fun e=>by cases e) ep EL ?_
   refine EK vr rfl ⟨_,_,_,rfl,cD,rfl,ei,rfl⟩ ?_
   refine ak.nil hM (hK _ _ _ ?_);clear hK K
   repeat apply aL (hM _)
   refine bD hM fun K hK=>?_
   refine ak.pure (hM _) 11 (n:=0) _ rfl rfl ?_;simp only[*,go_sem,-hK,-hM]
   refine ak.nil hM (hK _ _ _ ?_);clear hK K
   repeat apply aL (hM _)
   refine cU (hM _) aA ?_
   apply cX (hM _)
   exact gb (show kJ Tryz.prog Tryz.f133 (fun (r:Value) (F':af) (b:Z)=>r= .tuple #[]/\F'=⟨i.ro,(x.Is,(x.cy TT).fin)::i.own⟩/\b=Z.free) .ret _ _ _ from qj rfl aA ⟨rfl,rfl,rfl⟩)
  .have c1:(V==0)=false:=by simp;omega
   have d:(if v=0 then P0.fB else .look v)= .look v:=if_neg g
   rw[d]
   have j:=L4 (Φ:=Φ) (F:=i) aN (v:=v) aa
   rw[<-a] at j
   clear d a f
   refine ak.pure (hM _) 1 (n:=0) _ rfl rfl ?_;simp only[*,go_sem,-hK,-hM]
   refine ak.nil hM (hK _ _ _ ?_);clear hK K
   repeat apply aL (hM _)
   refine bD hM fun K hK=>?_
   refine ak.pure (hM _) 4 (n:=0) _ rfl rfl ?_;simp only[*,go_sem,-hK,-hM]
   refine ak.nil hM (hK _ _ _ ?_);clear hK K
   repeat apply aL (hM _)
   refine bD hM fun K hK=>?_
   refine ak.pure (hM _) 4 (n:=0) _ rfl rfl ?_;simp only[*,go_sem,-hK,-hM]
   refine ak.nil hM (hK _ _ _ ?_);clear hK K
   repeat apply aL (hM _)
   refine bD hM fun K hK=>?_
   refine ak.pure (hM _) 2 (n:=0) _ rfl rfl ?_;simp only[*,go_sem,-hK,-hM]
   refine ak.nil hM (hK _ _ _ ?_);clear hK K
   repeat apply aL (hM _)
   refine cU (hM _) aA ?_
   apply cX (hM _)
   repeat apply aL (hM _)
   refine bD hM fun K hK=>?_
   refine ak.pure (hM _) 6 (n:=1) _ rfl rfl ?_;simp only[*,go_sem,-hK,-hM]
   refine ak.gK (hM _) rfl cD rfl GD ep j fun r s D c=>?_
   clear j
   obtain ⟨rfl,⟨rfl,rfl⟩|⟨rfl,rfl⟩⟩:=c
   ·
    refine ak.nil hM (hK _ _ _ ?_);clear hK K
    repeat apply aL (hM _)
    refine dB (hM _) aA ?_
    repeat apply aL (hM _)
    refine bD hM fun K hK=>?_
    refine ak.pure (hM _) 4 (n:=0) _ rfl rfl ?_;simp only[*,go_sem,-hK,-hM]
    refine ak.nil hM (hK _ _ _ ?_);clear hK K
    repeat apply aL (hM _)
    refine dB (hM _) aA ?_
    repeat apply aL (hM _)
    refine bD hM fun K hK=>?_
    refine ak.pure (hM _) 3 (n:=2) _ rfl rfl ?_;simp only[*,go_sem,-hK,-hM]
    refine vG ⟨x.Wg,1,none⟩ Er mK Es ⟨_,rfl,cD,rfl,rfl⟩ (fun _=>rfl) ep EM ?_
    refine LO K3 ⟨_,_,_,rfl,cD,rfl,ei,rfl⟩ (fun _=>rfl) ?_
    refine ak.nil hM (hK _ _ _ ?_);clear hK K
    repeat apply aL (hM _)
    refine bD hM fun K hK=>?_
    refine ak.pure (hM _) 1 (n:=0) _ rfl rfl ?_;simp only[*,go_sem,-hK,-hM]
    refine ak.nil hM (hK _ _ _ ?_);clear hK K
    repeat apply aL (hM _)
    refine bD hM fun K hK=>?_
    refine ak.pure (hM _) 6 (n:=0) _ rfl rfl ?_;simp only[*,go_sem,-hK,-hM]
    refine ak.nil hM (hK _ _ _ ?_);clear hK K
    repeat apply aL (hM _)
    refine cU (hM _) aA ?_
    apply cX (hM _)
    repeat apply aL (hM _)
    refine bD hM fun K hK=>?_
    refine ak.pure (hM _) 4 (n:=1) _ rfl rfl ?_;simp only[*,go_sem,-hK,-hM]
    refine LU (.bool false) K4 aN rfl ⟨_,_,_,rfl,cD,rfl,ei,rfl⟩ ?_
    refine ak.nil hM (hK _ _ _ ?_);clear hK K
    repeat apply aL (hM _)
    refine bD hM fun K hK=>?_
    refine ak.pure (hM _) 3 (n:=3) _ rfl rfl ?_;simp only[*,go_sem,-hK,-hM]
    refine ak.gK (hM _) rfl cD rfl w5 ep L3 fun r o E c=>?_
    obtain ⟨rfl,rfl,rfl⟩:=c
    refine ak.pure (hM _) 2 (n:=0) _ rfl rfl ?_;simp only[*,go_sem,-hK,-hM]
    refine ak.nil hM (hK _ _ _ ?_);clear hK K
    repeat apply aL (hM _)
    refine dB (hM _) aA ?_
    repeat apply aL (hM _)
    refine bD hM fun K hK=>?_
    refine EJ mJ ⟨_,_,_,rfl,cD,rfl,ei,rfl⟩ (fun e=>by cases e) ?_
    refine ak.nil hM (hK _ _ _ ?_);clear hK K
    repeat apply aL (hM _)
    refine bD hM fun K hK=>?_
    refine ak.pure (hM _) 1 (n:=2) _ rfl rfl ?_;simp only[*,go_sem,-hK,-hM]
    refine vG ⟨x.Wg,0,none⟩ zG mK zI ⟨_,rfl,cD,rfl,rfl⟩ (fun e=>by cases e) ep EL ?_
    refine EK vr rfl ⟨_,_,_,rfl,cD,rfl,ei,rfl⟩ ?_
    refine ak.nil hM (hK _ _ _ ?_);clear hK K
    repeat apply aL (hM _)
    refine bD hM fun K hK=>?_
    refine ak.pure (hM _) 1 (n:=0) _ rfl rfl ?_;simp only[*,go_sem,-hK,-hM]
    refine ak.nil hM (hK _ _ _ ?_);clear hK K
    repeat apply aL (hM _)
    refine cU (hM _) aA ?_
    apply cX (hM _)
    exact gb (show kJ Tryz.prog Tryz.f133 (fun (r:Value) (F':af) (b:Z)=>r= .tuple #[]/\F'=⟨o.ro,(x.Is,(x.cy TT).fin)::o.own⟩/\b=Z.free) .ret _ _ _ from qj rfl aA ⟨rfl,rfl,rfl⟩)
   ·
    refine ak.nil hM (hK _ _ _ ?_);clear hK K
    repeat apply aL (hM _)
    refine cU (hM _) aA ?_
    apply cX (hM _)
    change ∃p,p<m/\EN x s p _ _ _
    exact ⟨v - 1,aa,v - 1,Nat.le_refl _,aa,rfl,aA,aA,aA,rfl⟩
end
end Go.Proofs.YtbpddfapodiemaaGreatDoor
end
section
namespace Go.Sep
open Go Go.Conc
variable {P:Program}
theorem L8 {t e:TypeId}{i:TypeInfo}{n:Nat}{R:Value->af->Prop}{F:af}(hu:P.underlying t=some (.slice e))(hi:P.info? e=some i)(hb:i.bytes=1)(hs:cq P e=some 1)(d:zeroOf P e=some (.bool false))(f:n<1048576)
  (h:∀b,eC F b->R (.slice (some ⟨b,0,none⟩) n n) (F.push b (.cells (List.replicate n (Value.bool false)).toArray e))):fh P (Instr.makeSlice t (.int .i64 n) (.int .i64 n)) R F:=by
 unfold fh
 have hw:IntKind.i64.wrap (n:Int)=(n:Int):=by
  unfold IntKind.wrap
  simp[IntKind.bits,IntKind.signed]
  omega
 have e1:¬((n:Int)<0\/(1:Int)*(n:Int)>2 ^ 48):=by
  have:((2:Int) ^ 48)=281474976710656:=aB
  omega
 simp only[Instr.makeSlice,bH,dS,hu,AO,qz,hi,hb,hw]
 have e2:(((n:Int)<0||decide (((1:Nat):Int)*(n:Int)>2 ^ 48))||decide ((n:Int)<0)||decide ((n:Int)>(n:Int)))=false:=by
  have:((2:Int) ^ 48)=281474976710656:=aB
  simp only[Bool.or_eq_false_iff,decide_eq_false_iff_not]
  omega
 rw[if_neg (by rw[e2];simp)]
 simp only[bH]
 refine wC _ ?_
 simp only[bH,e5,hs,Int.toNat_natCast,Nat.mul_one]
 have fin:∀zero:Array Value,(n≠0->zero=#[.bool false])->bq P (newRow e ((Array.range n).map (fun j=>zero[j % zero.size]!))) (fun a G=>bq P (Pure.pure (Value.slice (some a) n n)) R G) F:=fun zero hzero=>by
  simp only[newRow,bH,qy,bT]
  have hc:((Array.range n).map (fun j=>zero[j % zero.size]!))=(List.replicate n (Value.bool false)).toArray:=by
   rcases Nat.eq_zero_or_pos n with rfl|g
   .simp
   .rw[hzero aa]
    rw[<-Array.toList_inj]
    simp only[Array.toList_map,Array.toList_range]
    apply List.ext_getElem
    .simp
    .intro i k l
     simp[Nat.mod_one]
  rw[hc]
  exact ⟨rfl,h⟩
 by_cases c:n=0
 .rw[if_pos c]
  exact fin #[] (fun x=>absurd c x)
 .rw[if_neg c]
  rw[bH,mR,d]
  exact fin #[.bool false] (fun _=>rfl)
section
variable {T:PT}{Φ:Goroutine->af->Prop}{fi:FuncId}
def zY:Z->Bool| .co _ _ .reg _=>false|_=>true
theorem ZJ.L9 (T:PT)(Φ:Goroutine->af->Prop)(z:Z)(h:zY z=true):Closed T.P true (ZJ T Φ z):=ZJ.closed T Φ fun x k d e=>by subst e;simp[zY] at h
theorem EO {P:Program}{main:Bool}{S:Type}{JF:S->Goroutine->af->Prop}{ph:S}(hJ:Closed P main (JF ph)){c:Code}{Q:Ex->Act->af->S->Prop}{a:Act}{F F':af}(hle:Le F F')(h:c6 JF fi c Q a F ph):c6 JF fi c Q a F' ph:=
 fun b k cs hb d=>hJ.mono hle (h b k cs hb d)
theorem zZ {P:Program}{main:Bool}{S:Type}{JF:S->Goroutine->af->Prop}{ph:S}(hJ:Closed P main (JF ph)){c:Code}{Q:Ex->Act->af->S->Prop}{a:Act}{F:af}(h:bh (keys F.own)->aJ F.ro F.own->c6 JF fi c Q a F ph):c6 JF fi c Q a F ph:=by
 intro b k cs hb d;by_cases hw:∃w,Has F w
 .obtain ⟨w,hw⟩:=hw;refine h ⟨hw.nodup⟩ (fun b hb off sp=>?_) b k cs hb d;cases e:F.ro ⟨b,off,sp⟩ with
  |none=>rfl
  |some v=>exact absurd hb (hw.apart _ v e)
 .exact hJ.step fun w f=>absurd ⟨w,f⟩ hw
end
theorem ow {ro:Addr->Option Value}{b a off:Nat}{sp:Option Nat}{o:Obj}(h:ro ⟨a,off,sp⟩=none)(aN:a≠b):b7 ro b o ⟨a,off,sp⟩=none:=by simp[b7,h,aN]
theorem Ma {ro:Addr->Option Value}{b3 b4 b a I M W:Nat}{i o4 g c d e f:Obj}(p:bh (keys [(W,f),(M,e),(a,c),(I,d),(b,g),(b4,o4),(b3,i)]))(l:aJ ro [(W,f),(M,e),(a,c),(I,d),(b,g),(b4,o4),(b3,i)]):
  ∃j,Ext ro j/\Le ⟨j,[(M,e),(W,f),(I,d)]⟩ ⟨ro,[(W,f),(M,e),(a,c),(I,d),(b,g),(b4,o4),(b3,i)]⟩/\
   (∀off v,cellOf i off=some v->j ⟨b3,off,none⟩=some v)/\(∀off v,cellOf o4 off=some v->j ⟨b4,off,none⟩=some v)/\(∀off v,cellOf g off=some v->j ⟨b,off,none⟩=some v)/\(∀off v,cellOf c off=some v->j ⟨a,off,none⟩=some v):=by
 have hd:=p.1
 simp only[keys,List.map_cons,List.map_nil,List.nodup_cons,List.mem_cons,List.not_mem_nil,not_or] at hd
 obtain ⟨⟨-,a1,-,a2,a3,a4,-⟩,⟨G,-,H,J,K,-⟩,⟨c1,c2,c3,c4,-⟩,⟨i1,i2,i3,-⟩,⟨e1,e2,-⟩,⟨r,-⟩,-⟩:=hd
 have r3:∀off sp,ro ⟨b3,off,sp⟩=none:=l b3 (by simp[keys])
 have s:∀off sp,ro ⟨b4,off,sp⟩=none:=l b4 (by simp[keys])
 have t:∀off sp,ro ⟨b,off,sp⟩=none:=l b (by simp[keys])
 have u:∀off sp,ro ⟨a,off,sp⟩=none:=l a (by simp[keys])
 clear l p
 have w:b4≠b3:=r
 have x:b≠b3:=e2
 have y:b≠b4:=e1
 have z:a≠b3:=c4
 have A:a≠b4:=c3
 have B:a≠b:=c2
 let s1:=b7 ro b3 i
 let s2:=b7 s1 b4 o4
 let k:=b7 s2 b g
 let n:=b7 k a c
 have C:Ext ro s1:=gP _ _ _
 have q:Ext s1 s2:=gP _ _ _
 have o:Ext s2 k:=gP _ _ _
 have m:Ext k n:=gP _ _ _
 have t4:∀off sp,s1 ⟨b4,off,sp⟩=none:=fun off sp=>ow (s off sp) w
 have t7:∀off sp,s2 ⟨b,off,sp⟩=none:=fun off sp=>ow (ow (t off sp) x) y
 have t8:∀off sp,k ⟨a,off,sp⟩=none:=fun off sp=>ow (ow (ow (u off sp) z) A) B
 have k1:Le ⟨s1,[(W,f),(M,e),(a,c),(I,d),(b,g),(b4,o4)]⟩ ⟨ro,[(W,f),(M,e),(a,c),(I,d),(b,g),(b4,o4),(b3,i)]⟩:=
  kQ (by simp[lk, *]) ax (by simp[av,Ne.symm, *])
 have D:Le ⟨s2,[(W,f),(M,e),(a,c),(I,d),(b,g)]⟩ ⟨s1,[(W,f),(M,e),(a,c),(I,d),(b,g),(b4,o4)]⟩:=
  kQ (by simp[lk, *]) ax (by simp[av,Ne.symm, *])
 have E:Le ⟨k,[(W,f),(M,e),(a,c),(I,d)]⟩ ⟨s2,[(W,f),(M,e),(a,c),(I,d),(b,g)]⟩:=
  kQ (by simp[lk, *]) ax (by simp[av,Ne.symm, *])
 have F:Le ⟨n,[(W,f),(M,e),(I,d)]⟩ ⟨k,[(W,f),(M,e),(a,c),(I,d)]⟩:=
  kQ (by simp[lk, *]) ax (by simp[av,Ne.symm, *])
 refine ⟨n,((C.trans q).trans o).trans m,Bs.trans (((F.trans E).trans D).trans k1),fun off v h=>?_,fun off v h=>?_,fun off v h=>?_,fun off v h=>?_⟩
 .exact m _ _ (o _ _ (q _ _ ((fF r3).trans h)))
 .exact m _ _ (o _ _ ((fF t4).trans h))
 .exact m _ _ ((fF t7).trans h)
 .exact (fF t8).trans h
theorem Mb {ro:Addr->Option Value}{a b2:Nat}{o1 o2:Obj}(d:bh (keys [(b2,o2),(a,o1)]))(c:aJ ro [(b2,o2),(a,o1)]):
  ∃b,Ext ro b/\Le ⟨b,[]⟩ ⟨ro,[(b2,o2),(a,o1)]⟩/\(∀off v,cellOf o1 off=some v->b ⟨a,off,none⟩=some v)/\(∀off v,cellOf o2 off=some v->b ⟨b2,off,none⟩=some v):=by
 have hd:=d.1
 simp only[keys,List.map_cons,List.map_nil,List.nodup_cons,List.mem_cons,List.not_mem_nil,not_or] at hd
 have r1:∀off sp,ro ⟨a,off,sp⟩=none:=c a (by simp[keys])
 have r2:∀off sp,ro ⟨b2,off,sp⟩=none:=c b2 (by simp[keys])
 have e:b2≠a:=by obtain ⟨⟨z,-⟩,-⟩:=hd;exact z
 have t2:∀off sp,b7 ro a o1 ⟨b2,off,sp⟩=none:=fun off sp=>ow (r2 off sp) e
 have k1:Le ⟨b7 ro a o1,[(b2,o2)]⟩ ⟨ro,[(b2,o2),(a,o1)]⟩:=kQ (by simp[lk, *]) ax (by simp[av,Ne.symm, *])
 have f:Le ⟨b7 (b7 ro a o1) b2 o2,[]⟩ ⟨b7 ro a o1,[(b2,o2)]⟩:=kQ (by simp only[lk];simp) ax trivial
 exact ⟨_,(gP _ _ _).trans (gP _ _ _),f.trans k1,fun off v h=>gP _ _ _ _ _ ((fF r1).trans h),fun off v h=>(fF t2).trans h⟩
theorem Mc {T:PT}{Φ:Goroutine->af->Prop}{x:X}{k:Nat}{ops:Array Oper}{j n:Nat}{Q:Act->af->Z->Prop}{a:Act}{F:af}{fi:FuncId}(b:k<x.n){y:Operand}{f0:FuncId}{dQ:Array TypeId}{caps:Array Value}(c:ot ops j a (.go {callee:=.value y,args:=#[],argTypes:=dQ}) none)(d:ev a y= .func (.func f0) #[] caps)
  (hW:Wk (x.cy T) k ⟨.idle,.cnt,false,0⟩ (born T.P {target:=.fn (.func f0) caps,args:=#[]}) ⟨F.ro,[]⟩) (h:ak (ZJ T Φ) fi ops (j+1) n Q (bB a none undef) F (.co x (k+1) (.opn 0) 0)):ak (ZJ T Φ) fi ops j (n+1) Q a F (.co x k (.opn 1) 0):=by
 obtain ⟨o,e,hg,f,hd⟩:=c
 have e1:execOp a.eval o=(pure (.spawn {target:=.fn (.func f0) caps,args:=#[]}):Sem Next):=by
  unfold execOp
  have e0:(#[]:Array Value)++Array.map (ev a) #[]=#[]:=ax
  simp only[f,resolve,e6,d,Deferred.ofValue,e0]
  rfl
 refine LV (fv:=y) b e hg (fun w=>?_) rfl hW (by rw[hd];exact h)
 rw[e1]
 exact ⟨rfl,rfl⟩
end Go.Sep
end
section
namespace Go.Proofs.YtbpddfapodiemaaGreatDoor
open Go Go.Sep Go.Proofs Go.Conc
open Go.ConcN (upd upd_same)
open Go.ConcM (muA msA)
open Go.ConcR (stA smA)
set_option maxRecDepth 100000
set_option maxHeartbeats 4000000
attribute [local go_sem] Int.reduceBEq Int.reduceBNe muA msA stA smA
def Md (Wg:Nat)(st:Bool)(F:af)(m:Nat)(a:Act)(F':af)(ph:Ph):Prop:=
 ∃t8:Int,F'=F/\slot a 0= .pointer (some ⟨Wg,0,none⟩)/\slot a 8= .int .u32 t8/\sz a=117/\a.defers=[dcall 153 #[]]/\((m=1/\t8=1/\ph=⟨.fin,.sm,st,1⟩)\/(m=0/\t8=0/\ph=⟨.fin,.gone,st,1⟩))
theorem Me {f:FuncId}{R:Value->af->Ph->Prop}{a:Act}{F:af}{ph:Ph}{b:Nat}(hd:a.defers=[dcall f #[]])(hg:ph.gp= .gone)(h:ph.deaf=b+1)(c:R (.tuple #[]) F {ph with deaf:=b}):lK f R .normal a F ph:=⟨hd,hg,b,h,c⟩
theorem vH {f:FuncId}{R:Value->af->Ph->Prop}{a:Act}{F:af}{ph:Ph}{b:Nat}(hd:a.defers=[dcall f #[]])(hg:ph.gp= .gone)(h:ph.deaf=b+1)(c:R (.tuple #[]) F {ph with deaf:=b}):lK f R .ret a F ph:=⟨hd,hg,b,h,c⟩
section
variable {Mu Wg Is n base T0 i:Nat}{bs:Nat->Bool}{st:Bool}{F:af}
theorem Mf (aN:Mu≠Wg/\Mu≠Is/\Wg≠Is)(p:n<67108864){mp:Mp}(q:mp= .idle\/mp= .fin)(s:st=bs i):
  cW Tryz.prog (WJ (CY Mu Wg Is n bs base T0) i) 126 #[.pointer (some (stA Wg)),.int .i64 (-1)] F ⟨mp,.cnt,st,0⟩
   (fun r F' aU=>r= .tuple #[]/\F'=F/\aU=⟨.fin,.gone,st,0⟩):=by
 have hM:=WJ.eU (CY Mu Wg Is n bs base T0) i
 refine cW.LC mJ Tryz.func126 rfl rfl Tryz.ntmps126 ax fun A f hd hs=>?_
 have hJ:True:=trivial
 have u:=hs 0
 have k1:=hs 1
 clear hs
 subst s
 have c1:decide ((-1:Int)<0)=true:=aB
 have c2:decide ((-1:Int)>0)=false:=aB
 repeat apply aL (hM _)
 refine dB (hM _) aA ?_
 repeat apply aL (hM _)
 refine bD hM fun K hK=>?_
 refine ak.pure (hM _) 2 (n:=0) _ rfl rfl ?_;simp only[*,go_sem,-hK,-hM]
 refine ak.nil hM (hK _ _ _ ?_);clear hK K
 repeat apply aL (hM _)
 refine dB (hM _) aA ?_
 repeat apply aL (hM _)
 refine bD hM fun K hK=>?_
 refine ak.pure (hM _) 1 (n:=2) _ rfl rfl ?_;simp only[*,go_sem,-hK,-hM]
 refine vA ⟨Wg,0,none⟩ zG mK zI ⟨_,rfl,cD,rfl,rfl⟩ ax ep LF ?_
 refine Ld El ⟨_,_,_,rfl,cD,rfl,ei,rfl⟩ rfl rfl q rfl ?_
 refine ak.nil hM (hK _ _ _ ?_);clear hK K
 repeat apply aL (hM _)
 refine bD hM fun K hK=>?_
 refine zO sG ⟨_,_,_,rfl,cD,rfl,ei,rfl⟩ ax ax ?_
 refine ak.nil hM (hK _ _ _ ?_);clear hK K
 repeat apply aL (hM _)
 refine bD hM fun K hK=>?_
 refine ak.defer (hM _) rfl cD rfl rfl (by simp;rfl) fun d e1 e2 j=>?_
 have l0:slot d 0= .pointer (some ⟨Wg,0,none⟩):=(e1 0).trans aA
 have w:slot d 1= .int .i64 (-1):=(e1 1).trans aA
 replace f:sz d=117:=e2.trans aA
 replace hd:d.defers=[dcall 153 #[]]:=j.trans aA
 clear e1 e2 j u k1
 refine ak.nil hM (hK _ _ _ ?_);clear hK K
 repeat apply aL (hM _)
 refine bD hM fun K hK=>?_
 refine ak.pure (hM _) 1 (n:=0) _ rfl rfl ?_;simp only[*,go_sem,-hK,-hM]
 refine ak.nil hM (hK _ _ _ ?_);clear hK K
 repeat apply aL (hM _)
 refine bD hM fun K hK=>?_
 refine ak.entry (.bool false) (hM _) Ep ⟨_,_,_,rfl,cD,rfl,ei,rfl⟩ ?_
 refine ak.nil hM (hK _ _ _ ?_);clear hK K
 repeat apply aL (hM _)
 refine cU (hM _) aA ?_
 apply cX (hM _)
 have w1:IntKind.u64.wrap (-1)=18446744073709551615:=aB
 have w2:IntKind.u64.wrap (18446744073709551615*2 ^ min 32 64)=18446744069414584320:=aB
 repeat apply aL (hM _)
 refine bD hM fun K hK=>?_
 refine ak.pure (hM _) 6 (n:=2) _ rfl rfl ?_;simp only[*,go_sem,-hK,-hM]
 refine ak.gK (hM _) rfl cD rfl Bq ep (LG aN p) fun r F' aU c=>?_
 obtain ⟨rfl,v,t,k,ht,rfl,rfl⟩:=c
 obtain ⟨x,b⟩:∃x:Int,x=(v:Int)*4294967296+(t:Int):=⟨_,rfl⟩
 rw[<-b]
 have a1:iR x 2147483648=0:=by show lM x 2147483648=0;rw[b];exact zT v t aa ht
 have a2:iR x 2147483647=(t:Int):=by show lM x 2147483647=(t:Int);rw[b];exact zU v t aa ht
 have a3:x.fdiv (2 ^ min 32 64)=(v:Int):=by rw[b];exact zV v t ht
 have a4:IntKind.i32.wrap (v:Int)=(v:Int):=ji aa aa
 have a5:IntKind.u32.wrap (t:Int)=(t:Int):=by
  unfold IntKind.wrap
  simp[IntKind.bits,IntKind.signed]
  omega
 have g:v=0->t=1->((1:Int) != x)=false:=fun e y=>by rw[b,e,y];rfl
 clear b
 refine ak.pure (hM _) 1 (n:=0) _ rfl rfl ?_;simp only[*,go_sem,-hK,-hM]
 refine ak.nil hM (hK _ _ _ ?_);clear hK K
 repeat apply aL (hM _)
 refine bD hM fun K hK=>?_
 refine ak.pure (hM _) 7 (n:=0) _ rfl rfl ?_;simp only[*,go_sem,-hK,-hM]
 refine ak.nil hM (hK _ _ _ ?_);clear hK K
 repeat apply aL (hM _)
 refine cU (hM _) aA ?_
 apply cX (hM _)
 repeat apply aL (hM _)
 refine bD hM fun K hK=>?_
 refine ak.pure (hM _) 4 (n:=0) _ rfl rfl ?_;simp only[*,go_sem,-hK,-hM]
 refine ak.nil hM (hK _ _ _ ?_);clear hK K
 repeat apply aL (hM _)
 refine bD hM fun K hK=>?_
 refine ak.pure (hM _) 4 (n:=0) _ rfl rfl ?_;simp only[*,go_sem,-hK,-hM]
 refine ak.nil hM (hK _ _ _ ?_);clear hK K
 repeat apply aL (hM _)
 refine bD hM fun K hK=>?_
 refine ak.pure (hM _) 10 (n:=0) _ rfl rfl ?_;simp only[*,go_sem,-hK,-hM]
 refine ak.nil hM (hK _ _ _ ?_);clear hK K
 repeat apply aL (hM _)
 refine cU (hM _) aA ?_
 apply cX (hM _)
 have c3:decide ((v:Int)<0)=false:=ax
 repeat apply aL (hM _)
 refine bD hM fun K hK=>?_
 refine ak.pure (hM _) 2 (n:=0) _ rfl rfl ?_;simp only[*,go_sem,-hK,-hM]
 refine ak.nil hM (hK _ _ _ ?_);clear hK K
 repeat apply aL (hM _)
 refine cU (hM _) aA ?_
 apply cX (hM _)
 have l:t=0\/t=1:=aa
 by_cases hC:v=0/\t=1
 ·
  obtain ⟨rfl,rfl⟩:=hC
  have z:((1:Int) != x)=false:=g rfl rfl
  have hg:(if (0:Nat)=0/\(1:Nat)=1 then Gp.ld else Gp.gone)= .ld:=rfl
  rw[hg]
  have B:((1:Nat):Int)=1:=rfl
  clear hg g l k ht
  repeat apply aL (hM _)
  refine bD hM fun K hK=>?_
  refine ak.pure (hM _) 12 (n:=0) _ rfl rfl ?_;simp only[*,go_sem,-hK,-hM]
  refine ak.nil hM (hK _ _ _ ?_);clear hK K
  repeat apply aL (hM _)
  refine cU (hM _) aA ?_
  apply cX (hM _)
  repeat apply aL (hM _)
  refine bD hM fun K hK=>?_
  refine ak.pure (hM _) 6 (n:=0) _ rfl rfl ?_;simp only[*,go_sem,-hK,-hM]
  refine ak.nil hM (hK _ _ _ ?_);clear hK K
  repeat apply aL (hM _)
  refine cU (hM _) aA ?_
  apply cX (hM _)
  repeat apply aL (hM _)
  refine bD hM fun K hK=>?_
  refine ak.pure (hM _) 3 (n:=3) _ rfl rfl ?_;simp only[*,go_sem,-hK,-hM]
  refine ak.gK (hM _) rfl cD rfl w5 ep LH fun r F' aU c=>?_
  obtain ⟨rfl,rfl,rfl⟩:=c
  refine ak.pure (hM _) 2 (n:=0) _ rfl rfl ?_;simp only[*,go_sem,-hK,-hM]
  refine ak.nil hM (hK _ _ _ ?_);clear hK K
  repeat apply aL (hM _)
  refine cU (hM _) aA ?_
  apply cX (hM _)
  repeat apply aL (hM _)
  refine bD hM fun K hK=>?_
  refine ak.pure (hM _) 3 (n:=1) _ rfl rfl ?_;simp only[*,go_sem,-hK,-hM]
  refine ak.gK (hM _) rfl cD rfl GA ep (LI aN) fun r F' aU c=>?_
  obtain ⟨rfl,rfl,rfl⟩:=c
  refine ak.nil hM (hK _ _ _ ?_);clear hK K
  repeat apply aL (hM _)
  refine bD hM fun K hK=>?_
  refine ak.pure (hM _) 1 (n:=0) _ rfl rfl ?_;simp only[*,go_sem,-hK,-hM]
  refine ak.nil hM (hK _ _ _ ?_);clear hK K
  repeat apply aL (hM _)
  refine cU (hM _) aA ?_
  apply cX (hM _)
  repeat apply aL (hM _)
  refine kI hM ?_
  refine sF hM (Md Wg (bs i) F') 1 ?_ ?_
  .exact ⟨1,rfl,aA,aA,aA,aA,.inl ⟨rfl,rfl,rfl⟩⟩
  .clear l0 w f hd c1 c2 c3 z a1 a2 a3 a4 a5 w1 w2 B
   rintro m A C E ⟨t8,rfl,l0,G,f,hd,⟨rfl,rfl,rfl⟩|⟨rfl,rfl,rfl⟩⟩
   .have D:((1:Int) != 0)=true:=rfl
    have w3:IntKind.u32.wrap (1 - 1)=0:=aB
    repeat apply aL (hM _)
    refine bD hM fun K hK=>?_
    refine ak.pure (hM _) 2 (n:=0) _ rfl rfl ?_;simp only[*,go_sem,-hK,-hM]
    refine ak.nil hM (hK _ _ _ ?_);clear hK K
    repeat apply aL (hM _)
    refine dB (hM _) aA ?_
    apply cX (hM _)
    repeat apply aL (hM _)
    refine kI hM ?_
    repeat apply aL (hM _)
    refine bD hM fun K hK=>?_
    refine ak.pure (hM _) 3 (n:=1) _ rfl rfl ?_;simp only[*,go_sem,-hK,-hM]
    refine LA (.bool false) (.int .i64 0) K5 aN ⟨_,_,_,rfl,cD,rfl,ei,rfl⟩ (by rfl) ?_
    refine ak.nil hM (hK _ _ _ ?_);clear hK K
    repeat apply aL (hM _)
    refine bD hM fun K hK=>?_
    refine ak.pure (hM _) 3 (n:=0) _ rfl rfl ?_;simp only[*,go_sem,-hK,-hM]
    refine ak.nil hM (hK _ _ _ ?_);clear hK K
    exact ⟨0,aa,0,rfl,aA,aA,aA,aA,.inr ⟨rfl,rfl,rfl⟩⟩
   .have D:((0:Int) != 0)=false:=rfl
    repeat apply aL (hM _)
    refine bD hM fun K hK=>?_
    refine ak.pure (hM _) 2 (n:=0) _ rfl rfl ?_;simp only[*,go_sem,-hK,-hM]
    refine ak.nil hM (hK _ _ _ ?_);clear hK K
    repeat apply aL (hM _)
    refine cU (hM _) aA ?_
    exact qi (show lK 153 (fun r a aU=>r= .tuple #[]/\a=C/\aU=⟨.fin,.gone,bs i,0⟩) .normal _ _ _ from Me aA rfl rfl ⟨rfl,rfl,rfl⟩)
 ·
  rw[if_neg hC]
  have o:(0<v/\decide ((v:Int)>0)=true)\/(v=0/\decide ((v:Int)>0)=false/\((t:Int)==0)=true):=by
   rcases Nat.eq_zero_or_pos v with e|e
   .refine .inr ⟨e,by simp[e],?_⟩
    obtain rfl:t=0:=aa
    rfl
   .exact .inl ⟨e,by simp;omega⟩
  have a7:((t:Int) != 0)=false\/((t:Int) != 0)=true:=by cases ((t:Int) != 0)<;>simp
  clear g hC k ht l
  rcases a7 with a7|a7
  .repeat apply aL (hM _)
   refine bD hM fun K hK=>?_
   refine ak.pure (hM _) 12 (n:=0) _ rfl rfl ?_;simp only[*,go_sem,-hK,-hM]
   refine ak.nil hM (hK _ _ _ ?_);clear hK K
   repeat apply aL (hM _)
   refine cU (hM _) aA ?_
   apply cX (hM _)
   rcases o with ⟨_,h⟩|⟨_,h,b2⟩
   .repeat apply aL (hM _)
    refine bD hM fun K hK=>?_
    refine ak.pure (hM _) 6 (n:=0) _ rfl rfl ?_;simp only[*,go_sem,-hK,-hM]
    refine ak.nil hM (hK _ _ _ ?_);clear hK K
    repeat apply aL (hM _)
    refine dB (hM _) aA ?_
    exact gb (show lK 153 (fun r a aU=>r= .tuple #[]/\a=F'/\aU=⟨.fin,.gone,bs i,0⟩) .ret _ _ _ from vH aA rfl rfl ⟨rfl,rfl,rfl⟩)
   .repeat apply aL (hM _)
    refine bD hM fun K hK=>?_
    refine ak.pure (hM _) 6 (n:=0) _ rfl rfl ?_;simp only[*,go_sem,-hK,-hM]
    refine ak.nil hM (hK _ _ _ ?_);clear hK K
    repeat apply aL (hM _)
    refine dB (hM _) aA ?_
    exact gb (show lK 153 (fun r a aU=>r= .tuple #[]/\a=F'/\aU=⟨.fin,.gone,bs i,0⟩) .ret _ _ _ from vH aA rfl rfl ⟨rfl,rfl,rfl⟩)
  .repeat apply aL (hM _)
   refine bD hM fun K hK=>?_
   refine ak.pure (hM _) 12 (n:=0) _ rfl rfl ?_;simp only[*,go_sem,-hK,-hM]
   refine ak.nil hM (hK _ _ _ ?_);clear hK K
   repeat apply aL (hM _)
   refine cU (hM _) aA ?_
   apply cX (hM _)
   rcases o with ⟨_,h⟩|⟨_,h,b2⟩
   .repeat apply aL (hM _)
    refine bD hM fun K hK=>?_
    refine ak.pure (hM _) 6 (n:=0) _ rfl rfl ?_;simp only[*,go_sem,-hK,-hM]
    refine ak.nil hM (hK _ _ _ ?_);clear hK K
    repeat apply aL (hM _)
    refine dB (hM _) aA ?_
    exact gb (show lK 153 (fun r a aU=>r= .tuple #[]/\a=F'/\aU=⟨.fin,.gone,bs i,0⟩) .ret _ _ _ from vH aA rfl rfl ⟨rfl,rfl,rfl⟩)
   .repeat apply aL (hM _)
    refine bD hM fun K hK=>?_
    refine ak.pure (hM _) 6 (n:=0) _ rfl rfl ?_;simp only[*,go_sem,-hK,-hM]
    refine ak.nil hM (hK _ _ _ ?_);clear hK K
    repeat apply aL (hM _)
    refine dB (hM _) aA ?_
    exact gb (show lK 153 (fun r a aU=>r= .tuple #[]/\a=F'/\aU=⟨.fin,.gone,bs i,0⟩) .ret _ _ _ from vH aA rfl rfl ⟨rfl,rfl,rfl⟩)
end
end Go.Proofs.YtbpddfapodiemaaGreatDoor
end
section
namespace Go.Sep
open Go Go.Conc
open Go.ConcN (sumTo upd upd_ne upd_same)
def jW (P:Program):Frame:={(default:Frame) with fn:=P.funcs.size,defers:=[],mode:=.panicking [goexitEntry]}
section
variable {P:Program}{f:FuncId}{fn:Func}{cd:Code}{w:World}{caps args:Array Value}
theorem Mg (a:P.funcs[f]?=some fn)(b:(fn.name== "runtime.NumGoroutine")=false)(hb:fn.body=some cd):
  stepG P false (born P {target:=.fn (.func f) caps,args:=args}) w= .go (G ((baseD f).at {tmps:=args++caps++Array.replicate (fn.ntmps - (args++caps).size) undef,defers:=[]} [.code cd]) [jW P]) w #[]:=by
 have c:¬fn.name= "runtime.NumGoroutine":=by simpa using b
 rw[<-enter_atD (args++caps) a hb]
 simp[born,G,stepG,unwind,callDeferred,invoke,callFunc,a,c,hb,GStep.after,seen_none,jW]
theorem Mh {b:Frame}{a:Act}{todo:List Item}(d:b.kind= .deferred)(hd:a.defers=[])(e:P.funcs[b.fn]?=some fn)(c:fn.results=#[]):
  stepG P false (G {b.at a todo with mode:=.returning} [jW P]) w= .go (G (jW P) []) w #[]:=by
 have he:(results fn a.tmps).events P w #[]=#[]:=events_results_none c _ _
 have f:(results fn a.tmps).run P w= .ok (.tuple #[]) w:=results_none c _ P w
 simp[G,stepG,unwind,doReturn,Frame.at,d,hd,e,f,he,jW,goexitEntry,seen_none,GStep.after]
theorem Mi:stepG P false (G (jW P) []) w= .go {frame:=jW P,callers:=[],status:=.finished,dying:=none} w #[]:=by
 have e:(default:Frame).todo=[]:=rfl;simp[G,stepG,unwind,jW,goexitEntry,Frame.catches,e]
end
section
variable {c:Cy}{i:Nat}{F:af}{f fd:FuncId}
def z0 (c:Cy)(i:Nat)(fd:FuncId)(v:Value):Ex->Act->af->Ph->Prop
 | .exit _,_,_,_=>False
 |_,a,_,ph=>a.defers=[dcall fd #[v]]/\(ph.mp= .idle\/ph.mp= .fin)/\ph.gp= .cnt/\ph.stored=c.bs i/\ph.deaf=0
theorem worker {fn b:Func}{cd l:Code}{n nd:Nat}{v:Value}(m:c.P.funcs[f]?=some fn)(y:(fn.name== "runtime.NumGoroutine")=false)(hb:fn.body=some cd)(z:fn.results=#[])(o:fn.ntmps=n){caps:Array Value}(Q:caps.size<=n)
  (B:c.P.funcs[fd]?=some b) (C:(b.name== "runtime.NumGoroutine")=false) (D:b.body=some l) (E:b.results=#[]) (H:b.ntmps=nd) (I:1<=nd)
  (hd:∀(mp:Mp) (F:af),mp= .idle\/mp= .fin->∀A:Act,sz A=nd->A.defers=[]->(∀j,slot A j=(#[v]:Array Value).getD j undef)->c6 (WJ c i) fd l (zS fun F' aU=>aU=⟨.fin,.gone,c.bs i,0⟩) A F ⟨mp,.cnt,c.bs i,0⟩)
  (h:∀A:Act,sz A=n->A.defers=[]->(∀j,slot A j=caps.getD j undef)->c6 (WJ c i) f cd (z0 c i fd v) A F ⟨.idle,.cnt,false,0⟩):
  Wk c i ⟨.idle,.cnt,false,0⟩ (born c.P {target:=.fn (.func f) caps,args:=#[]}) F:=by
 have hM:=WJ.eU c i
 have e0:∀w,stepG c.P false (born c.P {target:=.fn (.func f) caps,args:=#[]}) w= .go (G ((baseD f).at {tmps:=caps++Array.replicate (fn.ntmps - caps.size) undef,defers:=[]} [.code cd]) [jW c.P]) w #[]:=fun w=>by
  have:=Mg (P:=c.P) (w:=w) (caps:=caps) (args:=#[]) m y hb
  simpa using this
 refine Wk.act (c:=c) (i:=i) rfl rfl ax fun w s k φ p0 e1 e2 R J K=>.inr ⟨_,w,#[],s,⟨.idle,.cnt,false,0⟩,e0 w,e2,.refl _ _,?_,ou rfl Iff.rfl,.inr eg,?_⟩
 .rw[<-J,zJ];exact K
 have out:∀(a:Act) (p:List Item) F' (aU:Ph),(a.defers=[dcall fd #[v]]/\(aU.mp= .idle\/aU.mp= .fin)/\aU.gp= .cnt/\aU.stored=c.bs i/\aU.deaf=0)->WJ c i aU (G {(baseD f).at a p with mode:=.returning} [jW c.P]) F':=by
  intro a p F' aU ⟨k1,r,t,u,x⟩
  obtain ⟨mp,gp,st,S⟩:=aU
  simp only at r t u x
  subst t u x
  refine LD B C D E H (by simpa using I) k1 (fun A L M N=>hd mp F' r A L M N) fun T U O=>?_
  subst O
  refine Wk.gone (q:=2) rfl (QuitsD.ctl rfl (fun w=>Mh rfl rfl m z) (QuitsD.ctl rfl (fun w=>Mi) ⟨rfl,rfl⟩))
 have:=h {tmps:=caps++Array.replicate (fn.ntmps - caps.size) undef,defers:=[]} (by simp[sz,o];omega) rfl (fun j=>?_) (baseD f) [] [jW c.P] ⟨by simp[baseD],rfl,rfl⟩ fun e a F' aU g=>?_
 .rw[ff rfl] at this;exact this
 .simp only[slot,o,Array.getD_eq_getD_getElem?]
  rcases Nat.lt_or_ge j caps.size with d|d
  .rw[Array.getElem?_append_left d]
  .rw[Array.getElem?_append_right d,Array.getElem?_replicate,Array.getElem?_eq_none d]
   split<;>rfl
 .cases e with
  |normal=>exact (hM aU).move (fun _=>mP rfl) (out a _ F' aU g)
  |exit i=>exact g.elim
  |ret=>exact fun V=>(hM aU).move (fun _=>stepG_ret' rfl) (out a _ F' aU g)
end
attribute [go_sem] z0
end Go.Sep
end
section
namespace Go.Proofs.YtbpddfapodiemaaGreatDoor
open Go Go.Sep Go.Proofs Go.Conc
open Go.ConcN (upd upd_same)
open Go.ConcM (muA msA)
open Go.ConcR (stA smA)
set_option maxRecDepth 100000
set_option maxHeartbeats 4000000
attribute [local go_sem] Int.reduceBEq Int.reduceBNe muA msA stA smA
theorem Mj:(Tryz.prog.funcs[127]?).any (·.norace)=false:=aj
section
variable {Mu Wg Is n base T0 i:Nat}{bs:Nat->Bool}
theorem Mk (aN:Mu≠Wg/\Mu≠Is/\Wg≠Is)(w:n<67108864)(a4:i<n){ro:Addr->Option Value}(u0:dh){s1:Value}(m:aI fI ro s1 u0.book.aK){J:Value}(o:aI eY ro J u0.book.props){K:Value}(q:aI fq ro K u0.book.aH){L:Value}(r:aI dL ro L u0.book.told)
  (x:Int) (z:List Int) {M:Value} (s:aI rI ro M z) (B:List bx) {N:Value} (f:aI jE ro N B) {d b2 b3 b4 O P:Nat}
  (g0:ro ⟨d,0,none⟩=some (.int .i64 u0.book.bZ)) (Q:ro ⟨d,1,none⟩=some (.int .i64 u0.book.b6)) (R:ro ⟨d,2,none⟩=some (.int .i64 u0.book.bw.num)) (S:ro ⟨d,3,none⟩=some (.int .i64 u0.book.bw.den)) (T:ro ⟨d,4,none⟩=some s1) (U:ro ⟨d,5,none⟩=some J) (V:ro ⟨d,6,none⟩=some K) (W:ro ⟨d,7,none⟩=some L)
  (X:ro ⟨b2,0,none⟩=some (.int .i64 x)) (Y:ro ⟨b3,0,none⟩=some M) (Z:ro ⟨b4,0,none⟩=some N) (C:ro ⟨O,0,none⟩=some (.slice (some ⟨Is,0,none⟩) n n)) (D:ro ⟨P,0,none⟩=some (.int .i64 i))
  (h:ai (uu u0.book x z) (fun b=>tZ b B)=some (bs i)):
  Wk (CY Mu Wg Is n bs base T0) i ⟨.idle,.cnt,false,0⟩ (born Tryz.prog {target:=.fn (.func 127) #[.pointer (some ⟨Wg,0,none⟩),.pointer (some ⟨d,0,none⟩),.pointer (some ⟨b2,0,none⟩),.pointer (some ⟨b3,0,none⟩),.pointer (some ⟨b4,0,none⟩),.pointer (some ⟨Mu,0,none⟩),.pointer (some ⟨O,0,none⟩),.pointer (some ⟨P,0,none⟩)],args:=#[]}) ⟨ro,[]⟩:=by
 have hM:=WJ.eU (CY Mu Wg Is n bs base T0) i
 have hJ:∀ph:Ph,ph.gp= .cnt->Go.Sep.Closed Tryz.prog false (WJ (CY Mu Wg Is n bs base T0) i ph):=fun ph h=>Wk.closed (CY Mu Wg Is n bs base T0) i ph h
 refine worker (c:=CY Mu Wg Is n bs base T0) (i:=i) (fd:=128) (v:=.pointer (some ⟨Wg,0,none⟩)) Tryz.func127 rfl rfl rfl Tryz.ntmps127 ax Tryz.func128 rfl rfl rfl Tryz.ntmps128 ax ?_ ?_
 .intro mp F a5 A E hd hs
  have u:=hs 0
  clear hs h g0 Q R S T U V W X Y Z C D m o q r s f hJ a4
  repeat apply aL (hM _)
  refine dD hM ?_
  refine ak.pure (hM _) 1 (n:=1) _ rfl rfl ?_;apply ag _
  refine ak.gK (hM _) rfl rfl rfl Bp (by simp only[*,go_sem,stA]) (Mf aN w a5 rfl) fun v F' aU g=>?_
  obtain ⟨rfl,rfl,rfl⟩:=g
  refine ak.nil hM ?_
  exact ⟨aM,rfl⟩
 .intro ab E hd hs
  have u:=hs 0
  have k1:=hs 1
  have ad:=hs 2
  have ae:=hs 3
  have al:=hs 4
  have ao:=hs 5
  have ar:=hs 6
  have a0:=hs 7
  clear hs
  repeat apply aL (hM _)
  refine dD hM ?_
  refine ak.defer (hM _) (vals:=#[.pointer (some ⟨Wg,0,none⟩)]) rfl (by rfl) rfl rfl (by simp only[List.map_toArray,List.map_cons,List.map_nil];rw[show ab.eval (.tmp 0)=slot ab 0 from rfl,u];rfl) fun A e1 e2 G=>?_
  replace u:=(e1 0).trans u
  replace k1:=(e1 1).trans k1
  replace ad:=(e1 2).trans ad
  replace ae:=(e1 3).trans ae
  replace al:=(e1 4).trans al
  replace ao:=(e1 5).trans ao
  replace ar:=(e1 6).trans ar
  replace a0:=(e1 7).trans a0
  replace E:sz A=20:=e2.trans E
  rw[hd] at G
  replace hd:=G
  clear e1 e2 G
  refine ak.nil hM ?_;try simp only[go_sem]
  obtain ⟨d3,c4,rfl,a6,a7,a8⟩:=id m
  obtain ⟨d10,dp,rfl,a9,ba,bb⟩:=id o
  obtain ⟨d17,dq,rfl,bc,bd,bj⟩:=id q
  obtain ⟨d24,ds,rfl,bk,bl,bm⟩:=id r
  obtain ⟨d38,dt,rfl,bo,br,bz⟩:=id s
  obtain ⟨d45,du,rfl,bS,b0,H⟩:=id f
  repeat apply aL (hM _)
  have k:=hJ ⟨.idle,.cnt,false,0⟩ rfl
  refine c6.of k ?_
  refine GI k mixed [0,1,2,3,5] [4,6] ⟨ro,[]⟩ dG aj ?_
  have b1:=gx h;clear h;obtain ⟨b5,a2,h⟩:=b1
  simp only[*,go_sem,-h,-hJ,-hM]
  refine wO k _ (Ik u0.book ⟨m,o,q,r⟩ x z s a2) fun v dv l ca g=>?_
  obtain ⟨dC,dE,dT,ea,rfl,j⟩:=g
  replace f:=f.mono l;clear H;obtain ⟨_,_,H⟩:=f.op
  obtain ⟨d63,eb,rfl,cb,cd,cf⟩:=id j.e
  obtain ⟨d68,ec,rfl,cl,cy,cS⟩:=id j.p
  obtain ⟨d73,ed,rfl,c0,da,db⟩:=id j.y
  obtain ⟨d78,eh,rfl,dd,df,dk⟩:=id j.t
  replace C:=l _ _ C
  replace D:=l _ _ D
  clear g0 Q R S T U V W X Y Z
  refine ⟨⟨l,fun a I=>by simp[keys] at I,trivial⟩,m4 ?_⟩
  simp only[*,go_sem,-h,-hJ,-hM]
  refine bf k _ (H6 b5 (j.mono aZ) B (f.mono aZ) h) ?_
  refine ⟨⟨l,fun a I=>by simp[keys] at I,trivial⟩,?_⟩
  clear m o q r s f j a8 bb bj bm bz H cf cS db dk h a2 a6 a9 bc bk bo bS cb cl c0 dd a7 ba bd bl br b0 cd cy da df k ca
  have i0:(0:Int)<=(i:Int):=aa
  have i1:(i:Int)<(n:Int):=aa
  cases a3:bs i
  .repeat apply aL (hM _)
   refine cU (hM _) aM ?_
   apply cX (hM _)
   exact ⟨aM,.inl rfl,rfl,a3.symm,rfl⟩
  .repeat apply aL (hM _)
   refine dB (hM _) aM ?_
   repeat apply aL (hM _)
   refine dD hM ?_
   refine ak.gK (hM _) rfl (by rfl) rfl Gx aM (Lr aN w) fun v F' aU g=>?_
   obtain ⟨rfl,rfl,rfl⟩:=g
   refine ak.nil hM ?_;try simp only[go_sem]
   repeat apply aL (hM _)
   refine dD hM ?_
   refine ak.bL (hJ _ rfl) 3 (n:=1) _ rfl rfl ?_;apply ag _
   refine Lh K6 Bi Mj aN ⟨_,rfl,(by first|rfl|simp only[*,go_sem]),rfl,rfl⟩ (by rfl) aM aM ?_
   refine ak.nil hM ?_;try simp only[go_sem]
   repeat apply aL (hM _)
   refine dD hM ?_
   refine ak.gK (hM _) rfl (by rfl) rfl Gy aM (Ls aN w) fun v F' aU g=>?_
   obtain ⟨rfl,rfl,rfl⟩:=g
   refine ak.nil hM ?_
   exact (show z0 _ _ _ _ .normal _ _ _ from ⟨aM,.inr rfl,rfl,a3.symm,rfl⟩)
end
end Go.Proofs.YtbpddfapodiemaaGreatDoor
end
section
namespace Go.Proofs.YtbpddfapodiemaaGreatDoor
open Go Go.Sep Go.Proofs Go.Conc
open Go.ConcN (upd upd_same)
open Go.ConcM (muA msA muBlock)
open Go.ConcR (stA smA wgBlock)
set_option maxRecDepth 100000
set_option maxHeartbeats 4000000
attribute [local go_sem] Int.reduceBEq Int.reduceBNe muA msA stA smA
def Ml (u0:dh)(a:Int)(c:List bx)(d:List Int):Option Bool:=ai (uu u0.book a d) fun b=>tZ b c
def sL (f:List Int->Option Bool):List (List Int)->Option (List Bool)
 |[]=>some []
 |x::l=>ai (f x) fun b=>ai (sL f l) fun r=>some (b::r)
def z1 (a:List Bool)(i23:Nat)(b:List Int)(st:List (List Int)):Option (Fl (List (List Int)) (List (List Int))):=
 ai (bt a (i23:Int)) fun c=>cond (c) (ai (dc st ([b])) fun d=>some (.nx d)) (some (.nx st))
def vI (u0:dh)(b:Int)(a:List (List Int)):Option (List (List Int)):=
 cond (decide (a.length<1048576)) (ai (uI u0) fun c=>ai (sL (Ml u0 b c) a) fun bl=>ai (bU (z1 bl) 0 a ([]:List (List Int))) fun o=>aG o (fun d=>some d) (fun _ _=>none) (fun r=>some r)) none
theorem EP {f:List Int->Option Bool}:∀{l:List (List Int)} {bl:List Bool},sL f l=some bl->bl.length=l.length/\∀(i:Nat) (a:List Int),l[i]?=some a->f a=some (bl[i]?.getD false)
 |[],bl,h=>by
  simp[sL] at h;subst h
  exact ⟨rfl,fun i a hi=>by simp at hi⟩
 |x::l,bl,h=>by
  unfold sL at h
  obtain ⟨b,hb,h⟩:=gx h
  obtain ⟨r,c,h⟩:=gx h
  have h:=Option.some.inj h
  subst h
  obtain ⟨e1,e2⟩:=EP c
  refine ⟨by simp[e1],fun i a hi=>?_⟩
  cases i with
  |zero=>simp at hi;subst hi;simpa using hb
  |succ i=>simp at hi;simpa using e2 i a hi
def ER (x:X)(d:Addr->Option Value)(b3 b4 e f:Nat)(b:Value)(m:Nat)(a:Act)(F:af)(z:Z):Prop:=
 ∃(i:Nat) (c:Addr->Option Value),m=x.n - i/\i<=x.n/\F=⟨c,[]⟩/\Ext d c/\slot a 2=b/\slot a 3= .pointer (some ⟨b3,0,none⟩)/\slot a 4= .pointer (some ⟨b4,0,none⟩)/\slot a 6= .slice none 0 0/\slot a 7= .pointer (some ⟨e,0,none⟩)/\slot a 8= .pointer (some ⟨f,0,none⟩)/\slot a 9= .pointer (some ⟨x.Mu,0,none⟩)/\slot a 10= .pointer (some ⟨x.Wg,0,none⟩)/\slot a 21=b/\slot a 22= .int .i64 x.n/\slot a 23= .int .i64 i/\sz a=49/\a.defers=[]/\z= .co x i (.opn 0) 0
theorem Mm (l:List Bool):(l.map fun b=>[Value.bool b]).flatten=l.map Value.bool:=by
 induction l with
 |nil=>rfl
 |cons b l ih=>simp only[List.map_cons,List.flatten_cons,ih];rfl
theorem Mn:Tryz.prog.underlying 172=some (.slice 4):=aj
theorem Mo:Tryz.prog.info? 4=some ((Tryz.prog.info? 4).getD default):=aj
theorem ES {ro:Addr->Option Value}(u0:dh){s1:Value}(o:aI fI ro s1 u0.book.aK){bk:Value}(p:aI eY ro bk u0.book.props){bm:Value}(q:aI fq ro bm u0.book.aH){bo:Value}(s:aI dL ro bo u0.book.told){br:Value}(a2:aI iG ro br u0.all)(ab:Int)(a:List (List Int)){bs:Value}(g:aI (rL rI) ro bs a){r:List (List Int)}(h:vI u0 ab a=some r):
  qS Tryz.prog 71 #[.agg #[.int .i64 u0.book.bZ,.int .i64 u0.book.b6,.int .i64 u0.book.bw.num,.int .i64 u0.book.bw.den,s1,bk,bm,bo,br],.int .i64 ab,bs] ro (fun v aW=>∃bz,v=bz/\aI (rL rI) aW bz r):=by
 refine gq.LZ (T:=TT) fun Φ=>?_
 obtain ⟨d3,c4,rfl,fv,fw,fx⟩:=id o
 obtain ⟨d10,fz,rfl,gg,gl,P⟩:=id p
 obtain ⟨d17,G,rfl,gn,gp,gB⟩:=id q
 obtain ⟨d24,gC,rfl,gM,gT,gV⟩:=id s
 obtain ⟨d31,ix,rfl,g0,g1,g2⟩:=id a2
 obtain ⟨d38,bS,rfl,jC,b0,w⟩:=id g
 unfold vI at h
 have hlen:a.length<1048576:=by
  rcases Nat.lt_or_ge a.length 1048576 with y|y
  .exact y
  .rw[show decide (a.length<1048576)=false by simp;omega] at h;cases h
 rw[show decide (a.length<1048576)=true by simp;omega] at h
 simp only[cond_true] at h
 obtain ⟨b1,b2,h⟩:=gx h
 obtain ⟨bl,b5,h⟩:=gx h
 obtain ⟨ca,cb⟩:=EP b5
 have hM:=ZJ.eU TT Φ
 have hJ:=fun (z:Z) (Q:zY z=true)=>ZJ.L9 TT Φ z Q
 refine cW.go (main:=true) hM Tryz.func71 rfl Tryz.ntmps71 ax fun A Q hd hs=>?_
 have g3:=hs 0
 have k1:=hs 1
 have cd:=hs 2
 clear hs b5
 repeat apply aL (hM _)
 refine bD hM fun K hK=>?_
 refine ak.bL (hJ _ rfl) 3 (n:=0) _ rfl rfl ?_;apply cc _
 intro b3 f3;have r3:=fj f3;have n3:=gk f3
 try simp only[av] at n3
 intro b4 f4;have g4:=fj f4;have cf:=gk f4
 try simp only[av] at cf
 try simp only[*,go_sem,-hK,-hM,-hJ,-h]
 refine ak.nil hM (hK _ _ _ ?_);clear hK K
 have k:=hJ .free rfl
 repeat apply aL (hM _)
 refine bD hM fun K hK=>?_
 refine ak.bL (hJ _ rfl) 4 (n:=0) _ rfl rfl ?_;apply cc _
 refine wO k _ (Ck u0 ⟨o,p,q,s⟩ a2 b2) fun v j1 H ha R=>?_
 obtain ⟨j2,rfl,I⟩:=R
 replace o:=o.mono H
 replace p:=p.mono H
 replace q:=q.mono H
 replace s:=s.mono H
 replace g:=g.mono H
 obtain ⟨d45,hc,rfl,hf,hg,hh⟩:=id I
 clear fx P gB gV g2 w hh r3 g4
 apply aP
 try simp only[*,go_sem,-hK,-hM,-hJ,-h,-k]
 intro a3 f7;have hj:=fj f7;have cl:=gk f7
 try simp only[av] at cl
 try simp only[*,go_sem,-hK,-hM,-hJ,-h,-k]
 refine ak.nil hM (hK _ _ _ ?_);clear hK K
 repeat apply aL (hM _)
 refine bD hM fun K hK=>?_
 refine ak.bL (hJ _ rfl) 5 (n:=0) _ rfl rfl ?_;apply cc _
 refine L8 Mn Mo rfl Bi Gg hlen fun f a4=>?_
 have rI:=fj a4;have nI:=gk a4
 try simp only[av] at nI
 apply aP
 try simp only[*,go_sem,-hK,-hM,-hJ,-h,-k]
 intro S f8;have hk:=fj f8;have cS:=gk f8
 try simp only[av] at cS
 try simp only[*,go_sem,-hK,-hM,-hJ,-h,-k]
 refine ak.nil hM (hK _ _ _ ?_);clear hK K
 repeat apply aL (hM _)
 refine bD hM fun K hK=>?_
 refine ak.bL (hJ _ rfl) 1 (n:=0) _ rfl rfl ?_;apply cc _
 intro J f9;have hl:=fj f9;have c0:=gk f9
 try simp only[av] at c0
 try simp only[*,go_sem,-hK,-hM,-hJ,-h,-k]
 refine ak.nil hM (hK _ _ _ ?_);clear hK K
 repeat apply aL (hM _)
 refine bD hM fun K hK=>?_
 refine ak.bL (hJ _ rfl) 1 (n:=0) _ rfl rfl ?_;apply cc _
 intro L f10;have hn:=fj f10;have da:=gk f10
 try simp only[av] at da
 try simp only[*,go_sem,-hK,-hM,-hJ,-h,-k]
 refine ak.nil hM (hK _ _ _ ?_);clear hK K
 repeat apply aL (hM _)
 refine bD hM fun K hK=>?_
 refine ak.bL (hJ _ rfl) 3 (n:=0) _ rfl rfl ?_;apply cc _
 refine ak.nil hM (hK _ _ _ ?_);clear hK K
 refine zZ k fun nd no=>?_
 obtain ⟨ad,B,hle,u,db,dd,df⟩:=Ma nd no
 clear nd no
 refine LW (T:=TT) (Φ:=Φ) ⟨ad,[]⟩ J L f a.length (fun i=>bl[i]?.getD false) hle ?_
 intro base B0 T0 ho aN
 clear hle
 have ae:a.length<67108864:=aa
 replace o:=o.mono B
 replace p:=p.mono B
 replace q:=q.mono B
 replace s:=s.mono B
 replace g:=g.mono B
 replace I:=I.mono B
 have dk:=u 0 (.int .i64 u0.book.bZ) rfl
 have dp:=u 1 (.int .i64 u0.book.b6) rfl
 have dq:=u 2 (.int .i64 u0.book.bw.num) rfl
 have ds:=u 3 (.int .i64 u0.book.bw.den) rfl
 have dt:=u 4 (.slice d3 u0.book.aK.length c4) rfl
 have du:=u 5 (.slice d10 u0.book.props.length fz) rfl
 have dv:=u 6 (.slice d17 u0.book.aH.length G) rfl
 have dC:=u 7 (.slice d24 u0.book.told.length gC) rfl
 have dE:=db 0 (.int .i64 ab) rfl
 have dT:=dd 0 (.slice d45 b1.length hc) rfl
 have a5:=df 0 (.slice (some ⟨f,0,none⟩) a.length a.length) rfl
 clear u db dd df f3 f4 f7 f8 f9 f10 a4 n3 cf cl cS c0 da nI hj hk hl hn rI ha
 repeat apply aL (hM _)
 refine kI hM ?_
 refine sF hM (ER (⟨J,L,f,a.length,(fun i=>bl[i]?.getD false),base,T0,B0⟩:X) ad b3 b4 a3 S (.slice d38 a.length bS)) a.length ?_ ?_
 .exact ⟨0,ad,rfl,Nat.zero_le _,rfl,Ext.refl _,aA,aA,aA,aA,aA,aA,aA,aA,aA,aA,aA,aA,aA,rfl⟩
 clear g3 k1 cd Q hd
 rintro m A F' ea ⟨i,N,rfl,hi,rfl,c,cd,hp,hq,kh,hr,kj,ht,hv,hx,hy,hz,Q,hd,rfl⟩
 have hi:i<=a.length:=hi
 replace o:=o.mono c
 replace p:=p.mono c
 replace q:=q.mono c
 replace s:=s.mono c
 replace g:=g.mono c
 replace I:=I.mono c
 rcases Nat.lt_or_ge i a.length with al|hA
 .have c1:decide ((i:Int)<(a.length:Int))=true:=by simp;omega
  have i0:(0:Int)<=(i:Int):=aa
  have i1:(i:Int)<(a.length:Int):=aa
  obtain ⟨a6,eb⟩:∃x,a[i]?=some x:=⟨_,List.getElem?_eq_getElem al⟩
  obtain ⟨_,_,w⟩:=g.op
  obtain ⟨hB,ec,a7,a8,U⟩:=w _ _ eb
  obtain ⟨hD,rfl,V⟩:=a8
  obtain ⟨d32,W,rfl,hE,hF,-⟩:=id V
  cases a7
  have hG:=U 0 _ rfl
  simp only[go_sem] at hG
  clear U w
  have ed:=cI (n:=i) aa
  repeat apply aL (hM _)
  refine bD hM fun K hK=>?_
  refine ak.bL (hJ _ rfl) 1 (n:=0) _ rfl rfl ?_;apply cc _
  refine ak.nil hM (hK _ _ _ ?_);clear hK K
  repeat apply aL (hM _)
  refine dB (hM _) aA ?_
  apply cX (hM _)
  repeat apply aL (hM _)
  refine kI hM ?_
  repeat apply aL (hM _)
  refine bD hM fun K hK=>?_
  refine ak.bL (hJ _ rfl) 7 (n:=0) _ rfl rfl ?_;apply cc _
  intro hI f11;have hL:=fj f11;have eh:=gk f11
  try simp only[av] at eh
  try simp only[*,go_sem,-hK,-hM,-hJ,-h,-k]
  intro hN f12;have hP:=fj f12;have et:=gk f12
  try simp only[av] at et
  try simp only[*,go_sem,-hK,-hM,-hJ,-h,-k]
  refine ak.nil hM (hK _ _ _ ?_);clear hK K
  refine zZ (hJ _ rfl) fun nd no=>?_
  obtain ⟨hQ,d,hle,ev,eQ⟩:=Mb nd no
  clear nd no f11 f12 hL hP eh et
  refine EO (hJ _ rfl) hle ?_
  clear hle
  have hR:=ev 0 (.int .i64 i) rfl
  have hS:=eQ 0 (.slice d32 a6.length W) rfl
  clear ev eQ
  repeat apply aL (hM _)
  refine bD hM fun K hK=>?_
  refine ak.gK (hM _) rfl cD rfl Bp ep (L6 aN ae) fun v F' ea R=>?_
  obtain ⟨rfl,rfl,rfl⟩:=R
  refine ak.nil hM (hK _ _ _ ?_);clear hK K
  repeat apply aL (hM _)
  refine bD hM fun K hK=>?_
  refine ak.bL (hJ _ rfl) 1 (n:=1) _ rfl rfl ?_;apply cc _
  refine Mc (caps:=#[.pointer (some ⟨L,0,none⟩),.pointer (some ⟨b3,0,none⟩),.pointer (some ⟨b4,0,none⟩),.pointer (some ⟨hN,0,none⟩),.pointer (some ⟨a3,0,none⟩),.pointer (some ⟨J,0,none⟩),.pointer (some ⟨S,0,none⟩),.pointer (some ⟨hI,0,none⟩)]) (f0:=127) al ⟨_,rfl,cD,rfl,rfl⟩ ep ?_ ?_
  .exact Mk aN ae al u0 (o.mono d) (p.mono d) (q.mono d) (s.mono d) ab a6 (V.mono d) b1 (I.mono d) (d _ _ (c _ _ dk)) (d _ _ (c _ _ dp)) (d _ _ (c _ _ dq)) (d _ _ (c _ _ ds)) (d _ _ (c _ _ dt)) (d _ _ (c _ _ du)) (d _ _ (c _ _ dv)) (d _ _ (c _ _ dC)) (d _ _ (c _ _ dE)) hS (d _ _ (c _ _ dT)) (d _ _ (c _ _ a5)) hR (cb i a6 eb)
  refine ak.nil hM (hK _ _ _ ?_);clear hK K
  repeat apply aL (hM _)
  refine bD hM fun K hK=>?_
  refine ak.bL (hJ _ rfl) 2 (n:=0) _ rfl rfl ?_;apply cc _
  refine ak.nil hM (hK _ _ _ ?_);clear hK K
  change ∃eS,eS<a.length - i/\ER _ ad b3 b4 a3 S _ eS _ _ _
  exact ⟨a.length - (i+1),aa,i+1,hQ,rfl,al,rfl,c.trans d,aA,aA,aA,aA,aA,aA,aA,aA,aA,aA,aA,aA,aA,rfl⟩
 .have c1:decide ((i:Int)<(a.length:Int))=false:=by simp;omega
  obtain rfl:i=a.length:=aa
  repeat apply aL (hM _)
  refine bD hM fun K hK=>?_
  refine ak.bL (hJ _ rfl) 1 (n:=0) _ rfl rfl ?_;apply cc _
  refine ak.nil hM (hK _ _ _ ?_);clear hK K
  repeat apply aL (hM _)
  refine cU (hM _) aA ?_
  refine qi ?_
  simp only[go_sem]
  repeat apply aL (hM _)
  refine bD hM fun K hK=>?_
  refine ak.gK (hM _) rfl cD rfl Gz ep (L7 aN ae) fun v F' ea R=>?_
  obtain ⟨rfl,rfl,rfl⟩:=R
  refine ak.nil hM (hK _ _ _ ?_);clear hK K
  refine zZ k fun nd no=>?_
  have rI:∀off sp,N ⟨f,off,sp⟩=none:=fun off sp=>no f (by simp[keys]) off sp
  have hle:Le ⟨b7 N f (X.cy (⟨J,L,f,a.length,(fun i=>bl[i]?.getD false),base,T0,B0⟩:X) TT).fin,[]⟩ ⟨N,[(f,(X.cy (⟨J,L,f,a.length,(fun i=>bl[i]?.getD false),base,T0,B0⟩:X) TT).fin)]⟩:=kQ (by simp[lk]) ax trivial
  have Y:aI rB (b7 N f (X.cy (⟨J,L,f,a.length,(fun i=>bl[i]?.getD false),base,T0,B0⟩:X) TT).fin) (.slice (some ⟨f,0,none⟩) bl.length bl.length) bl:=aI.flat (fun b=>[.bool b]) bl (fun _=>rfl) rI (by
   show (((List.range a.length).map fun i=>Value.bool (bl[i]?.getD false)).toArray).toList=_
   rw[<-ca]
   apply List.ext_getElem?
   intro j
   rw[Mm bl]
   simp only[List.getElem?_map]
   rcases Nat.lt_or_ge j bl.length with y|y
   .simp[y]
   .simp[y]) aa
  obtain ⟨C,a9⟩:∃C,C=b7 N f (X.cy (⟨J,L,f,a.length,(fun i=>bl[i]?.getD false),base,T0,B0⟩:X) TT).fin:=⟨_,rfl⟩
  have ao:Ext N C:=by rw[a9];exact gP _ _ _
  have hT:Ext ro C:=H.trans (B.trans (c.trans ao))
  rw[<-a9] at hle Y
  refine EO k hle ?_
  replace g:=g.mono ao
  have a5:C ⟨S,0,none⟩=some (.slice (some ⟨f,0,none⟩) bl.length bl.length):=by rw[ca];exact ao _ _ (c _ _ a5)
  clear hle nd no a9 rI dk dp dq ds dt du dv dC dE dT hM hJ aN ae ho o p q s I b2 cb c1 hlen hA hi ao H B c hp hq hr ht hv hx hy hz fv fw gg gl gn gp gM gT a2 g0 g1 hf hg
  obtain ⟨_,_,w⟩:=g.op
  obtain ⟨_,_,P⟩:=Y.op
  have hJ:=k
  clear k
  refine c6.of hJ ?_
  repeat apply ah hJ
  apply aR hJ
  apply bW _
  repeat apply ah hJ
  apply aR hJ
  apply bW _
  repeat apply ah hJ
  apply aV hJ
  have e:=gx h;clear h;obtain ⟨hV,D,hX⟩:=e;have h:=True.intro
  refine bY hJ [13,14,15,34,35,36,37,38,39,40,41,42,43,44,45,46,47] (fun m e0 F'=>∃(i23:Nat) (d17:Option Addr) (G:Nat) (ar:List (Nat×Obj)) (E:(List (List Int))),m=a.length - i23/\i23<=a.length/\bU (z1 bl) i23 (a.drop i23) E=some hV/\F'=⟨C,ar⟩/\bg (rL rI) C 35 (.slice d17 E.length G) E ar/\E.length<=G/\slot e0 34= .int .i64 (i23:Int)/\slot e0 13= .slice d17 E.length G) a.length ?_ ?_
  .refine ⟨0,none,0,[],([]:List (List Int)),(Nat.sub_zero _).symm,Nat.zero_le _,D,rfl,bg.nil _ _ _,Nat.le_refl _,?_⟩
   simp only[*,go_sem,-h]
  .rintro kk O F' M ⟨i23,d17,G,ar,E,rfl,kl,D,rfl,ba,hY,km,kn⟩
   have h:=True.intro
   have kp:sz O=49:=by rw[M.size];simp only[*,go_sem,-h]
   have ks:O.defers=[]:=by rw[M.defers];simp only[*,go_sem,-h]
   have kt:slot O 6= .slice none 0 0:=by rw[M.fS 6 aB];simp only[*,go_sem,-h]
   have kv:slot O 8= .pointer (some ⟨S,0,none⟩):=by rw[M.fS 8 aB];simp only[*,go_sem,-h]
   have kx:slot O 32= .slice d38 a.length bS:=by rw[M.fS 32 aB];simp only[*,go_sem,-h]
   have ky:slot O 33= .int .i64 (a.length:Int):=by rw[M.fS 33 aB];simp only[*,go_sem,-h]
   clear M Q hd
   repeat apply ah hJ
   apply aR hJ
   apply bW _
   repeat apply ah hJ
   rcases Nat.lt_or_ge i23 a.length with hZ|e1
   .refine eD hJ dG ?_
    apply aO hJ
    obtain ⟨a0,bb⟩:∃x,a[i23]?=some x:=⟨_,List.getElem?_eq_getElem hZ⟩
    rw[dK bb] at D
    have e:=gx D;clear D h;obtain ⟨k0,h,e3⟩:=e
    unfold z1 at h
    try dsimp only at h
    obtain ⟨k2,lb,h0,h1,fa⟩:=w _ _ bb
    obtain ⟨hD,rfl,V⟩:=h1;obtain ⟨d32,W,rfl,hE,hF,lh⟩:=id V
    cases h0
    have h2:=fa 0 _ rfl;simp only[go_sem] at h2
    clear fa bb
    repeat apply ah hJ
    apply aV hJ
    repeat apply ah hJ
    refine aD hJ fun lj=>?_
    apply aR hJ
    apply bW _
    repeat apply ah hJ
    refine aD hJ fun ll=>?_
    apply aR hJ
    have e:=gx h;clear h;obtain ⟨h3,h4,h⟩:=e
    obtain ⟨ln,lo,fb⟩:=cv h4
    obtain ⟨hB,ec,a7,a8,U⟩:=P _ _ fb
    obtain rfl:ec=[.bool h3]:=a8
    cases a7
    have h5:=U 0 _ rfl;simp only[go_sem] at h5
    clear U fb
    try apply bW _
    have e:=jz h;clear h;rcases e with ⟨bc,h⟩|⟨bc,h⟩
    .try simp only[Int.ofNat_lt] at bc
     refine eD hJ dG ?_
     refine aD hJ fun h6=>?_
     apply aR hJ
     have e:=gx h;clear h;obtain ⟨h7,h8,h⟩:=e
     obtain ⟨h9,fg⟩:=dg h8
     apply bW _
     intro fi f45;have ib:=fj f45;have fp:=gk f45
     have ic:=bh.cons fp h6
     try simp only[av] at fp
     try apply bW _
     refine BG (r:=(rL rI)) (l:=E) (x:=a0) (cs:=#[.slice d32 a0.length W]) (e2:=35) [(fi,.cells #[.slice d32 a0.length W] 35)] [] (by first|rfl|simp only[bn]|(simp only[bn];rfl)) ba ic h9 ⟨_,rfl,V⟩ dG ib rfl rfl iV iV oL oN rfl oM aB aB (fun lr fr bd ih ik lv=>?_)
     simp only[bn] at ik
     subst ih
     rw[<-fg] at bd;clear fg
     obtain ⟨d53,il,rfl,im⟩:=bd.len
     refine ⟨⟨C,(fi,.cells #[.slice d32 a0.length W] 35)::fr⟩,Le.refl _,?_⟩
     apply aP
     try apply bW _
     have e:=Option.some.inj h;clear h;subst e
     have h:=True.intro
     have ed:=cI (n:=i23) (by have:=b0;omega)
     apply aR hJ
     apply bW _
     refine ⟨a.length - (i23+1),aa,_,Le.sub (List.Sublist.cons _ (List.Sublist.refl _)),i23+1,d53,il,fr,h7,rfl,aa,e3,rfl,bd,im,?_⟩
     simp only[*,go_sem,-h]
    .try simp only[Int.ofNat_lt] at bc
     refine eu hJ dG ?_
     apply aO hJ
     have e:=Option.some.inj h;clear h;subst e
     have h:=True.intro
     have ed:=cI (n:=i23) (by have:=b0;omega)
     apply aR hJ
     apply bW _
     refine ⟨a.length - (i23+1),aa,_,Le.sub (List.Sublist.refl _),i23+1,d17,G,ar,E,rfl,aa,e3,rfl,ba,hY,?_⟩
     simp only[*,go_sem,-h]
   .have lx:=Nat.not_lt.2 e1
    refine eu hJ dG ?_
    rw[List.drop_eq_nil_of_le e1] at D
    have e:=Option.some.inj D;clear D h;subst e
    have h:=hX
    dsimp only[aG] at h
    apply bR
    simp only[go_sem]
    repeat apply ah hJ
    refine aD hJ fun ly=>?_
    apply aR hJ
    apply bW _
    have e:=Option.some.inj h;clear h;subst e
    refine aD hJ fun fs=>?_
    obtain ⟨ft,bj,lL,fu,iv⟩:=ba.l6 (([]:List (Nat×Obj))) [] [] (by first|rfl|simp only[bn]|(simp only[bn];rfl)) (by first|rfl|simp only[bn]|(simp only[bn];rfl)) fs (aJ.nil _)
    clear fs
    refine cH (F:=⟨ft,([]:List (Nat×Obj))⟩) hJ iv ?_
    obtain ⟨l1,l2,l3⟩:=fu.op
    replace g:=g.mono bj;clear w;obtain ⟨_,_,w⟩:=g.op
    replace Y:=Y.mono bj;clear P;obtain ⟨_,_,P⟩:=Y.op
    apply aQ
    exact (mI (t:=6) rfl aM aM ⟨rfl,ft,hT.trans bj,Le.refl _,_,rfl,fu⟩).2
end Go.Proofs.YtbpddfapodiemaaGreatDoor
end
section
namespace Go.Proofs.YtbpddfapodiemaaGreatDoor
open Go Go.Sep Go.Proofs
set_option maxRecDepth 100000
set_option maxHeartbeats 4000000
def z2 (u0:an)(b:Int):Option ((List Int)×Int):=
 ai (fW u0 ([(iI b),pz])) fun a=>cond ((a.2 != 0)) (some (([]:(List Int)),a.2)) (ai (uv a.1.book ([([]:(List Int))])) fun c=>ai (vI a.1 b c) fun d=>ai (yq d) fun e=>some (e,0))
theorem Mq {ro:Addr->Option Value}(L:dM ro)(u0:an){s1 g i j:Value}(D:bO ro u0 s1 g i j)(a:Int){r:((List Int)×Int)}(h:z2 u0 a=some r):qS Tryz.prog 10 #[bv u0 s1 g i j,.int .i64 a] ro (fun v aW=>∃W,v= .tuple #[W,.int .i64 r.2]/\aI rI aW W r.1):=by
 unfold z2 at h;have ba:=D.oc;simp only[bV] at ba;refine gq.go Tryz.func10 rfl Tryz.ntmps10 Tryz.results10 ax fun Φ hJ A b5 hd hs=>?_;have ca:=hs 0;have k1:=hs 1;clear hs;apply ay hJ _;refine az fun w c bb=>?_;try simp only[av] at bb
 apply ah hJ;refine aD hJ fun bc=>?_;apply aR hJ;revert h;refine bS fun n bd h=>?_;apply ag _;refine az fun z X Y=>?_;have Z:=bh.cons Y bc;try simp only[av] at Y
 obtain ⟨B,M,ab⟩:=fG (b:=z) (o:=(.cells #[.func (.func 68) #[.int .i64 a] #[],.func (.func 69) #[] #[]] 116)) [] ((w,bk u0 s1 g i j)::[]) Z X (aJ.cons c (aJ.nil _));have ad:aI (dx) (b7 ro z (.cells #[.func (.func 68) #[.int .i64 a] #[],.func (.func 69) #[] #[]] 116)) (.slice (some ⟨z,0,none⟩) 2 2) [(iI a),pz]:=(aI.two (r:=(dx)) (e:=116) (v:=.func (.func 68) #[.int .i64 a] #[]) (u:=.func (.func 69) #[] #[]) (x:=(iI a)) (y:=pz) (own:=[(z,.cells #[.func (.func 68) #[.int .i64 a] #[],.func (.func 69) #[] #[]] 116)]) X (by simp[lk]) rfl ⟨68,#[.int .i64 a],#[],rfl,⟨by simp only[go_sem],fun bj bl N _ _ _ _ _ O P Q R h=>by simp only[go_sem];exact xl a N ⟨O,P,Q,R⟩ h⟩⟩ ⟨69,#[],#[],rfl,⟨by simp only[go_sem],fun bj bl N _ _ _ _ _ O P Q R h=>by simp only[go_sem];exact IL N ⟨O,P,Q,R⟩ h⟩⟩)
 generalize b7 ro z (.cells #[.func (.func 68) #[.int .i64 a] #[],.func (.func 69) #[] #[]] 116)=cb at ad M B ab;refine ie hJ ab ?_;replace D:=D.mono B;replace c:=M.hd;replace L:=L.mono B;simp only[bE] at M;have bm:=bh.tl Z;refine cm hJ _ (ko L u0 D ([(iI a),pz]) ad bd) fun v ae al ao k=>?_;obtain ⟨E,F,G,H,I,rfl,d,q⟩:=k;have bo:=d.oc;simp only[bV] at bo;have br:=q.oc;simp only[bV] at br;replace c:=ao.hd;simp only[bE] at ao;apply aP;apply ag _;refine az fun J f ar=>?_;have cd:=bh.cons ar bm;try simp only[av] at ar
 refine ah hJ (aC hJ ?_);apply ag _;revert h;refine aT hJ (fun bs h=>?_) fun bs h=>?_
 .cases h;apply ay hJ _;refine b9 ?_;exact ⟨_,(B).trans al,Le.sub (List.nil_sublist _),_,rfl,aI.nil _ _⟩
 refine aO hJ (ah hJ ?_);refine aD hJ fun bz=>?_;refine cV hJ mixed 4 2 aM aj ?_;revert h;refine bS fun b0 b1 h=>?_;apply ag _;refine az fun C a0 a2=>?_;have a3:=bh.cons a2 bz;try simp only[av] at a2
 apply ag _;obtain ⟨m,K,a4⟩:=fG (b:=C) (o:=(.cells #[.slice none 0 0] 35)) [] ((J,kn n.1 E F G H I)::(w,bk u0 s1 g i j)::[]) a3 a0 (aJ.cons f (aJ.cons c (aJ.nil _)));have a5:aI (rL rI) (b7 ae C (.cells #[.slice none 0 0] 35)) (.slice (some ⟨C,0,none⟩) 1 1) [([]:(List Int))]:=(aI.one (r:=(rL rI)) (e:=35) (cs:=#[.slice none 0 0]) (x:=([]:(List Int))) (own:=[(C,.cells #[.slice none 0 0] 35)]) a0 (by simp[lk]) ⟨_,rfl,aI.nil _ _⟩)
 generalize b7 ae C (.cells #[.slice none 0 0] 35)=cf at a5 K m a4;refine ie hJ a4 ?_;replace d:=d.mono m;replace q:=q.mono m;replace f:=K.hd;replace c:=K.tl.hd;simp only[bE] at K;have cl:=bh.tl a3;refine cm hJ _ (Cd n.1.book d ([([]:(List Int))]) a5 b1) fun v cy s S k=>?_;obtain ⟨cS,rfl,a6⟩:=k;replace d:=d.mono s;replace q:=q.mono s;replace f:=S.hd;replace c:=S.tl.hd;simp only[bE] at S;obtain ⟨d92,c0,rfl,da,db,-⟩:=id a6;have dd:=e7 (l:=[(J,kn n.1 E F G H I),(w,bk u0 s1 g i j)]) (m.trans s) (aJ.cons f (aJ.cons c (aJ.nil _)));refine ⟨aM,?_⟩;refine m4 ?_;revert h;refine bS fun b2 b3 h=>?_;apply ag _;refine tF _ (ES n.1 d.e d.p d.y d.t q a b0 a6 b3) fun v df T U k=>?_;obtain ⟨dk,rfl,a7⟩:=k;replace f:=U.hd;replace c:=U.tl.hd;simp only[bE] at U;obtain ⟨d111,dp,rfl,dq,ds,-⟩:=id a7;have dt:=e7 (l:=[(J,kn n.1 E F G H I),(w,bk u0 s1 g i j)]) ((m.trans s).trans T) (aJ.cons f (aJ.cons c (aJ.nil _)));refine ⟨aM,?_⟩;refine m4 ?_;revert h;refine bS fun du b4 h=>?_;cases h;apply ag _;refine cm hJ _ (IN b2 a7 b4) fun v dv a8 V k=>?_;obtain ⟨dC,rfl,a9⟩:=k;replace f:=V.hd;replace c:=V.tl.hd;simp only[bE] at V;obtain ⟨d124,dE,rfl,dT,ea,-⟩:=id a9;have eb:=e7 (l:=[(J,kn n.1 E F G H I),(w,bk u0 s1 g i j)]) (((m.trans s).trans T).trans a8) (aJ.cons f (aJ.cons c (aJ.nil _)));refine ⟨aM,?_⟩;refine m4 ?_;apply ag _;refine b9 ?_;exact ⟨_,(((((B).trans al).trans m).trans s).trans T).trans a8,Le.sub (List.nil_sublist _),_,rfl,a9⟩
def z3 (u0:an)(c:Int)(a:(dh×Int))(st:(Bool×Int×(List (List Int))×Int)):Option (Fl (Bool×Int×(List (List Int))×Int) ((List Int)×Bool×Int)):=
 cond (decide (st.2.2.2<(IntKind.i64.wrap ((IntKind.i64.wrap (3 - (u0.props.length:Int)))+1)))) (ai (vI a.1 c st.2.2.1) fun b=>cond (decide (0<(b.length:Int))) (ai (bt b 0) fun d=>some (.rt (d,true,0))) (ai (uv a.1.book st.2.2.1) fun e=>some (.nx (st.1,st.2.1,e,(IntKind.i64.wrap (st.2.2.2+1)))))) (some (.bk (st.1,st.2.1,st.2.2.1,st.2.2.2)))
def z4 (u0:an)(b:Int):Option ((List Int)×Bool×Int):=
 ai (fW u0 ([(iI b)])) fun a=>cond ((a.2 != 0)) (some (([]:(List Int)),false,a.2)) (ai (aY (z3 u0 b a) fu (false,a.2,([([]:(List Int))]),0)) fun o=>aG o (fun c=>some (([]:(List Int)),false,0)) (fun _ _=>none) (fun r=>some r))
theorem Mr {ro:Addr->Option Value}(K:dM ro)(u0:an){s1 S k l:Value}(n:bO ro u0 s1 S k l)(a:Int){r:((List Int)×Bool×Int)}(h:z4 u0 a=some r):qS Tryz.prog 13 #[bv u0 s1 S k l,.int .i64 a] ro (fun v aW=>∃T,v= .tuple #[T,.bool r.2.1,.int .i64 r.2.2]/\aI rI aW T r.1):=by
 obtain ⟨d10,L,rfl,ed,eh,-⟩:=id n.p;unfold z4 at h;have bm:=n.oc;simp only[bV] at bm;refine gq.go Tryz.func13 rfl Tryz.ntmps13 Tryz.results13 ax fun Φ hJ A bo hd hs=>?_;have br:=hs 0;have k1:=hs 1;clear hs;apply ay hJ _;refine az fun M C bs=>?_;try simp only[av] at bs
 apply ah hJ;refine aD hJ fun bz=>?_;apply aR hJ;revert h;refine bS fun f b0 h=>?_;apply ag _;refine az fun q U V=>?_;have W:=bh.cons V bz;try simp only[av] at V
 obtain ⟨g,N,X⟩:=fG (b:=q) (o:=(.cells #[.func (.func 68) #[.int .i64 a] #[]] 116)) [] ((M,bk u0 s1 (sl d10 u0.props L) k l)::[]) W U (aJ.cons C (aJ.nil _));have Y:aI (dx) (b7 ro q (.cells #[.func (.func 68) #[.int .i64 a] #[]] 116)) (.slice (some ⟨q,0,none⟩) 1 1) [(iI a)]:=(aI.one (r:=(dx)) (e:=116) (cs:=#[.func (.func 68) #[.int .i64 a] #[]]) (x:=(iI a)) (own:=[(q,.cells #[.func (.func 68) #[.int .i64 a] #[]] 116)]) U (by simp[lk]) ⟨68,#[.int .i64 a],#[],rfl,⟨by simp only[go_sem],fun et ev b1 _ _ _ _ _ b2 b3 b4 b5 h=>by simp only[go_sem];exact xl a b1 ⟨b2,b3,b4,b5⟩ h⟩⟩)
 generalize b7 ro q (.cells #[.func (.func 68) #[.int .i64 a] #[]] 116)=eQ at Y N g X;refine ie hJ X ?_;replace n:=n.mono g;replace C:=N.hd;replace K:=K.mono g;simp only[bE] at N;have ca:=bh.tl W;refine cm hJ _ (ko K u0 n ([(iI a)]) Y b0) fun v Z O ab s=>?_;obtain ⟨ad,ae,al,ao,ar,rfl,c,i⟩:=s;have cb:=c.oc;simp only[bV] at cb;have cd:=i.oc;simp only[bV] at cd;replace C:=ab.hd;simp only[bE] at ab;apply aP;apply ag _;refine az fun a0 cf a2=>?_;have eS:=bh.cons a2 ca;try simp only[av] at a2
 refine ah hJ (aC hJ ?_);apply ag _;revert h;refine aT hJ (fun cl h=>?_) fun cl h=>?_
 .cases h;apply ay hJ _;refine b9 ?_;exact ⟨_,(g).trans O,Le.sub (List.nil_sublist _),_,rfl,aI.nil _ _⟩
 refine aO hJ (ah hJ ?_);refine aD hJ fun cy=>?_;apply aF hJ _;refine az fun j a3 a4=>?_;have e0:=bh.cons a4 cy;try simp only[av] at a4
 refine ah hJ (aC hJ ?_);apply ag _;refine aD hJ fun a5=>?_;obtain ⟨u,a6,a7⟩:=fG (b:=j) (o:=(.cells #[.slice none 0 0] 35)) [] ((a0,kn f.1 ad ae al ao ar)::(M,bk u0 s1 (sl d10 u0.props L) k l)::[]) a5 a3 (aJ.cons cf (aJ.cons C (aJ.nil _)));clear a5;have P:aI (rL rI) (b7 Z j (.cells #[.slice none 0 0] 35)) (.slice (some ⟨j,0,none⟩) 1 1) [([]:(List Int))]:=(aI.one (r:=(rL rI)) (e:=35) (cs:=#[.slice none 0 0]) (x:=([]:(List Int))) (own:=[(j,.cells #[.slice none 0 0] 35)]) a3 (by simp[lk]) ⟨_,rfl,aI.nil _ _⟩)
 generalize b7 Z j (.cells #[.slice none 0 0] 35)=a8 at u a6 a7 P;refine cH hJ a7 ?_;obtain ⟨e1,e2,-⟩:=P.op;replace c:=c.mono u;replace i:=i.mono u;simp only[bE] at a6;apply aV hJ;revert h;refine bS fun cS D a9=>?_;refine bY hJ (rg 27 17 [4,5,6,8,9]) (fun m E F'=>∃(F:Addr->Option Value) (d98:Option Addr) (Q:Nat) (G:Bool) (H:Int) (d:(List (List Int))) (I:Int),aY (z3 u0 a f) m (G,H,d,I)=some cS/\F'=⟨F,(a0,kn f.1 ad ae al ao ar)::(M,bk u0 s1 (sl d10 u0.props L) k l)::[]⟩/\Ext a8 F/\aI (rL rI) F (.slice d98 d.length Q) d/\slot E 5= .bool G/\slot E 6= .int .i64 H/\slot E 8= .slice d98 d.length Q/\slot E 27= .int .i64 I) fu ?_ ?_
 .refine ⟨a8,(some ⟨j,0,none⟩),1,false,f.2,([([]:(List Int))]),0,D,rfl,Ext.refl _,P,?_⟩;simp only[*,go_sem]
 rintro R e3 F' ba ⟨F,d98,Q,G,H,d,I,D,rfl,w,z,fa,fb,fg,fi⟩;refine fH hJ fun _ c0=>?_;replace c:=c.mono w;replace i:=i.mono w;simp only[bE] at c0;obtain ⟨fp,fr,-⟩:=z.op;obtain ⟨da,db,dd⟩:=ba.pick [1,7,26] aB;simp only[*,go_sem] at da db dd;clear ba bo hd br k1;obtain _|R:=R
 .exact absurd D (by simp only[aY,reduceCtorEq,not_false_eq_true])
 revert D;refine bS fun fs h B=>?_;unfold z3 at h;try dsimp only at h
 apply ay hJ _;apply ah hJ;revert h;refine aT hJ (fun df h=>?_) fun df h=>?_
 .refine aO hJ (ah hJ ?_);refine aV hJ (ah hJ ?_);apply aC hJ;revert h;refine bS fun ft dk h=>?_;apply ag _;refine tF _ (ES f.1 c.e c.p c.y c.t i a d z dk) fun v fv J dp s=>?_;obtain ⟨fw,rfl,bb⟩:=s;replace z:=z.mono J;replace c:=c.mono J;simp only[bE] at dp;obtain ⟨d121,fx,rfl,fz,gg,-⟩:=id bb;apply aP;apply ag _;apply ay hJ _;revert h;refine aT hJ (fun dq h=>?_) fun dq h=>?_
  .apply aC hJ;revert h;refine bS fun gl ds h=>?_;cases h;obtain ⟨gn,gp,bc⟩:=cv ds;obtain ⟨gB,gC,dt,du,bd⟩:=bb.el _ _ bc;obtain ⟨gM,rfl,bj⟩:=du;obtain ⟨d130,gT,rfl,gV,g0,g1⟩:=id bj;cases dt;have dv:=bd 0 _ rfl;simp only[go_sem] at dv;clear bd bc;apply ag _;obtain rfl:=sI B;clear B;have h:=a9;dsimp only[aG] at h;cases h;refine b9 ?_;exact ⟨_,((((g).trans O).trans u).trans w).trans J,Le.sub (List.nil_sublist _),_,rfl,bj⟩
  refine aO hJ (aR hJ ?_);revert h;refine bS fun dC dE h=>?_;cases h;apply ag _;refine cm hJ _ (Cd f.1.book c d z dE) fun v dT ea eb s=>?_;obtain ⟨g2,rfl,bl⟩:=s;simp only[bE] at eb;obtain ⟨d144,ec,rfl,g3,g4,-⟩:=id bl;apply aP;apply ag _;apply aF hJ _;refine ⟨R,Nat.lt_succ_self _,_,Le.sub (List.Sublist.refl _),dT,d144,ec,G,H,dC,(IntKind.i64.wrap (I+1)),B,rfl,(w.trans (J.trans ea)),bl,?_⟩;simp only[*,go_sem]
 cases h;apply bR;simp only[go_sem];obtain rfl:=sI B;clear B;have h:=a9;dsimp only[aG] at h;cases h;apply ay hJ _;refine b9 ?_;exact ⟨_,(((g).trans O).trans u).trans w,Le.sub (List.nil_sublist _),_,rfl,aI.nil _ _⟩
def z5 (a:(Int×Int×Int))(e:(an×Int))(b:((List Int)×Int))(f:(an×Int))(g:(an×Int))(c:(Int×Int))(d:((List Int)×Int)):Option Bool:=
 cond ((a.2.2==0)) (cond ((e.2==0)) (cond ((b.2==0)) (cond ((f.2==9)) (cond ((g.2==0)) (cond ((c.2==0)) (cond ((d.2==0)) (cond ((a.1==0)) (cond ((a.2.1==2)) (ai (nD b.1 ([11,12])) fun h=>cond (h) (cond ((c.1==2)) (ai (nD d.1 ([1])) fun i=>some i) (some false)) (some false)) (some false)) (some false)) (some false)) (some false)) (some false)) (some false)) (some false)) (some false)) (some false)
def z6 (a:an):Option Bool:=
 ai (ym a) fun d=>ai (nN 0 true) fun e=>ai (uF a e) fun b=>ai (jJ b.1 0) fun f=>ai (nN 1 true) fun g=>ai (uF a g) fun h=>ai (rM 12 12) fun i=>ai (yo a 0 i) fun c=>ai (ku c.1) fun j=>ai (nN 0 true) fun k=>ai (rO a k) fun l=>ai (nN 1 true) fun m=>ai (rO l m) fun n=>ai (nN 0 false) fun o=>ai (rO n o) fun p=>ai (yy p) fun q=>z5 d b f h c j q
def z7 (d:an)(f:(Int×Int))(g:(Int×Int))(h:(Int×Int))(i:(Int×Int))(b:(Int×au×Int))(c:(Int×au×Int))(a:(au×au×Bool×Int)):Option Bool:=
 ai (z2 d 2) fun j=>ai (z4 d 2) fun e=>cond ((f.2 != 0)) (some false) (cond ((g.2 != 0)) (some false) (cond ((h.2 != 0)) (some false) (cond ((i.2 != 0)) (some false) (cond ((b.2.2 != 0)) (some false) (cond ((c.2.2 != 0)) (some false) (cond ((a.2.2.2 != 0)) (some false) (cond ((j.2 != 0)) (some false) (cond ((e.2.2 != 0)) (some false) (cond ((f.1 != 0)) (some false) (cond ((g.1 != 2)) (some false) (cond ((h.1 != 0)) (some false) (cond ((i.1 != 1)) (some false) (cond ((b.1 != 0)) (some false) (ai (gX 1 1) fun k=>cond (!((b.2.1.num==k.num)&&(b.2.1.den==k.den))) (some false) (cond ((c.1 != (-1))) (some false) (ai (gX 0 1) fun l=>cond (!((c.2.1.num==l.num)&&(c.2.1.den==l.den))) (some false) (cond (!a.2.2.1) (some false) (ai (gX 3 2) fun m=>cond (!((a.1.num==m.num)&&(a.1.den==m.den))) (some false) (ai (gX 3 2) fun n=>cond (!((a.2.1.num==n.num)&&(a.2.1.den==n.den))) (some false) (ai (nD j.1 ([11,12,13,14])) fun o=>cond (!o) (some false) (cond (!e.2.1) (some false) (ai (nD e.1 ([11])) fun p=>cond (!p) (some false) (z6 d)))))))))))))))))))))))
def z8 (a:an)(b:an):Option Bool:=
 ai (k7 a 0) fun c=>ai (k7 a 1) fun d=>ai (ku a) fun e=>ai (ku b) fun f=>ai (kz a) fun g=>ai (kz b) fun h=>ai (yA a) fun i=>z7 a c d e f g h i
def z9 (b:an)(s:an)(g:(au×Int))(c:(Int×au×Int))(h:(au×Int))(d:(au×Bool×Int))(e:(au×Bool×Int))(f:(au×Bool×Int)):Option Bool:=
 ai (mh b) fun i=>ai (jJ b 0) fun j=>ai (k8 b 0) fun a=>cond ((g.2 != 0)) (some false) (cond ((c.2.2 != 0)) (some false) (cond ((h.2 != 0)) (some false) (cond ((d.2.2 != 0)) (some false) (cond ((e.2.2 != 0)) (some false) (cond ((f.2.2 != 0)) (some false) (cond ((i.2 != 0)) (some false) (cond ((j.2 != 0)) (some false) (cond ((a.2.2 != 0)) (some false) (ai (gX 13 4) fun k=>cond (!((g.1.num==k.num)&&(g.1.den==k.den))) (some false) (cond ((c.1 != 2)) (some false) (ai (gX 11 8) fun l=>cond (!((c.2.1.num==l.num)&&(c.2.1.den==l.den))) (some false) (ai (gX 1 4) fun m=>cond (!((h.1.num==m.num)&&(h.1.den==m.den))) (some false) (ai (gX 24 13) fun n=>cond (!((d.1.num==n.num)&&(d.1.den==n.den))) (some false) (cond (!d.2.1) (some false) (ai (gX 2 13) fun o=>cond (!((e.1.num==o.num)&&(e.1.den==o.den))) (some false) (cond (e.2.1) (some false) (ai (gX 1 1) fun p=>cond (!((f.1.num==p.num)&&(f.1.den==p.den))) (some false) (cond (!f.2.1) (some false) (cond ((i.1 != 3)) (some false) (ai (nD j.1 ([10,11,12])) fun t=>cond (!t) (some false) (ai (gX 1 4) fun q=>cond (!((a.1.num==q.num)&&(a.1.den==q.den))) (some false) (ai (gX 1 1) fun r=>cond (!((a.2.1.num==r.num)&&(a.2.1.den==r.den))) (some false) (z8 b s)))))))))))))))))))))))
def oz :Option Bool:=
 ai (yH) fun a=>ai (yG a ([11]) 2) fun b=>ai (xC a 5) fun c=>ai (nM 2 11) fun d=>ai (xD a d) fun e=>ai (nM 2 10) fun f=>ai (xE a f) fun g=>ai (nM 2 12) fun h=>ai (xF b h) fun i=>ai (nM 2 12) fun j=>ai (um b j) fun k=>ai (nM 2 12) fun l=>ai (um a l) fun m=>z9 a b c e g i k m
theorem vJ:oz=some true:=by decide+kernel
end Go.Proofs.YtbpddfapodiemaaGreatDoor
end

/- A part of the proof: QQ10. -/
import Derived.Test.YtnaejeiofbpbkaaGreatDoorQQ9
import Derived.Conc.AtomicLaws2
import Derived.Conc.WgArith
set_option linter.all false
section
namespace Go.Sep
open Go Go.Conc
open Go.ConcN (sumTo upd upd_ne upd_same)
open Go.ConcM (MuAt muA msA muBlock OsLater)
open Go.ConcR (WgAt wgBlock stA smA)
section
variable {c:Cy}{i:Nat}{ph:Ph}{ops:Array Oper}{j n:Nat}{Q:Act->aa->Ph->Prop}{a:Act}{F:aa}{f fi:FuncId}{d:Option Tmp}
theorem dP {s:Sh}:s.ms<=s.ms/\s.ws<=s.ws:=⟨Int.le_refl _,Int.le_refl _⟩
theorem zN (g:Entry c.P f (fun _=>do mark .disable;pure Extern.Race.none_)){vals:List Value}(l:At ops j a f vals d)(h1:ph.gp≠ .gone)(h2:ph.gp≠ .new)
  (h:ai (WJ c i) fi ops (j+1) n Q (bf a d (.tuple #[])) F {ph with deaf:=ph.deaf+1}):ai (WJ c i) fi ops j (n+1) Q a F ph:=by
 obtain ⟨o,cB,dy,e,hg,m,_,rfl⟩:=l
 refine fL e h1 fun w s k φ p0 _ hs hi he p=>.inr ⟨.tuple #[],w,_,s,_,fun b q cs hb=>?_,hs,.refl _ _,p.EF hi he h2 _,LC,.inr dP,h⟩
 obtain ⟨fn,f1,f2,f3,f4,f5⟩:=g.ex
 exact stepG_mark0 .disable (by simp) e (cg hg) hb.kind m f1 f2 f3 f4 f5
theorem vC (l:Entry c.P f (fun _=>do mark .enable;pure Extern.Race.none_)){vals:List Value}(m:At ops j a f vals d)(h1:ph.gp≠ .gone)(h2:ph.gp≠ .new){e:Nat}(hd:ph.deaf=e+1)
  (h:ai (WJ c i) fi ops (j+1) n Q (bf a d (.tuple #[])) F {ph with deaf:=e}):ai (WJ c i) fi ops j (n+1) Q a F ph:=by
 obtain ⟨o,cB,dy,g,hg,p,_,rfl⟩:=m
 refine fL g h1 fun w s k φ p0 _ hs hi he q=>.inr ⟨.tuple #[],w,_,s,_,fun b r cs hb=>?_,hs,.refl _ _,q.EF hi he h2 _,LD hd,.inr dP,h⟩
 obtain ⟨fn,f1,f2,f3,f4,f5⟩:=l.ex
 exact stepG_mark0 .enable (by simp) g (cg hg) hb.kind p f1 f2 f3 f4 f5
theorem p9 {k:Nat}{φ:Nat->Ph}{p0:P0}{s:Sh}(he:φ i=ph)(a:Inv c.n c.bs k φ p0 s):Inv c.n c.bs k (upd φ i ph) p0 s:=by rw[<-he,zI];exact a
theorem EG (g:Entry c.P f (Extern.Race.marked .acquire))(l:At ops j a f [.pointer (some (muA c.Mu))] d)(h1:ph.gp= .cnt)
  (h:ai (WJ c i) fi ops (j+1) n Q (bf a d (.tuple #[])) F ph):ai (WJ c i) fi ops j (n+1) Q a F ph:=by
 obtain ⟨o,cB,dy,e,hg,m,p,rfl⟩:=l
 obtain ⟨x,rfl,q⟩:=kN p
 refine fL e (by rw[h1];simp) fun w s k φ p0 _ hs hi he r=>.inr ⟨.tuple #[],w,_,s,ph,fun b t cs hb=>?_,hs,.refl _ _,p9 he r,.word (.acquire (muA c.Mu)) rfl (.inl rfl) rfl ⟨h1,h1⟩,.inr dP,h⟩
 obtain ⟨fn,f1,f2,f3,f4,f5⟩:=g.ex
 exact stepG_markAt .acquire (by simp) e (cg hg) hb.kind m f1 f2 f3 f4 f5 (by simp[eN,q])
theorem LF (g:Entry c.P f (Extern.Race.marked .releaseMerge))(l:At ops j a f [.pointer (some (muA c.Mu))] d)(h1:ph.gp= .cnt)
  (h:ai (WJ c i) fi ops (j+1) n Q (bf a d (.tuple #[])) F ph):ai (WJ c i) fi ops j (n+1) Q a F ph:=by
 obtain ⟨o,cB,dy,e,hg,m,p,rfl⟩:=l
 obtain ⟨x,rfl,q⟩:=kN p
 refine fL e (by rw[h1];simp) fun w s k φ p0 _ hs hi he r=>.inr ⟨.tuple #[],w,_,s,ph,fun b t cs hb=>?_,hs,.refl _ _,p9 he r,.word (.releaseMerge (muA c.Mu)) rfl (.inr rfl) rfl ⟨h1,h1⟩,.inr dP,h⟩
 obtain ⟨fn,f1,f2,f3,f4,f5⟩:=g.ex
 exact stepG_markAt .releaseMerge (by simp) e (cg hg) hb.kind m f1 f2 f3 f4 f5 (by simp[eN,q])
theorem LG (p:Entry c.P f (Extern.Race.marked .releaseMerge))(q:At ops j a f [.pointer (some (stA c.Wg))] d)(h1:ph.gp= .cnt)
  (hd:ph.deaf=0) (r:ph.mp= .idle\/ph.mp= .fin) (t:ph.stored=c.bs i)
  (h:ai (WJ c i) fi ops (j+1) n Q (bf a d (.tuple #[])) F {mp:=.fin,gp:=.rel,stored:=ph.stored,deaf:=0}):ai (WJ c i) fi ops j (n+1) Q a F ph:=by
 obtain ⟨o,cB,dy,l,hg,u,v,rfl⟩:=q
 obtain ⟨x,rfl,y⟩:=kN v
 refine fL l (by rw[h1];simp) fun w s k φ p0 _ hs hi he g=>.inr ⟨.tuple #[],w,_,s,{mp:=.fin,gp:=.rel,stored:=ph.stored,deaf:=0},fun b z cs hb=>?_,hs,.refl _ _,?_,.rel rfl ⟨hd,rfl⟩ h1,.inr dP,h⟩
 .obtain ⟨fn,f1,f2,f3,f4,f5⟩:=p.ex
  exact stepG_markAt .releaseMerge (by simp) l (cg hg) hb.kind u f1 f2 f3 f4 f5 (by simp[eN,y])
 .obtain ⟨C,S,W,L,m,hm⟩:=g.m
  refine g.kK hi he (by rw[h1];simp) (by simp) ⟨C,S,W,L,m,n9 hm hi _ ?_⟩ (vp g.w hi _ (.inr ⟨by rw[he];exact h1,rfl⟩)) ?_ (fun _=>⟨t,rfl⟩)
  .rw[he];rcases r with e|e
   .exact .inr ⟨e,rfl⟩
   .exact .inl e.symm
  .have:=g.i.all i hi
   rw[he] at this
   exact (zM this).symm
theorem vD (old nw:Int)(G:Entry c.P f (Extern.Atomic.casT (.int .i32)))(aG:c.Mu≠c.Wg/\c.Mu≠c.Is/\c.Wg≠c.Is)(H:At ops j a f [.pointer (some (muA c.Mu)),.int .i32 old,.int .i32 nw] d)
  (h1:ph.gp= .cnt) (h0:0<ph.deaf)
  (I:∀φ ms C S W L m,φ i=ph->i<c.n->cu c.n φ old ms C S W L m->∃mp,(∃e g h l p,cu c.n (upd φ i {ph with mp:=mp}) nw ms e g h l p)/\ai (WJ c i) fi ops (j+1) n Q (bf a d (.bool true)) F {ph with mp:=mp})
  (J:∀φ mu ms C S W L m,φ i=ph->i<c.n->cu c.n φ mu ms C S W L m->mu≠old->∃mp,(∃e g h l p,cu c.n (upd φ i {ph with mp:=mp}) mu ms e g h l p)/\ai (WJ c i) fi ops (j+1) n Q (bf a d (.bool false)) F {ph with mp:=mp}):ai (WJ c i) fi ops j (n+1) Q a F ph:=by
 obtain ⟨o,cB,dy,q,hg,A,K,rfl⟩:=H
 obtain ⟨x,y,z,rfl,B,D,E⟩:=sB K
 obtain ⟨fn,f1,f2,f3,f4,f5⟩:=G.ex
 refine fL q (by rw[h1];simp) fun w s k φ p0 _ hs hi he r=>.inr ?_
 obtain ⟨C,S,W,L,m,hm⟩:=r.m
 by_cases t:s.mu=old
 .subst t
  obtain ⟨mp,u,v⟩:=I φ s.ms C S W L m he hi hm
  exact ⟨.bool true,_,_,{s with mu:=nw},{ph with mp:=mp},fun b M cs hb=>stepG_cas_hit q (cg hg) hb.kind A f1 f2 f3 f4 .i32 f5 B D E hs.mu.1 hs.mu.2,hs.EC aG nw,.set _ (.inl rfl),r.mutex hi he h1 u,zK rfl Iff.rfl h0 (.inr ⟨rfl,h1⟩),.inr dP,v⟩
 .obtain ⟨mp,u,v⟩:=J φ s.mu s.ms C S W L m he hi hm t
  exact ⟨.bool false,_,_,{s with mu:=s.mu},{ph with mp:=mp},fun b M cs hb=>stepG_cas_miss q (cg hg) hb.kind A f1 f2 f3 f4 .i32 f5 B D E hs.mu.1 hs.mu.2 t,hs,.refl _ _,r.mutex hi he h1 u,zJ false rfl Iff.rfl h0 (.inr ⟨rfl,h1⟩),.inr dP,v⟩
theorem zO (dl:Int)(p:Entry c.P f (Extern.Atomic.update (Op.intArith .add) .i32 true))(aG:c.Mu≠c.Wg/\c.Mu≠c.Is/\c.Wg≠c.Is)(q:At ops j a f [.pointer (some (muA c.Mu)),.int .i32 dl] d)
  (h1:ph.gp= .cnt) (h0:0<ph.deaf)
  (h:∀φ mu ms C S W L m,φ i=ph->i<c.n->cu c.n φ mu ms C S W L m->∃mp nw,IntKind.i32.wrap (mu+dl)=nw/\(∃r t u v z,cu c.n (upd φ i {ph with mp:=mp}) nw ms r t u v z)/\ai (WJ c i) fi ops (j+1) n Q (bf a d (.int .i32 nw)) F {ph with mp:=mp}):
  ai (WJ c i) fi ops j (n+1) Q a F ph:=by
 obtain ⟨o,cB,dy,g,hg,A,B,rfl⟩:=q
 obtain ⟨x,y,rfl,D,E⟩:=sA B
 obtain ⟨fn,f1,f2,f3,f4,f5⟩:=p.ex
 refine fL g (by rw[h1];simp) fun w s k φ p0 _ hs hi he l=>.inr ?_
 obtain ⟨C,S,W,L,m,hm⟩:=l.m
 obtain ⟨mp,nw,e,G,H⟩:=h φ s.mu s.ms C S W L m he hi hm
 exact ⟨.int .i32 nw,_,_,{s with mu:=nw},{ph with mp:=mp},fun b I cs hb=>by rw[<-e];exact stepG_add_atomic g (cg hg) hb.kind A f1 f2 f3 f4 .i32 f5 D E hs.mu.1 hs.mu.2,by rw[<-e];exact hs.EC aG _,.set _ (.inl rfl),l.mutex hi he h1 G,zK rfl Iff.rfl h0 (.inr ⟨rfl,h1⟩),.inr dP,H⟩
theorem qa {ty:TypeId}(l:(c.P.funcs[fi]?).any (·.norace)=true)(e:c.P.underlying ty=some (.int .i32)){x:Operand}(p:ob ops j a (.load ty x) d)(h1:ph.gp= .cnt)(q:ev a x= .pointer (some (muA c.Mu)))
  (h:∀φ mu ms C S W L m,φ i=ph->i<c.n->cu c.n φ mu ms C S W L m->∃mp,(∃r t u v y,cu c.n (upd φ i {ph with mp:=mp}) mu ms r t u v y)/\ai (WJ c i) fi ops (j+1) n Q (bf a d (.int .i32 mu)) F {ph with mp:=mp}):
  ai (WJ c i) fi ops j (n+1) Q a F ph:=by
 obtain ⟨o,f,hg,z,rfl⟩:=p
 refine fL f (by rw[h1];simp) fun w s k φ p0 _ hs hi he g=>.inr ?_
 obtain ⟨C,S,W,L,m,hm⟩:=g.m
 obtain ⟨mp,A,B⟩:=h φ s.mu s.ms C S W L m he hi hm
 have e1:execOp a.eval o=(do pure (.value (<-loadVar ty (muA c.Mu))):Sem Next):=by
  unfold execOp
  simp only[z,eN,q]
  rfl
 have D:(execOp a.eval o).run c.P w= .ok (.value (.int .i32 s.mu)) w:=by
  rw[e1]
  have:=hs.mu.1
  simp[loadVar,isAgg,run_underlying e,this]
 have E:(execOp a.eval o).events c.P w #[]=#[⟨.cell (muA c.Mu),false,false⟩]:=by
  rw[e1]
  have:=hs.mu.1
  simp[loadVar,isAgg,run_underlying e,events_load,this]
 have G:seen c.P fi #[⟨.cell (muA c.Mu),false,false⟩]=#[]:=by rw[seen_def];simp[seenStep,l]
 refine ⟨.int .i32 s.mu,w,#[],{s with mu:=s.mu},{ph with mp:=mp},fun b H cs hb=>?_,hs,.refl _ _,g.mutex hi he h1 A,od rfl Iff.rfl,.inr dP,B⟩
 rw[stepG_value f (cg hg) hb.kind D]
 unfold listed
 rw[E,hb.fn,G]
end
section
variable {c:Cy}{i:Nat}{ph:Ph}{ops:Array Oper}{j n:Nat}{Q:Act->aa->Ph->Prop}{a:Act}{F:aa}{f fi:FuncId}{d:Option Tmp}
theorem LH (r t:Value)(u:Entry c.P f Extern.Sync.semacquire)(aG:c.Mu≠c.Wg/\c.Mu≠c.Is/\c.Wg≠c.Is)(v:At ops j a f [.pointer (some (msA c.Mu)),r,t] d)
  (h1:ph.gp= .cnt) {G:Nat} (hm:ph.mp= .jf G) (h:ai (WJ c i) fi ops (j+1) n Q (bf a d (.tuple #[])) F {ph with mp:=.kI G}):ai (WJ c i) fi ops j (n+1) Q a F ph:=by
 obtain ⟨o,cB,dy,e,hg,g,A,rfl⟩:=v
 obtain ⟨x,y,z,rfl,l,_,_⟩:=sB A
 obtain ⟨fn,f1,f2,f3,f4,f5⟩:=u.ex
 refine fL e (by rw[h1];simp) fun w s k φ p0 _ hs hi he p=>?_
 by_cases h0:s.ms=0
 .refine .inl ⟨by rw[hm];rfl,h0,fun b B cs=>stepG_semacquire_wait e (cg hg) g f1 f2 f3 f4 f5 (ad:=msA c.Mu) (by simp[eN,l]) (by rw[hs.ms.1,h0])⟩
 .obtain ⟨C,S,W,L,m,q⟩:=p.m
  have D:=q.cnt
  refine .inr ⟨.tuple #[],_,_,{s with ms:=s.ms - 1},{ph with mp:=.kI G},fun b B cs hb=>stepG_semacquire e (cg hg) hb.kind g f1 f2 f3 f4 f5 (by simp[eN,l]) hs.ms.1 h0 hs.ms.2,hs.ED aG _,.set _ (.inl rfl),
   p.mutex hi he h1 ⟨C,S,W,L,m - 1,KL q hi _ (by rw[he];exact hm) rfl (by omega)⟩,zL rfl Iff.rfl (.inr ⟨rfl,h1⟩),.inr ⟨by simp only;omega,Int.le_refl _⟩,h⟩
theorem EH (t u:Value)(l:Entry c.P f Extern.Sync.semrelease)(aG:c.Mu≠c.Wg/\c.Mu≠c.Is/\c.Wg≠c.Is)(v:At ops j a f [.pointer (some (msA c.Mu)),t,u] d)
  (h1:ph.gp= .cnt) (hm:ph.mp= .pU\/ph.mp= .pV) (h:ai (WJ c i) fi ops (j+1) n Q (bf a d (.tuple #[])) F {ph with mp:=.fin}):ai (WJ c i) fi ops j (n+1) Q a F ph:=by
 obtain ⟨o,cB,dy,p,hg,q,A,rfl⟩:=v
 obtain ⟨x,y,z,rfl,g,_,_⟩:=sB A
 obtain ⟨fn,f1,f2,f3,f4,f5⟩:=l.ex
 refine fL p (by rw[h1];simp) fun w s k φ p0 _ hs hi he r=>.inr ?_
 obtain ⟨C,S,W,L,m,e⟩:=r.m
 have D:=e.cnt
 have hb:=e.st.w
 have E:=e.st.s
 have G:m<=1:=by
  rcases Nat.lt_or_ge S 1 with y|y
  .have:=e.norm (by omega);omega
  .have:=e.gy (by omega);omega
 have B:IntKind.u32.wrap (s.ms+1)=s.ms+1:=by
  unfold IntKind.wrap
  simp[IntKind.bits,IntKind.signed]
  omega
 refine ⟨.tuple #[],_,_,{s with ms:=s.ms+1},{ph with mp:=.fin},fun b H cs hb=>stepG_semrelease p (cg hg) hb.kind q f1 f2 f3 f4 f5 (by simp[eN,g]) hs.ms.1 hs.ms.2,by rw[B];exact hs.ED aG _,.set _ (.inl rfl),
  r.mutex hi he h1 ⟨C,S,W,L,m+1,KR e hi _ (by rw[he];exact hm) rfl⟩,zL rfl Iff.rfl (.inr ⟨rfl,h1⟩),.inl ⟨_,q,fun x g=>?_⟩,h⟩
 cases g
 exact ⟨f,rfl,l.Es⟩
theorem EI (l:Entry c.P f Extern.OsHooks.nano)(e:(c.P.funcs[f]?).any (·.norace)=true){vals:List Value}(m:At ops j a f vals d)
  (h1:ph.gp≠ .gone) (h:∀x:Int,ai (WJ c i) fi ops (j+1) n Q (bf a d (.int .i64 x)) F ph):ai (WJ c i) fi ops j (n+1) Q a F ph:=by
 obtain ⟨o,cB,dy,g,hg,p,_,rfl⟩:=m
 obtain ⟨fn,f1,f2,f3,f4,f5⟩:=l.ex
 refine fL g h1 fun w s k φ p0 _ hs hi he q=>.inr ⟨_,w.later,#[],s,ph,fun b r cs hb=>stepG_nanotime g (cg hg) hb.kind p f1 f2 f3 f4 f5 (by rw[f1] at e;simpa using e),hs,⟨rfl,rfl,rfl,⟨w.tick,rfl⟩,fun _ _=>rfl⟩,p9 he q,od rfl Iff.rfl,.inr dP,h _⟩
theorem LI (it:Int)(m:Entry c.P f Extern.Sync.canSpin)(p:At ops j a f [.int .i64 it] d)
  (h1:ph.gp≠ .gone) (h:∀t:Bool,(t=true->it<4)->ai (WJ c i) fi ops (j+1) n Q (bf a d (.bool t)) F ph):ai (WJ c i) fi ops j (n+1) Q a F ph:=by
 obtain ⟨o,cB,dy,e,hg,g,q,rfl⟩:=p
 obtain ⟨x,rfl,r⟩:=kN q
 obtain ⟨fn,f1,f2,f3,f4,f5⟩:=m.ex
 have hm:(#[x]:Array Operand).map a.eval=#[.int .i64 it]:=by simp[eN,r]
 refine fL e h1 fun w s k φ p0 _ hs hi he l=>.inr ?_
 by_cases u:4<=it
 .exact ⟨_,w,#[],s,ph,fun b v cs hb=>stepG_canSpin_no e (cg hg) hb.kind g f1 f2 f3 f4 f5 hm u,hs,.refl _ _,p9 he l,od rfl Iff.rfl,.inr dP,h false (by simp)⟩
 .exact ⟨_,w.asked,#[],s,ph,fun b v cs hb=>stepG_canSpin_ask e (cg hg) hb.kind g f1 f2 f3 f4 f5 hm (by omega),hs,⟨rfl,rfl,rfl,.refl _,fun _ _=>rfl⟩,p9 he l,od rfl Iff.rfl,.inr dP,h _ (fun _=>by omega)⟩
end
theorem ai.entry {P:Program}{main:Bool}{S:Type}{JF:S->Goroutine->aa->Prop}{fi f:FuncId}{ops:Array Oper}{j n:Nat}{Q:Act->aa->S->Prop}{a:Act}{F:aa}{ph:S}{d:Option Tmp}(v:Value)(e:eo P main (JF ph))(g:Entry P f (fun _=>pure v))
  {vals:List Value} (i:At ops j a f vals d) (h:ai JF fi ops (j+1) n Q (bf a d v) F ph):ai JF fi ops j (n+1) Q a F ph:=fun b c cs hb k=>by
 obtain ⟨fn,f1,f2,f3,f4,f5⟩:=g.ex
 obtain ⟨o,cB,dy,l,hg,m,_,rfl⟩:=i
 rw[List.range'_succ,eO hb.round]
 refine e.move (fr':=b.at (a.put o.dst v) (.inRegion ops (List.range' (j+1) n)::c)) (fun w=>stepG_entry_pure v l (cg hg) hb.kind m f1 f2 f3 f4 f5) (by rw[<-eO hb.round];exact h b c cs hb k)
section
variable {c:Cy}{i:Nat}{ph:Ph}{ops:Array Oper}{j n:Nat}{Q:Act->aa->Ph->Prop}{a:Act}{F:aa}{f fi:FuncId}{d:Option Tmp}
theorem vE (ad:Addr){src dst t:TypeId}(hs:c.P.underlying src=some (.pointer t))(hd:c.P.underlying dst=some .unsafePointer)(e:(c.P.info? t).map (fun i=>decide (i.size=0))=some false){x:Operand}
  (m:ob ops j a (.convert src dst x) d) (h1:ph.gp≠ .gone) (p:ev a x= .pointer (some ad)) (q:∀w s,cA c w s->∃v,w.cell? ad=some v) (h:ai (WJ c i) fi ops (j+1) n Q (bf a d (.pointer (some ad))) F ph):ai (WJ c i) fi ops j (n+1) Q a F ph:=by
 obtain ⟨o,f,hg,r,rfl⟩:=m
 refine fL f h1 fun w s k φ p0 _ g hi he u=>.inr ⟨_,w,#[],s,ph,fun b A cs hb=>?_,g,.refl _ _,p9 he u,od rfl Iff.rfl,.inr dP,h⟩
 obtain ⟨v,l⟩:=q w s g
 have e1:execOp a.eval o=(do pure (.value (<-convert src dst (.pointer (some ad)))):Sem Next):=by
  unfold execOp
  simp only[r,eN,p]
 have y:(execOp a.eval o).run c.P w= .ok (.value (.pointer (some ad))) w:=by
  rw[e1];simp[run_convert_to_unsafe hs hd e l]
 have z:(execOp a.eval o).events c.P w #[]=#[]:=by
  rw[e1];simp[events_convert_to_unsafe hs hd e l]
 rw[stepG_value f (cg hg) hb.kind y]
 unfold listed
 rw[z,seen_none]
theorem LJ {ty:TypeId}(H:c.P.underlying ty=some .bool)(v:bZ c.P ty=some 1)(z:(c.P.funcs[fi]?).any (·.norace)=false)(aG:c.Mu≠c.Wg/\c.Mu≠c.Is/\c.Wg≠c.Is){x y:Operand}
  (A:ob ops j a (.store ty x y) d) (h1:ph.gp= .cnt) (f:ev a x= .pointer (some ⟨c.Is,i,none⟩)) (g:ev a y= .bool true) (h:ai (WJ c i) fi ops (j+1) n Q (bf a d undef) F {ph with stored:=true}):ai (WJ c i) fi ops j (n+1) Q a F ph:=by
 obtain ⟨o,l,hg,p,rfl⟩:=A
 refine fL l (by rw[h1];simp) fun w s k φ p0 _ hs hi he e=>.inr ?_
 have hlen:=e.i.len
 have q:w.cell? ⟨c.Is,i,none⟩=some (.bool (s.is[i]'(by omega))):=by
  have:=hs.2.2
  simp[World.cell?,this,hlen,hi]
 have r:w.frozen? ⟨c.Is,i,none⟩=false:=by
  have:=hs.2.2
  simp[World.frozen?,this]
 have t:(sizeOf ty).run c.P w= .ok 1 w:=by
  obtain ⟨inf,h1,h2⟩:=Option.map_eq_some_iff.1 v
  simp[Go.sizeOf,typeInfo,h1,h2]
 have u:Instr.sureAddr (.pointer (some ⟨c.Is,i,none⟩))=(Pure.pure ⟨c.Is,i,none⟩:Sem Addr):=rfl
 have B:(execOp a.eval o).run c.P w= .ok .skip (w.setCell ⟨c.Is,i,none⟩ (.bool true)):=by
  unfold execOp
  simp only[p,eN,f,g]
  simp[Instr.storeAt,u,storeVar,t,Value.cells,storeCells,Addr.add,q,r,run_store c.P w ⟨c.Is,i,none⟩ (.bool true) .plain rfl,Result.andThen]
 have D:(execOp a.eval o).events c.P w #[]=#[⟨.cell ⟨c.Is,i,none⟩,true,false⟩]:=by
  unfold execOp
  simp only[p,eN,f,g]
  simp[Instr.storeAt,u,storeVar,t,Value.cells,storeCells,Addr.add,q,r,events_store c.P w _ ⟨c.Is,i,none⟩ (.bool true) .plain rfl,run_store c.P w ⟨c.Is,i,none⟩ (.bool true) .plain rfl,Result.evThen]
 have E:seen c.P fi #[⟨.cell ⟨c.Is,i,none⟩,true,false⟩]=#[⟨.cell ⟨c.Is,i,none⟩,true,false⟩]:=by rw[seen_def];simp[seenStep,z]
 obtain ⟨C,S,W,L,m,hm⟩:=e.m
 refine ⟨undef,_,_,{s with is:=s.is.set i true},{ph with stored:=true},fun b I cs hb=>?_,hs.LB aG i true,.set _ (.inr (.inr rfl)),?_,.store rfl rfl ⟨h1,h1⟩,.inr dP,h⟩
 .rw[stepG_none l (cg hg) hb.kind B]
  unfold listed
  rw[D,hb.fn,E]
 .exact e.kK hi he (by rw[h1];simp) (by simp[h1]) ⟨C,S,W,L,m,n9 hm hi _ (.inl (by rw[he]))⟩ (vp e.w hi _ (.inl (by rw[he]))) rfl (fun G=>absurd h1 G)
end
theorem ai.shr {P:Program}{main:Bool}{S:Type}{JF:S->Goroutine->aa->Prop}{fi:FuncId}{ops:Array Oper}{j n:Nat}{Q:Act->aa->S->Prop}{a:Act}{F:aa}{ph:S}{d:Option Tmp}{t f:TypeId}{k b:IntKind}{u m:Int}(v:Int)(g:eo P main (JF ph)){x y:Operand}
  (i:ob ops j a (.binOp .shr t x y f) d) (l:ev a x= .int k u) (p:ev a y= .int b m) (hm:0<=m) (c:u.fdiv (2 ^ min m.toNat k.bits)=v) (h:ai JF fi ops (j+1) n Q (bf a d (.int k v)) F ph):ai JF fi ops j (n+1) Q a F ph:=by
 obtain ⟨o,q,hg,r,rfl⟩:=i
 have e:¬m<0:=by omega
 have e1:execOp a.eval o=(do eqGuard .shr t x y (.int k u) (.int b m);pure (.value (<-binOp .shr t (.int k u) (.int b m))):Sem Next):=by
  unfold execOp
  simp only[r,eN,l,p]
  simp
 refine ai.plain g (.int k v) q hg (fun w=>?_) (fun w=>?_) h
 .rw[e1];subst c;simp[eqGuard,binOp,Op.shift,e]
 .rw[e1];subst c;simp[eqGuard,binOp,Op.shift,e]
theorem ai.oe {P:Program}{main:Bool}{S:Type}{JF:S->Goroutine->aa->Prop}{fi:FuncId}{ops:Array Oper}{j n:Nat}{Q:Act->aa->S->Prop}{a:Act}{F:aa}{ph:S}{d:Option Tmp}{t b:TypeId}(u v:Int)(c:eo P main (JF ph)){x y:Operand}
  (e:ob ops j a (.binOp .shr t x y b) d) (f:ev a x= .int .i32 u) (g:ev a y= .int .u64 3) (i:u.fdiv 8=v) (h:ai JF fi ops (j+1) n Q (bf a d (.int .i32 v)) F ph):ai JF fi ops j (n+1) Q a F ph:=
 ai.shr v c e f g (by decide) i h
end Go.Sep
end
section
namespace Go.Proofs.YtnaejeiofbpbkaaGreatDoor
open Go Go.Sep Go.Proofs Go.Conc
open Go.ConcN (upd upd_same)
open Go.ConcM (muA msA)
open Go.ConcR (stA smA)
set_option maxRecDepth 100000
set_option maxHeartbeats 4000000
attribute [local go_sem] Int.reduceBEq Int.reduceBNe muA msA stA smA
section
variable {Mu Wg Is n base T0 i:Nat}{bs:Nat->Bool}{st:Bool}{F:aa}
theorem zP (w:World)(s:Sh)(h:cA (CY Mu Wg Is n bs base T0) w s):∃v,w.cell? ⟨Mu,0,none⟩=some v:=⟨_,h.mu.1⟩
theorem LK (aG:Mu≠Wg/\Mu≠Is/\Wg≠Is)
  (b:cI Tryz.prog (WJ (CY Mu Wg Is n bs base T0) i) 188 #[.pointer (some (muA Mu))] F ⟨.idle,.cnt,st,1⟩ (fun v F' aK=>v= .tuple #[]/\F'=F/\aK=⟨.held,.cnt,st,0⟩)):
  cI Tryz.prog (WJ (CY Mu Wg Is n bs base T0) i) 167 #[.pointer (some (muA Mu))] F ⟨.idle,.cnt,st,0⟩ (fun v F' aK=>v= .tuple #[]/\F'=F/\aK=⟨.held,.cnt,st,0⟩):=by
 have a:=WJ.eH (CY Mu Wg Is n bs base T0) i
 have hJ:∀ph:Ph,ph.gp= .cnt->Go.Sep.Closed Tryz.prog false (WJ (CY Mu Wg Is n bs base T0) i ph):=fun ph h=>Wk.closed (CY Mu Wg Is n bs base T0) i ph h
 refine cI.go (main:=false) a Tryz.func167 rfl Tryz.ntmps167 (by simp) fun A d hd hs=>?_
 have e:=hs 0
 clear hs
 repeat apply aB (a _)
 refine dc a ?_
 refine zN sx ⟨_,_,_,rfl,(by first|rfl|simp only[*,go_sem]),rfl,by first|(simp only[*,go_sem];done)|(simp only[*,go_sem];rfl),rfl⟩ (by simp) (by simp) ?_
 refine ai.nil a ?_;try simp only[go_sem]
 repeat apply aB (a _)
 refine dc a ?_
 refine ai.bG (hJ _ rfl) 3 (n:=1) _ rfl rfl ?_;simp only[*,go_sem]
 refine vD 0 1 vz aG ⟨_,_,_,rfl,(by first|rfl|simp only[*,go_sem]),rfl,by first|(simp only[*,go_sem];done)|(simp only[*,go_sem];rfl),rfl⟩ (by rfl) (by simp) (fun φ ms C S W L m he hi hm=>⟨.held,⟨0,0,0,1,m,KF hm hi _ (by rw[he]) rfl rfl⟩,?_⟩) (fun φ mu ms C S W L m he hi hm f=>⟨.idle,⟨C,S,W,L,m,n9 hm hi _ (.inl (by rw[he]))⟩,?_⟩)
 .refine ai.nil a ?_;try simp only[go_sem]
  repeat apply aB (a _)
  refine c9 (a _) (by simp only[*,go_sem]) ?_
  repeat apply aB (a _)
  refine c9 (a _) (by simp only[*,go_sem]) ?_
  repeat apply aB (a _)
  refine dc a ?_
  refine vC mH ⟨_,_,_,rfl,(by first|rfl|simp only[*,go_sem]),rfl,by first|(simp only[*,go_sem];done)|(simp only[*,go_sem];rfl),rfl⟩ (by simp) (by simp) rfl ?_
  refine ai.nil a ?_;try simp only[go_sem]
  repeat apply aB (a _)
  refine dc a ?_
  refine ai.bG (hJ _ rfl) 1 (n:=2) _ rfl rfl ?_;simp only[*,go_sem]
  refine vE ⟨Mu,0,none⟩ zE mI zG ⟨_,rfl,(by first|rfl|simp only[*,go_sem]),rfl,rfl⟩ (by simp) (by simp only[*,go_sem]) zP ?_
  refine EG vw ⟨_,_,_,rfl,(by first|rfl|simp only[*,go_sem]),rfl,by first|(simp only[*,go_sem];done)|(simp only[*,go_sem];rfl),rfl⟩ (by rfl) ?_
  refine ai.nil a ?_;try simp only[go_sem]
  refine fK ?_;try simp only[go_sem]
  exact p7 rfl (by simp only[*,go_sem]) ⟨rfl,rfl,rfl⟩
 .refine ai.nil a ?_;try simp only[go_sem]
  repeat apply aB (a _)
  refine cF (a _) (by simp only[*,go_sem]) ?_
  apply cJ (a _);try simp only[go_sem]
  repeat apply aB (a _)
  refine dc a ?_
  refine ai.bG (hJ _ rfl) 1 (n:=1) _ rfl rfl ?_;simp only[*,go_sem]
  refine ai.gD (a _) rfl rfl rfl GO (by simp only[*,go_sem,muA]) b fun v F' aK c=>?_
  obtain ⟨rfl,rfl,rfl⟩:=c
  refine ai.nil a ?_
  exact mF rfl (by simp only[*,go_sem]) ⟨rfl,rfl,rfl⟩
def jX (C S W:Nat)(nw:Int)(G:Nat):Mp:=if S=1 then .pV else if 0<C/\W=0 then .gR nw G else .fin
def LL (Mu n:Nat)(st:Bool)(F:aa)(m:Nat)(a:Act)(F':aa)(aK:Ph):Prop:=
 ∃(old:Int) (C S W L G:Nat),F'=F/\slot a 0= .pointer (some ⟨Mu,0,none⟩)/\slot a 4= .int .i32 old/\sz a=43/\a.defers=[]/\Wd old C S W L/\C<=3*n/\G<=m/\
   ((S=0/\L=0/\W=0/\0<C/\aK=⟨.gR old G,.cnt,st,1⟩)\/(¬(S=0/\L=0/\W=0/\0<C)/\aK=⟨.fin,.cnt,st,1⟩))
theorem LM (aG:Mu≠Wg/\Mu≠Is/\Wg≠Is)(ab:n<67108864){nw:Int}{C S W G:Nat}(hw:Wd nw C S W 0)(hC:C<=3*n):
  cI Tryz.prog (WJ (CY Mu Wg Is n bs base T0) i) 190 #[.pointer (some (muA Mu)),.int .i32 nw] F ⟨jX C S W nw G,.cnt,st,1⟩ (fun v F' aK=>v= .tuple #[]/\F'=F/\aK=⟨.fin,.cnt,st,1⟩):=by
 have a:=WJ.eH (CY Mu Wg Is n bs base T0) i
 have hJ:∀ph:Ph,ph.gp= .cnt->Go.Sep.Closed Tryz.prog false (WJ (CY Mu Wg Is n bs base T0) i ph):=fun ph h=>Wk.closed (CY Mu Wg Is n bs base T0) i ph h
 refine cI.go (main:=false) a Tryz.func190 rfl Tryz.ntmps190 (by simp) fun A u hd hs=>?_
 have y:=hs 0
 have k1:=hs 1
 clear hs
 have z:=hw.st.s
 have hW:=hw.st.w
 have w1:IntKind.i32.wrap (nw+1)=nw+1:=by have e0:=hw.st.eq;exact jh (by omega) (by omega)
 have B:Wd (nw+1) C S W 1:=by have e0:=hw.st.eq;exact wd ⟨by omega,by omega,hW,z⟩ (by omega)
 have K:en (nw+1) 1=1:=B.a1
 repeat apply aB (a _)
 refine dc a ?_
 refine ai.bG (hJ _ rfl) 4 (n:=0) _ rfl rfl ?_;simp only[*,go_sem]
 refine ai.nil a ?_;try simp only[go_sem]
 repeat apply aB (a _)
 refine cF (a _) (by simp only[*,go_sem]) ?_
 apply cJ (a _);try simp only[go_sem]
 rcases (by omega:S=1\/S=0) with rfl|rfl
 ·
  have b4:en nw 4=4:=hw.a4
  repeat apply aB (a _)
  refine dc a ?_
  refine ai.bG (hJ _ rfl) 3 (n:=0) _ rfl rfl ?_;simp only[*,go_sem]
  refine ai.nil a ?_;try simp only[go_sem]
  repeat apply aB (a _)
  refine cF (a _) (by simp only[*,go_sem]) ?_
  repeat apply aB (a _)
  refine dc a ?_
  refine ai.bG (hJ _ rfl) 3 (n:=1) _ rfl rfl ?_;simp only[*,go_sem]
  refine EH (.bool true) (.int .i64 2) Eu aG ⟨_,_,_,rfl,(by first|rfl|simp only[*,go_sem]),rfl,by first|(simp only[*,go_sem];done)|(simp only[*,go_sem];rfl),rfl⟩ (by rfl) (by simp[jX]) ?_
  refine ai.nil a ?_;try simp only[go_sem]
  exact mF rfl (by simp only[*,go_sem]) ⟨rfl,rfl,rfl⟩
 .have b4:en nw 4=0:=hw.a4
  repeat apply aB (a _)
  refine dc a ?_
  refine ai.bG (hJ _ rfl) 3 (n:=0) _ rfl rfl ?_;simp only[*,go_sem]
  refine ai.nil a ?_;try simp only[go_sem]
  repeat apply aB (a _)
  refine c9 (a _) (by simp only[*,go_sem]) ?_
  repeat apply aB (a _)
  refine dc a ?_
  refine ai.bG (hJ _ rfl) 2 (n:=0) _ rfl rfl ?_;simp only[*,go_sem]
  refine ai.nil a ?_;try simp only[go_sem]
  repeat apply aB (a _)
  refine kL a ?_
  refine sw a (fun m M F' aK=>LL Mu n st F m M F' aK) G ?_ ?_
  .refine ⟨nw,C,0,W,0,G,rfl,by simp only[*,go_sem,muA],by simp only[*,go_sem],by simp only[*,go_sem],by simp only[*,go_sem],hw,hC,Nat.le_refl _,?_⟩
   by_cases f:0<C/\W=0
   .exact .inl ⟨rfl,rfl,f.2,f.1,by simp[jX,f]⟩
   .exact .inr ⟨fun x=>f ⟨x.2.2.2,x.2.2.1⟩,by simp[jX,f]⟩
  .clear hw hC b4 K B w1 z hW y k1 u hd
   rintro m A F' aK ⟨old,C,S,W,L,G,rfl,y,ad,u,hd,hw,hC,ae,N⟩
   repeat apply aB (a _)
   refine kL a ?_
   have sh:old.fdiv 8=(C:Int):=hw.sh
   rcases N with ⟨rfl,rfl,rfl,j,rfl⟩|⟨al,rfl⟩
   ·
    have O:en old 7=0:=hw.a7
    have D:((C:Int)==0)=false:=by simp;omega
    repeat apply aB (a _)
    refine dc a ?_
    refine ai.bG (hJ _ rfl) 1 (n:=7) _ rfl rfl ?_;simp only[*,go_sem]
    refine ai.oe old (C:Int) (a _) ⟨_,rfl,(by first|rfl|simp only[*,go_sem]),rfl,rfl⟩ (by simp only[*,go_sem]) (by simp only[*,go_sem]) hw.sh ?_
    refine ai.bG (hJ _ rfl) 6 (n:=0) _ rfl rfl ?_;simp only[*,go_sem]
    refine ai.nil a ?_;try simp only[go_sem]
    repeat apply aB (a _)
    refine cF (a _) (by simp only[*,go_sem]) ?_
    apply cJ (a _);try simp only[go_sem]
    have ao:IntKind.i32.wrap (old - 8)=old - 8:=by have e0:=hw.st.eq;exact jh (by omega) (by omega)
    have P:Wd (old - 8) (C - 1) 0 0 0:=by have e0:=hw.st.eq;exact wd ⟨by omega,by omega,by omega,by omega⟩ (by omega)
    have o2:jS (old - 8) 2=old - 8+2:=P.o2
    repeat apply aB (a _)
    refine dc a ?_
    refine ai.bG (hJ _ rfl) 4 (n:=0) _ rfl rfl ?_;simp only[*,go_sem]
    refine ai.nil a ?_;try simp only[go_sem]
    repeat apply aB (a _)
    refine dc a ?_
    refine ai.bG (hJ _ rfl) 5 (n:=1) _ rfl rfl ?_;simp only[*,go_sem]
    refine vD old (old - 8+2) vz aG ⟨_,_,_,rfl,(by first|rfl|simp only[*,go_sem]),rfl,by first|(simp only[*,go_sem];done)|(simp only[*,go_sem];rfl),rfl⟩ (by rfl) (by simp) (fun φ ms Q R T U k he hi hm=>?_) (fun φ mu ms Q R T U k he hi hm V=>?_)
    .obtain ⟨rfl,rfl,rfl,rfl⟩:=hm.st.uniq hw.st
     refine ⟨.pU,⟨_,_,_,_,k,KP hm hi _ (by rw[he]) rfl rfl rfl rfl j⟩,?_⟩
     refine ai.nil a ?_;try simp only[go_sem]
     repeat apply aB (a _)
     refine c9 (a _) (by simp only[*,go_sem]) ?_
     repeat apply aB (a _)
     refine dc a ?_
     refine ai.bG (hJ _ rfl) 3 (n:=1) _ rfl rfl ?_;simp only[*,go_sem]
     refine EH (.bool false) (.int .i64 2) Eu aG ⟨_,_,_,rfl,(by first|rfl|simp only[*,go_sem]),rfl,by first|(simp only[*,go_sem];done)|(simp only[*,go_sem];rfl),rfl⟩ (by rfl) (by simp) ?_
     refine ai.nil a ?_;try simp only[go_sem]
     refine fK ?_;try simp only[go_sem]
     exact p7 rfl (by simp only[*,go_sem]) ⟨rfl,rfl,rfl⟩
    .obtain ⟨X,ar,Y⟩:=KQ hm hi {mp:=.gR mu (bP n φ ms),gp:=.cnt,stored:=st,deaf:=1} (by rw[he]) rfl
     have a0:bP n φ ms<G:=Y V
     refine ⟨.gR mu (bP n φ ms),⟨_,_,_,_,k,X⟩,?_⟩
     refine ai.nil a ?_;try simp only[go_sem]
     repeat apply aB (a _)
     refine cF (a _) (by simp only[*,go_sem]) ?_
     apply cJ (a _);try simp only[go_sem]
     repeat apply aB (a _)
     refine dc a ?_
     refine ai.bG (hJ _ rfl) 3 (n:=2) _ rfl rfl ?_;simp only[*,go_sem]
     refine qa LA p8 ⟨_,rfl,(by first|rfl|simp only[*,go_sem]),rfl,rfl⟩ (by rfl) (by simp only[*,go_sem]) (fun c g d l o p q E H I e=>?_)
     have J:=wd e.st (by have:=e.bound;simp only[CY] at this;omega)
     by_cases b:o=0/\q=0/\p=0/\0<l
     .obtain ⟨r,t,_⟩:=D6 e I {mp:=.gR g (bP n c d),gp:=.cnt,stored:=st,deaf:=1} (by rw[H]) (.inl ⟨b.1,b.2.1,b.2.2.1,b.2.2.2,rfl⟩)
      have Z:bP n c d<=bP n φ ms:=t
      refine ⟨.gR g (bP n c d),⟨_,_,_,_,E,r⟩,?_⟩
      refine ai.bG (hJ _ rfl) 1 (n:=0) _ rfl rfl ?_;simp only[*,go_sem]
      refine ai.nil a ?_;try simp only[go_sem]
      exact ⟨bP n c d,by omega,g,l,o,p,q,bP n c d,rfl,(by simp only[*,go_sem]),(by simp only[*,go_sem]),(by simp only[*,go_sem]),(by simp only[*,go_sem]),J,e.bound,Nat.le_refl _,.inl ⟨b.1,b.2.1,b.2.2.1,b.2.2.2,rfl⟩⟩
     .obtain ⟨r,t,_⟩:=D6 e I {mp:=.fin,gp:=.cnt,stored:=st,deaf:=1} (by rw[H]) (.inr ⟨b,rfl⟩)
      have Z:bP n c d<=bP n φ ms:=t
      refine ⟨.fin,⟨_,_,_,_,E,r⟩,?_⟩
      refine ai.bG (hJ _ rfl) 1 (n:=0) _ rfl rfl ?_;simp only[*,go_sem]
      refine ai.nil a ?_;try simp only[go_sem]
      exact ⟨bP n c d,by omega,g,l,o,p,q,bP n c d,rfl,(by simp only[*,go_sem]),(by simp only[*,go_sem]),(by simp only[*,go_sem]),(by simp only[*,go_sem]),J,e.bound,Nat.le_refl _,.inr ⟨b,rfl⟩⟩
   ·
    by_cases j:C=0
    .have D:((C:Int)==0)=true:=by simp[j]
     repeat apply aB (a _)
     refine dc a ?_
     refine ai.bG (hJ _ rfl) 1 (n:=7) _ rfl rfl ?_;simp only[*,go_sem]
     refine ai.oe old (C:Int) (a _) ⟨_,rfl,(by first|rfl|simp only[*,go_sem]),rfl,rfl⟩ (by simp only[*,go_sem]) (by simp only[*,go_sem]) hw.sh ?_
     refine ai.bG (hJ _ rfl) 6 (n:=0) _ rfl rfl ?_;simp only[*,go_sem]
     refine ai.nil a ?_;try simp only[go_sem]
     repeat apply aB (a _)
     refine c9 (a _) (by simp only[*,go_sem]) ?_
     refine fK ?_;try simp only[go_sem]
     exact p7 rfl (by simp only[*,go_sem]) ⟨rfl,rfl,rfl⟩
    .have D:((C:Int)==0)=false:=by simp;omega
     have O:=hw.a7
     have a2:(((4*S+(2*W+L):Nat):Int) != 0)=true:=by simp;omega
     repeat apply aB (a _)
     refine dc a ?_
     refine ai.bG (hJ _ rfl) 1 (n:=7) _ rfl rfl ?_;simp only[*,go_sem]
     refine ai.oe old (C:Int) (a _) ⟨_,rfl,(by first|rfl|simp only[*,go_sem]),rfl,rfl⟩ (by simp only[*,go_sem]) (by simp only[*,go_sem]) hw.sh ?_
     refine ai.bG (hJ _ rfl) 6 (n:=0) _ rfl rfl ?_;simp only[*,go_sem]
     refine ai.nil a ?_;try simp only[go_sem]
     repeat apply aB (a _)
     refine c9 (a _) (by simp only[*,go_sem]) ?_
     refine fK ?_;try simp only[go_sem]
     exact p7 rfl (by simp only[*,go_sem]) ⟨rfl,rfl,rfl⟩
theorem LN (aG:Mu≠Wg/\Mu≠Is/\Wg≠Is)(e:n<67108864):
  cI Tryz.prog (WJ (CY Mu Wg Is n bs base T0) i) 168 #[.pointer (some (muA Mu))] F ⟨.held,.cnt,st,0⟩ (fun v F' aK=>v= .tuple #[]/\F'=F/\aK=⟨.fin,.cnt,st,0⟩):=by
 have a:=WJ.eH (CY Mu Wg Is n bs base T0) i
 have hJ:∀ph:Ph,ph.gp= .cnt->Go.Sep.Closed Tryz.prog false (WJ (CY Mu Wg Is n bs base T0) i ph):=fun ph h=>Wk.closed (CY Mu Wg Is n bs base T0) i ph h
 refine cI.go (main:=false) a Tryz.func168 rfl Tryz.ntmps168 (by simp) fun A r hd hs=>?_
 have t:=hs 0
 clear hs
 repeat apply aB (a _)
 refine c9 (a _) (by simp only[*,go_sem]) ?_
 repeat apply aB (a _)
 refine dc a ?_
 refine ai.bG (hJ _ rfl) 3 (n:=1) _ rfl rfl ?_;simp only[*,go_sem]
 refine qa Lz p8 ⟨_,rfl,(by first|rfl|simp only[*,go_sem]),rfl,rfl⟩ (by rfl) (by simp only[*,go_sem]) (fun u x y z B D E f g j k=>⟨.held,⟨_,_,_,_,f,n9 k j _ (.inl (by rw[g]))⟩,?_⟩)
 refine ai.nil a ?_;try simp only[go_sem]
 repeat apply aB (a _)
 refine dc a ?_
 refine ai.bG (hJ _ rfl) 1 (n:=2) _ rfl rfl ?_;simp only[*,go_sem]
 refine vE ⟨Mu,0,none⟩ zE mI zG ⟨_,rfl,(by first|rfl|simp only[*,go_sem]),rfl,rfl⟩ (by simp) (by simp only[*,go_sem]) zP ?_
 refine LF Et ⟨_,_,_,rfl,(by first|rfl|simp only[*,go_sem]),rfl,by first|(simp only[*,go_sem];done)|(simp only[*,go_sem];rfl),rfl⟩ (by rfl) ?_
 refine ai.nil a ?_;try simp only[go_sem]
 repeat apply aB (a _)
 refine dc a ?_
 refine zN sx ⟨_,_,_,rfl,(by first|rfl|simp only[*,go_sem]),rfl,by first|(simp only[*,go_sem];done)|(simp only[*,go_sem];rfl),rfl⟩ (by simp) (by simp) ?_
 refine ai.nil a ?_;try simp only[go_sem]
 repeat apply aB (a _)
 refine dc a ?_
 refine ai.bG (hJ _ rfl) 3 (n:=2) _ rfl rfl ?_;simp only[*,go_sem]
 refine zO (-1) zC aG ⟨_,_,_,rfl,(by first|rfl|simp only[*,go_sem]),rfl,by first|(simp only[*,go_sem];done)|(simp only[*,go_sem];rfl),rfl⟩ (by rfl) (by simp) (fun φ mu ms C S W L m he hi hm=>?_)
 have l:=D5 hm hi (by rw[he])
 subst l
 have hb:C<=3*n:=hm.bound
 have o:=hm.st.s
 have hW:=hm.st.w
 have b:IntKind.i32.wrap (mu+ -1)=mu - 1:=by have e0:=hm.st.eq;exact jh (by omega) (by omega)
 have d:St (mu - 1) C S W 0:=⟨by have e0:=hm.st.eq;omega,by omega,hW,o⟩
 have hw:Wd (mu - 1) C S W 0:=wd d (by omega)
 have c:cu n (upd φ i ⟨jX C S W (mu - 1) (sm n φ Mp.wt+2*m),.cnt,st,1⟩) (mu - 1) ms C S W 0 m:=by
  refine KO hm hi _ (by rw[he]) ?_
  by_cases h1:S=1
  .exact .inl ⟨h1,by simp[jX,h1]⟩
  .by_cases h2:0<C/\W=0
   .exact .inr (.inl ⟨by omega,h2.1,h2.2,by simp[jX,h1,h2]⟩)
   .exact .inr (.inr ⟨by omega,by omega,by simp[jX,h1,h2]⟩)
 refine ⟨jX C S W (mu - 1) (sm n φ Mp.wt+2*m),mu - 1,b,⟨_,_,_,_,m,c⟩,?_⟩
 refine ai.bG (hJ _ rfl) 1 (n:=0) _ rfl rfl ?_;simp only[*,go_sem]
 refine ai.nil a ?_;try simp only[go_sem]
 by_cases h0:mu - 1=0
 .have e0:=d.eq
  have p:jX C S W (mu - 1) (sm n φ Mp.wt+2*m)= .fin:=by
   have:C=0:=by omega
   have:S=0:=by omega
   simp[jX, *]
  clear hw c b e0
  rw[p]
  rw[h0]
  repeat apply aB (a _)
  refine dc a ?_
  refine ai.bG (hJ _ rfl) 2 (n:=0) _ rfl rfl ?_;simp only[*,go_sem]
  refine ai.nil a ?_;try simp only[go_sem]
  repeat apply aB (a _)
  refine cF (a _) (by simp only[*,go_sem]) ?_
  apply cJ (a _);try simp only[go_sem]
  repeat apply aB (a _)
  refine dc a ?_
  refine vC mH ⟨_,_,_,rfl,(by first|rfl|simp only[*,go_sem]),rfl,by first|(simp only[*,go_sem];done)|(simp only[*,go_sem];rfl),rfl⟩ (by simp) (by simp) rfl ?_
  refine ai.nil a ?_;try simp only[go_sem]
  exact mF rfl (by simp only[*,go_sem]) ⟨rfl,rfl,rfl⟩
 .have G:(mu - 1 != 0)=true:=by simpa using h0
  clear c b h0
  repeat apply aB (a _)
  refine dc a ?_
  refine ai.bG (hJ _ rfl) 2 (n:=0) _ rfl rfl ?_;simp only[*,go_sem]
  refine ai.nil a ?_;try simp only[go_sem]
  repeat apply aB (a _)
  refine c9 (a _) (by simp only[*,go_sem]) ?_
  repeat apply aB (a _)
  refine dc a ?_
  refine ai.bG (hJ _ rfl) 2 (n:=1) _ rfl rfl ?_;simp only[*,go_sem]
  refine ai.gD (a _) rfl rfl rfl GP (by simp only[*,go_sem,muA]) (LM aG e hw hb) fun v F' aK q=>?_
  obtain ⟨rfl,rfl,rfl⟩:=q
  refine ai.nil a ?_;try simp only[go_sem]
  repeat apply aB (a _)
  refine dc a ?_
  refine vC mH ⟨_,_,_,rfl,(by first|rfl|simp only[*,go_sem]),rfl,by first|(simp only[*,go_sem];done)|(simp only[*,go_sem];rfl),rfl⟩ (by simp) (by simp) rfl ?_
  refine ai.nil a ?_;try simp only[go_sem]
  exact mF rfl (by simp only[*,go_sem]) ⟨rfl,rfl,rfl⟩
end
end Go.Proofs.YtnaejeiofbpbkaaGreatDoor
end
section
namespace Go.Sep
open Go Go.Conc
def vF {S:Type}(b:Act->aa->S->Prop)(Q:Ex->Act->aa->S->Prop):Ex->Act->aa->S->Prop
 | .normal,a,F,ph=>b a F ph
 |e,a,F,ph=>Q e a F ph
attribute [go_sem] vF
theorem lJ {P:Program}{main:Bool}{S:Type}{JF:S->Goroutine->aa->Prop}{fi:FuncId}{Q:Ex->Act->aa->S->Prop}{a:Act}{F:aa}{ph:S}(c:∀ph,eo P main (JF ph)){x y:Code}(b:Act->aa->S->Prop)
  (h1:cO JF fi x (vF b Q) a F ph) (h2:∀a F ph,b a F ph->cO JF fi y Q a F ph):cO JF fi (.seq x y) Q a F ph:=
 aB (c _) (h1.mono fun e a F ph h=>by
  cases e with
  |normal=>exact h2 a F ph h
  |exit i=>exact h
  |ret=>exact h)
theorem vG {P:Program}{main:Bool}{S:Type}{JF:S->Goroutine->aa->Prop}{fi:FuncId}{Q:Ex->Act->aa->S->Prop}{a:Act}{F:aa}{ph:S}(c:∀ph,eo P main (JF ph)){x:Code}(b:Act->aa->S->Prop)
  (h1:cO JF fi x (vF b Q) a F ph) (h2:∀a F ph,b a F ph->Q .normal a F ph):cO JF fi x Q a F ph:=
 h1.mono fun e a F ph h=>by
  cases e with
  |normal=>exact h2 a F ph h
  |exit i=>exact h
  |ret=>exact h
theorem bg {P:Program}{main:Bool}{S:Type}{JF:S->Goroutine->aa->Prop}{fi:FuncId}{Q:Ex->Act->aa->S->Prop}{a:Act}{F:aa}{ph:S}(b:∀ph,eo P main (JF ph)){id:Nat}{ops:Array Oper}
  (h:∀K:Act->aa->S->Prop,(∀a F ph,Q .normal a F ph->K a F ph)->ai JF fi ops 0 ops.size K a F ph):cO JF fi (.region id ops false) Q a F ph:=dc b (h _ fun _ _ _ h=>h)
theorem eM {S:Type}{b:Act->aa->S->Prop}{Q:Ex->Act->aa->S->Prop}{a:Act}{F:aa}{ph:S}(h:b a F ph):vF b Q .normal a F ph:=h
theorem jL {S:Type}{I:Nat->Act->aa->S->Prop}{n:Nat}{Q:Ex->Act->aa->S->Prop}{a:Act}{F:aa}{ph:S}(h:∃m,m<n/\I m a F ph):zA I n Q .normal a F ph:=h
theorem LO {x:Int}(h1: -9223372036854775808<=x)(h2:x<9223372036854775808):IntKind.i64.wrap x=x:=by
 unfold IntKind.wrap;simp[IntKind.bits,IntKind.signed];omega
end Go.Sep
namespace Go.Proofs.YtnaejeiofbpbkaaGreatDoor
open Go Go.Sep Go.Proofs Go.Conc
open Go.ConcN (upd upd_same)
open Go.ConcM (muA msA)
open Go.ConcR (stA smA)
set_option maxRecDepth 100000
set_option maxHeartbeats 8000000
set_option linter.all false
attribute [local go_sem] Int.reduceBEq Int.reduceBNe muA msA stA smA
def vH (Mu n:Nat)(st:Bool)(F:aa)(m:Nat)(a:Act)(F':aa)(ph:Ph):Prop:=
 ∃(wt it old:Int) (sv aw:Bool) (C S W L G:Nat),F'=F/\slot a 0= .pointer (some ⟨Mu,0,none⟩)/\slot a 2= .int .i64 wt/\slot a 3= .bool sv/\slot a 4= .bool aw/\slot a 5= .int .i64 it/\slot a 6= .int .i32 old/\sz a=139/\a.defers=[]/\
  Wd old C S W L/\C<=3*n/\0<=it/\it<=4/\(sv=true->aw=true)/\(aw=true->S=0/\W=1)/\8*G+(5 - it).toNat<=m/\ph=⟨.want aw old G,.cnt,st,1⟩
def vI (Mu:Nat)(st:Bool)(F:aa)(a:Act)(F':aa)(ph:Ph):Prop:=F'=F/\slot a 0= .pointer (some ⟨Mu,0,none⟩)/\sz a=139/\a.defers=[]/\ph=⟨.held,.cnt,st,1⟩
def LP (Mu:Nat)(st:Bool)(F:aa)(wt it:Int)(sv:Bool)(G:Nat)(a:Act)(F':aa)(ph:Ph):Prop:=
 ∃(aw:Bool) (o:Int) (b:Nat),F'=F/\slot a 0= .pointer (some ⟨Mu,0,none⟩)/\slot a 2= .int .i64 wt/\slot a 3= .bool sv/\slot a 4= .bool aw/\slot a 5= .int .i64 it/\sz a=139/\a.defers=[]/\(sv=true->aw=true)/\b<=G/\ph=⟨.want aw o b,.cnt,st,1⟩
def sC (Mu:Nat)(st:Bool)(F:aa)(wt it old:Int)(x:Option Int)(sv aw:Bool)(G:Nat)(a:Act)(F':aa)(ph:Ph):Prop:=
 F'=F/\slot a 0= .pointer (some ⟨Mu,0,none⟩)/\slot a 2= .int .i64 wt/\slot a 3= .bool sv/\slot a 4= .bool aw/\slot a 5= .int .i64 it/\slot a 6= .int .i32 old/\(∀y,x=some y->slot a 7= .int .i32 y)/\sz a=139/\a.defers=[]/\ph=⟨.want aw old G,.cnt,st,1⟩
def EJ (Mu:Nat)(st:Bool)(F:aa)(sv:Bool)(mp:Mp)(a:Act)(F':aa)(ph:Ph):Prop:=
 ∃wt:Int,F'=F/\slot a 0= .pointer (some ⟨Mu,0,none⟩)/\slot a 2= .int .i64 wt/\slot a 3= .bool sv/\sz a=139/\a.defers=[]/\ph=⟨mp,.cnt,st,1⟩
def EK (Mu:Nat)(st:Bool)(F:aa)(mp:Mp)(a:Act)(F':aa)(ph:Ph):Prop:=
 ∃(wt:Int) (sv:Bool),F'=F/\slot a 0= .pointer (some ⟨Mu,0,none⟩)/\slot a 2= .int .i64 wt/\slot a 3= .bool sv/\sz a=139/\a.defers=[]/\ph=⟨mp,.cnt,st,1⟩
def LQ (Mu:Nat)(st:Bool)(F:aa)(y:Bool)(a:Act)(F':aa)(ph:Ph):Prop:=
 ∃e:Bool,F'=F/\slot a 0= .pointer (some ⟨Mu,0,none⟩)/\slot a 9= .int .i32 (-7)/\slot a 123= .bool e/\sz a=139/\a.defers=[]/\(e=false->y=true)/\ph=⟨.lG y,.cnt,st,1⟩
section
variable {Mu Wg Is n base T0 i:Nat}{bs:Nat->Bool}{st:Bool}{F:aa}
theorem LR (aG:Mu≠Wg/\Mu≠Is/\Wg≠Is)(eS:n<67108864):
  cI Tryz.prog (WJ (CY Mu Wg Is n bs base T0) i) 188 #[.pointer (some (muA Mu))] F ⟨.idle,.cnt,st,1⟩ (fun v F' aK=>v= .tuple #[]/\F'=F/\aK=⟨.held,.cnt,st,0⟩):=by
 have a:=WJ.eH (CY Mu Wg Is n bs base T0) i
 have hJ:∀ph:Ph,ph.gp= .cnt->Go.Sep.Closed Tryz.prog false (WJ (CY Mu Wg Is n bs base T0) i ph):=fun ph h=>Wk.closed (CY Mu Wg Is n bs base T0) i ph h
 refine cI.go (main:=false) a Tryz.func188 rfl Tryz.ntmps188 (by simp) fun A d hd hs=>?_
 have f:=hs 0
 clear hs
 repeat apply aB (a _)
 refine bg a fun K b=>?_
 refine ai.bG (hJ _ rfl) 1 (n:=0) _ rfl rfl ?_;simp only[*,go_sem,-b,-a,-hJ]
 refine ai.nil a (b _ _ _ ?_);clear b K
 repeat apply aB (a _)
 refine bg a fun K b=>?_
 refine ai.bG (hJ _ rfl) 1 (n:=0) _ rfl rfl ?_;simp only[*,go_sem,-b,-a,-hJ]
 refine ai.nil a (b _ _ _ ?_);clear b K
 repeat apply aB (a _)
 refine bg a fun K b=>?_
 refine ai.bG (hJ _ rfl) 1 (n:=0) _ rfl rfl ?_;simp only[*,go_sem,-b,-a,-hJ]
 refine ai.nil a (b _ _ _ ?_);clear b K
 repeat apply aB (a _)
 refine bg a fun K b=>?_
 refine ai.bG (hJ _ rfl) 1 (n:=0) _ rfl rfl ?_;simp only[*,go_sem,-b,-a,-hJ]
 refine ai.nil a (b _ _ _ ?_);clear b K
 repeat apply aB (a _)
 refine bg a fun K b=>?_
 refine ai.bG (hJ _ rfl) 3 (n:=2) _ rfl rfl ?_;simp only[*,go_sem,-b,-a,-hJ]
 refine qa vA p8 ⟨_,rfl,(by first|(simp only[*,go_sem,-b,-a,-hJ];done)|rfl),rfl,rfl⟩ (by rfl) (by simp only[*,go_sem,-b,-a,-hJ]) (fun φ mu ms C S W L m he hi hm=>⟨.want false mu (bP n φ ms),⟨_,_,_,_,m,KG hm hi _ (by rw[he]) rfl⟩,?_⟩)
 have hw:=wd hm.st (by have:C<=3*n:=hm.bound;omega)
 have hC:C<=3*n:=hm.bound
 refine ai.bG (hJ _ rfl) 1 (n:=0) _ rfl rfl ?_;simp only[*,go_sem,-b,-a,-hJ]
 refine ai.nil a (b _ _ _ ?_);clear b K
 refine lJ a (vI Mu st F) ?_ ?_
 .repeat apply aB (a _)
  refine kL a ?_
  refine sw a (vH Mu n st F) (8*bP n φ ms+5) ?_ ?_
  .exact ⟨0,0,mu,false,false,C,S,W,L,bP n φ ms,rfl,(by simp only[*,go_sem,-a,-hJ]),(by simp only[*,go_sem,-a,-hJ]),(by simp only[*,go_sem,-a,-hJ]),(by simp only[*,go_sem,-a,-hJ]),(by simp only[*,go_sem,-a,-hJ]),(by simp only[*,go_sem,-a,-hJ]),(by simp only[*,go_sem,-a,-hJ]),(by simp only[*,go_sem,-a,-hJ]),hw,hC,by omega,by omega,by simp,by simp,by simp,rfl⟩
  .clear hw hC hm hi he d hd f
   rintro m A F' aK ⟨wt,it,old,sv,aw,C,S,W,L,G,rfl,f,k,o,z,D,I,d,hd,hw,hC,e3,fa,V,X,fb,rfl⟩
   have cS:S=0\/S=1:=by have:=hw.st.s;omega
   have a6:L=0\/L=1:=by have:=hw.st.l;omega
   have bc:W=0\/W=1:=by have:=hw.st.w;omega
   repeat apply aB (a _)
   refine kL a ?_
   refine lJ a (sC Mu st F' wt it old none sv aw G) ?_ ?_
   ·
    by_cases Y:S=0/\L=1
    .obtain ⟨rfl,rfl⟩:=Y
     have b5:en old 5=1:=hw.a5
     repeat apply aB (a _)
     refine bg a fun K b=>?_
     refine ai.bG (hJ _ rfl) 5 (n:=2) _ rfl rfl ?_;simp only[*,go_sem,-b,-a,-hJ]
     refine LI it Lp ⟨_,_,_,rfl,(by first|(simp only[*,go_sem,-b,-a,-hJ];done)|rfl),rfl,by first|(simp only[*,go_sem,-b,-a,-hJ];done)|(simp only[*,go_sem,-b,-a,-hJ];rfl),rfl⟩ (by simp) fun t ht=>?_
     refine ai.bG (hJ _ rfl) 1 (n:=0) _ rfl rfl ?_;simp only[*,go_sem,-b,-a,-hJ]
     refine ai.nil a (b _ _ _ ?_);clear b K
     cases t
     .repeat apply aB (a _)
      refine cF (a _) (by simp only[*,go_sem,-a,-hJ]) ?_
      apply cJ (a _)
      exact eM ⟨rfl,(by simp only[*,go_sem,-a,-hJ]),(by simp only[*,go_sem,-a,-hJ]),(by simp only[*,go_sem,-a,-hJ]),(by simp only[*,go_sem,-a,-hJ]),(by simp only[*,go_sem,-a,-hJ]),(by simp only[*,go_sem,-a,-hJ]),by simp,(by simp only[*,go_sem,-a,-hJ]),(by simp only[*,go_sem,-a,-hJ]),rfl⟩
     .have ff:=ht rfl
      repeat apply aB (a _)
      refine c9 (a _) (by simp only[*,go_sem,-a,-hJ]) ?_
      refine lJ a (LP Mu st F' wt it sv G) ?_ ?_
      .cases aw
       .obtain rfl:sv=false:=by cases sv<;>simp_all
        rcases bc with rfl|rfl
        .have b2:en old 2=0:=hw.a2
         by_cases dC:C=0
         .have bo:((C:Int) != 0)=false:=by simp[dC]
          repeat apply aB (a _)
          refine bg a fun K b=>?_
          refine ai.bG (hJ _ rfl) 9 (n:=12) _ rfl rfl ?_;simp only[*,go_sem,-b,-a,-hJ]
          refine ai.oe old (C:Int) (a _) ⟨_,rfl,(by first|(simp only[*,go_sem,-b,-a,-hJ];done)|rfl),rfl,rfl⟩ (by simp only[*,go_sem,-b,-a,-hJ]) (by simp only[*,go_sem,-b,-a,-hJ]) hw.sh ?_
          refine ai.bG (hJ _ rfl) 11 (n:=0) _ rfl rfl ?_;simp only[*,go_sem,-b,-a,-hJ]
          refine ai.nil a (b _ _ _ ?_);clear b K
          repeat apply aB (a _)
          refine cF (a _) (by simp only[*,go_sem,-a,-hJ]) ?_
          apply cJ (a _)
          exact eM ⟨false,old,G,rfl,(by simp only[*,go_sem,-a,-hJ]),(by simp only[*,go_sem,-a,-hJ]),(by simp only[*,go_sem,-a,-hJ]),(by simp only[*,go_sem,-a,-hJ]),(by simp only[*,go_sem,-a,-hJ]),(by simp only[*,go_sem,-a,-hJ]),(by simp only[*,go_sem,-a,-hJ]),by simp,Nat.le_refl _,rfl⟩
         .have bo:((C:Int) != 0)=true:=by simp;omega
          have o2:jS old 2=old+2:=hw.o2
          repeat apply aB (a _)
          refine bg a fun K b=>?_
          refine ai.bG (hJ _ rfl) 9 (n:=12) _ rfl rfl ?_;simp only[*,go_sem,-b,-a,-hJ]
          refine ai.oe old (C:Int) (a _) ⟨_,rfl,(by first|(simp only[*,go_sem,-b,-a,-hJ];done)|rfl),rfl,rfl⟩ (by simp only[*,go_sem,-b,-a,-hJ]) (by simp only[*,go_sem,-b,-a,-hJ]) hw.sh ?_
          refine ai.bG (hJ _ rfl) 9 (n:=2) _ rfl rfl ?_;simp only[*,go_sem,-b,-a,-hJ]
          refine vD old (old+2) vz aG ⟨_,_,_,rfl,(by first|(simp only[*,go_sem,-b,-a,-hJ];done)|rfl),rfl,by first|(simp only[*,go_sem,-b,-a,-hJ];done)|(simp only[*,go_sem,-b,-a,-hJ];rfl),rfl⟩ (by rfl) (by simp) (fun φ ms br al bz Z p he hi hm=>?_) (fun φ mu ms br al bz Z p he hi hm dd=>?_)
          .obtain ⟨rfl,rfl,rfl,rfl⟩:=hm.st.uniq hw.st
           refine ⟨.want true old G,⟨_,_,_,_,p,KH hm hi _ (by rw[he]) rfl rfl rfl rfl rfl⟩,?_⟩
           refine ai.bG (hJ _ rfl) 1 (n:=0) _ rfl rfl ?_;simp only[*,go_sem,-b,-a,-hJ]
           refine ai.nil a (b _ _ _ ?_);clear b K
           repeat apply aB (a _)
           refine c9 (a _) (by simp only[*,go_sem,-a,-hJ]) ?_
           repeat apply aB (a _)
           refine bg a fun K b=>?_
           refine ai.bG (hJ _ rfl) 1 (n:=0) _ rfl rfl ?_;simp only[*,go_sem,-b,-a,-hJ]
           refine ai.nil a (b _ _ _ ?_);clear b K
           exact eM ⟨true,old,G,rfl,(by simp only[*,go_sem,-a,-hJ]),(by simp only[*,go_sem,-a,-hJ]),(by simp only[*,go_sem,-a,-hJ]),(by simp only[*,go_sem,-a,-hJ]),(by simp only[*,go_sem,-a,-hJ]),(by simp only[*,go_sem,-a,-hJ]),(by simp only[*,go_sem,-a,-hJ]),by simp,Nat.le_refl _,rfl⟩
          .obtain ⟨J,a7,bd⟩:=vn hm hi {mp:=.want false mu (bP n φ ms),gp:=.cnt,stored:=st,deaf:=1} (by rw[he]) rfl
           refine ⟨.want false mu (bP n φ ms),⟨_,_,_,_,p,J⟩,?_⟩
           refine ai.bG (hJ _ rfl) 1 (n:=0) _ rfl rfl ?_;simp only[*,go_sem,-b,-a,-hJ]
           refine ai.nil a (b _ _ _ ?_);clear b K
           repeat apply aB (a _)
           refine cF (a _) (by simp only[*,go_sem,-a,-hJ]) ?_
           apply cJ (a _)
           exact eM ⟨false,mu,bP n φ ms,rfl,(by simp only[*,go_sem,-a,-hJ]),(by simp only[*,go_sem,-a,-hJ]),(by simp only[*,go_sem,-a,-hJ]),(by simp only[*,go_sem,-a,-hJ]),(by simp only[*,go_sem,-a,-hJ]),(by simp only[*,go_sem,-a,-hJ]),(by simp only[*,go_sem,-a,-hJ]),by simp,a7,rfl⟩
        .have b2:en old 2=2:=hw.a2
         repeat apply aB (a _)
         refine bg a fun K b=>?_
         refine ai.bG (hJ _ rfl) 21 (n:=0) _ rfl rfl ?_;simp only[*,go_sem,-b,-a,-hJ]
         refine ai.nil a (b _ _ _ ?_);clear b K
         repeat apply aB (a _)
         refine cF (a _) (by simp only[*,go_sem,-a,-hJ]) ?_
         apply cJ (a _)
         exact eM ⟨false,old,G,rfl,(by simp only[*,go_sem,-a,-hJ]),(by simp only[*,go_sem,-a,-hJ]),(by simp only[*,go_sem,-a,-hJ]),(by simp only[*,go_sem,-a,-hJ]),(by simp only[*,go_sem,-a,-hJ]),(by simp only[*,go_sem,-a,-hJ]),(by simp only[*,go_sem,-a,-hJ]),by simp,Nat.le_refl _,rfl⟩
       .repeat apply aB (a _)
        refine bg a fun K b=>?_
        refine ai.bG (hJ _ rfl) 21 (n:=0) _ rfl rfl ?_;simp only[*,go_sem,-b,-a,-hJ]
        refine ai.nil a (b _ _ _ ?_);clear b K
        repeat apply aB (a _)
        refine cF (a _) (by simp only[*,go_sem,-a,-hJ]) ?_
        apply cJ (a _)
        exact eM ⟨true,old,G,rfl,(by simp only[*,go_sem,-a,-hJ]),(by simp only[*,go_sem,-a,-hJ]),(by simp only[*,go_sem,-a,-hJ]),(by simp only[*,go_sem,-a,-hJ]),(by simp only[*,go_sem,-a,-hJ]),(by simp only[*,go_sem,-a,-hJ]),(by simp only[*,go_sem,-a,-hJ]),by simp,Nat.le_refl _,rfl⟩
      .clear f k o z D I d hd b5
       rintro A c ab ⟨bj,o2,dE,rfl,f,k,o,z,D,d,hd,dT,fg,rfl⟩
       have fi:IntKind.i64.wrap (it+1)=it+1:=LO (by omega) (by omega)
       repeat apply aB (a _)
       refine bg a fun K b=>?_
       refine ai.entry _ (a _) Lq ⟨_,_,_,rfl,(by first|(simp only[*,go_sem,-b,-a,-hJ];done)|rfl),rfl,by first|(simp only[*,go_sem,-b,-a,-hJ];done)|(simp only[*,go_sem,-b,-a,-hJ];rfl),rfl⟩ ?_
       refine ai.nil a (b _ _ _ ?_);clear b K
       repeat apply aB (a _)
       refine bg a fun K b=>?_
       refine ai.bG (hJ _ rfl) 3 (n:=0) _ rfl rfl ?_;simp only[*,go_sem,-b,-a,-hJ]
       refine ai.nil a (b _ _ _ ?_);clear b K
       repeat apply aB (a _)
       refine bg a fun K b=>?_
       refine ai.bG (hJ _ rfl) 3 (n:=2) _ rfl rfl ?_;simp only[*,go_sem,-b,-a,-hJ]
       refine qa vA p8 ⟨_,rfl,(by first|(simp only[*,go_sem,-b,-a,-hJ];done)|rfl),rfl,rfl⟩ (by rfl) (by simp only[*,go_sem,-b,-a,-hJ]) (fun φ mu ms P S3 bk bS b0 he hi hm=>?_)
       obtain ⟨J,a7,bd⟩:=vn hm hi {mp:=.want bj mu (bP n φ ms),gp:=.cnt,stored:=st,deaf:=1} (by rw[he]) rfl
       have ad:=wd hm.st (by have:P<=3*n:=hm.bound;omega)
       have a8:P<=3*n:=hm.bound
       have b1:bP n φ ms<=dE:=a7
       have ca:bj=true->S3=0/\bk=1:=fun e=>by subst e;exact D3 hm hi (by rw[he])
       refine ⟨.want bj mu (bP n φ ms),⟨_,_,_,_,b0,J⟩,?_⟩
       refine ai.bG (hJ _ rfl) 1 (n:=0) _ rfl rfl ?_;simp only[*,go_sem,-b,-a,-hJ]
       refine ai.nil a (b _ _ _ ?_);clear b K
       refine p6 ?_
       change ∃p,p<m/\vH Mu n st c p _ _ _
       exact ⟨8*bP n φ ms+(5 - (it+1)).toNat,by omega,wt,it+1,mu,sv,bj,P,S3,bk,bS,bP n φ ms,rfl,(by simp only[*,go_sem,-a,-hJ]),(by simp only[*,go_sem,-a,-hJ]),(by simp only[*,go_sem,-a,-hJ]),(by simp only[*,go_sem,-a,-hJ]),(by simp only[*,go_sem,-a,-hJ]),(by simp only[*,go_sem,-a,-hJ]),(by simp only[*,go_sem,-a,-hJ]),(by simp only[*,go_sem,-a,-hJ]),ad,a8,by omega,by omega,dT,ca,Nat.le_refl _,rfl⟩
    .have b5:=hw.a5
     have cb:(((4*S+L:Nat):Int)==1)=false:=by simp;omega
     repeat apply aB (a _)
     refine bg a fun K b=>?_
     refine ai.bG (hJ _ rfl) 7 (n:=0) _ rfl rfl ?_;simp only[*,go_sem,-b,-a,-hJ]
     refine ai.nil a (b _ _ _ ?_);clear b K
     repeat apply aB (a _)
     refine cF (a _) (by simp only[*,go_sem,-a,-hJ]) ?_
     apply cJ (a _)
     exact eM ⟨rfl,(by simp only[*,go_sem,-a,-hJ]),(by simp only[*,go_sem,-a,-hJ]),(by simp only[*,go_sem,-a,-hJ]),(by simp only[*,go_sem,-a,-hJ]),(by simp only[*,go_sem,-a,-hJ]),(by simp only[*,go_sem,-a,-hJ]),by simp,(by simp only[*,go_sem,-a,-hJ]),(by simp only[*,go_sem,-a,-hJ]),rfl⟩
   .clear f k o z D I d hd
    rintro A c ab ⟨rfl,f,k,o,z,D,I,q,d,hd,rfl⟩
    clear q
    repeat apply aB (a _)
    refine bg a fun K b=>?_
    refine ai.bG (hJ _ rfl) 2 (n:=0) _ rfl rfl ?_;simp only[*,go_sem,-b,-a,-hJ]
    refine ai.nil a (b _ _ _ ?_);clear b K
    obtain ⟨Q,j,r⟩:∃Q:Int,(S=0->Q=old+1 - L)/\(S=1->Q=old):=⟨if S=0 then old+1 - L else old,fun e=>by simp[e],fun e=>by simp[e]⟩
    refine lJ a (sC Mu st c wt it old (some Q) sv aw G) ?_ ?_
    .rcases cS with rfl|rfl
     .have b4:en old 4=0:=hw.a4
      have o1:jS old 1=Q:=by rw[j rfl,hw.o1];omega
      clear j r
      repeat apply aB (a _)
      refine bg a fun K b=>?_
      refine ai.bG (hJ _ rfl) 3 (n:=0) _ rfl rfl ?_;simp only[*,go_sem,-b,-a,-hJ]
      refine ai.nil a (b _ _ _ ?_);clear b K
      repeat apply aB (a _)
      refine c9 (a _) (by simp only[*,go_sem,-a,-hJ]) ?_
      repeat apply aB (a _)
      refine bg a fun K b=>?_
      refine ai.bG (hJ _ rfl) 3 (n:=0) _ rfl rfl ?_;simp only[*,go_sem,-b,-a,-hJ]
      refine ai.nil a (b _ _ _ ?_);clear b K
      exact eM ⟨rfl,(by simp only[*,go_sem,-a,-hJ]),(by simp only[*,go_sem,-a,-hJ]),(by simp only[*,go_sem,-a,-hJ]),(by simp only[*,go_sem,-a,-hJ]),(by simp only[*,go_sem,-a,-hJ]),(by simp only[*,go_sem,-a,-hJ]),fun y g=>by cases g;simp only[*,go_sem,-a,-hJ],(by simp only[*,go_sem,-a,-hJ]),(by simp only[*,go_sem,-a,-hJ]),rfl⟩
     .have b4:en old 4=4:=hw.a4
      obtain rfl:=r rfl
      clear j r
      repeat apply aB (a _)
      refine bg a fun K b=>?_
      refine ai.bG (hJ _ rfl) 3 (n:=0) _ rfl rfl ?_;simp only[*,go_sem,-b,-a,-hJ]
      refine ai.nil a (b _ _ _ ?_);clear b K
      repeat apply aB (a _)
      refine cF (a _) (by simp only[*,go_sem,-a,-hJ]) ?_
      apply cJ (a _)
      exact eM ⟨rfl,(by simp only[*,go_sem,-a,-hJ]),(by simp only[*,go_sem,-a,-hJ]),(by simp only[*,go_sem,-a,-hJ]),(by simp only[*,go_sem,-a,-hJ]),(by simp only[*,go_sem,-a,-hJ]),(by simp only[*,go_sem,-a,-hJ]),fun y g=>by cases g;simp only[*,go_sem,-a,-hJ],(by simp only[*,go_sem,-a,-hJ]),(by simp only[*,go_sem,-a,-hJ]),rfl⟩
    clear f k o z D I d hd
    rintro A c ab ⟨rfl,f,k,o,z,D,I,q,d,hd,rfl⟩
    replace q:=q _ rfl
    obtain ⟨R,x,E⟩:∃R:Int,(S=1\/L=1->R=Q+8)/\(S=0->L=0->R=Q):=⟨if S=1\/L=1 then Q+8 else Q,fun e=>by simp[e],fun e cd=>by simp[e,cd]⟩
    refine lJ a (sC Mu st c wt it old (some R) sv aw G) ?_ ?_
    .by_cases Y:S=1\/L=1
     .have b5:=hw.a5
      have cb:(((4*S+L:Nat):Int) != 0)=true:=by simp;omega
      have fl:IntKind.i32.wrap (Q+8)=R:=by
       have e0:=hw.st.eq
       rw[x Y]
       refine jh ?_ ?_<;>rcases cS with rfl|rfl<;>first|(have:=j rfl;omega)|(have:=r rfl;omega)
      clear j r x E Y
      repeat apply aB (a _)
      refine bg a fun K b=>?_
      refine ai.bG (hJ _ rfl) 3 (n:=0) _ rfl rfl ?_;simp only[*,go_sem,-b,-a,-hJ]
      refine ai.nil a (b _ _ _ ?_);clear b K
      repeat apply aB (a _)
      refine c9 (a _) (by simp only[*,go_sem,-a,-hJ]) ?_
      repeat apply aB (a _)
      refine bg a fun K b=>?_
      refine ai.bG (hJ _ rfl) 3 (n:=0) _ rfl rfl ?_;simp only[*,go_sem,-b,-a,-hJ]
      refine ai.nil a (b _ _ _ ?_);clear b K
      exact eM ⟨rfl,(by simp only[*,go_sem,-a,-hJ]),(by simp only[*,go_sem,-a,-hJ]),(by simp only[*,go_sem,-a,-hJ]),(by simp only[*,go_sem,-a,-hJ]),(by simp only[*,go_sem,-a,-hJ]),(by simp only[*,go_sem,-a,-hJ]),fun y g=>by cases g;simp only[*,go_sem,-a,-hJ],(by simp only[*,go_sem,-a,-hJ]),(by simp only[*,go_sem,-a,-hJ]),rfl⟩
     .obtain rfl:S=0:=by omega
      obtain rfl:L=0:=by omega
      have b5:en old 5=0:=hw.a5
      obtain rfl:=E rfl rfl
      clear j r x E Y
      repeat apply aB (a _)
      refine bg a fun K b=>?_
      refine ai.bG (hJ _ rfl) 3 (n:=0) _ rfl rfl ?_;simp only[*,go_sem,-b,-a,-hJ]
      refine ai.nil a (b _ _ _ ?_);clear b K
      repeat apply aB (a _)
      refine cF (a _) (by simp only[*,go_sem,-a,-hJ]) ?_
      apply cJ (a _)
      exact eM ⟨rfl,(by simp only[*,go_sem,-a,-hJ]),(by simp only[*,go_sem,-a,-hJ]),(by simp only[*,go_sem,-a,-hJ]),(by simp only[*,go_sem,-a,-hJ]),(by simp only[*,go_sem,-a,-hJ]),(by simp only[*,go_sem,-a,-hJ]),fun y g=>by cases g;simp only[*,go_sem,-a,-hJ],(by simp only[*,go_sem,-a,-hJ]),(by simp only[*,go_sem,-a,-hJ]),rfl⟩
    clear f k o z D I q d hd
    rintro A c ab ⟨rfl,f,k,o,z,D,I,q,d,hd,rfl⟩
    replace q:=q _ rfl
    obtain ⟨M,N,u⟩:∃M:Int,(sv=true->L=1->M=R+4)/\(¬(sv=true/\L=1)->M=R):=⟨if sv=true/\L=1 then R+4 else R,fun e cd=>by simp[e,cd],fun e=>by simp[e]⟩
    refine lJ a (sC Mu st c wt it old (some M) sv aw G) ?_ ?_
    .cases sv
     .obtain rfl:=u (by simp)
      clear j r x E N u
      repeat apply aB (a _)
      refine bg a fun K b=>?_
      refine ai.bG (hJ _ rfl) 6 (n:=0) _ rfl rfl ?_;simp only[*,go_sem,-b,-a,-hJ]
      refine ai.nil a (b _ _ _ ?_);clear b K
      repeat apply aB (a _)
      refine cF (a _) (by simp only[*,go_sem,-a,-hJ]) ?_
      apply cJ (a _)
      exact eM ⟨rfl,(by simp only[*,go_sem,-a,-hJ]),(by simp only[*,go_sem,-a,-hJ]),(by simp only[*,go_sem,-a,-hJ]),(by simp only[*,go_sem,-a,-hJ]),(by simp only[*,go_sem,-a,-hJ]),(by simp only[*,go_sem,-a,-hJ]),fun y g=>by cases g;simp only[*,go_sem,-a,-hJ],(by simp only[*,go_sem,-a,-hJ]),(by simp only[*,go_sem,-a,-hJ]),rfl⟩
     .obtain rfl:aw=true:=V rfl
      rcases a6 with rfl|rfl
      .have ea:en old 1=0:=hw.a1
       obtain rfl:=u (by simp)
       clear j r x E N u
       repeat apply aB (a _)
       refine bg a fun K b=>?_
       refine ai.bG (hJ _ rfl) 6 (n:=0) _ rfl rfl ?_;simp only[*,go_sem,-b,-a,-hJ]
       refine ai.nil a (b _ _ _ ?_);clear b K
       repeat apply aB (a _)
       refine cF (a _) (by simp only[*,go_sem,-a,-hJ]) ?_
       apply cJ (a _)
       exact eM ⟨rfl,(by simp only[*,go_sem,-a,-hJ]),(by simp only[*,go_sem,-a,-hJ]),(by simp only[*,go_sem,-a,-hJ]),(by simp only[*,go_sem,-a,-hJ]),(by simp only[*,go_sem,-a,-hJ]),(by simp only[*,go_sem,-a,-hJ]),fun y g=>by cases g;simp only[*,go_sem,-a,-hJ],(by simp only[*,go_sem,-a,-hJ]),(by simp only[*,go_sem,-a,-hJ]),rfl⟩
      .have ea:en old 1=1:=hw.a1
       have o4:jS R 4=M:=by
        have e0:=hw.st.eq
        obtain ⟨rfl,rfl⟩:=X rfl
        have e1:=j rfl
        have e2:=x (.inr rfl)
        rw[N rfl rfl,(wd (C:=C+1) (S:=0) (W:=1) (L:=1) ⟨by omega,by omega,by omega,by omega⟩ (by omega)).o4]
        omega
       clear j r x E N u
       repeat apply aB (a _)
       refine bg a fun K b=>?_
       refine ai.bG (hJ _ rfl) 6 (n:=0) _ rfl rfl ?_;simp only[*,go_sem,-b,-a,-hJ]
       refine ai.nil a (b _ _ _ ?_);clear b K
       repeat apply aB (a _)
       refine c9 (a _) (by simp only[*,go_sem,-a,-hJ]) ?_
       repeat apply aB (a _)
       refine bg a fun K b=>?_
       refine ai.bG (hJ _ rfl) 3 (n:=0) _ rfl rfl ?_;simp only[*,go_sem,-b,-a,-hJ]
       refine ai.nil a (b _ _ _ ?_);clear b K
       exact eM ⟨rfl,(by simp only[*,go_sem,-a,-hJ]),(by simp only[*,go_sem,-a,-hJ]),(by simp only[*,go_sem,-a,-hJ]),(by simp only[*,go_sem,-a,-hJ]),(by simp only[*,go_sem,-a,-hJ]),(by simp only[*,go_sem,-a,-hJ]),fun y g=>by cases g;simp only[*,go_sem,-a,-hJ],(by simp only[*,go_sem,-a,-hJ]),(by simp only[*,go_sem,-a,-hJ]),rfl⟩
    clear f k o z D I q d hd
    rintro A c ab ⟨rfl,f,k,o,z,D,I,q,d,hd,rfl⟩
    replace q:=q _ rfl
    obtain ⟨ae,T,U⟩:∃ae:Int,(aw=true->ae=M - 2)/\(aw=false->ae=M):=⟨if aw then M - 2 else M,fun e=>by simp[e],fun e=>by simp[e]⟩
    refine lJ a (sC Mu st c wt it old (some ae) sv aw G) ?_ ?_
    .cases aw
     .obtain rfl:=U rfl
      clear j r x E N u T U
      repeat apply aB (a _)
      refine bg a fun K b=>?_
      refine ai.bG (hJ _ rfl) 1 (n:=0) _ rfl rfl ?_;simp only[*,go_sem,-b,-a,-hJ]
      refine ai.nil a (b _ _ _ ?_);clear b K
      repeat apply aB (a _)
      refine cF (a _) (by simp only[*,go_sem,-a,-hJ]) ?_
      apply cJ (a _)
      exact eM ⟨rfl,(by simp only[*,go_sem,-a,-hJ]),(by simp only[*,go_sem,-a,-hJ]),(by simp only[*,go_sem,-a,-hJ]),(by simp only[*,go_sem,-a,-hJ]),(by simp only[*,go_sem,-a,-hJ]),(by simp only[*,go_sem,-a,-hJ]),fun y g=>by cases g;simp only[*,go_sem,-a,-hJ],(by simp only[*,go_sem,-a,-hJ]),(by simp only[*,go_sem,-a,-hJ]),rfl⟩
     .obtain ⟨rfl,rfl⟩:=X rfl
      have ad:∃P S3,Wd M P S3 1 1:=by
       have e0:=hw.st.eq
       have e1:=j rfl
       rcases a6 with rfl|rfl
       .have e2:=E rfl rfl
        have ao:=u (by simp)
        exact ⟨C,0,wd ⟨by omega,by omega,by omega,by omega⟩ (by omega)⟩
       .have e2:=x (.inr rfl)
        cases sv
        .have ao:=u (by simp)
         exact ⟨C+1,0,wd ⟨by omega,by omega,by omega,by omega⟩ (by omega)⟩
        .have ao:=N rfl rfl
         exact ⟨C+1,1,wd ⟨by omega,by omega,by omega,by omega⟩ (by omega)⟩
      obtain ⟨P,S3,ad⟩:=ad
      have b2:en M 2=2:=ad.a2
      have n2:su M 2=ae:=by rw[T rfl,ad.n2];rfl
      clear j r x E N u T U
      repeat apply aB (a _)
      refine bg a fun K b=>?_
      refine ai.bG (hJ _ rfl) 1 (n:=0) _ rfl rfl ?_;simp only[*,go_sem,-b,-a,-hJ]
      refine ai.nil a (b _ _ _ ?_);clear b K
      repeat apply aB (a _)
      refine c9 (a _) (by simp only[*,go_sem,-a,-hJ]) ?_
      repeat apply aB (a _)
      refine bg a fun K b=>?_
      refine ai.bG (hJ _ rfl) 3 (n:=0) _ rfl rfl ?_;simp only[*,go_sem,-b,-a,-hJ]
      refine ai.nil a (b _ _ _ ?_);clear b K
      repeat apply aB (a _)
      refine cF (a _) (by simp only[*,go_sem,-a,-hJ]) ?_
      apply cJ (a _)
      repeat apply aB (a _)
      refine bg a fun K b=>?_
      refine ai.bG (hJ _ rfl) 3 (n:=0) _ rfl rfl ?_;simp only[*,go_sem,-b,-a,-hJ]
      refine ai.nil a (b _ _ _ ?_);clear b K
      exact eM ⟨rfl,(by simp only[*,go_sem,-a,-hJ]),(by simp only[*,go_sem,-a,-hJ]),(by simp only[*,go_sem,-a,-hJ]),(by simp only[*,go_sem,-a,-hJ]),(by simp only[*,go_sem,-a,-hJ]),(by simp only[*,go_sem,-a,-hJ]),fun y g=>by cases g;simp only[*,go_sem,-a,-hJ],(by simp only[*,go_sem,-a,-hJ]),(by simp only[*,go_sem,-a,-hJ]),rfl⟩
    clear f k o z D I q d hd
    rintro A c ab ⟨rfl,f,k,o,z,D,I,q,d,hd,rfl⟩
    replace q:=q _ rfl
    repeat apply aB (a _)
    refine bg a fun K b=>?_
    refine ai.bG (hJ _ rfl) 5 (n:=1) _ rfl rfl ?_;simp only[*,go_sem,-b,-a,-hJ]
    refine vD old ae vz aG ⟨_,_,_,rfl,(by first|(simp only[*,go_sem,-b,-a,-hJ];done)|rfl),rfl,by first|(simp only[*,go_sem,-b,-a,-hJ];done)|(simp only[*,go_sem,-b,-a,-hJ];rfl),rfl⟩ (by rfl) (by simp) (fun φ ms br al bz Z p he hi hm=>?_) (fun φ mu ms br al bz Z p he hi hm dd=>?_)
    .obtain ⟨rfl,rfl,rfl,rfl⟩:=hm.st.uniq hw.st
     by_cases Y:al=0/\Z=0
     .obtain ⟨rfl,rfl⟩:=Y
      have O:ae=old+1 - (if aw then 2 else 0):=by
       have e1:=j rfl
       have e2:=E rfl rfl
       have ao:=u (by simp)
       cases aw
       .have O:=U rfl
        simp;omega
       .have O:=T rfl
        simp;omega
      have b5:en old 5=0:=hw.a5
      refine ⟨.held,by rw[O];exact ⟨_,_,_,_,p,KI hm hi _ (by rw[he]) rfl rfl rfl (fun e=>(X e).2)⟩,?_⟩
      clear j r x E N u T U O he hi hm V X cS a6 bc
      refine ai.nil a (b _ _ _ ?_);clear b K
      repeat apply aB (a _)
      refine c9 (a _) (by simp only[*,go_sem,-a,-hJ]) ?_
      repeat apply aB (a _)
      refine bg a fun K b=>?_
      refine ai.bG (hJ _ rfl) 3 (n:=0) _ rfl rfl ?_;simp only[*,go_sem,-b,-a,-hJ]
      refine ai.nil a (b _ _ _ ?_);clear b K
      repeat apply aB (a _)
      refine c9 (a _) (by simp only[*,go_sem,-a,-hJ]) ?_
      refine p6 ?_
      change vI Mu st c _ _ _
      exact ⟨rfl,(by simp only[*,go_sem,-a,-hJ]),(by simp only[*,go_sem,-a,-hJ]),(by simp only[*,go_sem,-a,-hJ]),rfl⟩
     .have cf:al=1\/Z=1:=by omega
      have O:ae=old+8+(if sv then 4 else 0) - (if aw then 2 else 0):=by
       have e2:=x cf
       rcases cS with rfl|rfl
       .have e1:=j rfl
        obtain rfl:Z=1:=by omega
        cases sv
        .have ao:=u (by simp)
         cases aw
         .have O:=U rfl
          simp;omega
         .have O:=T rfl
          simp;omega
        .obtain rfl:aw=true:=V rfl
         have ao:=N rfl rfl
         have O:=T rfl
         simp;omega
       .have eb:aw=false:=by
         cases aw
         .rfl
         .exact absurd (X rfl).1 (by omega)
        subst eb
        have ec:sv=false:=by
         cases sv
         .rfl
         .exact absurd (V rfl) (by simp)
        subst ec
        have e1:=r rfl
        have ao:=u (by simp)
        have O:=U rfl
        simp;omega
      have df:sv=true->aw=true/\Z=1:=fun e=>⟨V e,by have:=X (V e);omega⟩
      have dk:bP n φ ms<=G:=(hm.seen i hi (some old) G (by rw[he];rfl)).1
      have b5:=hw.a5
      have cb:(((4*al+Z:Nat):Int)==0)=false:=by simp;omega
      refine ⟨.jf (bP n φ ms),by rw[O];exact ⟨_,_,_,_,p,KJ hm hi _ (by rw[he]) rfl cf df⟩,?_⟩
      clear j r x E N u T U O he hi hm V X cS a6 bc Y cf df
      revert dk
      generalize bP n φ ms=B
      intro dk
      refine ai.nil a (b _ _ _ ?_);clear b K
      repeat apply aB (a _)
      refine c9 (a _) (by simp only[*,go_sem,-a,-hJ]) ?_
      repeat apply aB (a _)
      refine bg a fun K b=>?_
      refine ai.bG (hJ _ rfl) 3 (n:=0) _ rfl rfl ?_;simp only[*,go_sem,-b,-a,-hJ]
      refine ai.nil a (b _ _ _ ?_);clear b K
      repeat apply aB (a _)
      refine cF (a _) (by simp only[*,go_sem,-a,-hJ]) ?_
      apply cJ (a _)
      repeat apply aB (a _)
      refine bg a fun K b=>?_
      refine ai.bG (hJ _ rfl) 3 (n:=0) _ rfl rfl ?_;simp only[*,go_sem,-b,-a,-hJ]
      refine ai.nil a (b _ _ _ ?_);clear b K
      repeat apply aB (a _)
      refine bg a fun K b=>?_
      refine ai.bG (hJ _ rfl) 2 (n:=0) _ rfl rfl ?_;simp only[*,go_sem,-b,-a,-hJ]
      refine ai.nil a (b _ _ _ ?_);clear b K
      first|refine lJ a (EJ Mu st c sv (.jf B)) ?_ ?_|refine vG a (EJ Mu st c sv (.jf B)) ?_ ?_
      .cases fp:(wt==0)
       .repeat apply aB (a _)
        refine cF (a _) (by simp only[*,go_sem,-a,-hJ]) ?_
        apply cJ (a _)
        exact eM ⟨wt,rfl,(by simp only[*,go_sem,-a,-hJ]),(by simp only[*,go_sem,-a,-hJ]),(by simp only[*,go_sem,-a,-hJ]),(by simp only[*,go_sem,-a,-hJ]),(by simp only[*,go_sem,-a,-hJ]),rfl⟩
       .repeat apply aB (a _)
        refine c9 (a _) (by simp only[*,go_sem,-a,-hJ]) ?_
        repeat apply aB (a _)
        refine bg a fun K b=>?_
        refine EI Ev EB ⟨_,_,_,rfl,(by first|(simp only[*,go_sem,-b,-a,-hJ];done)|rfl),rfl,by first|(simp only[*,go_sem,-b,-a,-hJ];done)|(simp only[*,go_sem,-b,-a,-hJ];rfl),rfl⟩ (by simp) fun t=>?_
        refine ai.bG (hJ _ rfl) 1 (n:=0) _ rfl rfl ?_;simp only[*,go_sem,-b,-a,-hJ]
        refine ai.nil a (b _ _ _ ?_);clear b K
        exact eM ⟨t,rfl,(by simp only[*,go_sem,-a,-hJ]),(by simp only[*,go_sem,-a,-hJ]),(by simp only[*,go_sem,-a,-hJ]),(by simp only[*,go_sem,-a,-hJ]),(by simp only[*,go_sem,-a,-hJ]),rfl⟩
      clear f k o z D I q d hd b5 cb
      rintro A c ab ⟨dp,rfl,f,k,o,d,hd,rfl⟩
      repeat apply aB (a _)
      refine bg a fun K b=>?_
      refine ai.bG (hJ _ rfl) 4 (n:=1) _ rfl rfl ?_;simp only[*,go_sem,-b,-a,-hJ]
      refine LH (slot A 8) (.int .i64 2) Lo aG ⟨_,_,_,rfl,(by first|(simp only[*,go_sem,-b,-a,-hJ];done)|rfl),rfl,by first|(simp only[*,go_sem,-b,-a,-hJ];done)|(simp only[*,go_sem,-b,-a,-hJ];rfl),rfl⟩ (by rfl) rfl ?_
      refine ai.nil a (b _ _ _ ?_);clear b K
      first|refine lJ a (EK Mu st c (.kI B)) ?_ ?_|refine vG a (EK Mu st c (.kI B)) ?_ ?_
      .cases sv
       .repeat apply aB (a _)
        refine bg a fun K b=>?_
        refine ai.bG (hJ _ rfl) 2 (n:=6) _ rfl rfl ?_;simp only[*,go_sem,-b,-a,-hJ]
        refine EI Ev EB ⟨_,_,_,rfl,(by first|(simp only[*,go_sem,-b,-a,-hJ];done)|rfl),rfl,by first|(simp only[*,go_sem,-b,-a,-hJ];done)|(simp only[*,go_sem,-b,-a,-hJ];rfl),rfl⟩ (by simp) fun t=>?_
        refine ai.bG (hJ _ rfl) 5 (n:=0) _ rfl rfl ?_;simp only[*,go_sem,-b,-a,-hJ]
        refine ai.nil a (b _ _ _ ?_);clear b K
        exact eM ⟨dp,_,rfl,(by simp only[*,go_sem,-a,-hJ]),(by simp only[*,go_sem,-a,-hJ]),(by simp only[*,go_sem,-a,-hJ];rfl),(by simp only[*,go_sem,-a,-hJ]),(by simp only[*,go_sem,-a,-hJ]),rfl⟩
       .repeat apply aB (a _)
        refine bg a fun K b=>?_
        refine ai.bG (hJ _ rfl) 8 (n:=0) _ rfl rfl ?_;simp only[*,go_sem,-b,-a,-hJ]
        refine ai.nil a (b _ _ _ ?_);clear b K
        exact eM ⟨dp,true,rfl,(by simp only[*,go_sem,-a,-hJ]),(by simp only[*,go_sem,-a,-hJ]),(by simp only[*,go_sem,-a,-hJ]),(by simp only[*,go_sem,-a,-hJ]),(by simp only[*,go_sem,-a,-hJ]),rfl⟩
      clear f k o d hd
      rintro A c ab ⟨ed,dq,rfl,f,k,o,d,hd,rfl⟩
      repeat apply aB (a _)
      refine bg a fun K b=>?_
      refine ai.bG (hJ _ rfl) 3 (n:=2) _ rfl rfl ?_;simp only[*,go_sem,-b,-a,-hJ]
      refine qa vA p8 ⟨_,rfl,(by first|(simp only[*,go_sem,-b,-a,-hJ];done)|rfl),rfl,rfl⟩ (by rfl) (by simp only[*,go_sem,-b,-a,-hJ]) (fun φ mu ms H a9 cl cy bl he hi hm=>?_)
      have ds:H<=3*n:=hm.bound
      have ar:=wd hm.st (by omega)
      rcases (by have:=hm.st.s;omega:a9=0\/a9=1) with rfl|rfl
      .obtain ⟨J,rfl,c0⟩:=KM hm hi {mp:=.want true mu (bP n φ ms),gp:=.cnt,stored:=st,deaf:=1} (by rw[he]) rfl rfl
       have fq:bP n φ ms<B:=c0
       refine ⟨.want true mu (bP n φ ms),⟨_,_,_,_,bl,J⟩,?_⟩
       have b4:en mu 4=0:=ar.a4
       clear J c0
       refine ai.bG (hJ _ rfl) 1 (n:=0) _ rfl rfl ?_;simp only[*,go_sem,-b,-a,-hJ]
       refine ai.nil a (b _ _ _ ?_);clear b K
       repeat apply aB (a _)
       refine bg a fun K b=>?_
       refine ai.bG (hJ _ rfl) 3 (n:=0) _ rfl rfl ?_;simp only[*,go_sem,-b,-a,-hJ]
       refine ai.nil a (b _ _ _ ?_);clear b K
       repeat apply aB (a _)
       refine cF (a _) (by simp only[*,go_sem,-a,-hJ]) ?_
       apply cJ (a _)
       repeat apply aB (a _)
       refine bg a fun K b=>?_
       refine ai.bG (hJ _ rfl) 1 (n:=0) _ rfl rfl ?_;simp only[*,go_sem,-b,-a,-hJ]
       refine ai.nil a (b _ _ _ ?_);clear b K
       repeat apply aB (a _)
       refine bg a fun K b=>?_
       refine ai.bG (hJ _ rfl) 1 (n:=0) _ rfl rfl ?_;simp only[*,go_sem,-b,-a,-hJ]
       refine ai.nil a (b _ _ _ ?_);clear b K
       change ∃p,p<m/\vH Mu n st c p _ _ _
       exact ⟨8*bP n φ ms+5,by omega,ed,0,mu,dq,true,H,0,1,cy,bP n φ ms,rfl,(by simp only[*,go_sem,-a,-hJ]),(by simp only[*,go_sem,-a,-hJ]),(by simp only[*,go_sem,-a,-hJ]),(by simp only[*,go_sem,-a,-hJ]),(by simp only[*,go_sem,-a,-hJ]),(by simp only[*,go_sem,-a,-hJ]),(by simp only[*,go_sem,-a,-hJ]),(by simp only[*,go_sem,-a,-hJ]),ar,ds,by omega,by omega,fun _=>rfl,fun _=>⟨rfl,rfl⟩,by simp,rfl⟩
      .obtain ⟨J,rfl,rfl,eh⟩:=KN hm hi {mp:=.lG (decide (2<=H)),gp:=.cnt,stored:=st,deaf:=1} (by rw[he]) rfl rfl
       refine ⟨.lG (decide (2<=H)),⟨_,_,_,_,bl,J⟩,?_⟩
       have b4:en mu 4=4:=ar.a4
       have b3:en mu 3=0:=ar.a3
       have bo:((H:Int)==0)=false:=by simp;omega
       have da:=ar.sh
       obtain ⟨y,g⟩:∃y,decide (2<=H)=y:=⟨_,rfl⟩
       have a0:((H:Int)==1)=false->y=true:=fun e=>by rw[<-g];simp at e ⊢;omega
       rw[g]
       clear J he hi hm ar ds eh g
       refine ai.bG (hJ _ rfl) 1 (n:=0) _ rfl rfl ?_;simp only[*,go_sem,-b,-a,-hJ]
       refine ai.nil a (b _ _ _ ?_);clear b K
       repeat apply aB (a _)
       refine bg a fun K b=>?_
       refine ai.bG (hJ _ rfl) 3 (n:=0) _ rfl rfl ?_;simp only[*,go_sem,-b,-a,-hJ]
       refine ai.nil a (b _ _ _ ?_);clear b K
       repeat apply aB (a _)
       refine c9 (a _) (by simp only[*,go_sem,-a,-hJ]) ?_
       repeat apply aB (a _)
       refine bg a fun K b=>?_
       refine ai.bG (hJ _ rfl) 5 (n:=3) _ rfl rfl ?_;simp only[*,go_sem,-b,-a,-hJ]
       refine ai.oe mu (H:Int) (a _) ⟨_,rfl,(by first|(simp only[*,go_sem,-b,-a,-hJ];done)|rfl),rfl,rfl⟩ (by simp only[*,go_sem,-b,-a,-hJ]) (by simp only[*,go_sem,-b,-a,-hJ]) da ?_
       refine ai.bG (hJ _ rfl) 2 (n:=0) _ rfl rfl ?_;simp only[*,go_sem,-b,-a,-hJ]
       refine ai.nil a (b _ _ _ ?_);clear b K
       repeat apply aB (a _)
       refine cF (a _) (by simp only[*,go_sem,-a,-hJ]) ?_
       apply cJ (a _)
       repeat apply aB (a _)
       refine bg a fun K b=>?_
       refine ai.bG (hJ _ rfl) 1 (n:=0) _ rfl rfl ?_;simp only[*,go_sem,-b,-a,-hJ]
       refine ai.nil a (b _ _ _ ?_);clear b K
       repeat apply aB (a _)
       refine vG a (LQ Mu st c y) ?_ ?_
       .cases dq
        .repeat apply aB (a _)
         refine bg a fun K b=>?_
         refine ai.bG (hJ _ rfl) 7 (n:=0) _ rfl rfl ?_;simp only[*,go_sem,-b,-a,-hJ]
         refine ai.nil a (b _ _ _ ?_);clear b K
         exact eM ⟨true,rfl,(by simp only[*,go_sem,-a,-hJ]),(by simp only[*,go_sem,-a,-hJ]),(by simp only[*,go_sem,-a,-hJ]),(by simp only[*,go_sem,-a,-hJ]),(by simp only[*,go_sem,-a,-hJ]),by simp,rfl⟩
        .repeat apply aB (a _)
         refine bg a fun K b=>?_
         refine ai.bG (hJ _ rfl) 4 (n:=3) _ rfl rfl ?_;simp only[*,go_sem,-b,-a,-hJ]
         refine ai.oe mu (H:Int) (a _) ⟨_,rfl,(by first|(simp only[*,go_sem,-b,-a,-hJ];done)|rfl),rfl,rfl⟩ (by simp only[*,go_sem,-b,-a,-hJ]) (by simp only[*,go_sem,-b,-a,-hJ]) da ?_
         refine ai.bG (hJ _ rfl) 2 (n:=0) _ rfl rfl ?_;simp only[*,go_sem,-b,-a,-hJ]
         refine ai.nil a (b _ _ _ ?_);clear b K
         exact eM ⟨(H:Int)==1,rfl,(by simp only[*,go_sem,-a,-hJ]),(by simp only[*,go_sem,-a,-hJ]),(by simp only[*,go_sem,-a,-hJ]),(by simp only[*,go_sem,-a,-hJ]),(by simp only[*,go_sem,-a,-hJ]),a0,rfl⟩
       clear f k o d hd b4 b3 bo da a0
       rintro A c ab ⟨e,rfl,f,fr,fs,d,hd,a0,rfl⟩
       cases e
       .obtain rfl:=a0 rfl
        clear a0
        repeat apply aB (a _)
        refine cF (a _) (by simp only[*,go_sem,-a,-hJ]) ?_
        apply cJ (a _)
        repeat apply aB (a _)
        refine bg a fun K b=>?_
        refine ai.bG (hJ _ rfl) 4 (n:=1) _ rfl rfl ?_;simp only[*,go_sem,-b,-a,-hJ]
        refine zO (-7) zC aG ⟨_,_,_,rfl,(by first|(simp only[*,go_sem,-b,-a,-hJ];done)|rfl),rfl,by first|(simp only[*,go_sem,-b,-a,-hJ];done)|(simp only[*,go_sem,-b,-a,-hJ];rfl),rfl⟩ (by rfl) (by simp) (fun φ mu ms P S3 bk bS b0 he hi hm=>⟨.held,_,?_,⟨_,_,_,_,_,D4 hm hi {mp:=.held,gp:=.cnt,stored:=st,deaf:=1} false (by rw[he]) rfl (fun _=>rfl)⟩,?_⟩)
        .have e0:=hm.st.eq
         have a8:P<=3*n:=hm.bound
         have et:=hm.st.s
         have ev:=hm.st.w
         have eQ:=hm.st.l
         rw[jh (by omega) (by omega)]
         simp;omega
        refine ai.nil a (b _ _ _ ?_);clear b K
        refine p6 ?_
        change vI Mu st c _ _ _
        exact ⟨rfl,(by simp only[*,go_sem,-a,-hJ]),(by simp only[*,go_sem,-a,-hJ]),(by simp only[*,go_sem,-a,-hJ]),rfl⟩
       .clear a0
        repeat apply aB (a _)
        refine c9 (a _) (by simp only[*,go_sem,-a,-hJ]) ?_
        repeat apply aB (a _)
        refine bg a fun K b=>?_
        refine ai.bG (hJ _ rfl) 3 (n:=0) _ rfl rfl ?_;simp only[*,go_sem,-b,-a,-hJ]
        refine ai.nil a (b _ _ _ ?_);clear b K
        repeat apply aB (a _)
        refine bg a fun K b=>?_
        refine ai.bG (hJ _ rfl) 4 (n:=1) _ rfl rfl ?_;simp only[*,go_sem,-b,-a,-hJ]
        refine zO (-11) zC aG ⟨_,_,_,rfl,(by first|(simp only[*,go_sem,-b,-a,-hJ];done)|rfl),rfl,by first|(simp only[*,go_sem,-b,-a,-hJ];done)|(simp only[*,go_sem,-b,-a,-hJ];rfl),rfl⟩ (by rfl) (by simp) (fun φ mu ms P S3 bk bS b0 he hi hm=>⟨.held,_,?_,⟨_,_,_,_,_,D4 hm hi {mp:=.held,gp:=.cnt,stored:=st,deaf:=1} true (by rw[he]) rfl (by simp)⟩,?_⟩)
        .have e0:=hm.st.eq
         have a8:P<=3*n:=hm.bound
         have et:=hm.st.s
         have ev:=hm.st.w
         have eQ:=hm.st.l
         rw[jh (by omega) (by omega)]
         simp;omega
        refine ai.nil a (b _ _ _ ?_);clear b K
        refine p6 ?_
        change vI Mu st c _ _ _
        exact ⟨rfl,(by simp only[*,go_sem,-a,-hJ]),(by simp only[*,go_sem,-a,-hJ]),(by simp only[*,go_sem,-a,-hJ]),rfl⟩
    .obtain ⟨J,a7,bd⟩:=vn hm hi {mp:=.want aw mu (bP n φ ms),gp:=.cnt,stored:=st,deaf:=1} (by rw[he]) rfl
     have c0:bP n φ ms<G:=bd dd
     refine ⟨.want aw mu (bP n φ ms),⟨_,_,_,_,p,J⟩,?_⟩
     clear j r x E N u T U J a7 bd he hi hm X cS a6 bc
     refine ai.nil a (b _ _ _ ?_);clear b K
     repeat apply aB (a _)
     refine cF (a _) (by simp only[*,go_sem,-a,-hJ]) ?_
     repeat apply aB (a _)
     refine bg a fun K b=>?_
     refine ai.bG (hJ _ rfl) 3 (n:=2) _ rfl rfl ?_;simp only[*,go_sem,-b,-a,-hJ]
     refine qa vA p8 ⟨_,rfl,(by first|(simp only[*,go_sem,-b,-a,-hJ];done)|rfl),rfl,rfl⟩ (by rfl) (by simp only[*,go_sem,-b,-a,-hJ]) (fun ba db bb H a9 cl cy bl dt du bm=>?_)
     obtain ⟨b1,dv,_⟩:=vn bm du {mp:=.want aw db (bP n ba bb),gp:=.cnt,stored:=st,deaf:=1} (by rw[dt]) rfl
     have ft:bP n ba bb<=bP n φ ms:=dv
     have a8:H<=3*n:=bm.bound
     have ad:=wd bm.st (by omega)
     have ca:aw=true->a9=0/\cl=1:=fun e=>by subst e;exact D3 bm du (by rw[dt])
     refine ⟨.want aw db (bP n ba bb),⟨_,_,_,_,bl,b1⟩,?_⟩
     clear b1 dv
     refine ai.bG (hJ _ rfl) 1 (n:=0) _ rfl rfl ?_;simp only[*,go_sem,-b,-a,-hJ]
     refine ai.nil a (b _ _ _ ?_);clear b K
     change ∃p,p<m/\vH Mu n st c p _ _ _
     exact ⟨8*bP n ba bb+(5 - it).toNat,by omega,wt,it,db,sv,aw,H,a9,cl,cy,bP n ba bb,rfl,(by simp only[*,go_sem,-a,-hJ]),(by simp only[*,go_sem,-a,-hJ]),(by simp only[*,go_sem,-a,-hJ]),(by simp only[*,go_sem,-a,-hJ]),(by simp only[*,go_sem,-a,-hJ]),(by simp only[*,go_sem,-a,-hJ]),(by simp only[*,go_sem,-a,-hJ]),(by simp only[*,go_sem,-a,-hJ]),ad,a8,by omega,by omega,V,ca,Nat.le_refl _,rfl⟩
 .rintro A F' aK ⟨rfl,f,d,hd,rfl⟩
  repeat apply aB (a _)
  refine c9 (a _) (by simp only[*,go_sem,-a,-hJ]) ?_
  repeat apply aB (a _)
  refine bg a fun K b=>?_
  refine vC mH ⟨_,_,_,rfl,(by first|(simp only[*,go_sem,-b,-a,-hJ];done)|rfl),rfl,by first|(simp only[*,go_sem,-b,-a,-hJ];done)|(simp only[*,go_sem,-b,-a,-hJ];rfl),rfl⟩ (by simp) (by simp) rfl ?_
  refine ai.nil a (b _ _ _ ?_);clear b K
  repeat apply aB (a _)
  refine bg a fun K b=>?_
  refine ai.bG (hJ _ rfl) 1 (n:=2) _ rfl rfl ?_;simp only[*,go_sem,-b,-a,-hJ]
  refine vE ⟨Mu,0,none⟩ zE mI zG ⟨_,rfl,(by first|(simp only[*,go_sem,-b,-a,-hJ];done)|rfl),rfl,rfl⟩ (by simp) (by simp only[*,go_sem,-b,-a,-hJ]) zP ?_
  refine EG vw ⟨_,_,_,rfl,(by first|(simp only[*,go_sem,-b,-a,-hJ];done)|rfl),rfl,by first|(simp only[*,go_sem,-b,-a,-hJ];done)|(simp only[*,go_sem,-b,-a,-hJ];rfl),rfl⟩ (by rfl) ?_
  refine ai.nil a (b _ _ _ ?_);clear b K
  exact mF rfl (by simp only[*,go_sem,-a,-hJ]) ⟨rfl,rfl,rfl⟩
end
end Go.Proofs.YtnaejeiofbpbkaaGreatDoor
end
section
namespace Go.Proofs.YtnaejeiofbpbkaaGreatDoor
open Go Go.Sep Go.Proofs Go.Conc
open Go.ConcN (upd upd_same)
open Go.ConcM (muA msA)
open Go.ConcR (stA smA)
set_option maxRecDepth 100000
set_option maxHeartbeats 4000000
attribute [local go_sem] Int.reduceBEq Int.reduceBNe muA msA stA smA
section
variable {Mu Wg Is n base T0 i:Nat}{bs:Nat->Bool}{st:Bool}{F:aa}
theorem LS (aG:Mu≠Wg/\Mu≠Is/\Wg≠Is)(b:n<67108864):
  cI Tryz.prog (WJ (CY Mu Wg Is n bs base T0) i) 133 #[.pointer (some (muA Mu))] F ⟨.idle,.cnt,st,0⟩ (fun v F' aK=>v= .tuple #[]/\F'=F/\aK=⟨.held,.cnt,st,0⟩):=by
 have a:=WJ.eH (CY Mu Wg Is n bs base T0) i
 have hJ:∀ph:Ph,ph.gp= .cnt->Go.Sep.Closed Tryz.prog false (WJ (CY Mu Wg Is n bs base T0) i ph):=fun ph h=>Wk.closed (CY Mu Wg Is n bs base T0) i ph h
 refine cI.go (main:=false) a Tryz.func133 rfl Tryz.ntmps133 (by simp) fun A d hd hs=>?_
 have e:=hs 0
 clear hs
 repeat apply aB (a _)
 refine dc a ?_
 refine ai.bG (hJ _ rfl) 3 (n:=1) _ rfl rfl ?_;simp only[*,go_sem]
 refine ai.gD (a _) rfl rfl rfl GL (by simp only[*,go_sem,muA]) (LK aG (LR aG b)) fun v F' aK c=>?_
 obtain ⟨rfl,rfl,rfl⟩:=c
 refine ai.nil a ?_
 exact mF rfl (by simp only[*,go_sem]) ⟨rfl,rfl,rfl⟩
theorem LU (aG:Mu≠Wg/\Mu≠Is/\Wg≠Is)(b:n<67108864):
  cI Tryz.prog (WJ (CY Mu Wg Is n bs base T0) i) 134 #[.pointer (some (muA Mu))] F ⟨.held,.cnt,st,0⟩ (fun v F' aK=>v= .tuple #[]/\F'=F/\aK=⟨.fin,.cnt,st,0⟩):=by
 have a:=WJ.eH (CY Mu Wg Is n bs base T0) i
 have hJ:∀ph:Ph,ph.gp= .cnt->Go.Sep.Closed Tryz.prog false (WJ (CY Mu Wg Is n bs base T0) i ph):=fun ph h=>Wk.closed (CY Mu Wg Is n bs base T0) i ph h
 refine cI.go (main:=false) a Tryz.func134 rfl Tryz.ntmps134 (by simp) fun A d hd hs=>?_
 have e:=hs 0
 clear hs
 repeat apply aB (a _)
 refine dc a ?_
 refine ai.bG (hJ _ rfl) 3 (n:=1) _ rfl rfl ?_;simp only[*,go_sem]
 refine ai.gD (a _) rfl rfl rfl GM (by simp only[*,go_sem,muA]) (LN aG b) fun v F' aK c=>?_
 obtain ⟨rfl,rfl,rfl⟩:=c
 refine ai.nil a ?_
 exact mF rfl (by simp only[*,go_sem]) ⟨rfl,rfl,rfl⟩
end
end Go.Proofs.YtnaejeiofbpbkaaGreatDoor
end
section
namespace Go.Sep
open Go Go.Conc
def vJ (op:BinOp)(u v:Value):Option Value:=match op with
 | .shl=>match u,v with
  | .int k a,.int _ b=>if b<0 then none else some (.int k (k.wrap (a*2 ^ min b.toNat k.bits)))
  |_,_=>none
 | .shr=>match u,v with
  | .int k a,.int _ b=>if b<0 then none else some (.int k (a.fdiv (2 ^ min b.toNat k.bits)))
  |_,_=>none
 |_=>oA op u v
def qb (P:Program)(op:Op)(a:Act):Option Value:=match op with
 | .move x| .assign x=>some (ev a x)
 | .nilCheck x=>match ev a x with
  | .pointer (some ad)=>some (.pointer (some ad))
  |_=>none
 | .pick c x y=>match ev a c with
  | .bool b=>some (if b then ev a x else ev a y)
  |_=>none
 | .binOp op t x y _=>vJ op (ev a x) (ev a y)
 | .unOp op _ x=>mQ op (ev a x)
 | .convert src dst x=>mS P src dst (ev a x)
 | .fieldAddr s x n=>match ev a x with
  | .pointer (some ad)=>match cT P s n with
   |some k=>some (.pointer (some (ad.add k)))
   |none=>none
  |_=>none
 |_=>none
theorem LV {P:Program}{op:BinOp}{t:TypeId}{x y:Operand}{u v r:Value}(h:vJ op u v=some r)(w:World):
  (do eqGuard op t x y u v;pure (.value (<-binOp op t u v)):Sem Next).run P w= .ok (.value r) w/\(do eqGuard op t x y u v;pure (.value (<-binOp op t u v)):Sem Next).events P w #[]=#[]:=by
 unfold vJ at h
 split at h
 .split at h
  case h_2=>cases h
  split at h
  .cases h
  .rename_i hb;cases h;simp[eqGuard,binOp,Op.shift,hb]
 .split at h
  case h_2=>cases h
  split at h
  .cases h
  .rename_i hb;cases h;simp[eqGuard,binOp,Op.shift,hb]
 .rename_i n1 n2
  unfold oA at h
  split at h
  case h_2=>cases h
  rename_i k a d b
  split at h
  case isFalse=>cases h
  rename_i c
  subst c
  cases op<;>simp only[binOp,ne_eq,not_true_eq_false,if_false,Op.intArith,Op.intDiv,Op.intCmp,Op.intBits,Op.shift,eqGuard] at h ⊢<;>first
   |(cases h;done)
   |(exact absurd rfl n1)
   |(exact absurd rfl n2)
   |(cases h;simp;done)
   |(split at h
     .cases h
     .rename_i hb;cases h;simp[hb])
theorem EL {P:Program}{o:Oper}{a:Act}{v:Value}(h:qb P o.op a=some v)(w:World):(execOp a.eval o).run P w= .ok (.value v) w/\(execOp a.eval o).events P w #[]=#[]:=by
 obtain ⟨dst,op,type,pos,after,guard⟩:=o;unfold execOp;simp only[eN] at h ⊢;unfold qb at h;cases op<;>simp only[reduceCtorEq] at h ⊢
 case move x=>cases h;simp
 case assign x=>cases h;simp
 case nilCheck x=>
  split at h
  .rename_i ad e;cases h;simp[e]
  .cases h
 case pick c x y=>
  split at h
  .rename_i b hb;cases h;simp[hb,asBool]
  .cases h
 case binOp op t x y r=>have:=LV (P:=P) (t:=t) (x:=x) (y:=y) h w;simpa using this
 case unOp op t x=>
  revert h;cases ev a x<;>cases op<;>simp only[mQ,reduceCtorEq,false_implies,Option.some.injEq]<;>intro h<;>subst h<;>simp[Op.unary,Op.intArith]
 case convert src dst x=>
  revert h;cases e:ev a x<;>simp only[mS,reduceCtorEq,false_implies];intro h;split at h
  .rename_i k1 u h1 h2;cases h;simp[convert,run_underlying h1,run_underlying h2,Conv.intToInt]
  .cases h
 case fieldAddr s x n=>
  split at h
  case h_2=>cases h
  rename_i ad i;split at h
  case h_2=>cases h
  rename_i k d;cases h;unfold cT at d;split at d
  case h_2=>cases d
  rename_i fs g;split at d
  case h_2=>cases d
  rename_i f j;split at d
  case h_2=>cases d
  rename_i m hm;cases d;obtain ⟨inf,l,p⟩:=Option.map_eq_some_iff.1 hm;have q:Instr.sureAddr (.pointer (some ad))=(Pure.pure ad:Sem Addr):=rfl;simp[Instr.fieldAt,run_underlying g,g,j,i,q,fieldPlace,Go.sizeOf,typeInfo,l,p,Result.andThen,Result.evThen]
def jl (P:Program)(ops:Array Oper)(K:Act->Prop):List Oper->Act->Prop
 |[],a=>K a
 |o::rest,a=>match cD ops o a with
  |some true=>match qb P o.op a with
   |some v=>jl P ops K rest (bf a o.dst v)
   |none=>False
  |some false=>jl P ops K rest (bf a o.dst undef)
  |none=>False
theorem LW {P:Program}{ops:Array Oper}{K:Act->Prop}{a:Act}:jl P ops K [] a=K a:=(Eq.refl _).trans (Eq.refl _)
theorem LX {P:Program}{ops:Array Oper}{K:Act->Prop}{o:Oper}{rest:List Oper}{a:Act}:jl P ops K (o::rest) a=match cD ops o a with
  |some true=>match qb P o.op a with
   |some v=>jl P ops K rest (bf a o.dst v)
   |none=>False
  |some false=>jl P ops K rest (bf a o.dst undef)
  |none=>False:=(Eq.refl _).trans (Eq.refl _)
attribute [go_sem] LW LX qb vJ
section
variable {P:Program}{main:Bool}{S:Type}{JF:S->Goroutine->aa->Prop}{fi:FuncId}{ops:Array Oper}{F:aa}{ph:S}{Q:Act->aa->S->Prop}
theorem zQ (d:eo P main (JF ph)):∀(l:List Oper) (i n:Nat) (a:Act),(∀j o,l[j]?=some o->ops[i+j]?=some o)->jl P ops (fun b=>ai JF fi ops (i+l.length) n Q b F ph) l a->ai JF fi ops i (l.length+n) Q a F ph
 |[],i,n,a,_,h=>by rw[List.length_nil,Nat.zero_add];exact h
 |o::rest,i,n,a,k,h=>by
  have m:ops[i]?=some o:=k 0 o rfl
  have p:∀j x,rest[j]?=some x->ops[i+1+j]?=some x:=fun j x q=>by rw[Nat.add_assoc,Nat.add_comm 1 j];exact k (j+1) x q
  have e:(o::rest).length+n=(rest.length+n)+1:=by rw[List.length_cons];omega
  have e2:∀b,ai JF fi ops (i+(o::rest).length) n Q b F ph->ai JF fi ops (i+1+rest.length) n Q b F ph:=fun b x=>by
   rw[show i+1+rest.length=i+(o::rest).length by rw[List.length_cons];omega];exact x
  rw[e]
  have mono:∀(l:List Oper) (a:Act) {K f:Act->Prop},(∀a,K a->f a)->jl P ops K l a->jl P ops f l a:=by
   intro l
   induction l with
   |nil=>intro a K f g h;exact g a h
   |cons o l ih=>
    intro a K f g h
    unfold jl at h ⊢
    cases hg:cD ops o a with
    |none=>rw[hg] at h;exact h.elim
    |some t=>
     rw[hg] at h
     cases t with
     |false=>exact ih _ g h
     |true=>
      simp only at h ⊢
      cases c:qb P o.op a with
      |none=>rw[c] at h;exact h.elim
      |some v=>rw[c] at h;exact ih _ g h
  unfold jl at h
  split at h
  .rename_i hg
   split at h
   .rename_i v c
    exact ai.plain d v m hg (fun w=>(EL c w).1) (fun w=>(EL c w).2) (zQ d rest (i+1) n _ p (mono _ _ e2 h))
   .exact h.elim
  .rename_i hg
   exact ai.skip d m hg (zQ d rest (i+1) n _ p (mono _ _ e2 h))
  .exact h.elim
theorem ai.pure (d:eo P main (JF ph))(m:Nat){i n:Nat}{a:Act}(l:List Oper)(c:(ops.toList.drop i).take m=l)(hm:l.length=m)(h:jl P ops (fun e=>ai JF fi ops (i+m) n Q e F ph) l a):ai JF fi ops i (m+n) Q a F ph:=by
 subst hm;refine zQ d l i n a (fun j o b=>?_) h;rw[<-c] at b;have f:j<l.length:=by
  rcases Nat.lt_or_ge j l.length with x|x
  .exact x
  .rw[c,List.getElem?_eq_none x] at b;cases b
 rw[List.getElem?_take,if_pos f,List.getElem?_drop] at b;simpa using b
end
end Go.Sep
end
section
namespace Go.Sep
open Go Go.Conc
open Go.ConcN (sumTo upd upd_ne upd_same)
open Go.ConcM (MuAt muA msA muBlock OsLater)
open Go.ConcR (WgAt wgBlock stA smA)
section
variable {c:Cy}{i:Nat}{ph:Ph}{ops:Array Oper}{j n:Nat}{Q:Act->aa->Ph->Prop}{a:Act}{F:aa}{f fi:FuncId}{d:Option Tmp}
theorem Inv.group {k:Nat}{φ:Nat->Ph}{p0:P0}{s:Sh}(h:Inv c.n c.bs k φ p0 s)(hi:i<c.n)(he:φ i=ph)(h1:ph.gp≠ .new)(h2:ph.gp≠ .cnt){gp:Gp}(a:gp≠ .new){wg ws:Int}
  (hw:dM c.n (upd φ i {ph with gp:=gp}) p0 wg ws):Inv c.n c.bs k (upd φ i {ph with gp:=gp}) p0 {s with wg:=wg,ws:=ws}:=by
 obtain ⟨C,S,W,L,m,hm⟩:=h.m
 refine h.kK hi he h1 a ⟨C,S,W,L,m,n9 hm hi _ (.inl (by rw[he]))⟩ hw ?_ (fun _=>?_)
 .have:=h.i.all i hi
  rw[he] at this
  exact (zM this).symm
 .have:=h.i.done i hi (by rw[he];exact h2) (by rw[he];exact h1)
  rw[he] at this
  exact this
theorem LY (l:Entry c.P f (Extern.Atomic.update (Op.intArith .add) .u64 true))(aG:c.Mu≠c.Wg/\c.Mu≠c.Is/\c.Wg≠c.Is)(E:c.n<67108864)(m:At ops j a f [.pointer (some (stA c.Wg)),.int .u64 18446744069414584320] d)
  (h1:ph.gp= .rel) (h0:0<ph.deaf)
  (h:∀v t:Nat,v<=c.n->t<=1->ai (WJ c i) fi ops (j+1) n Q (bf a d (.int .u64 ((v:Int)*4294967296+t))) F {ph with gp:=if v=0/\t=1 then .ld else .gone}):
  ai (WJ c i) fi ops j (n+1) Q a F ph:=by
 obtain ⟨o,cB,dy,g,hg,p,q,rfl⟩:=m
 obtain ⟨x,y,rfl,r,u⟩:=sA q
 obtain ⟨fn,f1,f2,f3,f4,f5⟩:=l.ex
 refine fL g (by rw[h1];simp) fun w s k φ p0 _ hs hi he e=>.inr ?_
 obtain ⟨v,t,e1,ht,z,_⟩:=D7 e.w hi ph (by rw[he];exact h1)
 obtain ⟨A,B,C,G,_,hw⟩:=D7 e.w hi {ph with gp:=if v=0/\t=1 then .ld else .gone} (by rw[he];exact h1)
 obtain ⟨rfl,rfl⟩:v=A/\t=B:=by simp only[c7] at e1 C;omega
 have e2:IntKind.u64.wrap (s.wg+18446744069414584320)=(v:Int)*4294967296+t:=by
  rw[e1]
  unfold IntKind.wrap
  simp only[IntKind.bits,IntKind.signed,c7]
  simp
  omega
 have D:s.wg - c7=(v:Int)*4294967296+t:=by rw[e1];simp only[c7];omega
 refine ⟨.int .u64 ((v:Int)*4294967296+t),_,_,{s with wg:=(v:Int)*4294967296+t},{ph with gp:=if v=0/\t=1 then .ld else .gone},fun b H cs hb=>by rw[<-e2];exact stepG_add_atomic g (cg hg) hb.kind p f1 f2 f3 f4 .u64 f5 r u hs.wg.1 hs.wg.2,by rw[<-e2];exact hs.vB aG _,.set _ (.inr (.inl rfl)),?_,zK rfl ?_ h0 (.inl rfl),.inr dP,h v t z ht⟩
 .refine e.group hi he (by rw[h1];simp) (by rw[h1];simp) (by split<;>simp) ?_
  rw[<-D]
  exact hw rfl
 .simp only[h1];split<;>simp
theorem LZ (l:Entry c.P f (Extern.Atomic.loadT (.int .u64)))(m:At ops j a f [.pointer (some (stA c.Wg))] d)(h1:ph.gp= .ld)(h0:0<ph.deaf)
  (h:ai (WJ c i) fi ops (j+1) n Q (bf a d (.int .u64 1)) F {ph with gp:=.st}):ai (WJ c i) fi ops j (n+1) Q a F ph:=by
 obtain ⟨o,cB,dy,e,hg,p,q,rfl⟩:=m
 obtain ⟨x,rfl,r⟩:=kN q
 obtain ⟨fn,f1,f2,f3,f4,f5⟩:=l.ex
 refine fL e (by rw[h1];simp) fun w s k φ p0 _ hs hi he g=>.inr ?_
 obtain ⟨e1,hw⟩:=KT g.w hi {ph with gp:=.st} (by rw[he];exact h1) rfl
 exact ⟨.int .u64 1,_,_,s,{ph with gp:=.st},fun b t cs hb=>by rw[<-e1];exact stepG_load_atomic e (cg hg) hb.kind p f1 f2 f3 f4 .u64 f5 r hs.wg.1,hs,.refl _ _,g.group hi he (by rw[h1];simp) (by rw[h1];simp) (by simp) hw,zJ false rfl (by simp[h1]) h0 (.inl rfl),.inr dP,h⟩
theorem L0 (l:Entry c.P f Extern.Atomic.storeT)(aG:c.Mu≠c.Wg/\c.Mu≠c.Is/\c.Wg≠c.Is)(m:At ops j a f [.pointer (some (stA c.Wg)),.int .u64 0] d)(h1:ph.gp= .st)(h0:0<ph.deaf)
  (h:ai (WJ c i) fi ops (j+1) n Q (bf a d (.tuple #[])) F {ph with gp:=.sm}):ai (WJ c i) fi ops j (n+1) Q a F ph:=by
 obtain ⟨o,cB,dy,e,hg,p,q,rfl⟩:=m
 obtain ⟨x,y,rfl,r,t⟩:=sA q
 obtain ⟨fn,f1,f2,f3,f4,f5⟩:=l.ex
 refine fL e (by rw[h1];simp) fun w s k φ p0 _ hs hi he g=>.inr ?_
 obtain ⟨e1,hw⟩:=KU g.w hi {ph with gp:=.sm} (by rw[he];exact h1) rfl
 exact ⟨.tuple #[],_,_,{s with wg:=0},{ph with gp:=.sm},fun b u cs hb=>stepG_store_atomic e (cg hg) hb.kind p f1 f2 f3 f4 f5 r t hs.wg.1 hs.wg.2,hs.vB aG _,.set _ (.inr (.inl rfl)),g.group hi he (by rw[h1];simp) (by rw[h1];simp) (by simp) hw,zJ true rfl (by simp[h1]) h0 (.inl rfl),.inr dP,h⟩
theorem L1 (q r:Value)(g:Entry c.P f Extern.Sync.semrelease)(aG:c.Mu≠c.Wg/\c.Mu≠c.Is/\c.Wg≠c.Is)(t:At ops j a f [.pointer (some (smA c.Wg)),q,r] d)(h1:ph.gp= .sm)
  (h:ai (WJ c i) fi ops (j+1) n Q (bf a d (.tuple #[])) F {ph with gp:=.gone}):ai (WJ c i) fi ops j (n+1) Q a F ph:=by
 obtain ⟨o,cB,dy,l,hg,m,u,rfl⟩:=t
 obtain ⟨x,y,z,rfl,e,_,_⟩:=sB u
 obtain ⟨fn,f1,f2,f3,f4,f5⟩:=g.ex
 refine fL l (by rw[h1];simp) fun w s k φ p0 _ hs hi he p=>.inr ?_
 obtain ⟨e1,hw⟩:=KV p.w hi {ph with gp:=.gone} (by rw[he];exact h1) rfl
 have v:IntKind.u32.wrap (s.ws+1)=s.ws+1:=by rw[e1];decide
 refine ⟨.tuple #[],_,_,{s with ws:=s.ws+1},{ph with gp:=.gone},fun b A cs hb=>stepG_semrelease l (cg hg) hb.kind m f1 f2 f3 f4 f5 (by simp[eN,e]) hs.ws.1 hs.ws.2,by rw[v];exact hs.EE aG _,.set _ (.inr (.inl rfl)),
  p.group hi he (by rw[h1];simp) (by rw[h1];simp) (by simp) hw,zL rfl (by simp[h1]) (.inl rfl),.inl ⟨_,m,fun x e=>?_⟩,h⟩
 cases e
 exact ⟨f,rfl,g.Es⟩
end
end Go.Sep
end
section
namespace Go.Sep
open Go Go.Conc
open Go.ConcN (sumTo upd upd_ne upd_same)
theorem ai.defer {P:Program}{main:Bool}{S:Type}{JF:S->Goroutine->aa->Prop}{fi f:FuncId}{ops:Array Oper}{j n:Nat}{Q:Act->aa->S->Prop}{a:Act}{F:aa}{ph:S}(e:eo P main (JF ph)){o:Oper}{cB:Array Operand}{dy:Array TypeId}{vals:Array Value}
  (g:ops[j]?=some o) (hg:cD ops o a=some true) (k:o.op= .defer {callee:=.value (.func f),args:=cB,argTypes:=dy}) (hd:o.dst=none) (l:cB.map a.eval=vals)
  (h:∀c:Act,(∀i,slot c i=slot a i)->sz c=sz a->c.defers=dcall f vals::a.defers->ai JF fi ops (j+1) n Q c F ph):ai JF fi ops j (n+1) Q a F ph:=fun b d cs hb m=>by
 rw[List.range'_succ,eO hb.round]
 refine e.move (fr':=b.at (Act.put ⟨a.tmps,dcall f (cB.map a.eval)::a.defers⟩ o.dst undef) (.inRegion ops (List.range' (j+1) n)::d)) (fun w=>stepG_defer g (cg hg) hb.kind k) ?_
 rw[<-eO hb.round,hd,l]
 exact h ⟨a.tmps,dcall f vals::a.defers⟩ (fun _=>rfl) rfl rfl b d cs hb m
section
variable {c:Cy}{i:Nat}{ph:Ph}{F:aa}{f:FuncId}
theorem L2 (g:Entry c.P f (fun _=>do mark .enable;pure Extern.Race.none_))(hg:ph.gp= .gone){d:Nat}(hd:ph.deaf=d+1){b:Frame}{a:Act}{todo:List Item}{cs:List Frame}{e:List Deferred}(j:a.defers=dcall f #[]::e)
  (h:WJ c i {ph with deaf:=d} (G {b.at ⟨a.tmps,e⟩ todo with mode:=.returning} cs) F):WJ c i ph (G {b.at a todo with mode:=.returning} cs) F:=by
 obtain ⟨F0,r,hle,hW⟩:=h
 obtain ⟨q,_,k⟩:=hW.left hg
 obtain ⟨fn,f1,f2,f3,f4,f5⟩:=g.ex
 refine Wk.gone (q:=q+1) hg (QuitsD.unwind_mark .enable rfl (by simp) j f1 f2 f3 f4 f5 ?_)
 rw[hd]
 exact k
def lK (f:FuncId)(R:Value->aa->Ph->Prop):Ex->Act->aa->Ph->Prop
 | .exit _,_,_,_=>False
 |_,a,F,ph=>a.defers=[dcall f #[]]/\ph.gp= .gone/\∃b,ph.deaf=b+1/\R (.tuple #[]) F {ph with deaf:=b}
theorem cI.L3 {f0:FuncId}(p:Entry c.P f (fun _=>do mark .enable;pure Extern.Race.none_)){fn:Func}{cd:Code}{n:Nat}{args:Array Value}{R:Value->aa->Ph->Prop}(l:c.P.funcs[f0]?=some fn)(hb:fn.body=some cd)(m:fn.results=#[])(o:fn.ntmps=n)(v:args.size<=n)
  (h:∀A:Act,sz A=n->A.defers=[]->(∀i,slot A i=args.getD i undef)->cO (WJ c i) f0 cd (lK f R) A F ph):cI c.P (WJ c i) f0 args F ph R:=by
 intro d cs q
 let b:Frame:={(default:Frame) with fn:=f0,kind:=.normal}
 have r:b.roundOf=none:=rfl
 have s:Frame.enter c.P f0 args .normal=on b {tmps:=args++Array.replicate (fn.ntmps - args.size) undef,defers:=[]} [.code cd]:=by
  simp[Frame.enter,on,l,hb,b]
  rfl
 rw[s]
 have g:=WJ.eH c i
 have leave:∀(a:Act) (todo:List Item) F' (aK:Ph),(a.defers=[dcall f #[]]/\aK.gp= .gone/\∃j,aK.deaf=j+1/\R (.tuple #[]) F' {aK with deaf:=j})->WJ c i aK (G {on b a todo with mode:=.returning} (d::cs)) F':=by
  intro a todo F' aK ⟨hd,hg,j,t,u⟩
  rw[eO r]
  refine L2 p hg t hd ((g _).move (fr':=d.finish (.tuple #[])) (cs':=cs) (fun w=>?_) (q _ F' _ u))
  exact stepG_leave rfl rfl l (results_none m _ c.P w) (events_results_none m _ _)
 refine h _ (by simp[sz,o];omega) rfl (fun i=>?_) b [] (d::cs) ⟨by simp[b],rfl,rfl⟩ fun e a F' aK k=>?_
 .simp only[slot,o,Array.getD_eq_getD_getElem?]
  rcases Nat.lt_or_ge i args.size with hi|hi
  .rw[Array.getElem?_append_left hi]
  .rw[Array.getElem?_append_right hi,Array.getElem?_replicate,Array.getElem?_eq_none hi]
   split<;>rfl
 .cases e with
  |normal=>exact (g aK).move (fun _=>mL rfl) (leave a _ F' aK k)
  |exit i=>exact k.elim
  |ret=>exact fun x=>(g aK).move (fun _=>stepG_ret' rfl) (leave a _ F' aK k)
def zR (R:aa->Ph->Prop):Ex->Act->aa->Ph->Prop
 | .exit _,_,_,_=>False
 |_,a,F,ph=>a.defers=[]/\R F ph
theorem L4 {f0:FuncId}{fn:Func}{cd:Code}{n:Nat}{args:Array Value}{R:aa->Ph->Prop}(k:c.P.funcs[f0]?=some fn)(p:(fn.name== "runtime.NumGoroutine")=false)(hb:fn.body=some cd)(l:fn.results=#[])(m:fn.ntmps=n)(t:args.size<=n)
  {b:Frame} {a:Act} {todo:List Item} {cs:List Frame} {f:List Deferred} (q:a.defers=dcall f0 args::f)
  (h:∀A:Act,sz A=n->A.defers=[]->(∀i,slot A i=args.getD i undef)->cO (WJ c i) f0 cd (zR R) A F ph)
  (r:∀F' aK,R F' aK->WJ c i aK (G {b.at ⟨a.tmps,f⟩ todo with mode:=.returning} cs) F'):WJ c i ph (G {b.at a todo with mode:=.returning} cs) F:=by
 have g:=WJ.eH c i
 refine (g ph).move (fun w=>stepG_unwind_enter q k p hb) ?_
 have leave:∀(d:Act) (o:List Item) F' (aK:Ph),(d.defers=[]/\R F' aK)->WJ c i aK (G {(baseD f0).at d o with mode:=.returning} ({b.at ⟨a.tmps,f⟩ todo with mode:=.returning}::cs)) F':=by
  intro d o F' aK ⟨hd,s⟩
  exact (g _).move (fun w=>stepG_leave_deferred rfl hd k (results_none l _ c.P w) (events_results_none l _ _) rfl) (r F' aK s)
 have:=h {tmps:=args++Array.replicate (fn.ntmps - args.size) undef,defers:=[]} (by simp[sz,m];omega) rfl (fun i=>?_) (baseD f0) [] ({b.at ⟨a.tmps,f⟩ todo with mode:=.returning}::cs) ⟨by simp[baseD],rfl,rfl⟩ fun e d F' aK j=>?_
 .rw[eO rfl] at this;exact this
 .simp only[slot,m,Array.getD_eq_getD_getElem?]
  rcases Nat.lt_or_ge i args.size with hi|hi
  .rw[Array.getElem?_append_left hi]
  .rw[Array.getElem?_append_right hi,Array.getElem?_replicate,Array.getElem?_eq_none hi]
   split<;>rfl
 .cases e with
  |normal=>exact (g aK).move (fun _=>mL rfl) (leave d _ F' aK j)
  |exit i=>exact j.elim
  |ret=>exact fun u=>(g aK).move (fun _=>stepG_ret' rfl) (leave d _ F' aK j)
end
attribute [go_sem] lK zR
end Go.Sep
end
section
namespace Go.Sep
open Go
def lM (x y:Int):Int:=IntKind.u64.wrap ((BitVec.ofInt 64 x&&& BitVec.ofInt 64 y).toNat:Int)
@[go_sem] theorem TW (x y:Int):IntKind.u64.wrap ((@HAnd.hAnd (BitVec 64) (BitVec 64) (BitVec 64) (@instHAndOfAndOp (BitVec IntKind.u64.bits) (@BitVec.instAndOp IntKind.u64.bits)) (BitVec.ofInt 64 x) (BitVec.ofInt 64 y)).toNat:Int)=lM x y:=rfl
theorem zS (v t:Nat)(a:v<2147483648)(ht:t<=1):lM ((v:Int)*4294967296+(t:Int)) 2147483648=0:=Go.ConcN.st_flag v t a ht
theorem zT (v t:Nat)(a:v<2147483648)(ht:t<=1):lM ((v:Int)*4294967296+(t:Int)) 2147483647=(t:Int):=Go.ConcN.st_waiters v t a ht
theorem zU (v t:Nat)(ht:t<=1):((v:Int)*4294967296+(t:Int)).fdiv 4294967296=v:=by
 rw[Int.fdiv_eq_ediv_of_nonneg _ (by decide)];omega
end Go.Sep
namespace Go.Proofs.YtnaejeiofbpbkaaGreatDoor
open Go Go.Sep Go.Proofs Go.Conc
open Go.ConcN (upd upd_same)
open Go.ConcM (muA msA)
open Go.ConcR (stA smA)
set_option maxRecDepth 100000
set_option maxHeartbeats 4000000
set_option linter.all false
attribute [local go_sem] Int.reduceBEq Int.reduceBNe muA msA stA smA
section
variable {Mu Wg Is n base T0 i:Nat}{bs:Nat->Bool}{st:Bool}{F:aa}
theorem L5 (w:World)(s:Sh)(h:cA (CY Mu Wg Is n bs base T0) w s):∃v,w.cell? ⟨Wg,0,none⟩=some v:=⟨_,h.wg.1⟩
theorem L6 (aG:Mu≠Wg/\Mu≠Is/\Wg≠Is)(b:n<67108864){mp:Mp}:
  cI Tryz.prog (WJ (CY Mu Wg Is n bs base T0) i) 160 #[.pointer (some (stA Wg)),.int .u64 18446744069414584320] F ⟨mp,.rel,st,1⟩
   (fun r F' aK=>F'=F/\∃v t:Nat,v<=n/\t<=1/\r= .int .u64 ((v:Int)*4294967296+(t:Int))/\aK=⟨mp,if v=0/\t=1 then .ld else .gone,st,1⟩):=by
 have a:=WJ.eH (CY Mu Wg Is n bs base T0) i
 refine cI.go (main:=false) a Tryz.func160 rfl Tryz.ntmps160 (by simp) fun A d hd hs=>?_
 have e:=hs 0
 have k1:=hs 1
 clear hs
 repeat apply aB (a _)
 refine dc a ?_
 refine ai.pure (a _) 1 (n:=0) _ rfl rfl ?_;simp only[*,go_sem]
 refine ai.nil a ?_;try simp only[go_sem]
 repeat apply aB (a _)
 refine dc a ?_
 refine ai.pure (a _) 4 (n:=2) _ rfl rfl ?_;simp only[*,go_sem]
 refine LY Ew aG b ⟨_,_,_,rfl,(by first|rfl|simp only[*,go_sem]),rfl,by first|(simp only[*,go_sem];done)|(simp only[*,go_sem];rfl),rfl⟩ (by rfl) (by simp) fun v t c ht=>?_
 refine ai.pure (a _) 1 (n:=0) _ rfl rfl ?_;simp only[*,go_sem]
 refine ai.nil a ?_;try simp only[go_sem]
 refine fK ?_;try simp only[go_sem]
 exact (mG rfl (by simp only[*,go_sem]) (by simp only[*,go_sem]) ⟨rfl,v,t,c,ht,rfl,rfl⟩).2
theorem L7 {mp:Mp}:
  cI Tryz.prog (WJ (CY Mu Wg Is n bs base T0) i) 162 #[.pointer (some (stA Wg))] F ⟨mp,.ld,st,1⟩
   (fun r F' aK=>F'=F/\r= .int .u64 1/\aK=⟨mp,.st,st,1⟩):=by
 have a:=WJ.eH (CY Mu Wg Is n bs base T0) i
 refine cI.go (main:=false) a Tryz.func162 rfl Tryz.ntmps162 (by simp) fun A b hd hs=>?_
 have c:=hs 0
 clear hs
 repeat apply aB (a _)
 refine dc a ?_
 refine ai.pure (a _) 1 (n:=0) _ rfl rfl ?_;simp only[*,go_sem]
 refine ai.nil a ?_;try simp only[go_sem]
 repeat apply aB (a _)
 refine dc a ?_
 refine ai.pure (a _) 3 (n:=2) _ rfl rfl ?_;simp only[*,go_sem]
 refine LZ zD ⟨_,_,_,rfl,(by first|rfl|simp only[*,go_sem]),rfl,by first|(simp only[*,go_sem];done)|(simp only[*,go_sem];rfl),rfl⟩ (by rfl) (by simp) ?_
 refine ai.pure (a _) 1 (n:=0) _ rfl rfl ?_;simp only[*,go_sem]
 refine ai.nil a ?_;try simp only[go_sem]
 refine fK ?_;try simp only[go_sem]
 exact (mG rfl (by simp only[*,go_sem]) (by simp only[*,go_sem]) ⟨rfl,rfl,rfl⟩).2
theorem L8 (aG:Mu≠Wg/\Mu≠Is/\Wg≠Is){mp:Mp}:
  cI Tryz.prog (WJ (CY Mu Wg Is n bs base T0) i) 163 #[.pointer (some (stA Wg)),.int .u64 0] F ⟨mp,.st,st,1⟩
   (fun r F' aK=>F'=F/\r= .tuple #[]/\aK=⟨mp,.sm,st,1⟩):=by
 have a:=WJ.eH (CY Mu Wg Is n bs base T0) i
 refine cI.go (main:=false) a Tryz.func163 rfl Tryz.ntmps163 (by simp) fun A b hd hs=>?_
 have c:=hs 0
 have k1:=hs 1
 clear hs
 repeat apply aB (a _)
 refine dc a ?_
 refine ai.pure (a _) 4 (n:=1) _ rfl rfl ?_;simp only[*,go_sem]
 refine L0 Ls aG ⟨_,_,_,rfl,(by first|rfl|simp only[*,go_sem]),rfl,by first|(simp only[*,go_sem];done)|(simp only[*,go_sem];rfl),rfl⟩ (by rfl) (by simp) ?_
 refine ai.nil a ?_;try simp only[go_sem]
 exact mF rfl (by simp only[*,go_sem]) ⟨rfl,rfl,rfl⟩
end
end Go.Proofs.YtnaejeiofbpbkaaGreatDoor
end
section
namespace Go.Sep
open Go Go.Conc
open Go.ConcN (sumTo upd upd_ne upd_same)
open Go.ConcM (MuAt muA msA muBlock OsLater)
open Go.ConcR (WgAt wgBlock stA smA)
structure X where
 Mu:Nat
 Wg:Nat
 Is:Nat
 n:Nat
 bs:Nat->Bool
 base:Nat
 T0:Nat
 B0:Nat
inductive Z where
 |free
 |co (x:X) (k:Nat) (p:P0) (d:Nat)
structure PT where
 P:Program
 tM:TypeId
 tW:TypeId
 tI:TypeId
abbrev X.cy (x:X)(T:PT):Cy:=⟨T.P,x.Mu,x.Wg,x.Is,T.tM,T.tW,T.tI,x.n,x.bs,x.base,x.T0⟩
def ZJ (T:PT)(Φ:Goroutine->aa->Prop):Z->Goroutine->aa->Prop
 | .free=>jk T.P Φ
 | .co x k p d=>fun g F=>(p= .reg->k=x.n)/\eG (x.cy T) x.B0 (jk T.P Φ) k p d g F
section
variable {T:PT}{Φ:Goroutine->aa->Prop}{x:X}{k d:Nat}{p:P0}{ops:Array Oper}{j n:Nat}{Q:Act->aa->Z->Prop}{a:Act}{F:aa}{o:Oper}{f fi:FuncId}{dt:Option Tmp}
theorem EM {c:Cy}:Ev0 c d d #[]:=⟨by simp,rfl⟩
theorem L9 {c:Cy}:Ev0 c d (d+1) #[cK .disable]:=⟨fun e he=>by simp at he;exact .inl he,rfl⟩
theorem EN {c:Cy}:Ev0 c (d+1) d #[cK .enable]:=⟨fun e he=>by simp at he;exact .inr (.inl he),rfl⟩
theorem zV {c:Cy}{ad:Addr}(y:Bool)(h:ad.block=c.Wg):Ev0 c d d #[⟨.cell ad,y,true⟩]:=⟨fun e he=>by simp at he;exact .inr (.inr ⟨ad,h,.inl ⟨y,he⟩⟩),by simp[deafBehind]⟩
theorem EO {c:Cy}{ad:Addr}(h:ad.block=c.Wg):Ev0 c d d #[⟨.cell ad,false,true⟩,⟨.cell ad,true,true⟩]:=
 ⟨fun e he=>by simp at he;rcases he with he|he<;>exact .inr (.inr ⟨ad,h,.inl ⟨_,he⟩⟩),by simp[deafBehind]⟩
theorem Ma {c:Cy}{ad:Addr}(h:ad.block=c.Wg):Ev0 c d d #[cK (.read ad)]:=⟨fun e he=>by simp at he;exact .inr (.inr ⟨ad,h,.inr (.inl he)⟩),by simp[deafBehind,cK]⟩
theorem Mb {c:Cy}{ad:Addr}(h:ad.block=c.Wg):Ev0 c d d #[cK (.write ad)]:=⟨fun e he=>by simp at he;exact .inr (.inr ⟨ad,h,.inr (.inr he)⟩),by simp[deafBehind,cK]⟩
theorem Mc {c:Cy}{ad:Addr}(h:ad.block=c.Wg):Ev0 c d d (semEvents ad):=by
 refine ⟨fun e he=>?_,by simp[deafBehind,semEvents]⟩;simp[semEvents] at he;rcases he with rfl|rfl|rfl|rfl
 .exact .inl rfl
 .exact .inr (.inr ⟨ad,h,.inl ⟨_,rfl⟩⟩)
 .exact .inr (.inr ⟨ad,h,.inl ⟨_,rfl⟩⟩)
 .exact .inr (.inl rfl)
theorem ZJ.eH (T:PT)(Φ:Goroutine->aa->Prop)(z:Z):eo T.P true (ZJ T Φ z):=by
 cases z with
 |free=>exact Closed.eH (El T.P Φ)
 |co x k p d=>
  refine ⟨fun {fr fr' cs cs' F} hs h=>⟨h.1,eG.zy (c:=x.cy T) rfl rfl h.1 fun w s φ h1 h2 h3=>?_⟩⟩;exact ⟨_,w,#[],s,p,d,hs w,h2,.refl _ _,h3,EM,.inr dP,h.2⟩
theorem ZJ.closed (T:PT)(Φ:Goroutine->aa->Prop){z:Z}(b:∀x k d,z≠ .co x k .reg d):Closed T.P true (ZJ T Φ z):=by
 cases z with
 |free=>exact El T.P Φ
 |co x k p d=>
  have a:p≠ .reg:=fun e=>b x k d (by rw[e]);have hC:=eG.closed (x.cy T) x.B0 (jk T.P Φ) k p d a
  exact ⟨fun hle h=>⟨h.1,hC.mono hle h.2⟩,fun {fr cs F} h=>⟨fun e=>absurd e a,hC.step fun w hw=>by
   obtain ⟨g',w',es,F',k1,c,f,g,i⟩:=h w hw
   exact ⟨g',w',es,F',k1,c,f,g,i.2⟩⟩⟩
theorem lN (A:ops[j]?=some o)(i:p= .reg->k=x.n)
  (h:∀(w:World) (s:Sh) (φ:Nat->Ph),Has F w->cA (x.cy T) w s->Inv x.n x.bs k φ p s->
   ∃(v:Value) (w':World) (es:Array Event) (s':Sh) (f:P0) (g:Nat),(∀(b:Frame) (e:List Item) (cs:List Frame),BF fi b->
    stepG T.P true (G (b.at a (.inRegion ops (j::List.range' (j+1) n)::e)) cs) w= .go (G (b.at (a.put o.dst v) (.inRegion ops (List.range' (j+1) n)::e)) cs) w' es)/\cA (x.cy T) w' s'/\iN (x.cy T) w w'/\Inv x.n x.bs k φ f s'/\Ev0 (x.cy T) d g es/\
    (s'.ms<=s.ms/\s'.ws<=s.ws)/\ai (ZJ T Φ) fi ops (j+1) n Q (a.put o.dst v) F (.co x k f g)):ai (ZJ T Φ) fi ops j (n+1) Q a F (.co x k p d):=fun b e cs hb l=>by
 rw[List.range'_succ,eO hb.round]
 refine ⟨i,eG.zy (c:=x.cy T) rfl rfl i fun w s φ e1 e2 m=>?_⟩
 obtain ⟨v,w',es,s',f,g,k1,q,r,t,u,y,z⟩:=h w s φ e1 e2 m
 have:=z b e cs hb l
 rw[eO hb.round] at this
 exact ⟨_,w',es,s',f,g,k1 b e cs hb,q,r,t,u,.inr y,this.2⟩
theorem qc {k:Nat}{φ:Nat->Ph}{p a:P0}{s:Sh}(h:Inv x.n x.bs k φ p s){wg ws:Int}(hw:dM x.n φ a wg ws):Inv x.n x.bs k φ a {s with wg:=wg,ws:=ws}:=⟨h.m,hw,h.i⟩
theorem EP (i:Entry T.P f (fun _=>do mark .disable;pure Extern.Race.none_)){vals:List Value}(l:At ops j a f vals dt)(m:p= .reg->k=x.n)(c:P0)(q:∀φ wg ws,dM x.n φ p wg ws->dM x.n φ c wg ws)
  (h:ai (ZJ T Φ) fi ops (j+1) n Q (bf a dt (.tuple #[])) F (.co x k c (d+1))):ai (ZJ T Φ) fi ops j (n+1) Q a F (.co x k p d):=by
 obtain ⟨o,cB,dy,e,hg,r,_,rfl⟩:=l
 obtain ⟨fn,f1,f2,f3,f4,f5⟩:=i.ex
 exact lN e m fun w s φ _ hs g=>⟨.tuple #[],w,_,s,c,d+1,fun b t cs hb=>stepG_mark0 .disable (by simp) e (cg hg) hb.kind r f1 f2 f3 f4 f5,hs,.refl _ _,qc g (q _ _ _ g.w),L9,dP,h⟩
theorem ER (e:Entry T.P f (fun _=>do mark .enable;pure Extern.Race.none_)){vals:List Value}(g:At ops j a f vals dt)(i:p= .reg->k=x.n)
  (h:ai (ZJ T Φ) fi ops (j+1) n Q (bf a dt (.tuple #[])) F (.co x k p d)):ai (ZJ T Φ) fi ops j (n+1) Q a F (.co x k p (d+1)):=by
 obtain ⟨o,cB,dy,c,hg,l,_,rfl⟩:=g
 obtain ⟨fn,f1,f2,f3,f4,f5⟩:=e.ex
 exact lN c i fun w s φ _ hs m=>⟨.tuple #[],w,_,s,p,d,fun b q cs hb=>stepG_mark0 .enable (by simp) c (cg hg) hb.kind l f1 f2 f3 f4 f5,hs,.refl _ _,m,EN,dP,h⟩
theorem Md (e:Entry T.P f (Extern.Race.marked .read))(g:At ops j a f [.pointer (some (smA x.Wg))] dt)(i:p= .reg->k=x.n)
  (h:ai (ZJ T Φ) fi ops (j+1) n Q (bf a dt (.tuple #[])) F (.co x k p d)):ai (ZJ T Φ) fi ops j (n+1) Q a F (.co x k p d):=by
 obtain ⟨o,cB,dy,c,hg,l,m,rfl⟩:=g
 obtain ⟨y,rfl,q⟩:=kN m
 obtain ⟨fn,f1,f2,f3,f4,f5⟩:=e.ex
 exact lN c i fun w s φ _ hs r=>⟨.tuple #[],w,_,s,p,d,fun b t cs hb=>stepG_markAt .read (by simp) c (cg hg) hb.kind l f1 f2 f3 f4 f5 (by simp[eN,q]),hs,.refl _ _,r,Ma (ad:=smA x.Wg) rfl,dP,h⟩
theorem Me (e:Entry T.P f (Extern.Race.marked .write))(g:At ops j a f [.pointer (some (smA x.Wg))] dt)(i:p= .reg->k=x.n)
  (h:ai (ZJ T Φ) fi ops (j+1) n Q (bf a dt (.tuple #[])) F (.co x k p d)):ai (ZJ T Φ) fi ops j (n+1) Q a F (.co x k p d):=by
 obtain ⟨o,cB,dy,c,hg,l,m,rfl⟩:=g
 obtain ⟨y,rfl,q⟩:=kN m
 obtain ⟨fn,f1,f2,f3,f4,f5⟩:=e.ex
 exact lN c i fun w s φ _ hs r=>⟨.tuple #[],w,_,s,p,d,fun b t cs hb=>stepG_markAt .write (by simp) c (cg hg) hb.kind l f1 f2 f3 f4 f5 (by simp[eN,q]),hs,.refl _ _,r,Mb (ad:=smA x.Wg) rfl,dP,h⟩
theorem vK (ad:Addr){src dst t:TypeId}(hs:T.P.underlying src=some (.pointer t))(hd:T.P.underlying dst=some .unsafePointer)(c:(T.P.info? t).map (fun i=>decide (i.size=0))=some false){y:Operand}
  (l:ob ops j a (.convert src dst y) dt) (m:p= .reg->k=x.n) (q:ev a y= .pointer (some ad)) (r:∀w s,cA (x.cy T) w s->∃v,w.cell? ad=some v) (h:ai (ZJ T Φ) fi ops (j+1) n Q (bf a dt (.pointer (some ad))) F (.co x k p d)):ai (ZJ T Φ) fi ops j (n+1) Q a F (.co x k p d):=by
 obtain ⟨o,e,hg,u,rfl⟩:=l
 refine lN e m fun w s φ _ f z=>⟨_,w,#[],s,p,d,fun b C cs hb=>?_,f,.refl _ _,z,EM,dP,h⟩
 obtain ⟨v,g⟩:=r w s f
 have e1:execOp a.eval o=(do pure (.value (<-convert src dst (.pointer (some ad)))):Sem Next):=by
  unfold execOp
  simp only[u,eN,q]
 have A:(execOp a.eval o).run T.P w= .ok (.value (.pointer (some ad))) w:=by
  rw[e1];simp[run_convert_to_unsafe hs hd c g]
 have B:(execOp a.eval o).events T.P w #[]=#[]:=by
  rw[e1];simp[events_convert_to_unsafe hs hd c g]
 rw[stepG_value e (cg hg) hb.kind A]
 unfold listed
 rw[B,seen_none]
theorem Mf (i:Entry T.P f (Extern.Atomic.update (Op.intArith .add) .u64 true))(aG:x.Mu≠x.Wg/\x.Mu≠x.Is/\x.Wg≠x.Is)(A:x.n<67108864)(l:At ops j a f [.pointer (some (stA x.Wg)),.int .u64 4294967296] dt)
  (h:∀v:Nat,v<=x.n->ai (ZJ T Φ) fi ops (j+1) n Q (bf a dt (.int .u64 (((v+1:Nat):Int)*4294967296+((0:Nat):Int)))) F (.co x k (.opn 1) d)):ai (ZJ T Φ) fi ops j (n+1) Q a F (.co x k (.opn 0) d):=by
 obtain ⟨o,cB,dy,c,hg,m,p,rfl⟩:=l
 obtain ⟨y,z,rfl,q,r⟩:=sA p
 obtain ⟨fn,f1,f2,f3,f4,f5⟩:=i.ex
 refine lN c (fun e=>by cases e) fun w s φ _ hs g=>?_
 obtain ⟨v,e1,t,hw⟩:=KW g.w
 have e2:IntKind.u64.wrap (s.wg+4294967296)=((v+1:Nat):Int)*4294967296+((0:Nat):Int):=by
  rw[e1]
  unfold IntKind.wrap
  simp only[IntKind.bits,IntKind.signed,c7]
  simp
  omega
 have u:s.wg+c7=((v+1:Nat):Int)*4294967296+((0:Nat):Int):=by rw[e1];simp only[c7];omega
 rw[u] at hw
 exact ⟨_,_,_,{s with wg:=((v+1:Nat):Int)*4294967296+((0:Nat):Int)},.opn 1,d,fun b B cs hb=>by rw[<-e2];exact stepG_add_atomic c (cg hg) hb.kind m f1 f2 f3 f4 .u64 f5 q r hs.wg.1 hs.wg.2,by rw[<-e2];exact hs.vB aG _,.set _ (.inr (.inl rfl)),qc g hw,EO rfl,dP,h v t⟩
theorem Mg (i:Entry T.P f (Extern.Atomic.loadT (.int .u64)))(l:At ops j a f [.pointer (some (stA x.Wg))] dt){u:Nat}
  (h:∀v:Nat,v<=u->ai (ZJ T Φ) fi ops (j+1) n Q (bf a dt (.int .u64 ((v:Int)*4294967296+((0:Nat):Int)))) F (.co x k (if v=0 then .e5 else .look v) d)):ai (ZJ T Φ) fi ops j (n+1) Q a F (.co x k (.look u) d):=by
 obtain ⟨o,cB,dy,c,hg,m,p,rfl⟩:=l
 obtain ⟨y,rfl,q⟩:=kN p
 obtain ⟨fn,f1,f2,f3,f4,f5⟩:=i.ex
 refine lN c (fun e=>by cases e) fun w s φ _ hs g=>?_
 obtain ⟨v,e1,r,hw⟩:=KZ g.w
 have e2:s.wg=(v:Int)*4294967296+((0:Nat):Int):=by rw[e1];simp only[c7];omega
 exact ⟨_,_,_,s,_,d,fun b t cs hb=>by rw[<-e2];exact stepG_load_atomic c (cg hg) hb.kind m f1 f2 f3 f4 .u64 f5 q hs.wg.1,hs,.refl _ _,qc g hw,zV false rfl,dP,h v r⟩
theorem Mh (i:Entry T.P f (Extern.Atomic.loadT (.int .u64)))(l:At ops j a f [.pointer (some (stA x.Wg))] dt)
  (h:ai (ZJ T Φ) fi ops (j+1) n Q (bf a dt (.int .u64 0)) F (.co x k .e5 d)):ai (ZJ T Φ) fi ops j (n+1) Q a F (.co x k .e5 d):=by
 obtain ⟨o,cB,dy,c,hg,m,p,rfl⟩:=l
 obtain ⟨y,rfl,q⟩:=kN p
 obtain ⟨fn,f1,f2,f3,f4,f5⟩:=i.ex
 refine lN c (fun e=>by cases e) fun w s φ _ hs g=>?_
 have e2:s.wg=0:=(D8 g.w).1
 exact ⟨_,_,_,s,_,d,fun b r cs hb=>by rw[<-e2];exact stepG_load_atomic c (cg hg) hb.kind m f1 f2 f3 f4 .u64 f5 q hs.wg.1,hs,.refl _ _,g,zV false rfl,dP,h⟩
theorem Mi (q:Entry T.P f (Extern.Atomic.casT (.int .u64)))(aG:x.Mu≠x.Wg/\x.Mu≠x.Is/\x.Wg≠x.Is){v:Nat}(r:0<v)(G:k=x.n)(t:At ops j a f [.pointer (some (stA x.Wg)),.int .u64 ((v:Int)*4294967296+((0:Nat):Int)),.int .u64 ((v:Int)*4294967296+((0:Nat):Int)+1)] dt)
  (u:ai (ZJ T Φ) fi ops (j+1) n Q (bf a dt (.bool true)) F (.co x k .reg d)) (A:ai (ZJ T Φ) fi ops (j+1) n Q (bf a dt (.bool false)) F (.co x k (.look (v - 1)) d)):ai (ZJ T Φ) fi ops j (n+1) Q a F (.co x k (.look v) d):=by
 obtain ⟨o,cB,dy,g,hg,h,B,rfl⟩:=t
 obtain ⟨y,z,H,rfl,i,l,m⟩:=sB B
 obtain ⟨fn,f1,f2,f3,f4,f5⟩:=q.ex
 refine lN g (fun e=>by cases e) fun w s φ _ hs c=>?_
 by_cases e:s.wg=(v:Int)*4294967296+((0:Nat):Int)
 .have e1:s.wg=(v:Int)*c7:=by rw[e];simp only[c7];omega
  have hw:=c.w
  rw[e1] at hw
  have p:=K0 hw r
  have C:(v:Int)*c7+1=(v:Int)*4294967296+((0:Nat):Int)+1:=by simp only[c7];omega
  rw[C] at p
  exact ⟨.bool true,_,_,{s with wg:=(v:Int)*4294967296+((0:Nat):Int)+1},.reg,d,fun b D cs hb=>stepG_cas_hit g (cg hg) hb.kind h f1 f2 f3 f4 .u64 f5 i l m (by rw[<-e];exact hs.wg.1) hs.wg.2,hs.vB aG _,.set _ (.inr (.inl rfl)),qc c p,EO rfl,dP,u⟩
 .have e1:s.wg≠(v:Int)*c7:=fun E=>e (by rw[E];simp only[c7];omega)
  exact ⟨.bool false,_,_,s,.look (v - 1),d,fun b D cs hb=>stepG_cas_miss g (cg hg) hb.kind h f1 f2 f3 f4 .u64 f5 i l m hs.wg.1 hs.wg.2 e,hs,.refl _ _,qc c (K1 c.w e1).2,zV false rfl,dP,A⟩
theorem Mj (p:Value)(q:Entry T.P f Extern.Sync.semacquire)(aG:x.Mu≠x.Wg/\x.Mu≠x.Is/\x.Wg≠x.Is)(e:k=x.n)(r:At ops j a f [.pointer (some (smA x.Wg)),p] dt)
  (h:ai (ZJ T Φ) fi ops (j+1) n Q (bf a dt (.tuple #[])) F (.co x k .e5 d)):ai (ZJ T Φ) fi ops j (n+1) Q a F (.co x k .reg d):=fun b t cs hb u=>by
 obtain ⟨o,cB,dy,g,hg,i,v,rfl⟩:=r
 obtain ⟨y,z,rfl,l,_⟩:=sA v
 obtain ⟨fn,f1,f2,f3,f4,f5⟩:=q.ex
 rw[List.range'_succ,eO hb.round]
 refine ⟨fun _=>e,eG.act (c:=x.cy T) rfl rfl (fun _=>⟨e,fun w s hs h0=>?_⟩) fun w s φ e1 hs m A=>?_⟩
 .exact stepG_semacquire_wait g (cg hg) i f1 f2 f3 f4 f5 (ad:=smA x.Wg) (by simp[eN,l]) (by rw[hs.ws.1,h0])
 .have h0:=A rfl
  obtain ⟨B,C,hw⟩:=K2 m.w h0
  have:=h b t cs hb u
  rw[eO hb.round] at this
  exact ⟨_,_,_,{s with ws:=s.ws - 1},.e5,d,stepG_semacquire g (cg hg) hb.kind i f1 f2 f3 f4 f5 (by simp[eN,l]) hs.ws.1 h0 hs.ws.2,hs.EE aG _,.set _ (.inr (.inl rfl)),qc m hw,Mc rfl,.inr ⟨Int.le_refl _,by simp only;omega⟩,this.2⟩
theorem ES (d:Entry T.P f (Extern.Race.marked .acquire))(e:k=x.n)(g:At ops j a f [.pointer (some (stA x.Wg))] dt)
  (h:ai (ZJ T Φ) fi ops (j+1) n Q (bf a dt (.tuple #[])) ⟨F.ro,(x.Is,(x.cy T).fin)::F.own⟩ .free):ai (ZJ T Φ) fi ops j (n+1) Q a F (.co x k .e5 0):=fun b i cs hb l=>by
 obtain ⟨o,cB,dy,m,hg,p,q,rfl⟩:=g
 obtain ⟨y,rfl,r⟩:=kN q
 obtain ⟨fn,f1,f2,f3,f4,f5⟩:=d.ex
 rw[List.range'_succ,eO hb.round]
 subst e
 have:=h b i cs hb l
 rw[eO hb.round] at this
 exact ⟨fun _=>rfl,eG.join (c:=x.cy T) rfl rfl fun w hw=>⟨_,stepG_markAt .acquire (by simp) m (cg hg) hb.kind p f1 f2 f3 f4 f5 (by simp[eN,r]),rfl,this⟩⟩
theorem Mk (i:k<x.n){d:Deferred}{fv:Operand}{g:Fn}{caps:Array Value}(l:ops[j]?=some o)(hg:cD ops o a=some true)(f:∀w,(execOp a.eval o).run T.P w= .ok (.spawn d) w/\(execOp a.eval o).events T.P w #[]=#[])(hd:d.target= .fn g caps)
  (hW:Wk (x.cy T) k ⟨.idle,.cnt,false,0⟩ (born T.P d) ⟨F.ro,[]⟩) (h:ai (ZJ T Φ) fi ops (j+1) n Q (bf a o.dst undef) F (.co x (k+1) (.opn 0) 0)):ai (ZJ T Φ) fi ops j (n+1) Q a F (.co x k (.opn 1) 0):=fun b m cs hb p=>by
 rw[List.range'_succ,eO hb.round]
 have:=h b m cs hb p
 rw[eO hb.round] at this
 refine ⟨fun e=>(by cases e),eG.spawn (c:=x.cy T) rfl rfl i fun w hw=>⟨_,_,?_,hW,rfl,rfl,this.2⟩⟩
 rw[stepG_spawn l (cg hg) hb.kind (f w).1 hd]
 unfold listed
 rw[(f w).2,seen_none]
 rfl
end
section
variable {T:PT}{Φ:Goroutine->aa->Prop}{fi f:FuncId}
theorem Ml {cd:Code}{Q:Ex->Act->aa->Z->Prop}{a:Act}{F:aa}(c:aa)(Mu Wg Is n:Nat)(bs:Nat->Bool)
  (hle:Le ⟨c.ro,(Mu,muBlock T.tM 0 0)::(Wg,wgBlock T.tW 0 0)::(Is,.cells (List.replicate n (Value.bool false)).toArray T.tI)::c.own⟩ F)
  (h:∀base B0 T0,0<base->(Mu≠Wg/\Mu≠Is/\Wg≠Is)->cO (ZJ T Φ) fi cd Q a c (.co ⟨Mu,Wg,Is,n,bs,base,T0,B0⟩ 0 (.opn 0) 0)):cO (ZJ T Φ) fi cd Q a F .free:=fun b k cs hb d=>
 jk.found bs rfl rfl hle fun base B0 T0 h0 aG=>(h base B0 T0 h0 aG b k cs hb d).2
theorem Mm (l:Entry T.P f (fun _=>do mark .enable;pure Extern.Race.none_)){x:X}{k d:Nat}{p:P0}{F:aa}(e:p= .reg->k=x.n){b:Frame}{a:Act}{todo:List Item}{cs:List Frame}{i:List Deferred}(m:a.defers=dcall f #[]::i)
  (h:ZJ T Φ (.co x k p d) (G {b.at ⟨a.tmps,i⟩ todo with mode:=.returning} cs) F):ZJ T Φ (.co x k p (d+1)) (G {b.at a todo with mode:=.returning} cs) F:=by
 obtain ⟨fn,f1,f2,f3,f4,f5⟩:=l.ex
 refine ⟨e,eG.zy (c:=x.cy T) rfl rfl e fun w s φ e1 hs o=>⟨_,w,#[cK .enable],s,p,d,?_,hs,.refl _ _,o,EN,.inr dP,h.2⟩⟩
 exact stepG_unwind_entry (v:=.tuple #[]) m f1 f2 f3 f4 f5 (by simp[Extern.Race.none_]) (by simp[cK]) (by
  intro y j
  simp[cK] at j
  subst j
  exact ⟨rfl,fun g h=>by cases h⟩)
def zW (f:FuncId)(R:Value->aa->Z->Prop):Ex->Act->aa->Z->Prop
 | .exit _,_,_,_=>False
 |_,a,F,z=>a.defers=[dcall f #[]]/\∃x k p d,(p= .reg->k=x.n)/\z= .co x k p (d+1)/\R (.tuple #[]) F (.co x k p d)
theorem cI.Mn {f0:FuncId}(r:Entry T.P f (fun _=>do mark .enable;pure Extern.Race.none_)){fn:Func}{cd:Code}{n:Nat}{args:Array Value}{R:Value->aa->Z->Prop}{F:aa}{z:Z}(m:T.P.funcs[f0]?=some fn)(hb:fn.body=some cd)(o:fn.results=#[])(q:fn.ntmps=n)(C:args.size<=n)
  (h:∀A:Act,sz A=n->A.defers=[]->(∀i,slot A i=args.getD i undef)->cO (ZJ T Φ) f0 cd (zW f R) A F z):cI T.P (ZJ T Φ) f0 args F z R:=by
 intro g cs s
 let b:Frame:={(default:Frame) with fn:=f0,kind:=.normal}
 have t:b.roundOf=none:=rfl
 have u:Frame.enter T.P f0 args .normal=on b {tmps:=args++Array.replicate (fn.ntmps - args.size) undef,defers:=[]} [.code cd]:=by
  simp[Frame.enter,on,m,hb,b]
  rfl
 rw[u]
 have j:=ZJ.eH T Φ
 have leave:∀(c:Act) (todo:List Item) F' (a:Z),(c.defers=[dcall f #[]]/\∃x k p d,(p= .reg->k=x.n)/\a= .co x k p (d+1)/\R (.tuple #[]) F' (.co x k p d))->ZJ T Φ a (G {on b c todo with mode:=.returning} (g::cs)) F':=by
  intro c todo F' a ⟨hd,x,k,p,d,v,y,B⟩
  subst y
  rw[eO t]
  refine Mm r v hd ((j _).move (fr':=g.finish (.tuple #[])) (cs':=cs) (fun w=>?_) (s _ F' _ B))
  exact stepG_leave rfl rfl m (results_none o _ T.P w) (events_results_none o _ _)
 refine h _ (by simp[sz,q];omega) rfl (fun i=>?_) b [] (g::cs) ⟨by simp[b],rfl,rfl⟩ fun e c F' a l=>?_
 .simp only[slot,q,Array.getD_eq_getD_getElem?]
  rcases Nat.lt_or_ge i args.size with hi|hi
  .rw[Array.getElem?_append_left hi]
  .rw[Array.getElem?_append_right hi,Array.getElem?_replicate,Array.getElem?_eq_none hi]
   split<;>rfl
 .cases e with
  |normal=>exact (j a).move (fun _=>mL rfl) (leave c _ F' a l)
  |exit i=>exact l.elim
  |ret=>exact fun D=>(j a).move (fun _=>stepG_ret' rfl) (leave c _ F' a l)
theorem fY.Mo {args:Array Value}{ro:Addr->Option Value}{R:Value->aa->Prop}(h:∀Φ,cI T.P (ZJ T Φ) f args ⟨ro,[]⟩ .free (fun v F' z=>z= .free/\R v F')):fY T.P f args ⟨ro,[]⟩ R:=
 fY.Ln fun Φ c cs a=>h Φ c cs fun v F' z ⟨b,d⟩=>by subst b;exact a v F' d
end
end Go.Sep
end
section
namespace Go.Proofs.YtnaejeiofbpbkaaGreatDoor
open Go Go.Sep Go.Proofs Go.Conc
open Go.ConcN (upd upd_same)
open Go.ConcM (muA msA)
open Go.ConcR (stA smA)
set_option maxRecDepth 100000
set_option maxHeartbeats 4000000
attribute [local go_sem] Int.reduceBEq Int.reduceBNe muA msA stA smA
noncomputable abbrev TT:PT:=⟨Tryz.prog,181,188,4⟩
theorem Mq {f:FuncId}{R:Value->aa->Z->Prop}{a:Act}{F:aa}{x:X}{k d:Nat}{p:P0}(hd:a.defers=[dcall f #[]])(b:p= .reg->k=x.n)(c:R (.tuple #[]) F (.co x k p d)):zW f R .ret a F (.co x k p (d+1)):=⟨hd,x,k,p,d,b,rfl,c⟩
section
variable {Φ:Goroutine->aa->Prop}{x:X}{F:aa}{k:Nat}
theorem ET (w:World)(s:Sh)(h:cA (x.cy TT) w s):∃v,w.cell? ⟨x.Wg,0,none⟩=some v:=⟨_,h.wg.1⟩
theorem EU (w:World)(s:Sh)(h:cA (x.cy TT) w s):∃v,w.cell? ⟨x.Wg,1,none⟩=some v:=⟨_,h.ws.1⟩
theorem Mr (aG:x.Mu≠x.Wg/\x.Mu≠x.Is/\x.Wg≠x.Is)(c:x.n<67108864):
  cI Tryz.prog (ZJ TT Φ) 160 #[.pointer (some (stA x.Wg)),.int .u64 4294967296] F (.co x k (.opn 0) 1)
   (fun r F' d=>F'=F/\∃v:Nat,v<=x.n/\r= .int .u64 (((v+1:Nat):Int)*4294967296+((0:Nat):Int))/\d= .co x k (.opn 1) 1):=by
 have a:=ZJ.eH TT Φ
 have hJ:True:=trivial
 refine cI.go (main:=true) a Tryz.func160 rfl Tryz.ntmps160 (by simp) fun A f hd hs=>?_
 have g:=hs 0
 have k1:=hs 1
 clear hs
 repeat apply aB (a _)
 refine bg a fun K b=>?_
 refine ai.pure (a _) 1 (n:=0) _ rfl rfl ?_;simp only[*,go_sem,-b,-a]
 refine ai.nil a (b _ _ _ ?_);clear b K
 repeat apply aB (a _)
 refine bg a fun K b=>?_
 refine ai.pure (a _) 4 (n:=2) _ rfl rfl ?_;simp only[*,go_sem,-b,-a]
 refine Mf Ew aG c ⟨_,_,_,rfl,(by first|(simp only[*,go_sem,-b,-a,-hJ];done)|rfl),rfl,by first|(simp only[*,go_sem,-b,-a,-hJ];done)|(simp only[*,go_sem,-b,-a,-hJ];rfl),rfl⟩ fun v e=>?_
 refine ai.pure (a _) 1 (n:=0) _ rfl rfl ?_;simp only[*,go_sem,-b,-a]
 refine ai.nil a (b _ _ _ ?_);clear b K
 exact fK (mG rfl (by simp only[*,go_sem,-a,-hJ]) (by simp only[*,go_sem,-a,-hJ]) ⟨rfl,v,e,rfl,rfl⟩).2
theorem Ms {u:Nat}:
  cI Tryz.prog (ZJ TT Φ) 162 #[.pointer (some (stA x.Wg))] F (.co x k (.look u) 1)
   (fun r F' c=>F'=F/\∃v:Nat,v<=u/\r= .int .u64 ((v:Int)*4294967296+((0:Nat):Int))/\c= .co x k (if v=0 then .e5 else .look v) 1):=by
 have a:=ZJ.eH TT Φ
 have hJ:True:=trivial
 refine cI.go (main:=true) a Tryz.func162 rfl Tryz.ntmps162 (by simp) fun A e hd hs=>?_
 have f:=hs 0
 clear hs
 repeat apply aB (a _)
 refine bg a fun K b=>?_
 refine ai.pure (a _) 1 (n:=0) _ rfl rfl ?_;simp only[*,go_sem,-b,-a]
 refine ai.nil a (b _ _ _ ?_);clear b K
 repeat apply aB (a _)
 refine bg a fun K b=>?_
 refine ai.pure (a _) 3 (n:=2) _ rfl rfl ?_;simp only[*,go_sem,-b,-a]
 refine Mg zD ⟨_,_,_,rfl,(by first|(simp only[*,go_sem,-b,-a,-hJ];done)|rfl),rfl,by first|(simp only[*,go_sem,-b,-a,-hJ];done)|(simp only[*,go_sem,-b,-a,-hJ];rfl),rfl⟩ fun v d=>?_
 refine ai.pure (a _) 1 (n:=0) _ rfl rfl ?_;simp only[*,go_sem,-b,-a]
 refine ai.nil a (b _ _ _ ?_);clear b K
 exact fK (mG rfl (by simp only[*,go_sem,-a,-hJ]) (by simp only[*,go_sem,-a,-hJ]) ⟨rfl,v,d,rfl,rfl⟩).2
theorem Mt:
  cI Tryz.prog (ZJ TT Φ) 162 #[.pointer (some (stA x.Wg))] F (.co x k .e5 1)
   (fun r F' c=>F'=F/\r= .int .u64 0/\c= .co x k .e5 1):=by
 have a:=ZJ.eH TT Φ
 have hJ:True:=trivial
 refine cI.go (main:=true) a Tryz.func162 rfl Tryz.ntmps162 (by simp) fun A d hd hs=>?_
 have e:=hs 0
 clear hs
 repeat apply aB (a _)
 refine bg a fun K b=>?_
 refine ai.pure (a _) 1 (n:=0) _ rfl rfl ?_;simp only[*,go_sem,-b,-a]
 refine ai.nil a (b _ _ _ ?_);clear b K
 repeat apply aB (a _)
 refine bg a fun K b=>?_
 refine ai.pure (a _) 3 (n:=2) _ rfl rfl ?_;simp only[*,go_sem,-b,-a]
 refine Mh zD ⟨_,_,_,rfl,(by first|(simp only[*,go_sem,-b,-a,-hJ];done)|rfl),rfl,by first|(simp only[*,go_sem,-b,-a,-hJ];done)|(simp only[*,go_sem,-b,-a,-hJ];rfl),rfl⟩ ?_
 refine ai.pure (a _) 1 (n:=0) _ rfl rfl ?_;simp only[*,go_sem,-b,-a]
 refine ai.nil a (b _ _ _ ?_);clear b K
 exact fK (mG rfl (by simp only[*,go_sem,-a,-hJ]) (by simp only[*,go_sem,-a,-hJ]) ⟨rfl,rfl,rfl⟩).2
theorem Mv (aG:x.Mu≠x.Wg/\x.Mu≠x.Is/\x.Wg≠x.Is){v:Nat}(d:0<v):
  cI Tryz.prog (ZJ TT Φ) 171 #[.pointer (some (stA x.Wg)),.int .u64 ((v:Int)*4294967296+((0:Nat):Int)),.int .u64 ((v:Int)*4294967296+((0:Nat):Int)+1)] F (.co x x.n (.look v) 1)
   (fun r F' c=>F'=F/\((r= .bool true/\c= .co x x.n .reg 1)\/(r= .bool false/\c= .co x x.n (.look (v - 1)) 1))):=by
 have a:=ZJ.eH TT Φ
 have hJ:True:=trivial
 refine cI.go (main:=true) a Tryz.func171 rfl Tryz.ntmps171 (by simp) fun A e hd hs=>?_
 have f:=hs 0
 have k1:=hs 1
 have g:=hs 2
 clear hs
 repeat apply aB (a _)
 refine bg a fun K b=>?_
 refine ai.pure (a _) 1 (n:=0) _ rfl rfl ?_;simp only[*,go_sem,-b,-a]
 refine ai.nil a (b _ _ _ ?_);clear b K
 repeat apply aB (a _)
 refine bg a fun K b=>?_
 refine ai.pure (a _) 5 (n:=2) _ rfl rfl ?_;simp only[*,go_sem,-b,-a]
 refine Mi Lr aG d rfl ⟨_,_,_,rfl,(by first|(simp only[*,go_sem,-b,-a,-hJ];done)|rfl),rfl,by first|(simp only[*,go_sem,-b,-a,-hJ];done)|(simp only[*,go_sem,-b,-a,-hJ];rfl),rfl⟩ ?_ ?_
 .refine ai.pure (a _) 1 (n:=0) _ rfl rfl ?_;simp only[*,go_sem,-b,-a]
  refine ai.nil a (b _ _ _ ?_);clear b K
  exact fK (mG rfl (by simp only[*,go_sem,-a,-hJ]) (by simp only[*,go_sem,-a,-hJ]) ⟨rfl,.inl ⟨rfl,rfl⟩⟩).2
 .refine ai.pure (a _) 1 (n:=0) _ rfl rfl ?_;simp only[*,go_sem,-b,-a]
  refine ai.nil a (b _ _ _ ?_);clear b K
  exact fK (mG rfl (by simp only[*,go_sem,-a,-hJ]) (by simp only[*,go_sem,-a,-hJ]) ⟨rfl,.inr ⟨rfl,rfl⟩⟩).2
end
attribute [local go_sem] Int.reduceBEq Int.reduceBNe muA msA stA smA
def Mw (Wg:Nat)(F:aa)(z:Z)(v:Int)(a:Act)(F':aa)(b:Z):Prop:=
 F'=F/\slot a 1= .int .i64 1/\slot a 7= .int .i32 v/\slot a 8= .int .u32 0/\sz a=117/\a.defers=[dcall 155 #[]]/\b=z
section
variable {Φ:Goroutine->aa->Prop}{x:X}{F:aa}{k:Nat}
theorem Mx (aG:x.Mu≠x.Wg/\x.Mu≠x.Is/\x.Wg≠x.Is)(o:x.n<67108864):
  cI Tryz.prog (ZJ TT Φ) 128 #[.pointer (some (stA x.Wg)),.int .i64 1] F (.co x k (.opn 0) 0)
   (fun r F' g=>r= .tuple #[]/\F'=F/\g= .co x k (.opn 1) 0):=by
 have a:=ZJ.eH TT Φ
 have hJ:True:=trivial
 refine cI.Mn mH Tryz.func128 rfl rfl Tryz.ntmps128 (by simp) fun A i hd hs=>?_
 have p:=hs 0
 have k1:=hs 1
 clear hs
 have c1:decide ((1:Int)<0)=false:=by decide
 have c2:decide ((1:Int)>0)=true:=by decide
 repeat apply aB (a _)
 refine c9 (a _) (by simp only[*,go_sem,-a,-hJ]) ?_
 repeat apply aB (a _)
 refine bg a fun K b=>?_
 refine ai.pure (a _) 2 (n:=0) _ rfl rfl ?_;simp only[*,go_sem,-b,-a]
 refine ai.nil a (b _ _ _ ?_);clear b K
 repeat apply aB (a _)
 refine cF (a _) (by simp only[*,go_sem,-a,-hJ]) ?_
 apply cJ (a _)
 repeat apply aB (a _)
 refine bg a fun K b=>?_
 refine EP sx ⟨_,_,_,rfl,(by first|(simp only[*,go_sem,-b,-a,-hJ];done)|rfl),rfl,by first|(simp only[*,go_sem,-b,-a,-hJ];done)|(simp only[*,go_sem,-b,-a,-hJ];rfl),rfl⟩ (fun e=>by cases e) (.opn 0) (fun _ _ _ h=>h) ?_
 refine ai.nil a (b _ _ _ ?_);clear b K
 repeat apply aB (a _)
 refine bg a fun K b=>?_
 refine ai.defer (a _) rfl (by first|(simp only[*,go_sem,-b,-a,-hJ];done)|rfl) rfl rfl (by simp;rfl) fun d e1 e2 j=>?_
 have l0:slot d 0= .pointer (some ⟨x.Wg,0,none⟩):=(e1 0).trans (by simp only[*,go_sem,-a,-hJ])
 have l:slot d 1= .int .i64 1:=(e1 1).trans (by simp only[*,go_sem,-a,-hJ])
 replace i:sz d=117:=e2.trans (by simp only[*,go_sem,-a,-hJ])
 replace hd:d.defers=[dcall 155 #[]]:=j.trans (by simp only[*,go_sem,-a,-hJ])
 clear e1 e2 j p k1
 refine ai.nil a (b _ _ _ ?_);clear b K
 repeat apply aB (a _)
 refine bg a fun K b=>?_
 refine ai.pure (a _) 1 (n:=0) _ rfl rfl ?_;simp only[*,go_sem,-b,-a]
 refine ai.nil a (b _ _ _ ?_);clear b K
 repeat apply aB (a _)
 refine bg a fun K b=>?_
 refine ai.entry (.bool false) (a _) Ey ⟨_,_,_,rfl,(by first|(simp only[*,go_sem,-b,-a,-hJ];done)|rfl),rfl,by first|(simp only[*,go_sem,-b,-a,-hJ];done)|(simp only[*,go_sem,-b,-a,-hJ];rfl),rfl⟩ ?_
 refine ai.nil a (b _ _ _ ?_);clear b K
 repeat apply aB (a _)
 refine cF (a _) (by simp only[*,go_sem,-a,-hJ]) ?_
 apply cJ (a _)
 have w1:IntKind.u64.wrap 1=1:=by decide
 have w2:IntKind.u64.wrap (1*2 ^ min 32 64)=4294967296:=by decide
 repeat apply aB (a _)
 refine bg a fun K b=>?_
 refine ai.pure (a _) 6 (n:=2) _ rfl rfl ?_;simp only[*,go_sem,-b,-a]
 refine ai.gD (a _) rfl (by first|(simp only[*,go_sem,-b,-a,-hJ];done)|rfl) rfl BE (by simp only[*,go_sem,-b,-a,-hJ]) (Mr aG o) fun r F' aK q=>?_
 obtain ⟨rfl,v,s,rfl,rfl⟩:=q
 obtain ⟨y,c⟩:∃y:Int,y=((v+1:Nat):Int)*4294967296+((0:Nat):Int):=⟨_,rfl⟩
 rw[<-c]
 have a1:iR y 2147483648=0:=by show lM y 2147483648=0;rw[c];exact zS (v+1) 0 (by omega) (by omega)
 have a2:iR y 2147483647=0:=by show lM y 2147483647=0;rw[c];exact zT (v+1) 0 (by omega) (by omega)
 obtain ⟨V,m⟩:∃V:Int,V=((v+1:Nat):Int):=⟨_,rfl⟩
 have a3:y.fdiv (2 ^ min 32 64)=V:=by rw[c,m];exact zU (v+1) 0 (by omega)
 have a4:IntKind.i32.wrap V=V:=jh (by omega) (by omega)
 have a5:IntKind.u32.wrap 0=0:=by decide
 have w:IntKind.i32.wrap 1=1:=by decide
 have c3:decide (V<0)=false:=by simp;omega
 have c4:decide (V>0)=true:=by simp;omega
 have f:(V==1)=true\/(V==1)=false:=by cases (V==1)<;>simp
 clear c m s
 refine ai.pure (a _) 1 (n:=0) _ rfl rfl ?_;simp only[*,go_sem,-b,-a]
 refine ai.nil a (b _ _ _ ?_);clear b K
 repeat apply aB (a _)
 refine bg a fun K b=>?_
 refine ai.pure (a _) 7 (n:=0) _ rfl rfl ?_;simp only[*,go_sem,-b,-a]
 refine ai.nil a (b _ _ _ ?_);clear b K
 repeat apply aB (a _)
 refine cF (a _) (by simp only[*,go_sem,-a,-hJ]) ?_
 apply cJ (a _)
 repeat apply aB (a _)
 refine bg a fun K b=>?_
 refine ai.pure (a _) 4 (n:=0) _ rfl rfl ?_;simp only[*,go_sem,-b,-a]
 refine ai.nil a (b _ _ _ ?_);clear b K
 repeat apply aB (a _)
 refine bg a fun K b=>?_
 refine ai.pure (a _) 4 (n:=0) _ rfl rfl ?_;simp only[*,go_sem,-b,-a]
 refine ai.nil a (b _ _ _ ?_);clear b K
 repeat apply aB (a _)
 refine bg a fun K b=>?_
 refine ai.pure (a _) 10 (n:=0) _ rfl rfl ?_;simp only[*,go_sem,-b,-a]
 refine ai.nil a (b _ _ _ ?_);clear b K
 repeat apply aB (a _)
 refine vG a (Mw x.Wg F' (.co x k (.opn 1) 1) V) ?_ ?_
 .rcases f with f|f
  .repeat apply aB (a _)
   refine c9 (a _) (by simp only[*,go_sem,-a,-hJ]) ?_
   repeat apply aB (a _)
   refine bg a fun K b=>?_
   refine ai.pure (a _) 3 (n:=2) _ rfl rfl ?_;simp only[*,go_sem,-b,-a]
   refine vK ⟨x.Wg,1,none⟩ Ez mI EA ⟨_,rfl,(by first|(simp only[*,go_sem,-b,-a,-hJ];done)|rfl),rfl,rfl⟩ (fun e=>by cases e) (by simp only[*,go_sem,-b,-a,-hJ]) EU ?_
   refine Md Lt ⟨_,_,_,rfl,(by first|(simp only[*,go_sem,-b,-a,-hJ];done)|rfl),rfl,by first|(simp only[*,go_sem,-b,-a,-hJ];done)|(simp only[*,go_sem,-b,-a,-hJ];rfl),rfl⟩ (fun e=>by cases e) ?_
   refine ai.nil a (b _ _ _ ?_);clear b K
   exact eM ⟨rfl,(by simp only[*,go_sem,-a,-hJ]),(by simp only[*,go_sem,-a,-hJ]),(by simp only[*,go_sem,-a,-hJ]),(by simp only[*,go_sem,-a,-hJ]),(by simp only[*,go_sem,-a,-hJ]),rfl⟩
  .repeat apply aB (a _)
   refine cF (a _) (by simp only[*,go_sem,-a,-hJ]) ?_
   apply cJ (a _)
   exact eM ⟨rfl,(by simp only[*,go_sem,-a,-hJ]),(by simp only[*,go_sem,-a,-hJ]),(by simp only[*,go_sem,-a,-hJ]),(by simp only[*,go_sem,-a,-hJ]),(by simp only[*,go_sem,-a,-hJ]),rfl⟩
 clear f l0 l i hd a1 a2 a3
 rintro A t z ⟨rfl,l,B,C,i,hd,rfl⟩
 repeat apply aB (a _)
 refine bg a fun K b=>?_
 refine ai.pure (a _) 2 (n:=0) _ rfl rfl ?_;simp only[*,go_sem,-b,-a]
 refine ai.nil a (b _ _ _ ?_);clear b K
 repeat apply aB (a _)
 refine cF (a _) (by simp only[*,go_sem,-a,-hJ]) ?_
 apply cJ (a _)
 repeat apply aB (a _)
 refine bg a fun K b=>?_
 refine ai.pure (a _) 12 (n:=0) _ rfl rfl ?_;simp only[*,go_sem,-b,-a]
 refine ai.nil a (b _ _ _ ?_);clear b K
 repeat apply aB (a _)
 refine cF (a _) (by simp only[*,go_sem,-a,-hJ]) ?_
 apply cJ (a _)
 repeat apply aB (a _)
 refine bg a fun K b=>?_
 refine ai.pure (a _) 6 (n:=0) _ rfl rfl ?_;simp only[*,go_sem,-b,-a]
 refine ai.nil a (b _ _ _ ?_);clear b K
 repeat apply aB (a _)
 refine c9 (a _) (by simp only[*,go_sem,-a,-hJ]) ?_
 exact fK (show zW 155 (fun r u g=>r= .tuple #[]/\u=t/\g= .co x k (.opn 1) 0) .ret _ _ _ from Mq (by simp only[*,go_sem,-a,-hJ]) (fun e=>by cases e) ⟨rfl,rfl,rfl⟩)
end
attribute [local go_sem] Int.reduceBEq Int.reduceBNe muA msA stA smA
def EV (x:X)(F:aa)(m:Nat)(a:Act)(F':aa)(z:Z):Prop:=
 ∃u:Nat,u<=m/\u<=x.n/\F'=F/\slot a 0= .pointer (some ⟨x.Wg,0,none⟩)/\sz a=84/\a.defers=[]/\z= .co x x.n (.look u) 1
section
variable {Φ:Goroutine->aa->Prop}{x:X}{F:aa}{k:Nat}
theorem My (aG:x.Mu≠x.Wg/\x.Mu≠x.Is/\x.Wg≠x.Is)(z:x.n<67108864):
  cI Tryz.prog (ZJ TT Φ) 135 #[.pointer (some (stA x.Wg))] F (.co x x.n (.opn 0) 0)
   (fun r F' d=>r= .tuple #[]/\F'=⟨F.ro,(x.Is,(x.cy TT).fin)::F.own⟩/\d= .free):=by
 have a:=ZJ.eH TT Φ
 have hJ:True:=trivial
 refine cI.go (main:=true) a Tryz.func135 rfl Tryz.ntmps135 (by simp) fun A o hd hs=>?_
 have p:=hs 0
 clear hs
 repeat apply aB (a _)
 refine c9 (a _) (by simp only[*,go_sem,-a,-hJ]) ?_
 repeat apply aB (a _)
 refine bg a fun K b=>?_
 refine EP sx ⟨_,_,_,rfl,(by first|(simp only[*,go_sem,-b,-a,-hJ];done)|rfl),rfl,by first|(simp only[*,go_sem,-b,-a,-hJ];done)|(simp only[*,go_sem,-b,-a,-hJ];rfl),rfl⟩ (fun e=>by cases e) (.look x.n) (fun _ _ _ h=>KY h) ?_
 refine ai.nil a (b _ _ _ ?_);clear b K
 repeat apply aB (a _)
 refine kL a ?_
 refine sw a (EV x F) x.n ?_ ?_
 .exact ⟨x.n,Nat.le_refl _,Nat.le_refl _,rfl,(by simp only[*,go_sem,-a,-hJ]),(by simp only[*,go_sem,-a,-hJ]),(by simp only[*,go_sem,-a,-hJ]),rfl⟩
 .clear o hd p
  rintro m A F' d ⟨u,B,C,rfl,p,o,hd,rfl⟩
  repeat apply aB (a _)
  refine kL a ?_
  repeat apply aB (a _)
  refine bg a fun K b=>?_
  refine ai.pure (a _) 3 (n:=2) _ rfl rfl ?_;simp only[*,go_sem,-b,-a]
  refine ai.gD (a _) rfl (by first|(simp only[*,go_sem,-b,-a,-hJ];done)|rfl) rfl xh (by simp only[*,go_sem,-b,-a,-hJ]) Ms fun r k D f=>?_
  obtain ⟨rfl,v,t,rfl,rfl⟩:=f
  obtain ⟨y,c⟩:∃y:Int,y=(v:Int)*4294967296+((0:Nat):Int):=⟨_,rfl⟩
  rw[<-c]
  have a1:iR y 2147483648=0:=by show lM y 2147483648=0;rw[c];exact zS v 0 (by omega) (by omega)
  have a2:iR y 2147483647=0:=by show lM y 2147483647=0;rw[c];exact zT v 0 (by omega) (by omega)
  obtain ⟨V,i⟩:∃V:Int,V=(v:Int):=⟨_,rfl⟩
  have a3:y.fdiv (2 ^ min 32 64)=V:=by rw[c,i];exact zU v 0 (by omega)
  have a4:IntKind.i32.wrap V=V:=jh (by omega) (by omega)
  have a5:IntKind.u32.wrap 0=0:=by decide
  have E:IntKind.u64.wrap (y+1)=y+1:=by
   unfold IntKind.wrap
   simp only[IntKind.bits,IntKind.signed]
   simp
   omega
  by_cases j:v=0
  ·
   have c1:(V==0)=true:=by rw[i,j];rfl
   have g:(if v=0 then P0.e5 else .look v)= .e5:=if_pos j
   rw[g]
   clear g c i t j
   refine ai.pure (a _) 1 (n:=0) _ rfl rfl ?_;simp only[*,go_sem,-b,-a]
   refine ai.nil a (b _ _ _ ?_);clear b K
   repeat apply aB (a _)
   refine bg a fun K b=>?_
   refine ai.pure (a _) 4 (n:=0) _ rfl rfl ?_;simp only[*,go_sem,-b,-a]
   refine ai.nil a (b _ _ _ ?_);clear b K
   repeat apply aB (a _)
   refine bg a fun K b=>?_
   refine ai.pure (a _) 4 (n:=0) _ rfl rfl ?_;simp only[*,go_sem,-b,-a]
   refine ai.nil a (b _ _ _ ?_);clear b K
   repeat apply aB (a _)
   refine bg a fun K b=>?_
   refine ai.pure (a _) 2 (n:=0) _ rfl rfl ?_;simp only[*,go_sem,-b,-a]
   refine ai.nil a (b _ _ _ ?_);clear b K
   repeat apply aB (a _)
   refine c9 (a _) (by simp only[*,go_sem,-a,-hJ]) ?_
   repeat apply aB (a _)
   refine c9 (a _) (by simp only[*,go_sem,-a,-hJ]) ?_
   repeat apply aB (a _)
   refine bg a fun K b=>?_
   refine ER mH ⟨_,_,_,rfl,(by first|(simp only[*,go_sem,-b,-a,-hJ];done)|rfl),rfl,by first|(simp only[*,go_sem,-b,-a,-hJ];done)|(simp only[*,go_sem,-b,-a,-hJ];rfl),rfl⟩ (fun e=>by cases e) ?_
   refine ai.nil a (b _ _ _ ?_);clear b K
   repeat apply aB (a _)
   refine bg a fun K b=>?_
   refine ai.pure (a _) 1 (n:=2) _ rfl rfl ?_;simp only[*,go_sem,-b,-a]
   refine vK ⟨x.Wg,0,none⟩ zF mI zH ⟨_,rfl,(by first|(simp only[*,go_sem,-b,-a,-hJ];done)|rfl),rfl,rfl⟩ (fun e=>by cases e) (by simp only[*,go_sem,-b,-a,-hJ]) ET ?_
   refine ES vw rfl ⟨_,_,_,rfl,(by first|(simp only[*,go_sem,-b,-a,-hJ];done)|rfl),rfl,by first|(simp only[*,go_sem,-b,-a,-hJ];done)|(simp only[*,go_sem,-b,-a,-hJ];rfl),rfl⟩ ?_
   refine ai.nil a (b _ _ _ ?_);clear b K
   repeat apply aB (a _)
   refine bg a fun K b=>?_
   refine ai.pure (a _) 11 (n:=0) _ rfl rfl ?_;simp only[*,go_sem,-b,-a]
   refine ai.nil a (b _ _ _ ?_);clear b K
   repeat apply aB (a _)
   refine cF (a _) (by simp only[*,go_sem,-a,-hJ]) ?_
   apply cJ (a _)
   exact fK (show kM Tryz.prog Tryz.f135 (fun (r:Value) (F':aa) (d:Z)=>r= .tuple #[]/\F'=⟨k.ro,(x.Is,(x.cy TT).fin)::k.own⟩/\d=Z.free) .ret _ _ _ from p7 rfl (by simp only[*,go_sem,-a,-hJ]) ⟨rfl,rfl,rfl⟩)
  .have c1:(V==0)=false:=by simp;omega
   have g:(if v=0 then P0.e5 else .look v)= .look v:=if_neg j
   rw[g]
   have l:=Mv (Φ:=Φ) (F:=k) aG (v:=v) (by omega)
   rw[<-c] at l
   clear g c i
   refine ai.pure (a _) 1 (n:=0) _ rfl rfl ?_;simp only[*,go_sem,-b,-a]
   refine ai.nil a (b _ _ _ ?_);clear b K
   repeat apply aB (a _)
   refine bg a fun K b=>?_
   refine ai.pure (a _) 4 (n:=0) _ rfl rfl ?_;simp only[*,go_sem,-b,-a]
   refine ai.nil a (b _ _ _ ?_);clear b K
   repeat apply aB (a _)
   refine bg a fun K b=>?_
   refine ai.pure (a _) 4 (n:=0) _ rfl rfl ?_;simp only[*,go_sem,-b,-a]
   refine ai.nil a (b _ _ _ ?_);clear b K
   repeat apply aB (a _)
   refine bg a fun K b=>?_
   refine ai.pure (a _) 2 (n:=0) _ rfl rfl ?_;simp only[*,go_sem,-b,-a]
   refine ai.nil a (b _ _ _ ?_);clear b K
   repeat apply aB (a _)
   refine cF (a _) (by simp only[*,go_sem,-a,-hJ]) ?_
   apply cJ (a _)
   repeat apply aB (a _)
   refine bg a fun K b=>?_
   refine ai.pure (a _) 6 (n:=1) _ rfl rfl ?_;simp only[*,go_sem,-b,-a]
   refine ai.gD (a _) rfl (by first|(simp only[*,go_sem,-b,-a,-hJ];done)|rfl) rfl GN (by simp only[*,go_sem,-b,-a,-hJ]) l fun r w G f=>?_
   clear l
   obtain ⟨rfl,⟨rfl,rfl⟩|⟨rfl,rfl⟩⟩:=f
   ·
    refine ai.nil a (b _ _ _ ?_);clear b K
    repeat apply aB (a _)
    refine c9 (a _) (by simp only[*,go_sem,-a,-hJ]) ?_
    repeat apply aB (a _)
    refine bg a fun K b=>?_
    refine ai.pure (a _) 4 (n:=0) _ rfl rfl ?_;simp only[*,go_sem,-b,-a]
    refine ai.nil a (b _ _ _ ?_);clear b K
    repeat apply aB (a _)
    refine c9 (a _) (by simp only[*,go_sem,-a,-hJ]) ?_
    repeat apply aB (a _)
    refine bg a fun K b=>?_
    refine ai.pure (a _) 3 (n:=2) _ rfl rfl ?_;simp only[*,go_sem,-b,-a]
    refine vK ⟨x.Wg,1,none⟩ Ez mI EA ⟨_,rfl,(by first|(simp only[*,go_sem,-b,-a,-hJ];done)|rfl),rfl,rfl⟩ (fun _=>rfl) (by simp only[*,go_sem,-b,-a,-hJ]) EU ?_
    refine Me Lu ⟨_,_,_,rfl,(by first|(simp only[*,go_sem,-b,-a,-hJ];done)|rfl),rfl,by first|(simp only[*,go_sem,-b,-a,-hJ];done)|(simp only[*,go_sem,-b,-a,-hJ];rfl),rfl⟩ (fun _=>rfl) ?_
    refine ai.nil a (b _ _ _ ?_);clear b K
    repeat apply aB (a _)
    refine bg a fun K b=>?_
    refine ai.pure (a _) 1 (n:=0) _ rfl rfl ?_;simp only[*,go_sem,-b,-a]
    refine ai.nil a (b _ _ _ ?_);clear b K
    repeat apply aB (a _)
    refine bg a fun K b=>?_
    refine ai.pure (a _) 6 (n:=0) _ rfl rfl ?_;simp only[*,go_sem,-b,-a]
    refine ai.nil a (b _ _ _ ?_);clear b K
    repeat apply aB (a _)
    refine cF (a _) (by simp only[*,go_sem,-a,-hJ]) ?_
    apply cJ (a _)
    repeat apply aB (a _)
    refine bg a fun K b=>?_
    refine ai.pure (a _) 4 (n:=1) _ rfl rfl ?_;simp only[*,go_sem,-b,-a]
    refine Mj (.bool false) Lv aG rfl ⟨_,_,_,rfl,(by first|(simp only[*,go_sem,-b,-a,-hJ];done)|rfl),rfl,by first|(simp only[*,go_sem,-b,-a,-hJ];done)|(simp only[*,go_sem,-b,-a,-hJ];rfl),rfl⟩ ?_
    refine ai.nil a (b _ _ _ ?_);clear b K
    repeat apply aB (a _)
    refine bg a fun K b=>?_
    refine ai.pure (a _) 3 (n:=3) _ rfl rfl ?_;simp only[*,go_sem,-b,-a]
    refine ai.gD (a _) rfl (by first|(simp only[*,go_sem,-b,-a,-hJ];done)|rfl) rfl xh (by simp only[*,go_sem,-b,-a,-hJ]) Mt fun r q H f=>?_
    obtain ⟨rfl,rfl,rfl⟩:=f
    refine ai.pure (a _) 2 (n:=0) _ rfl rfl ?_;simp only[*,go_sem,-b,-a]
    refine ai.nil a (b _ _ _ ?_);clear b K
    repeat apply aB (a _)
    refine c9 (a _) (by simp only[*,go_sem,-a,-hJ]) ?_
    repeat apply aB (a _)
    refine bg a fun K b=>?_
    refine ER mH ⟨_,_,_,rfl,(by first|(simp only[*,go_sem,-b,-a,-hJ];done)|rfl),rfl,by first|(simp only[*,go_sem,-b,-a,-hJ];done)|(simp only[*,go_sem,-b,-a,-hJ];rfl),rfl⟩ (fun e=>by cases e) ?_
    refine ai.nil a (b _ _ _ ?_);clear b K
    repeat apply aB (a _)
    refine bg a fun K b=>?_
    refine ai.pure (a _) 1 (n:=2) _ rfl rfl ?_;simp only[*,go_sem,-b,-a]
    refine vK ⟨x.Wg,0,none⟩ zF mI zH ⟨_,rfl,(by first|(simp only[*,go_sem,-b,-a,-hJ];done)|rfl),rfl,rfl⟩ (fun e=>by cases e) (by simp only[*,go_sem,-b,-a,-hJ]) ET ?_
    refine ES vw rfl ⟨_,_,_,rfl,(by first|(simp only[*,go_sem,-b,-a,-hJ];done)|rfl),rfl,by first|(simp only[*,go_sem,-b,-a,-hJ];done)|(simp only[*,go_sem,-b,-a,-hJ];rfl),rfl⟩ ?_
    refine ai.nil a (b _ _ _ ?_);clear b K
    repeat apply aB (a _)
    refine bg a fun K b=>?_
    refine ai.pure (a _) 1 (n:=0) _ rfl rfl ?_;simp only[*,go_sem,-b,-a]
    refine ai.nil a (b _ _ _ ?_);clear b K
    repeat apply aB (a _)
    refine cF (a _) (by simp only[*,go_sem,-a,-hJ]) ?_
    apply cJ (a _)
    exact fK (show kM Tryz.prog Tryz.f135 (fun (r:Value) (F':aa) (d:Z)=>r= .tuple #[]/\F'=⟨q.ro,(x.Is,(x.cy TT).fin)::q.own⟩/\d=Z.free) .ret _ _ _ from p7 rfl (by simp only[*,go_sem,-a,-hJ]) ⟨rfl,rfl,rfl⟩)
   ·
    refine ai.nil a (b _ _ _ ?_);clear b K
    repeat apply aB (a _)
    refine cF (a _) (by simp only[*,go_sem,-a,-hJ]) ?_
    apply cJ (a _)
    change ∃s,s<m/\EV x w s _ _ _
    exact ⟨v - 1,by omega,v - 1,Nat.le_refl _,by omega,rfl,(by simp only[*,go_sem,-a,-hJ]),(by simp only[*,go_sem,-a,-hJ]),(by simp only[*,go_sem,-a,-hJ]),rfl⟩
end
end Go.Proofs.YtnaejeiofbpbkaaGreatDoor
end
section
namespace Go.Sep
open Go Go.Conc
variable {P:Program}
theorem Mz {t e:TypeId}{i:TypeInfo}{n:Nat}{R:Value->aa->Prop}{F:aa}(hu:P.underlying t=some (.slice e))(hi:P.info? e=some i)(hb:i.bytes=1)(hs:bZ P e=some 1)(c:zeroOf P e=some (.bool false))(f:n<1048576)
  (h:∀b,eg F b->R (.slice (some ⟨b,0,none⟩) n n) (F.push b (.cells (List.replicate n (Value.bool false)).toArray e))):e7 P (Instr.makeSlice t (.int .i64 n) (.int .i64 n)) R F:=by
 unfold e7
 have hw:IntKind.i64.wrap (n:Int)=(n:Int):=by
  unfold IntKind.wrap
  simp[IntKind.bits,IntKind.signed]
  omega
 have e1:¬((n:Int)<0\/(1:Int)*(n:Int)>2 ^ 48):=by
  have:((2:Int) ^ 48)=281474976710656:=by decide
  omega
 simp only[Instr.makeSlice,bx,dG,hu,AY,qt,hi,hb,hw]
 have e2:(((n:Int)<0||decide (((1:Nat):Int)*(n:Int)>2 ^ 48))||decide ((n:Int)<0)||decide ((n:Int)>(n:Int)))=false:=by
  have:((2:Int) ^ 48)=281474976710656:=by decide
  simp only[Bool.or_eq_false_iff,decide_eq_false_iff_not]
  omega
 rw[if_neg (by rw[e2];simp)]
 simp only[bx]
 refine wR _ ?_
 simp only[bx,eV,hs,Int.toNat_natCast,Nat.mul_one]
 have fin:∀zero:Array Value,(n≠0->zero=#[.bool false])->aX P (newRow e ((Array.range n).map (fun j=>zero[j % zero.size]!))) (fun a G=>aX P (Pure.pure (Value.slice (some a) n n)) R G) F:=fun zero hzero=>by
  simp only[newRow,bx,qs,bK]
  have d:((Array.range n).map (fun j=>zero[j % zero.size]!))=(List.replicate n (Value.bool false)).toArray:=by
   rcases Nat.eq_zero_or_pos n with rfl|g
   .simp
   .rw[hzero (by omega)]
    rw[<-Array.toList_inj]
    simp only[Array.toList_map,Array.toList_range]
    apply List.ext_getElem
    .simp
    .intro i h1 h2
     simp[Nat.mod_one]
  rw[d]
  exact ⟨rfl,h⟩
 by_cases h0:n=0
 .rw[if_pos h0]
  exact fin #[] (fun x=>absurd h0 x)
 .rw[if_neg h0]
  rw[bx,mN,c]
  exact fin #[.bool false] (fun _=>rfl)
section
variable {T:PT}{Φ:Goroutine->aa->Prop}{fi:FuncId}
def zX:Z->Bool| .co _ _ .reg _=>false|_=>true
theorem ZJ.MA (T:PT)(Φ:Goroutine->aa->Prop)(z:Z)(h:zX z=true):Closed T.P true (ZJ T Φ z):=ZJ.closed T Φ fun x k d e=>by subst e;simp[zX] at h
theorem EW {P:Program}{main:Bool}{S:Type}{JF:S->Goroutine->aa->Prop}{ph:S}(hJ:Closed P main (JF ph)){c:Code}{Q:Ex->Act->aa->S->Prop}{a:Act}{F F':aa}(hle:Le F F')(h:cO JF fi c Q a F ph):cO JF fi c Q a F' ph:=
 fun b k cs hb d=>hJ.mono hle (h b k cs hb d)
theorem zY {P:Program}{main:Bool}{S:Type}{JF:S->Goroutine->aa->Prop}{ph:S}(hJ:Closed P main (JF ph)){c:Code}{Q:Ex->Act->aa->S->Prop}{a:Act}{F:aa}(h:aR (keys F.own)->aD F.ro F.own->cO JF fi c Q a F ph):cO JF fi c Q a F ph:=by
 intro b k cs hb d;by_cases hw:∃w,Has F w
 .obtain ⟨w,hw⟩:=hw;refine h ⟨hw.nodup⟩ (fun b hb off sp=>?_) b k cs hb d;cases e:F.ro ⟨b,off,sp⟩ with
  |none=>rfl
  |some v=>exact absurd hb (hw.apart _ v e)
 .exact hJ.step fun w f=>absurd ⟨w,f⟩ hw
end
theorem og {ro:Addr->Option Value}{b a off:Nat}{sp:Option Nat}{o:Obj}(h:ro ⟨a,off,sp⟩=none)(aG:a≠b):bU ro b o ⟨a,off,sp⟩=none:=by simp[bU,h,aG]
theorem MB {ro:Addr->Option Value}{b3 b4 b a I M W:Nat}{i o4 g c d e f:Obj}(p:aR (keys [(W,f),(M,e),(a,c),(I,d),(b,g),(b4,o4),(b3,i)]))(l:aD ro [(W,f),(M,e),(a,c),(I,d),(b,g),(b4,o4),(b3,i)]):
  ∃j,Ext ro j/\Le ⟨j,[(M,e),(W,f),(I,d)]⟩ ⟨ro,[(W,f),(M,e),(a,c),(I,d),(b,g),(b4,o4),(b3,i)]⟩/\
   (∀off v,cellOf i off=some v->j ⟨b3,off,none⟩=some v)/\(∀off v,cellOf o4 off=some v->j ⟨b4,off,none⟩=some v)/\(∀off v,cellOf g off=some v->j ⟨b,off,none⟩=some v)/\(∀off v,cellOf c off=some v->j ⟨a,off,none⟩=some v):=by
 have hd:=p.1
 simp only[keys,List.map_cons,List.map_nil,List.nodup_cons,List.mem_cons,List.not_mem_nil,not_or] at hd
 obtain ⟨⟨-,a1,-,a2,a3,a4,-⟩,⟨G,-,H,J,K,-⟩,⟨c1,c2,c3,c4,-⟩,⟨i1,i2,i3,-⟩,⟨e1,e2,-⟩,⟨r,-⟩,-⟩:=hd
 have r3:∀off sp,ro ⟨b3,off,sp⟩=none:=l b3 (by simp[keys])
 have s:∀off sp,ro ⟨b4,off,sp⟩=none:=l b4 (by simp[keys])
 have t:∀off sp,ro ⟨b,off,sp⟩=none:=l b (by simp[keys])
 have u:∀off sp,ro ⟨a,off,sp⟩=none:=l a (by simp[keys])
 clear l p
 have w:b4≠b3:=r
 have x:b≠b3:=e2
 have y:b≠b4:=e1
 have z:a≠b3:=c4
 have A:a≠b4:=c3
 have B:a≠b:=c2
 let s1:=bU ro b3 i
 let s2:=bU s1 b4 o4
 let k:=bU s2 b g
 let n:=bU k a c
 have C:Ext ro s1:=gH _ _ _
 have q:Ext s1 s2:=gH _ _ _
 have o:Ext s2 k:=gH _ _ _
 have m:Ext k n:=gH _ _ _
 have t4:∀off sp,s1 ⟨b4,off,sp⟩=none:=fun off sp=>og (s off sp) w
 have t7:∀off sp,s2 ⟨b,off,sp⟩=none:=fun off sp=>og (og (t off sp) x) y
 have t8:∀off sp,k ⟨a,off,sp⟩=none:=fun off sp=>og (og (og (u off sp) z) A) B
 have k1:Le ⟨s1,[(W,f),(M,e),(a,c),(I,d),(b,g),(b4,o4)]⟩ ⟨ro,[(W,f),(M,e),(a,c),(I,d),(b,g),(b4,o4),(b3,i)]⟩:=
  kV (by simp[lk, *]) (by simp) (by simp[av,Ne.symm, *])
 have D:Le ⟨s2,[(W,f),(M,e),(a,c),(I,d),(b,g)]⟩ ⟨s1,[(W,f),(M,e),(a,c),(I,d),(b,g),(b4,o4)]⟩:=
  kV (by simp[lk, *]) (by simp) (by simp[av,Ne.symm, *])
 have E:Le ⟨k,[(W,f),(M,e),(a,c),(I,d)]⟩ ⟨s2,[(W,f),(M,e),(a,c),(I,d),(b,g)]⟩:=
  kV (by simp[lk, *]) (by simp) (by simp[av,Ne.symm, *])
 have F:Le ⟨n,[(W,f),(M,e),(I,d)]⟩ ⟨k,[(W,f),(M,e),(a,c),(I,d)]⟩:=
  kV (by simp[lk, *]) (by simp) (by simp[av,Ne.symm, *])
 refine ⟨n,((C.trans q).trans o).trans m,BH.trans (((F.trans E).trans D).trans k1),fun off v h=>?_,fun off v h=>?_,fun off v h=>?_,fun off v h=>?_⟩
 .exact m _ _ (o _ _ (q _ _ ((jA r3).trans h)))
 .exact m _ _ (o _ _ ((jA t4).trans h))
 .exact m _ _ ((jA t7).trans h)
 .exact (jA t8).trans h
theorem MC {ro:Addr->Option Value}{a b2:Nat}{o1 o2:Obj}(d:aR (keys [(b2,o2),(a,o1)]))(c:aD ro [(b2,o2),(a,o1)]):
  ∃b,Ext ro b/\Le ⟨b,[]⟩ ⟨ro,[(b2,o2),(a,o1)]⟩/\(∀off v,cellOf o1 off=some v->b ⟨a,off,none⟩=some v)/\(∀off v,cellOf o2 off=some v->b ⟨b2,off,none⟩=some v):=by
 have hd:=d.1
 simp only[keys,List.map_cons,List.map_nil,List.nodup_cons,List.mem_cons,List.not_mem_nil,not_or] at hd
 have r1:∀off sp,ro ⟨a,off,sp⟩=none:=c a (by simp[keys])
 have r2:∀off sp,ro ⟨b2,off,sp⟩=none:=c b2 (by simp[keys])
 have e:b2≠a:=by obtain ⟨⟨z,-⟩,-⟩:=hd;exact z
 have t2:∀off sp,bU ro a o1 ⟨b2,off,sp⟩=none:=fun off sp=>og (r2 off sp) e
 have k1:Le ⟨bU ro a o1,[(b2,o2)]⟩ ⟨ro,[(b2,o2),(a,o1)]⟩:=kV (by simp[lk, *]) (by simp) (by simp[av,Ne.symm, *])
 have f:Le ⟨bU (bU ro a o1) b2 o2,[]⟩ ⟨bU ro a o1,[(b2,o2)]⟩:=kV (by simp only[lk];simp) (by simp) trivial
 exact ⟨_,(gH _ _ _).trans (gH _ _ _),f.trans k1,fun off v h=>gH _ _ _ _ _ ((jA r1).trans h),fun off v h=>(jA t2).trans h⟩
theorem MD {T:PT}{Φ:Goroutine->aa->Prop}{x:X}{k:Nat}{ops:Array Oper}{j n:Nat}{Q:Act->aa->Z->Prop}{a:Act}{F:aa}{fi:FuncId}(b:k<x.n){y:Operand}{f0:FuncId}{dy:Array TypeId}{caps:Array Value}(c:ob ops j a (.go {callee:=.value y,args:=#[],argTypes:=dy}) none)(d:ev a y= .func (.func f0) #[] caps)
  (hW:Wk (x.cy T) k ⟨.idle,.cnt,false,0⟩ (born T.P {target:=.fn (.func f0) caps,args:=#[]}) ⟨F.ro,[]⟩) (h:ai (ZJ T Φ) fi ops (j+1) n Q (bf a none undef) F (.co x (k+1) (.opn 0) 0)):ai (ZJ T Φ) fi ops j (n+1) Q a F (.co x k (.opn 1) 0):=by
 obtain ⟨o,e,hg,f,hd⟩:=c
 have e1:execOp a.eval o=(pure (.spawn {target:=.fn (.func f0) caps,args:=#[]}):Sem Next):=by
  unfold execOp
  have e0:(#[]:Array Value)++Array.map (ev a) #[]=#[]:=by simp
  simp only[f,resolve,eN,d,Deferred.ofValue,e0]
  rfl
 refine Mk (fv:=y) b e hg (fun w=>?_) rfl hW (by rw[hd];exact h)
 rw[e1]
 exact ⟨rfl,rfl⟩
end Go.Sep
end
section
namespace Go.Proofs.YtnaejeiofbpbkaaGreatDoor
open Go Go.Sep Go.Proofs Go.Conc
open Go.ConcN (upd upd_same)
open Go.ConcM (muA msA)
open Go.ConcR (stA smA)
set_option maxRecDepth 100000
set_option maxHeartbeats 4000000
attribute [local go_sem] Int.reduceBEq Int.reduceBNe muA msA stA smA
def ME (Wg:Nat)(st:Bool)(F:aa)(m:Nat)(a:Act)(F':aa)(ph:Ph):Prop:=
 ∃t8:Int,F'=F/\slot a 0= .pointer (some ⟨Wg,0,none⟩)/\slot a 8= .int .u32 t8/\sz a=117/\a.defers=[dcall 155 #[]]/\((m=1/\t8=1/\ph=⟨.fin,.sm,st,1⟩)\/(m=0/\t8=0/\ph=⟨.fin,.gone,st,1⟩))
theorem MF {f:FuncId}{R:Value->aa->Ph->Prop}{a:Act}{F:aa}{ph:Ph}{b:Nat}(hd:a.defers=[dcall f #[]])(hg:ph.gp= .gone)(h:ph.deaf=b+1)(c:R (.tuple #[]) F {ph with deaf:=b}):lK f R .normal a F ph:=⟨hd,hg,b,h,c⟩
theorem vL {f:FuncId}{R:Value->aa->Ph->Prop}{a:Act}{F:aa}{ph:Ph}{b:Nat}(hd:a.defers=[dcall f #[]])(hg:ph.gp= .gone)(h:ph.deaf=b+1)(c:R (.tuple #[]) F {ph with deaf:=b}):lK f R .ret a F ph:=⟨hd,hg,b,h,c⟩
section
variable {Mu Wg Is n base T0 i:Nat}{bs:Nat->Bool}{st:Bool}{F:aa}
theorem MG (aG:Mu≠Wg/\Mu≠Is/\Wg≠Is)(s:n<67108864){mp:Mp}(u:mp= .idle\/mp= .fin)(w:st=bs i):
  cI Tryz.prog (WJ (CY Mu Wg Is n bs base T0) i) 128 #[.pointer (some (stA Wg)),.int .i64 (-1)] F ⟨mp,.cnt,st,0⟩
   (fun r F' aK=>r= .tuple #[]/\F'=F/\aK=⟨.fin,.gone,st,0⟩):=by
 have a:=WJ.eH (CY Mu Wg Is n bs base T0) i
 refine cI.L3 mH Tryz.func128 rfl rfl Tryz.ntmps128 (by simp) fun A h hd hs=>?_
 have hJ:True:=trivial
 have y:=hs 0
 have k1:=hs 1
 clear hs
 subst w
 have c1:decide ((-1:Int)<0)=true:=by decide
 have c2:decide ((-1:Int)>0)=false:=by decide
 repeat apply aB (a _)
 refine c9 (a _) (by simp only[*,go_sem,-a,-hJ]) ?_
 repeat apply aB (a _)
 refine bg a fun K b=>?_
 refine ai.pure (a _) 2 (n:=0) _ rfl rfl ?_;simp only[*,go_sem,-b,-a]
 refine ai.nil a (b _ _ _ ?_);clear b K
 repeat apply aB (a _)
 refine c9 (a _) (by simp only[*,go_sem,-a,-hJ]) ?_
 repeat apply aB (a _)
 refine bg a fun K b=>?_
 refine ai.pure (a _) 1 (n:=2) _ rfl rfl ?_;simp only[*,go_sem,-b,-a]
 refine vE ⟨Wg,0,none⟩ zF mI zH ⟨_,rfl,(by first|(simp only[*,go_sem,-b,-a,-hJ];done)|rfl),rfl,rfl⟩ (by simp) (by simp only[*,go_sem,-b,-a,-hJ]) L5 ?_
 refine LG Et ⟨_,_,_,rfl,(by first|(simp only[*,go_sem,-b,-a,-hJ];done)|rfl),rfl,by first|(simp only[*,go_sem,-b,-a,-hJ];done)|(simp only[*,go_sem,-b,-a,-hJ];rfl),rfl⟩ rfl rfl u rfl ?_
 refine ai.nil a (b _ _ _ ?_);clear b K
 repeat apply aB (a _)
 refine bg a fun K b=>?_
 refine zN sx ⟨_,_,_,rfl,(by first|(simp only[*,go_sem,-b,-a,-hJ];done)|rfl),rfl,by first|(simp only[*,go_sem,-b,-a,-hJ];done)|(simp only[*,go_sem,-b,-a,-hJ];rfl),rfl⟩ (by simp) (by simp) ?_
 refine ai.nil a (b _ _ _ ?_);clear b K
 repeat apply aB (a _)
 refine bg a fun K b=>?_
 refine ai.defer (a _) rfl (by first|(simp only[*,go_sem,-b,-a,-hJ];done)|rfl) rfl rfl (by simp;rfl) fun g e1 e2 l=>?_
 have l0:slot g 0= .pointer (some ⟨Wg,0,none⟩):=(e1 0).trans (by simp only[*,go_sem,-a,-hJ])
 have z:slot g 1= .int .i64 (-1):=(e1 1).trans (by simp only[*,go_sem,-a,-hJ])
 replace h:sz g=117:=e2.trans (by simp only[*,go_sem,-a,-hJ])
 replace hd:g.defers=[dcall 155 #[]]:=l.trans (by simp only[*,go_sem,-a,-hJ])
 clear e1 e2 l y k1
 refine ai.nil a (b _ _ _ ?_);clear b K
 repeat apply aB (a _)
 refine bg a fun K b=>?_
 refine ai.pure (a _) 1 (n:=0) _ rfl rfl ?_;simp only[*,go_sem,-b,-a]
 refine ai.nil a (b _ _ _ ?_);clear b K
 repeat apply aB (a _)
 refine bg a fun K b=>?_
 refine ai.entry (.bool false) (a _) Ey ⟨_,_,_,rfl,(by first|(simp only[*,go_sem,-b,-a,-hJ];done)|rfl),rfl,by first|(simp only[*,go_sem,-b,-a,-hJ];done)|(simp only[*,go_sem,-b,-a,-hJ];rfl),rfl⟩ ?_
 refine ai.nil a (b _ _ _ ?_);clear b K
 repeat apply aB (a _)
 refine cF (a _) (by simp only[*,go_sem,-a,-hJ]) ?_
 apply cJ (a _)
 have w1:IntKind.u64.wrap (-1)=18446744073709551615:=by decide
 have w2:IntKind.u64.wrap (18446744073709551615*2 ^ min 32 64)=18446744069414584320:=by decide
 repeat apply aB (a _)
 refine bg a fun K b=>?_
 refine ai.pure (a _) 6 (n:=2) _ rfl rfl ?_;simp only[*,go_sem,-b,-a]
 refine ai.gD (a _) rfl (by first|(simp only[*,go_sem,-b,-a,-hJ];done)|rfl) rfl BE (by simp only[*,go_sem,-b,-a,-hJ]) (L6 aG s) fun r F' aK f=>?_
 obtain ⟨rfl,v,t,o,ht,rfl,rfl⟩:=f
 obtain ⟨x,d⟩:∃x:Int,x=(v:Int)*4294967296+(t:Int):=⟨_,rfl⟩
 rw[<-d]
 have a1:iR x 2147483648=0:=by show lM x 2147483648=0;rw[d];exact zS v t (by omega) ht
 have a2:iR x 2147483647=(t:Int):=by show lM x 2147483647=(t:Int);rw[d];exact zT v t (by omega) ht
 have a3:x.fdiv (2 ^ min 32 64)=(v:Int):=by rw[d];exact zU v t ht
 have a4:IntKind.i32.wrap (v:Int)=(v:Int):=jh (by omega) (by omega)
 have a5:IntKind.u32.wrap (t:Int)=(t:Int):=by
  unfold IntKind.wrap
  simp[IntKind.bits,IntKind.signed]
  omega
 have j:v=0->t=1->((1:Int) != x)=false:=fun e B=>by rw[d,e,B];rfl
 clear d
 refine ai.pure (a _) 1 (n:=0) _ rfl rfl ?_;simp only[*,go_sem,-b,-a]
 refine ai.nil a (b _ _ _ ?_);clear b K
 repeat apply aB (a _)
 refine bg a fun K b=>?_
 refine ai.pure (a _) 7 (n:=0) _ rfl rfl ?_;simp only[*,go_sem,-b,-a]
 refine ai.nil a (b _ _ _ ?_);clear b K
 repeat apply aB (a _)
 refine cF (a _) (by simp only[*,go_sem,-a,-hJ]) ?_
 apply cJ (a _)
 repeat apply aB (a _)
 refine bg a fun K b=>?_
 refine ai.pure (a _) 4 (n:=0) _ rfl rfl ?_;simp only[*,go_sem,-b,-a]
 refine ai.nil a (b _ _ _ ?_);clear b K
 repeat apply aB (a _)
 refine bg a fun K b=>?_
 refine ai.pure (a _) 4 (n:=0) _ rfl rfl ?_;simp only[*,go_sem,-b,-a]
 refine ai.nil a (b _ _ _ ?_);clear b K
 repeat apply aB (a _)
 refine bg a fun K b=>?_
 refine ai.pure (a _) 10 (n:=0) _ rfl rfl ?_;simp only[*,go_sem,-b,-a]
 refine ai.nil a (b _ _ _ ?_);clear b K
 repeat apply aB (a _)
 refine cF (a _) (by simp only[*,go_sem,-a,-hJ]) ?_
 apply cJ (a _)
 have c3:decide ((v:Int)<0)=false:=by simp
 repeat apply aB (a _)
 refine bg a fun K b=>?_
 refine ai.pure (a _) 2 (n:=0) _ rfl rfl ?_;simp only[*,go_sem,-b,-a]
 refine ai.nil a (b _ _ _ ?_);clear b K
 repeat apply aB (a _)
 refine cF (a _) (by simp only[*,go_sem,-a,-hJ]) ?_
 apply cJ (a _)
 have p:t=0\/t=1:=by omega
 by_cases hC:v=0/\t=1
 ·
  obtain ⟨rfl,rfl⟩:=hC
  have C:((1:Int) != x)=false:=j rfl rfl
  have hg:(if (0:Nat)=0/\(1:Nat)=1 then Gp.ld else Gp.gone)= .ld:=rfl
  rw[hg]
  have D:((1:Nat):Int)=1:=rfl
  clear hg j p o ht
  repeat apply aB (a _)
  refine bg a fun K b=>?_
  refine ai.pure (a _) 12 (n:=0) _ rfl rfl ?_;simp only[*,go_sem,-b,-a]
  refine ai.nil a (b _ _ _ ?_);clear b K
  repeat apply aB (a _)
  refine cF (a _) (by simp only[*,go_sem,-a,-hJ]) ?_
  apply cJ (a _)
  repeat apply aB (a _)
  refine bg a fun K b=>?_
  refine ai.pure (a _) 6 (n:=0) _ rfl rfl ?_;simp only[*,go_sem,-b,-a]
  refine ai.nil a (b _ _ _ ?_);clear b K
  repeat apply aB (a _)
  refine cF (a _) (by simp only[*,go_sem,-a,-hJ]) ?_
  apply cJ (a _)
  repeat apply aB (a _)
  refine bg a fun K b=>?_
  refine ai.pure (a _) 3 (n:=3) _ rfl rfl ?_;simp only[*,go_sem,-b,-a]
  refine ai.gD (a _) rfl (by first|(simp only[*,go_sem,-b,-a,-hJ];done)|rfl) rfl xh (by simp only[*,go_sem,-b,-a,-hJ]) L7 fun r F' aK f=>?_
  obtain ⟨rfl,rfl,rfl⟩:=f
  refine ai.pure (a _) 2 (n:=0) _ rfl rfl ?_;simp only[*,go_sem,-b,-a]
  refine ai.nil a (b _ _ _ ?_);clear b K
  repeat apply aB (a _)
  refine cF (a _) (by simp only[*,go_sem,-a,-hJ]) ?_
  apply cJ (a _)
  repeat apply aB (a _)
  refine bg a fun K b=>?_
  refine ai.pure (a _) 3 (n:=1) _ rfl rfl ?_;simp only[*,go_sem,-b,-a]
  refine ai.gD (a _) rfl (by first|(simp only[*,go_sem,-b,-a,-hJ];done)|rfl) rfl GK (by simp only[*,go_sem,-b,-a,-hJ]) (L8 aG) fun r F' aK f=>?_
  obtain ⟨rfl,rfl,rfl⟩:=f
  refine ai.nil a (b _ _ _ ?_);clear b K
  repeat apply aB (a _)
  refine bg a fun K b=>?_
  refine ai.pure (a _) 1 (n:=0) _ rfl rfl ?_;simp only[*,go_sem,-b,-a]
  refine ai.nil a (b _ _ _ ?_);clear b K
  repeat apply aB (a _)
  refine cF (a _) (by simp only[*,go_sem,-a,-hJ]) ?_
  apply cJ (a _)
  repeat apply aB (a _)
  refine kL a ?_
  refine sw a (ME Wg (bs i) F') 1 ?_ ?_
  .exact ⟨1,rfl,(by simp only[*,go_sem,-a,-hJ]),(by simp only[*,go_sem,-a,-hJ]),(by simp only[*,go_sem,-a,-hJ]),(by simp only[*,go_sem,-a,-hJ]),.inl ⟨rfl,rfl,rfl⟩⟩
  .clear l0 z h hd c1 c2 c3 C a1 a2 a3 a4 a5 w1 w2 D
   rintro m A E H ⟨t8,rfl,l0,I,h,hd,⟨rfl,rfl,rfl⟩|⟨rfl,rfl,rfl⟩⟩
   .have G:((1:Int) != 0)=true:=rfl
    have w3:IntKind.u32.wrap (1 - 1)=0:=by decide
    repeat apply aB (a _)
    refine bg a fun K b=>?_
    refine ai.pure (a _) 2 (n:=0) _ rfl rfl ?_;simp only[*,go_sem,-b,-a]
    refine ai.nil a (b _ _ _ ?_);clear b K
    repeat apply aB (a _)
    refine c9 (a _) (by simp only[*,go_sem,-a,-hJ]) ?_
    apply cJ (a _)
    repeat apply aB (a _)
    refine kL a ?_
    repeat apply aB (a _)
    refine bg a fun K b=>?_
    refine ai.pure (a _) 3 (n:=1) _ rfl rfl ?_;simp only[*,go_sem,-b,-a]
    refine L1 (.bool false) (.int .i64 0) Lx aG ⟨_,_,_,rfl,(by first|(simp only[*,go_sem,-b,-a,-hJ];done)|rfl),rfl,by first|(simp only[*,go_sem,-b,-a,-hJ];done)|(simp only[*,go_sem,-b,-a,-hJ];rfl),rfl⟩ (by rfl) ?_
    refine ai.nil a (b _ _ _ ?_);clear b K
    repeat apply aB (a _)
    refine bg a fun K b=>?_
    refine ai.pure (a _) 3 (n:=0) _ rfl rfl ?_;simp only[*,go_sem,-b,-a]
    refine ai.nil a (b _ _ _ ?_);clear b K
    exact ⟨0,by omega,0,rfl,(by simp only[*,go_sem,-a,-hJ]),(by simp only[*,go_sem,-a,-hJ]),(by simp only[*,go_sem,-a,-hJ]),(by simp only[*,go_sem,-a,-hJ]),.inr ⟨rfl,rfl,rfl⟩⟩
   .have G:((0:Int) != 0)=false:=rfl
    repeat apply aB (a _)
    refine bg a fun K b=>?_
    refine ai.pure (a _) 2 (n:=0) _ rfl rfl ?_;simp only[*,go_sem,-b,-a]
    refine ai.nil a (b _ _ _ ?_);clear b K
    repeat apply aB (a _)
    refine cF (a _) (by simp only[*,go_sem,-a,-hJ]) ?_
    exact p6 (show lK 155 (fun r c aK=>r= .tuple #[]/\c=E/\aK=⟨.fin,.gone,bs i,0⟩) .normal _ _ _ from MF (by simp only[*,go_sem,-a,-hJ]) rfl rfl ⟨rfl,rfl,rfl⟩)
 ·
  rw[if_neg hC]
  have q:(0<v/\decide ((v:Int)>0)=true)\/(v=0/\decide ((v:Int)>0)=false/\((t:Int)==0)=true):=by
   rcases Nat.eq_zero_or_pos v with e|e
   .refine .inr ⟨e,by simp[e],?_⟩
    obtain rfl:t=0:=by omega
    rfl
   .exact .inl ⟨e,by simp;omega⟩
  have a7:((t:Int) != 0)=false\/((t:Int) != 0)=true:=by cases ((t:Int) != 0)<;>simp
  clear j hC o ht p
  rcases a7 with a7|a7
  .repeat apply aB (a _)
   refine bg a fun K b=>?_
   refine ai.pure (a _) 12 (n:=0) _ rfl rfl ?_;simp only[*,go_sem,-b,-a]
   refine ai.nil a (b _ _ _ ?_);clear b K
   repeat apply aB (a _)
   refine cF (a _) (by simp only[*,go_sem,-a,-hJ]) ?_
   apply cJ (a _)
   rcases q with ⟨_,k⟩|⟨_,k,b2⟩
   .repeat apply aB (a _)
    refine bg a fun K b=>?_
    refine ai.pure (a _) 6 (n:=0) _ rfl rfl ?_;simp only[*,go_sem,-b,-a]
    refine ai.nil a (b _ _ _ ?_);clear b K
    repeat apply aB (a _)
    refine c9 (a _) (by simp only[*,go_sem,-a,-hJ]) ?_
    exact fK (show lK 155 (fun r c aK=>r= .tuple #[]/\c=F'/\aK=⟨.fin,.gone,bs i,0⟩) .ret _ _ _ from vL (by simp only[*,go_sem,-a,-hJ]) rfl rfl ⟨rfl,rfl,rfl⟩)
   .repeat apply aB (a _)
    refine bg a fun K b=>?_
    refine ai.pure (a _) 6 (n:=0) _ rfl rfl ?_;simp only[*,go_sem,-b,-a]
    refine ai.nil a (b _ _ _ ?_);clear b K
    repeat apply aB (a _)
    refine c9 (a _) (by simp only[*,go_sem,-a,-hJ]) ?_
    exact fK (show lK 155 (fun r c aK=>r= .tuple #[]/\c=F'/\aK=⟨.fin,.gone,bs i,0⟩) .ret _ _ _ from vL (by simp only[*,go_sem,-a,-hJ]) rfl rfl ⟨rfl,rfl,rfl⟩)
  .repeat apply aB (a _)
   refine bg a fun K b=>?_
   refine ai.pure (a _) 12 (n:=0) _ rfl rfl ?_;simp only[*,go_sem,-b,-a]
   refine ai.nil a (b _ _ _ ?_);clear b K
   repeat apply aB (a _)
   refine cF (a _) (by simp only[*,go_sem,-a,-hJ]) ?_
   apply cJ (a _)
   rcases q with ⟨_,k⟩|⟨_,k,b2⟩
   .repeat apply aB (a _)
    refine bg a fun K b=>?_
    refine ai.pure (a _) 6 (n:=0) _ rfl rfl ?_;simp only[*,go_sem,-b,-a]
    refine ai.nil a (b _ _ _ ?_);clear b K
    repeat apply aB (a _)
    refine c9 (a _) (by simp only[*,go_sem,-a,-hJ]) ?_
    exact fK (show lK 155 (fun r c aK=>r= .tuple #[]/\c=F'/\aK=⟨.fin,.gone,bs i,0⟩) .ret _ _ _ from vL (by simp only[*,go_sem,-a,-hJ]) rfl rfl ⟨rfl,rfl,rfl⟩)
   .repeat apply aB (a _)
    refine bg a fun K b=>?_
    refine ai.pure (a _) 6 (n:=0) _ rfl rfl ?_;simp only[*,go_sem,-b,-a]
    refine ai.nil a (b _ _ _ ?_);clear b K
    repeat apply aB (a _)
    refine c9 (a _) (by simp only[*,go_sem,-a,-hJ]) ?_
    exact fK (show lK 155 (fun r c aK=>r= .tuple #[]/\c=F'/\aK=⟨.fin,.gone,bs i,0⟩) .ret _ _ _ from vL (by simp only[*,go_sem,-a,-hJ]) rfl rfl ⟨rfl,rfl,rfl⟩)
end
end Go.Proofs.YtnaejeiofbpbkaaGreatDoor
end
section
namespace Go.Sep
open Go Go.Conc
open Go.ConcN (sumTo upd upd_ne upd_same)
def jY (P:Program):Frame:={(default:Frame) with fn:=P.funcs.size,defers:=[],mode:=.panicking [goexitEntry]}
section
variable {P:Program}{f:FuncId}{fn:Func}{cd:Code}{w:World}{caps args:Array Value}
theorem MH (a:P.funcs[f]?=some fn)(b:(fn.name== "runtime.NumGoroutine")=false)(hb:fn.body=some cd):
  stepG P false (born P {target:=.fn (.func f) caps,args:=args}) w= .go (G ((baseD f).at {tmps:=args++caps++Array.replicate (fn.ntmps - (args++caps).size) undef,defers:=[]} [.code cd]) [jY P]) w #[]:=by
 have h1:¬fn.name= "runtime.NumGoroutine":=by simpa using b
 rw[<-enter_atD (args++caps) a hb]
 simp[born,G,stepG,unwind,callDeferred,invoke,callFunc,a,h1,hb,GStep.after,seen_none,jY]
theorem MI {b:Frame}{a:Act}{todo:List Item}(d:b.kind= .deferred)(hd:a.defers=[])(e:P.funcs[b.fn]?=some fn)(c:fn.results=#[]):
  stepG P false (G {b.at a todo with mode:=.returning} [jY P]) w= .go (G (jY P) []) w #[]:=by
 have he:(results fn a.tmps).events P w #[]=#[]:=events_results_none c _ _
 have f:(results fn a.tmps).run P w= .ok (.tuple #[]) w:=results_none c _ P w
 simp[G,stepG,unwind,doReturn,Frame.at,d,hd,e,f,he,jY,goexitEntry,seen_none,GStep.after]
theorem MJ:stepG P false (G (jY P) []) w= .go {frame:=jY P,callers:=[],status:=.finished,dying:=none} w #[]:=by
 have e:(default:Frame).todo=[]:=rfl;simp[G,stepG,unwind,jY,goexitEntry,Frame.catches,e]
end
section
variable {c:Cy}{i:Nat}{F:aa}{f fd:FuncId}
def zZ (c:Cy)(i:Nat)(fd:FuncId)(v:Value):Ex->Act->aa->Ph->Prop
 | .exit _,_,_,_=>False
 |_,a,_,ph=>a.defers=[dcall fd #[v]]/\(ph.mp= .idle\/ph.mp= .fin)/\ph.gp= .cnt/\ph.stored=c.bs i/\ph.deaf=0
theorem worker {fn b:Func}{cd l:Code}{n nd:Nat}{v:Value}(m:c.P.funcs[f]?=some fn)(z:(fn.name== "runtime.NumGoroutine")=false)(hb:fn.body=some cd)(B:fn.results=#[])(o:fn.ntmps=n){caps:Array Value}(Q:caps.size<=n)
  (C:c.P.funcs[fd]?=some b) (D:(b.name== "runtime.NumGoroutine")=false) (E:b.body=some l) (H:b.results=#[]) (I:b.ntmps=nd) (h1:1<=nd)
  (hd:∀(mp:Mp) (F:aa),mp= .idle\/mp= .fin->∀A:Act,sz A=nd->A.defers=[]->(∀j,slot A j=(#[v]:Array Value).getD j undef)->cO (WJ c i) fd l (zR fun F' aK=>aK=⟨.fin,.gone,c.bs i,0⟩) A F ⟨mp,.cnt,c.bs i,0⟩)
  (h:∀A:Act,sz A=n->A.defers=[]->(∀j,slot A j=caps.getD j undef)->cO (WJ c i) f cd (zZ c i fd v) A F ⟨.idle,.cnt,false,0⟩):
  Wk c i ⟨.idle,.cnt,false,0⟩ (born c.P {target:=.fn (.func f) caps,args:=#[]}) F:=by
 have p:=WJ.eH c i
 have e0:∀w,stepG c.P false (born c.P {target:=.fn (.func f) caps,args:=#[]}) w= .go (G ((baseD f).at {tmps:=caps++Array.replicate (fn.ntmps - caps.size) undef,defers:=[]} [.code cd]) [jY c.P]) w #[]:=fun w=>by
  have:=MH (P:=c.P) (w:=w) (caps:=caps) (args:=#[]) m z hb
  simpa using this
 refine Wk.act (c:=c) (i:=i) rfl rfl (by simp) fun w s k φ p0 e1 e2 R J K=>.inr ⟨_,w,#[],s,⟨.idle,.cnt,false,0⟩,e0 w,e2,.refl _ _,?_,od rfl Iff.rfl,.inr dP,?_⟩
 .rw[<-J,zI];exact K
 have out:∀(a:Act) (r:List Item) F' (aK:Ph),(a.defers=[dcall fd #[v]]/\(aK.mp= .idle\/aK.mp= .fin)/\aK.gp= .cnt/\aK.stored=c.bs i/\aK.deaf=0)->WJ c i aK (G {(baseD f).at a r with mode:=.returning} [jY c.P]) F':=by
  intro a r F' aK ⟨k1,t,u,x,y⟩
  obtain ⟨mp,gp,st,S⟩:=aK
  simp only at t u x y
  subst u x y
  refine L4 C D E H I (by simpa using h1) k1 (fun A L M N=>hd mp F' t A L M N) fun T U O=>?_
  subst O
  refine Wk.gone (q:=2) rfl (QuitsD.ctl rfl (fun w=>MI rfl rfl m B) (QuitsD.ctl rfl (fun w=>MJ) ⟨rfl,rfl⟩))
 have:=h {tmps:=caps++Array.replicate (fn.ntmps - caps.size) undef,defers:=[]} (by simp[sz,o];omega) rfl (fun j=>?_) (baseD f) [] [jY c.P] ⟨by simp[baseD],rfl,rfl⟩ fun e a F' aK g=>?_
 .rw[eO rfl] at this;exact this
 .simp only[slot,o,Array.getD_eq_getD_getElem?]
  rcases Nat.lt_or_ge j caps.size with d|d
  .rw[Array.getElem?_append_left d]
  .rw[Array.getElem?_append_right d,Array.getElem?_replicate,Array.getElem?_eq_none d]
   split<;>rfl
 .cases e with
  |normal=>exact (p aK).move (fun _=>mL rfl) (out a _ F' aK g)
  |exit i=>exact g.elim
  |ret=>exact fun V=>(p aK).move (fun _=>stepG_ret' rfl) (out a _ F' aK g)
end
attribute [go_sem] zZ
end Go.Sep
end
section
namespace Go.Proofs.YtnaejeiofbpbkaaGreatDoor
open Go Go.Sep Go.Proofs Go.Conc
open Go.ConcN (upd upd_same)
open Go.ConcM (muA msA)
open Go.ConcR (stA smA)
set_option maxRecDepth 100000
set_option maxHeartbeats 4000000
attribute [local go_sem] Int.reduceBEq Int.reduceBNe muA msA stA smA
theorem MK:(Tryz.prog.funcs[129]?).any (·.norace)=false:=by kernel_rfl
section
variable {Mu Wg Is n base T0 i:Nat}{bs:Nat->Bool}
theorem ML (aG:Mu≠Wg/\Mu≠Is/\Wg≠Is)(x:n<67108864)(a5:i<n){ro:Addr->Option Value}(u0:cV){s1:Value}(o:az eT ro s1 u0.book.ax){K:Value}(q:az dI ro K u0.book.props){L:Value}(r:az ej ro L u0.book.an){M:Value}(s:az cU ro M u0.book.told)
  (z:Int) (B:List Int) {N:Value} (u:az rI ro N B) (C:List aP) {O:Value} (g:az jE ro O C) {f b2 b3 b4 P Q:Nat}
  (g0:ro ⟨f,0,none⟩=some (.int .i64 u0.book.bB)) (R:ro ⟨f,1,none⟩=some (.int .i64 u0.book.bH)) (S:ro ⟨f,2,none⟩=some (.int .i64 u0.book.aO.num)) (T:ro ⟨f,3,none⟩=some (.int .i64 u0.book.aO.den)) (U:ro ⟨f,4,none⟩=some s1) (V:ro ⟨f,5,none⟩=some K) (W:ro ⟨f,6,none⟩=some L) (X:ro ⟨f,7,none⟩=some M)
  (Y:ro ⟨b2,0,none⟩=some (.int .i64 z)) (Z:ro ⟨b3,0,none⟩=some N) (ab:ro ⟨b4,0,none⟩=some O) (D:ro ⟨P,0,none⟩=some (.slice (some ⟨Is,0,none⟩) n n)) (E:ro ⟨Q,0,none⟩=some (.int .i64 i))
  (h:af (o3 u0.book z B) (fun b=>oU b C)=some (bs i)):
  Wk (CY Mu Wg Is n bs base T0) i ⟨.idle,.cnt,false,0⟩ (born Tryz.prog {target:=.fn (.func 129) #[.pointer (some ⟨Wg,0,none⟩),.pointer (some ⟨f,0,none⟩),.pointer (some ⟨b2,0,none⟩),.pointer (some ⟨b3,0,none⟩),.pointer (some ⟨b4,0,none⟩),.pointer (some ⟨Mu,0,none⟩),.pointer (some ⟨P,0,none⟩),.pointer (some ⟨Q,0,none⟩)],args:=#[]}) ⟨ro,[]⟩:=by
 have d:=WJ.eH (CY Mu Wg Is n bs base T0) i
 have hJ:∀ph:Ph,ph.gp= .cnt->Go.Sep.Closed Tryz.prog false (WJ (CY Mu Wg Is n bs base T0) i ph):=fun ph h=>Wk.closed (CY Mu Wg Is n bs base T0) i ph h
 refine worker (c:=CY Mu Wg Is n bs base T0) (i:=i) (fd:=130) (v:=.pointer (some ⟨Wg,0,none⟩)) Tryz.func129 rfl rfl rfl Tryz.ntmps129 (by simp) Tryz.func130 rfl rfl rfl Tryz.ntmps130 (by simp) ?_ ?_
 .intro mp F a6 A G hd hs
  have w:=hs 0
  clear hs h g0 R S T U V W X Y Z ab D E o q r s u g hJ a5
  repeat apply aB (d _)
  refine dc d ?_
  refine ai.pure (d _) 1 (n:=1) _ rfl rfl ?_;simp only[*,go_sem]
  refine ai.gD (d _) rfl rfl rfl BD (by simp only[*,go_sem,stA]) (MG aG x a6 rfl) fun v F' aK j=>?_
  obtain ⟨rfl,rfl,rfl⟩:=j
  refine ai.nil d ?_
  exact ⟨(by simp only[*,go_sem]),rfl⟩
 .intro ad G hd hs
  have w:=hs 0
  have k1:=hs 1
  have ae:=hs 2
  have al:=hs 3
  have ao:=hs 4
  have ar:=hs 5
  have a0:=hs 6
  have a2:=hs 7
  clear hs
  repeat apply aB (d _)
  refine dc d ?_
  refine ai.defer (d _) (vals:=#[.pointer (some ⟨Wg,0,none⟩)]) rfl (by rfl) rfl rfl (by simp only[List.map_toArray,List.map_cons,List.map_nil];rw[show ad.eval (.tmp 0)=slot ad 0 from rfl,w];rfl) fun A e1 e2 H=>?_
  replace w:=(e1 0).trans w
  replace k1:=(e1 1).trans k1
  replace ae:=(e1 2).trans ae
  replace al:=(e1 3).trans al
  replace ao:=(e1 4).trans ao
  replace ar:=(e1 5).trans ar
  replace a0:=(e1 6).trans a0
  replace a2:=(e1 7).trans a2
  replace G:sz A=20:=e2.trans G
  rw[hd] at H
  replace hd:=H
  clear e1 e2 H
  refine ai.nil d ?_;try simp only[go_sem]
  obtain ⟨d3,c4,rfl,a7,a8,a9⟩:=id o
  obtain ⟨d10,dq,rfl,ba,bb,bc⟩:=id q
  obtain ⟨d17,ds,rfl,bd,bj,bk⟩:=id r
  obtain ⟨d24,dt,rfl,bl,bm,bo⟩:=id s
  obtain ⟨d38,du,rfl,br,bz,bS⟩:=id u
  obtain ⟨d45,dv,rfl,b0,b1,I⟩:=id g
  repeat apply aB (d _)
  have l:=hJ ⟨.idle,.cnt,false,0⟩ rfl
  refine cO.of l ?_
  refine GR l mixed [0,1,2,3,5] [4,6] ⟨ro,[]⟩ (by simp only[*,go_sem,-h]) (by kernel_rfl) ?_
  have b5:=gf h;clear h;obtain ⟨ca,a3,h⟩:=b5
  simp only[*,go_sem,-h,-hJ,-d]
  refine w7 l _ (Ip u0.book ⟨o,q,r,s⟩ z B u a3) fun v dC m cb j=>?_
  obtain ⟨dE,dT,ea,eb,rfl,k⟩:=j
  replace g:=g.mono m;clear I;obtain ⟨_,_,I⟩:=g.op
  obtain ⟨d63,ec,rfl,cd,cf,cl⟩:=id k.e
  obtain ⟨d68,ed,rfl,cy,cS,c0⟩:=id k.p
  obtain ⟨d73,eh,rfl,da,db,dd⟩:=id k.y
  obtain ⟨d78,et,rfl,df,dk,dp⟩:=id k.t
  replace D:=m _ _ D
  replace E:=m _ _ E
  clear g0 R S T U V W X Y Z ab
  refine ⟨⟨m,fun a J=>by simp[keys] at J,trivial⟩,mW ?_⟩
  simp only[*,go_sem,-h,-hJ,-d]
  refine bn l _ (Ib ca (k.mono aL) C (g.mono aL) h) ?_
  refine ⟨⟨m,fun a J=>by simp[keys] at J,trivial⟩,?_⟩
  clear o q r s u g k a9 bc bk bo bS I cl c0 dd dp h a3 a7 ba bd bl br b0 cd cy da df a8 bb bj bm bz b1 cf cS db dk l cb
  have i0:(0:Int)<=(i:Int):=by omega
  have i1:(i:Int)<(n:Int):=by omega
  cases a4:bs i
  .repeat apply aB (d _)
   refine cF (d _) (by simp only[*,go_sem]) ?_
   apply cJ (d _)
   exact ⟨(by simp only[*,go_sem]),.inl rfl,rfl,a4.symm,rfl⟩
  .repeat apply aB (d _)
   refine c9 (d _) (by simp only[*,go_sem]) ?_
   repeat apply aB (d _)
   refine dc d ?_
   refine ai.gD (d _) rfl (by rfl) rfl GH (by simp only[*,go_sem]) (LS aG x) fun v F' aK j=>?_
   obtain ⟨rfl,rfl,rfl⟩:=j
   refine ai.nil d ?_;try simp only[go_sem]
   repeat apply aB (d _)
   refine dc d ?_
   refine ai.bG (hJ _ rfl) 3 (n:=1) _ rfl rfl ?_;simp only[*,go_sem]
   refine LJ Ly Bt MK aG ⟨_,rfl,(by first|rfl|simp only[*,go_sem]),rfl,rfl⟩ (by rfl) (by simp only[*,go_sem]) (by simp only[*,go_sem]) ?_
   refine ai.nil d ?_;try simp only[go_sem]
   repeat apply aB (d _)
   refine dc d ?_
   refine ai.gD (d _) rfl (by rfl) rfl GI (by simp only[*,go_sem]) (LU aG x) fun v F' aK j=>?_
   obtain ⟨rfl,rfl,rfl⟩:=j
   refine ai.nil d ?_
   exact (show zZ _ _ _ _ .normal _ _ _ from ⟨(by simp only[*,go_sem]),.inr rfl,rfl,a4.symm,rfl⟩)
end
end Go.Proofs.YtnaejeiofbpbkaaGreatDoor
end
section
namespace Go.Proofs.YtnaejeiofbpbkaaGreatDoor
open Go Go.Sep Go.Proofs Go.Conc
open Go.ConcN (upd upd_same)
open Go.ConcM (muA msA muBlock)
open Go.ConcR (stA smA wgBlock)
set_option maxRecDepth 100000
set_option maxHeartbeats 4000000
attribute [local go_sem] Int.reduceBEq Int.reduceBNe muA msA stA smA
def vM (u0:cV)(a:Int)(c:List aP)(d:List Int):Option Bool:=af (o3 u0.book a d) fun b=>oU b c
def oh (f:List Int->Option Bool):List (List Int)->Option (List Bool)
 |[]=>some []
 |x::l=>af (f x) fun b=>af (oh f l) fun r=>some (b::r)
def sD (a:List Bool)(i23:Nat)(b:List Int)(st:List (List Int)):Option (Fl (List (List Int)) (List (List Int))):=
 af (bh a (i23:Int)) fun c=>cond (c) (af (cG st ([b])) fun d=>some (.nx d)) (some (.nx st))
def qd (u0:cV)(b:Int)(a:List (List Int)):Option (List (List Int)):=
 cond (decide (a.length<1048576)) (af (o9 u0) fun c=>af (oh (vM u0 b c) a) fun bl=>af (bE (sD bl) 0 a ([]:List (List Int))) fun o=>aC o (fun d=>some d) (fun _ _=>none) (fun r=>some r)) none
theorem EX {f:List Int->Option Bool}:∀{l:List (List Int)} {bl:List Bool},oh f l=some bl->bl.length=l.length/\∀(i:Nat) (a:List Int),l[i]?=some a->f a=some (bl[i]?.getD false)
 |[],bl,h=>by
  simp[oh] at h;subst h
  exact ⟨rfl,fun i a hi=>by simp at hi⟩
 |x::l,bl,h=>by
  unfold oh at h
  obtain ⟨b,hb,h⟩:=gf h
  obtain ⟨r,c,h⟩:=gf h
  have h:=Option.some.inj h
  subst h
  obtain ⟨e1,e2⟩:=EX c
  refine ⟨by simp[e1],fun i a hi=>?_⟩
  cases i with
  |zero=>simp at hi;subst hi;simpa using hb
  |succ i=>simp at hi;simpa using e2 i a hi
def EY (x:X)(d:Addr->Option Value)(b3 b4 e f:Nat)(b:Value)(m:Nat)(a:Act)(F:aa)(z:Z):Prop:=
 ∃(i:Nat) (c:Addr->Option Value),m=x.n - i/\i<=x.n/\F=⟨c,[]⟩/\Ext d c/\slot a 2=b/\slot a 3= .pointer (some ⟨b3,0,none⟩)/\slot a 4= .pointer (some ⟨b4,0,none⟩)/\slot a 6= .slice none 0 0/\slot a 7= .pointer (some ⟨e,0,none⟩)/\slot a 8= .pointer (some ⟨f,0,none⟩)/\slot a 9= .pointer (some ⟨x.Mu,0,none⟩)/\slot a 10= .pointer (some ⟨x.Wg,0,none⟩)/\slot a 21=b/\slot a 22= .int .i64 x.n/\slot a 23= .int .i64 i/\sz a=49/\a.defers=[]/\z= .co x i (.opn 0) 0
theorem MM (l:List Bool):(l.map fun b=>[Value.bool b]).flatten=l.map Value.bool:=by
 induction l with
 |nil=>rfl
 |cons b l ih=>simp only[List.map_cons,List.flatten_cons,ih];rfl
theorem MN:Tryz.prog.underlying 174=some (.slice 4):=by kernel_rfl
theorem MO:Tryz.prog.info? 4=some ((Tryz.prog.info? 4).getD default):=by kernel_rfl
theorem EZ {ro:Addr->Option Value}(u0:cV){s1:Value}(q:az eT ro s1 u0.book.ax){bo:Value}(s:az dI ro bo u0.book.props){br:Value}(u:az ej ro br u0.book.an){bs:Value}(w:az cU ro bs u0.book.told){bz:Value}(a4:az iA ro bz u0.all)(ae:Int)(d:List (List Int)){bS:Value}(o:az (rL rI) ro bS d){r:List (List Int)}(h:qd u0 ae d=some r):
  qK Tryz.prog 73 #[.agg #[.int .i64 u0.book.bB,.int .i64 u0.book.bH,.int .i64 u0.book.aO.num,.int .i64 u0.book.aO.den,s1,bo,br,bs,bz],.int .i64 ae,bS] ro (fun v aN=>∃b0,v=b0/\az (rL rI) aN b0 r):=by
 refine fY.Mo (T:=TT) fun Φ=>?_
 obtain ⟨d3,c4,rfl,fu,fv,fw⟩:=id q
 obtain ⟨d10,fx,rfl,fz,fP,R⟩:=id s
 obtain ⟨d17,I,rfl,fQ,fS,fU⟩:=id u
 obtain ⟨d24,gg,rfl,gl,gn,gp⟩:=id w
 obtain ⟨d31,ib,rfl,gB,gC,gM⟩:=id a4
 obtain ⟨d38,b1,rfl,ic,b2,C⟩:=id o
 unfold qd at h
 have hlen:d.length<1048576:=by
  rcases Nat.lt_or_ge d.length 1048576 with y|y
  .exact y
  .rw[show decide (d.length<1048576)=false by simp;omega] at h;cases h
 rw[show decide (d.length<1048576)=true by simp;omega] at h
 simp only[cond_true] at h
 obtain ⟨b5,ca,h⟩:=gf h
 obtain ⟨bl,cb,h⟩:=gf h
 obtain ⟨cd,cf⟩:=EX cb
 have a:=ZJ.eH TT Φ
 have hJ:=fun (z:Z) (S:zX z=true)=>ZJ.MA TT Φ z S
 refine cI.go (main:=true) a Tryz.func73 rfl Tryz.ntmps73 (by simp) fun A S hd hs=>?_
 have gT:=hs 0
 have k1:=hs 1
 have cl:=hs 2
 clear hs cb
 repeat apply aB (a _)
 refine bg a fun K c=>?_
 refine ai.bG (hJ _ rfl) 3 (n:=0) _ rfl rfl ?_;simp only[*,go_sem,-c,-a,-hJ]
 intro b3 f3;have r3:=ez f3;have n3:=fW f3
 try simp only[av] at n3
 intro b4 f4;have gV:=ez f4;have cS:=fW f4
 try simp only[av] at cS
 try simp only[*,go_sem,-c,-a,-hJ,-h]
 refine ai.nil a (c _ _ _ ?_);clear c K
 have p:=hJ .free rfl
 repeat apply aB (a _)
 refine bg a fun K c=>?_
 refine ai.bG (hJ _ rfl) 4 (n:=0) _ rfl rfl ?_;simp only[*,go_sem,-c,-a,-hJ]
 refine w7 p _ (CB u0 ⟨q,s,u,w⟩ a4 ca) fun v ih J g0 U=>?_
 obtain ⟨ik,rfl,L⟩:=U
 replace q:=q.mono J
 replace s:=s.mono J
 replace u:=u.mono J
 replace w:=w.mono J
 replace o:=o.mono J
 obtain ⟨d45,g1,rfl,g2,g3,g4⟩:=id L
 clear fw R fU gp gM C g4 r3 gV
 apply aJ
 try simp only[*,go_sem,-c,-a,-hJ,-h,-p]
 intro a5 f7;have ha:=ez f7;have c0:=fW f7
 try simp only[av] at c0
 try simp only[*,go_sem,-c,-a,-hJ,-h,-p]
 refine ai.nil a (c _ _ _ ?_);clear c K
 repeat apply aB (a _)
 refine bg a fun K c=>?_
 refine ai.bG (hJ _ rfl) 5 (n:=0) _ rfl rfl ?_;simp only[*,go_sem,-c,-a,-hJ]
 refine Mz MN MO rfl Bt Gv hlen fun k a6=>?_
 have rI:=ez a6;have nI:=fW a6
 try simp only[av] at nI
 apply aJ
 try simp only[*,go_sem,-c,-a,-hJ,-h,-p]
 intro V f8;have hc:=ez f8;have da:=fW f8
 try simp only[av] at da
 try simp only[*,go_sem,-c,-a,-hJ,-h,-p]
 refine ai.nil a (c _ _ _ ?_);clear c K
 repeat apply aB (a _)
 refine bg a fun K c=>?_
 refine ai.bG (hJ _ rfl) 1 (n:=0) _ rfl rfl ?_;simp only[*,go_sem,-c,-a,-hJ]
 intro M f9;have hf:=ez f9;have db:=fW f9
 try simp only[av] at db
 try simp only[*,go_sem,-c,-a,-hJ,-h,-p]
 refine ai.nil a (c _ _ _ ?_);clear c K
 repeat apply aB (a _)
 refine bg a fun K c=>?_
 refine ai.bG (hJ _ rfl) 1 (n:=0) _ rfl rfl ?_;simp only[*,go_sem,-c,-a,-hJ]
 intro N f10;have hg:=ez f10;have dd:=fW f10
 try simp only[av] at dd
 try simp only[*,go_sem,-c,-a,-hJ,-h,-p]
 refine ai.nil a (c _ _ _ ?_);clear c K
 repeat apply aB (a _)
 refine bg a fun K c=>?_
 refine ai.bG (hJ _ rfl) 3 (n:=0) _ rfl rfl ?_;simp only[*,go_sem,-c,-a,-hJ]
 refine ai.nil a (c _ _ _ ?_);clear c K
 refine zY p fun nd no=>?_
 obtain ⟨al,D,hle,B,df,dk,dp⟩:=MB nd no
 clear nd no
 refine Ml (T:=TT) (Φ:=Φ) ⟨al,[]⟩ M N k d.length (fun i=>bl[i]?.getD false) hle ?_
 intro base B0 T0 hh aG
 clear hle
 have ao:d.length<67108864:=by omega
 replace q:=q.mono D
 replace s:=s.mono D
 replace u:=u.mono D
 replace w:=w.mono D
 replace o:=o.mono D
 replace L:=L.mono D
 have dq:=B 0 (.int .i64 u0.book.bB) rfl
 have ds:=B 1 (.int .i64 u0.book.bH) rfl
 have dt:=B 2 (.int .i64 u0.book.aO.num) rfl
 have du:=B 3 (.int .i64 u0.book.aO.den) rfl
 have dv:=B 4 (.slice d3 u0.book.ax.length c4) rfl
 have dC:=B 5 (.slice d10 u0.book.props.length fx) rfl
 have dE:=B 6 (.slice d17 u0.book.an.length I) rfl
 have dT:=B 7 (.slice d24 u0.book.told.length gg) rfl
 have ea:=df 0 (.int .i64 ae) rfl
 have eb:=dk 0 (.slice d45 b5.length g1) rfl
 have a7:=dp 0 (.slice (some ⟨k,0,none⟩) d.length d.length) rfl
 clear B df dk dp f3 f4 f7 f8 f9 f10 a6 n3 cS c0 da db dd nI ha hc hf hg rI g0
 repeat apply aB (a _)
 refine kL a ?_
 refine sw a (EY (⟨M,N,k,d.length,(fun i=>bl[i]?.getD false),base,T0,B0⟩:X) al b3 b4 a5 V (.slice d38 d.length b1)) d.length ?_ ?_
 .exact ⟨0,al,rfl,Nat.zero_le _,rfl,Ext.refl _,(by simp only[*,go_sem,-a,-hJ]),(by simp only[*,go_sem,-a,-hJ]),(by simp only[*,go_sem,-a,-hJ]),(by simp only[*,go_sem,-a,-hJ]),(by simp only[*,go_sem,-a,-hJ]),(by simp only[*,go_sem,-a,-hJ]),(by simp only[*,go_sem,-a,-hJ]),(by simp only[*,go_sem,-a,-hJ]),(by simp only[*,go_sem,-a,-hJ]),(by simp only[*,go_sem,-a,-hJ]),(by simp only[*,go_sem,-a,-hJ]),(by simp only[*,go_sem,-a,-hJ]),(by simp only[*,go_sem,-a,-hJ]),rfl⟩
 clear gT k1 cl S hd
 rintro m A F' ec ⟨i,P,rfl,hi,rfl,e,cl,hj,hk,il,hl,im,hn,ho,hp,hq,hr,S,hd,rfl⟩
 have hi:i<=d.length:=hi
 replace q:=q.mono e
 replace s:=s.mono e
 replace u:=u.mono e
 replace w:=w.mono e
 replace o:=o.mono e
 replace L:=L.mono e
 rcases Nat.lt_or_ge i d.length with ar|ht
 .have c1:decide ((i:Int)<(d.length:Int))=true:=by simp;omega
  have i0:(0:Int)<=(i:Int):=by omega
  have i1:(i:Int)<(d.length:Int):=by omega
  obtain ⟨a8,ed⟩:∃x,d[i]?=some x:=⟨_,List.getElem?_eq_getElem ar⟩
  obtain ⟨_,_,C⟩:=o.op
  obtain ⟨hv,eh,a9,ba,W⟩:=C _ _ ed
  obtain ⟨hx,rfl,Y⟩:=ba
  obtain ⟨d32,ab,rfl,hy,hz,-⟩:=id Y
  cases a9
  have hA:=W 0 _ rfl
  simp only[go_sem] at hA
  clear W C
  have et:=cv (n:=i) (by omega)
  repeat apply aB (a _)
  refine bg a fun K c=>?_
  refine ai.bG (hJ _ rfl) 1 (n:=0) _ rfl rfl ?_;simp only[*,go_sem,-c,-a,-hJ]
  refine ai.nil a (c _ _ _ ?_);clear c K
  repeat apply aB (a _)
  refine c9 (a _) (by simp only[*,go_sem,-a,-hJ]) ?_
  apply cJ (a _)
  repeat apply aB (a _)
  refine kL a ?_
  repeat apply aB (a _)
  refine bg a fun K c=>?_
  refine ai.bG (hJ _ rfl) 7 (n:=0) _ rfl rfl ?_;simp only[*,go_sem,-c,-a,-hJ]
  intro hB f11;have hD:=ez f11;have ev:=fW f11
  try simp only[av] at ev
  try simp only[*,go_sem,-c,-a,-hJ,-h,-p]
  intro hE f12;have hF:=ez f12;have eQ:=fW f12
  try simp only[av] at eQ
  try simp only[*,go_sem,-c,-a,-hJ,-h,-p]
  refine ai.nil a (c _ _ _ ?_);clear c K
  refine zY (hJ _ rfl) fun nd no=>?_
  obtain ⟨hG,f,hle,eS,e0⟩:=MC nd no
  clear nd no f11 f12 hD hF ev eQ
  refine EW (hJ _ rfl) hle ?_
  clear hle
  have hI:=eS 0 (.int .i64 i) rfl
  have hK:=e0 0 (.slice d32 a8.length ab) rfl
  clear eS e0
  repeat apply aB (a _)
  refine bg a fun K c=>?_
  refine ai.gD (a _) rfl (by first|(simp only[*,go_sem,-c,-a,-hJ];done)|rfl) rfl BD (by simp only[*,go_sem,-c,-a,-hJ]) (Mx aG ao) fun v F' ec U=>?_
  obtain ⟨rfl,rfl,rfl⟩:=U
  refine ai.nil a (c _ _ _ ?_);clear c K
  repeat apply aB (a _)
  refine bg a fun K c=>?_
  refine ai.bG (hJ _ rfl) 1 (n:=1) _ rfl rfl ?_;simp only[*,go_sem,-c,-a,-hJ]
  refine MD (caps:=#[.pointer (some ⟨N,0,none⟩),.pointer (some ⟨b3,0,none⟩),.pointer (some ⟨b4,0,none⟩),.pointer (some ⟨hE,0,none⟩),.pointer (some ⟨a5,0,none⟩),.pointer (some ⟨M,0,none⟩),.pointer (some ⟨V,0,none⟩),.pointer (some ⟨hB,0,none⟩)]) (f0:=129) ar ⟨_,rfl,(by first|(simp only[*,go_sem,-c,-a,-hJ];done)|rfl),rfl,rfl⟩ (by simp only[*,go_sem,-c,-a,-hJ]) ?_ ?_
  .exact ML aG ao ar u0 (q.mono f) (s.mono f) (u.mono f) (w.mono f) ae a8 (Y.mono f) b5 (L.mono f) (f _ _ (e _ _ dq)) (f _ _ (e _ _ ds)) (f _ _ (e _ _ dt)) (f _ _ (e _ _ du)) (f _ _ (e _ _ dv)) (f _ _ (e _ _ dC)) (f _ _ (e _ _ dE)) (f _ _ (e _ _ dT)) (f _ _ (e _ _ ea)) hK (f _ _ (e _ _ eb)) (f _ _ (e _ _ a7)) hI (cf i a8 ed)
  refine ai.nil a (c _ _ _ ?_);clear c K
  repeat apply aB (a _)
  refine bg a fun K c=>?_
  refine ai.bG (hJ _ rfl) 2 (n:=0) _ rfl rfl ?_;simp only[*,go_sem,-c,-a,-hJ]
  refine ai.nil a (c _ _ _ ?_);clear c K
  change ∃e1,e1<d.length - i/\EY _ al b3 b4 a5 V _ e1 _ _ _
  exact ⟨d.length - (i+1),by omega,i+1,hG,rfl,ar,rfl,e.trans f,(by simp only[*,go_sem,-a,-hJ]),(by simp only[*,go_sem,-a,-hJ]),(by simp only[*,go_sem,-a,-hJ]),(by simp only[*,go_sem,-a,-hJ]),(by simp only[*,go_sem,-a,-hJ]),(by simp only[*,go_sem,-a,-hJ]),(by simp only[*,go_sem,-a,-hJ]),(by simp only[*,go_sem,-a,-hJ]),(by simp only[*,go_sem,-a,-hJ]),(by simp only[*,go_sem,-a,-hJ]),(by simp only[*,go_sem,-a,-hJ]),(by simp only[*,go_sem,-a,-hJ]),(by simp only[*,go_sem,-a,-hJ]),rfl⟩
 .have c1:decide ((i:Int)<(d.length:Int))=false:=by simp;omega
  obtain rfl:i=d.length:=by omega
  repeat apply aB (a _)
  refine bg a fun K c=>?_
  refine ai.bG (hJ _ rfl) 1 (n:=0) _ rfl rfl ?_;simp only[*,go_sem,-c,-a,-hJ]
  refine ai.nil a (c _ _ _ ?_);clear c K
  repeat apply aB (a _)
  refine cF (a _) (by simp only[*,go_sem,-a,-hJ]) ?_
  refine p6 ?_
  simp only[go_sem]
  repeat apply aB (a _)
  refine bg a fun K c=>?_
  refine ai.gD (a _) rfl (by first|(simp only[*,go_sem,-c,-a,-hJ];done)|rfl) rfl GJ (by simp only[*,go_sem,-c,-a,-hJ]) (My aG ao) fun v F' ec U=>?_
  obtain ⟨rfl,rfl,rfl⟩:=U
  refine ai.nil a (c _ _ _ ?_);clear c K
  refine zY p fun nd no=>?_
  have rI:∀off sp,P ⟨k,off,sp⟩=none:=fun off sp=>no k (by simp[keys]) off sp
  have hle:Le ⟨bU P k (X.cy (⟨M,N,k,d.length,(fun i=>bl[i]?.getD false),base,T0,B0⟩:X) TT).fin,[]⟩ ⟨P,[(k,(X.cy (⟨M,N,k,d.length,(fun i=>bl[i]?.getD false),base,T0,B0⟩:X) TT).fin)]⟩:=kV (by simp[lk]) (by simp) trivial
  have ad:az rB (bU P k (X.cy (⟨M,N,k,d.length,(fun i=>bl[i]?.getD false),base,T0,B0⟩:X) TT).fin) (.slice (some ⟨k,0,none⟩) bl.length bl.length) bl:=az.flat (fun b=>[.bool b]) bl (fun _=>rfl) rI (by
   show (((List.range d.length).map fun i=>Value.bool (bl[i]?.getD false)).toArray).toList=_
   rw[<-cd]
   apply List.ext_getElem?
   intro j
   rw[MM bl]
   simp only[List.getElem?_map]
   rcases Nat.lt_or_ge j bl.length with y|y
   .simp[y]
   .simp[y]) (by omega)
  obtain ⟨E,bb⟩:∃E,E=bU P k (X.cy (⟨M,N,k,d.length,(fun i=>bl[i]?.getD false),base,T0,B0⟩:X) TT).fin:=⟨_,rfl⟩
  have a0:Ext P E:=by rw[bb];exact gH _ _ _
  have hL:Ext ro E:=J.trans (D.trans (e.trans a0))
  rw[<-bb] at hle ad
  refine EW p hle ?_
  replace o:=o.mono a0
  have a7:E ⟨V,0,none⟩=some (.slice (some ⟨k,0,none⟩) bl.length bl.length):=by rw[cd];exact a0 _ _ (e _ _ a7)
  clear hle nd no bb rI dq ds dt du dv dC dE dT ea eb a hJ aG ao hh q s u w L ca cf c1 hlen ht hi a0 J D e hj hk hl hn ho hp hq hr fu fv fz fP fQ fS gl gn a4 gB gC g2 g3
  obtain ⟨_,_,C⟩:=o.op
  obtain ⟨_,_,R⟩:=ad.op
  have hJ:=p
  clear p
  refine cO.of hJ ?_
  repeat apply ag hJ
  apply ak hJ
  simp only[*,go_sem,-h]
  repeat apply ag hJ
  apply ak hJ
  simp only[*,go_sem,-h]
  repeat apply ag hJ
  apply aT hJ
  have g:=gf h;clear h;obtain ⟨hM,G,hN⟩:=g;have h:=True.intro
  refine bT hJ [13,14,15,34,35,36,37,38,39,40,41,42,43,44,45,46,47] (fun m e3 F'=>∃(i23:Nat) (d17:Option Addr) (I:Nat) (a2:List (Nat×Obj)) (H:(List (List Int))),m=d.length - i23/\i23<=d.length/\bE (sD bl) i23 (d.drop i23) H=some hM/\F'=⟨E,a2⟩/\aQ (rL rI) E 35 (.slice d17 H.length I) H a2/\H.length<=I/\slot e3 34= .int .i64 (i23:Int)/\slot e3 13= .slice d17 H.length I) d.length ?_ ?_
  .refine ⟨0,none,0,[],([]:List (List Int)),(Nat.sub_zero _).symm,Nat.zero_le _,G,rfl,aQ.nil _ _ _,Nat.le_refl _,?_⟩
   simp only[*,go_sem,-h]
  .rintro iv Q F' O ⟨i23,d17,I,a2,H,rfl,ix,G,rfl,bc,hP,jC,j1⟩
   have h:=True.intro
   have j2:sz Q=49:=by rw[O.size];simp only[*,go_sem,-h]
   have kh:Q.defers=[]:=by rw[O.defers];simp only[*,go_sem,-h]
   have kj:slot Q 6= .slice none 0 0:=by rw[O.cP 6 (by decide)];simp only[*,go_sem,-h]
   have kk:slot Q 8= .pointer (some ⟨V,0,none⟩):=by rw[O.cP 8 (by decide)];simp only[*,go_sem,-h]
   have kl:slot Q 32= .slice d38 d.length b1:=by rw[O.cP 32 (by decide)];simp only[*,go_sem,-h]
   have km:slot Q 33= .int .i64 (d.length:Int):=by rw[O.cP 33 (by decide)];simp only[*,go_sem,-h]
   clear O S hd
   repeat apply ag hJ
   apply ak hJ
   simp only[*,go_sem,-h]
   repeat apply ag hJ
   rcases Nat.lt_or_ge i23 d.length with hQ|fa
   .refine ei hJ (by simp only[*,go_sem,-h]) ?_
    apply aI hJ
    obtain ⟨a3,bd⟩:∃x,d[i23]?=some x:=⟨_,List.getElem?_eq_getElem hQ⟩
    rw[dw bd] at G
    have g:=gf G;clear G h;obtain ⟨kn,h,fb⟩:=g
    unfold sD at h
    try dsimp only at h
    obtain ⟨kp,ks,hR,hS,ff⟩:=C _ _ bd
    obtain ⟨hx,rfl,Y⟩:=hS;obtain ⟨d32,ab,rfl,hy,hz,kt⟩:=id Y
    cases hR
    have hT:=ff 0 _ rfl;simp only[go_sem] at hT
    clear ff bd
    repeat apply ag hJ
    apply aT hJ
    repeat apply ag hJ
    refine ay hJ fun kv=>?_
    apply ak hJ
    simp only[*,go_sem,-h]
    repeat apply ag hJ
    refine ay hJ fun kx=>?_
    apply ak hJ
    have g:=gf h;clear h;obtain ⟨hV,hX,h⟩:=g
    obtain ⟨ky,k0,fg⟩:=c5 hX
    obtain ⟨hv,eh,a9,ba,W⟩:=R _ _ fg
    obtain rfl:eh=[.bool hV]:=ba
    cases a9
    have hY:=W 0 _ rfl;simp only[go_sem] at hY
    clear W fg
    try simp only[*,go_sem,-h]
    have g:=jB h;clear h;rcases g with ⟨bj,h⟩|⟨bj,h⟩
    .try simp only[Int.ofNat_lt] at bj
     refine ei hJ (by simp only[*,go_sem,-h]) ?_
     refine ay hJ fun hZ=>?_
     apply ak hJ
     have g:=gf h;clear h;obtain ⟨h0,h1,h⟩:=g
     obtain ⟨h2,fi⟩:=dr h1
     simp only[*,go_sem,-h]
     intro fl f45;have h3:=ez f45;have fp:=fW f45
     have h4:=aR.cons fp hZ
     try simp only[av] at fp
     try simp only[*,go_sem,-h]
     refine BV (r:=(rL rI)) (l:=H) (x:=a3) (cs:=#[.slice d32 a3.length ab]) (e2:=35) [(fl,.cells #[.slice d32 a3.length ab] 35)] [] (by first|rfl|simp only[aV]|(simp only[aV];rfl)) bc h4 h2 ⟨_,rfl,Y⟩ (by simp only[*,go_sem,-h]) h3 rfl rfl lY lY tc tf rfl td (by decide) (by decide) (fun k2 fq bk h5 h6 lb=>?_)
     simp only[aV] at h6
     subst h5
     rw[<-fi] at bk;clear fi
     obtain ⟨d53,h7,rfl,h8⟩:=bk.len
     refine ⟨⟨E,(fl,.cells #[.slice d32 a3.length ab] 35)::fq⟩,Le.refl _,?_⟩
     apply aJ
     try simp only[*,go_sem,-h]
     have g:=Option.some.inj h;clear h;subst g
     have h:=True.intro
     have et:=cv (n:=i23) (by have:=b2;omega)
     apply ak hJ
     simp only[*,go_sem,-h]
     refine ⟨d.length - (i23+1),by omega,_,Le.sub (List.Sublist.cons _ (List.Sublist.refl _)),i23+1,d53,h7,fq,h0,rfl,by omega,fb,rfl,bk,h8,?_⟩
     simp only[*,go_sem,-h]
    .try simp only[Int.ofNat_lt] at bj
     refine dV hJ (by simp only[*,go_sem,-h]) ?_
     apply aI hJ
     have g:=Option.some.inj h;clear h;subst g
     have h:=True.intro
     have et:=cv (n:=i23) (by have:=b2;omega)
     apply ak hJ
     simp only[*,go_sem,-h]
     refine ⟨d.length - (i23+1),by omega,_,Le.sub (List.Sublist.refl _),i23+1,d17,I,a2,H,rfl,by omega,fb,rfl,bc,hP,?_⟩
     simp only[*,go_sem,-h]
   .have lh:=Nat.not_lt.2 fa
    refine dV hJ (by simp only[*,go_sem,-h]) ?_
    rw[List.drop_eq_nil_of_le fa] at G
    have g:=Option.some.inj G;clear G h;subst g
    have h:=hN
    dsimp only[aC] at h
    apply bR
    simp only[go_sem]
    repeat apply ag hJ
    refine ay hJ fun lj=>?_
    apply ak hJ
    simp only[*,go_sem,-h]
    have g:=Option.some.inj h;clear h;subst g
    refine ay hJ fun fr=>?_
    obtain ⟨fs,bm,ll,ft,h9⟩:=bc.l5 (([]:List (Nat×Obj))) [] [] (by first|rfl|simp only[aV]|(simp only[aV];rfl)) (by first|rfl|simp only[aV]|(simp only[aV];rfl)) fr (aD.nil _)
    clear fr
    refine cz (F:=⟨fs,([]:List (Nat×Obj))⟩) hJ h9 ?_
    obtain ⟨ln,lo,lr⟩:=ft.op
    replace o:=o.mono bm;clear C;obtain ⟨_,_,C⟩:=o.op
    replace ad:=ad.mono bm;clear R;obtain ⟨_,_,R⟩:=ad.op
    apply aE
    exact (mG (t:=6) rfl (by simp only[*,go_sem]) (by simp only[*,go_sem]) ⟨rfl,fs,hL.trans bm,Le.refl _,_,rfl,ft⟩).2
end Go.Proofs.YtnaejeiofbpbkaaGreatDoor
end
section
namespace Go.Proofs.YtnaejeiofbpbkaaGreatDoor
open Go Go.Sep Go.Proofs
set_option maxRecDepth 100000
set_option maxHeartbeats 4000000
def jm (u0:aj)(b:Int):Option ((List Int)×Int):=
 af (gr u0 ([(gK b),kB])) fun a=>cond ((a.2 != 0)) (some (([]:(List Int)),a.2)) (af (o6 a.1.book ([([]:(List Int))])) fun c=>af (qd a.1 b c) fun d=>af (rD d) fun e=>some (e,0))
theorem z0 {ro:Addr->Option Value}(L:di ro)(u0:aj){s1 g i j:Value}(D:bQ ro u0 s1 g i j)(a:Int){r:((List Int)×Int)}(h:jm u0 a=some r):qK Tryz.prog 11 #[bv u0 s1 g i j,.int .i64 a] ro (fun v aN=>∃W,v= .tuple #[W,.int .i64 r.2]/\az rI aN W r.1):=by
 unfold jm at h;have ba:=D.oc;simp only[bJ] at ba;refine fY.go Tryz.func11 rfl Tryz.ntmps11 Tryz.results11 (by simp) fun Φ hJ A b5 hd hs=>?_;have ca:=hs 0;have k1:=hs 1;clear hs;apply ah hJ;simp only[*,go_sem];refine aA fun w c bb=>?_;try simp only[av] at bb
 apply ag hJ;refine ay hJ fun bc=>?_;apply ak hJ;revert h;refine bS fun n bd h=>?_;simp only[*,go_sem];refine aA fun z X Y=>?_;have Z:=aR.cons Y bc;try simp only[av] at Y
 obtain ⟨B,M,ab⟩:=gj (b:=z) (o:=(.cells #[.func (.func 70) #[.int .i64 a] #[],.func (.func 71) #[] #[]] 120)) [] ((w,bk u0 s1 g i j)::[]) Z X (aD.cons c (aD.nil _));have ad:az (dh) (bU ro z (.cells #[.func (.func 70) #[.int .i64 a] #[],.func (.func 71) #[] #[]] 120)) (.slice (some ⟨z,0,none⟩) 2 2) [(gK a),kB]:=(az.two (r:=(dh)) (e:=120) (v:=.func (.func 70) #[.int .i64 a] #[]) (u:=.func (.func 71) #[] #[]) (x:=(gK a)) (y:=kB) (own:=[(z,.cells #[.func (.func 70) #[.int .i64 a] #[],.func (.func 71) #[] #[]] 120)]) X (by simp[lk]) rfl ⟨70,#[.int .i64 a],#[],rfl,⟨by simp only[go_sem],fun bj bl N _ _ _ _ _ O P Q R h=>by simp only[go_sem];exact xE a N ⟨O,P,Q,R⟩ h⟩⟩ ⟨71,#[],#[],rfl,⟨by simp only[go_sem],fun bj bl N _ _ _ _ _ O P Q R h=>by simp only[go_sem];exact IT N ⟨O,P,Q,R⟩ h⟩⟩)
 generalize bU ro z (.cells #[.func (.func 70) #[.int .i64 a] #[],.func (.func 71) #[] #[]] 120)=cb at ad M B ab;refine iu hJ ab ?_;replace D:=D.mono B;replace c:=M.hd;replace L:=L.mono B;simp only[bq] at M;have bm:=aR.tl Z;refine b6 hJ _ (ku L u0 D ([(gK a),kB]) ad bd) fun v ae al ao k=>?_;obtain ⟨E,F,G,H,I,rfl,d,q⟩:=k;have bo:=d.oc;simp only[bJ] at bo;have br:=q.oc;simp only[bJ] at br;replace c:=ao.hd;simp only[bq] at ao;apply aJ;simp only[*,go_sem];refine aA fun J f ar=>?_;have cd:=aR.cons ar bm;try simp only[av] at ar
 refine ag hJ (ah hJ ?_);simp only[*,go_sem];revert h;refine aY hJ (fun bs h=>?_) fun bs h=>?_
 .cases h;apply ah hJ;simp only[*,go_sem];apply aE;simp only[*,go_sem];exact ⟨_,(B).trans al,Le.sub (List.nil_sublist _),_,rfl,az.nil _ _⟩
 refine aI hJ (ag hJ ?_);refine ay hJ fun bz=>?_;refine de hJ mixed 4 2 (by simp only[*,go_sem]) (by kernel_rfl) ?_;revert h;refine bS fun b0 b1 h=>?_;simp only[*,go_sem];refine aA fun C a0 a2=>?_;have a3:=aR.cons a2 bz;try simp only[av] at a2
 simp only[*,go_sem];obtain ⟨m,K,a4⟩:=gj (b:=C) (o:=(.cells #[.slice none 0 0] 35)) [] ((J,kn n.1 E F G H I)::(w,bk u0 s1 g i j)::[]) a3 a0 (aD.cons f (aD.cons c (aD.nil _)));have a5:az (rL rI) (bU ae C (.cells #[.slice none 0 0] 35)) (.slice (some ⟨C,0,none⟩) 1 1) [([]:(List Int))]:=(az.one (r:=(rL rI)) (e:=35) (cs:=#[.slice none 0 0]) (x:=([]:(List Int))) (own:=[(C,.cells #[.slice none 0 0] 35)]) a0 (by simp[lk]) ⟨_,rfl,az.nil _ _⟩)
 generalize bU ae C (.cells #[.slice none 0 0] 35)=cf at a5 K m a4;refine iu hJ a4 ?_;replace d:=d.mono m;replace q:=q.mono m;replace f:=K.hd;replace c:=K.tl.hd;simp only[bq] at K;have cl:=aR.tl a3;refine b6 hJ _ (Cs n.1.book d ([([]:(List Int))]) a5 b1) fun v cy s S k=>?_;obtain ⟨cS,rfl,a6⟩:=k;replace d:=d.mono s;replace q:=q.mono s;replace f:=S.hd;replace c:=S.tl.hd;simp only[bq] at S;obtain ⟨d92,c0,rfl,da,db,-⟩:=id a6;have dd:=e9 (l:=[(J,kn n.1 E F G H I),(w,bk u0 s1 g i j)]) (m.trans s) (aD.cons f (aD.cons c (aD.nil _)));refine ⟨by simp only[*,go_sem],?_⟩;refine mW ?_;revert h;refine bS fun b2 b3 h=>?_;simp only[*,go_sem];refine oK _ (EZ n.1 d.e d.p d.y d.t q a b0 a6 b3) fun v df T U k=>?_;obtain ⟨dk,rfl,a7⟩:=k;replace f:=U.hd;replace c:=U.tl.hd;simp only[bq] at U;obtain ⟨d111,dp,rfl,dq,ds,-⟩:=id a7;have dt:=e9 (l:=[(J,kn n.1 E F G H I),(w,bk u0 s1 g i j)]) ((m.trans s).trans T) (aD.cons f (aD.cons c (aD.nil _)));refine ⟨by simp only[*,go_sem],?_⟩;refine mW ?_;revert h;refine bS fun du b4 h=>?_;cases h;simp only[*,go_sem];refine b6 hJ _ (IU b2 a7 b4) fun v dv a8 V k=>?_;obtain ⟨dC,rfl,a9⟩:=k;replace f:=V.hd;replace c:=V.tl.hd;simp only[bq] at V;obtain ⟨d124,dE,rfl,dT,ea,-⟩:=id a9;have eb:=e9 (l:=[(J,kn n.1 E F G H I),(w,bk u0 s1 g i j)]) (((m.trans s).trans T).trans a8) (aD.cons f (aD.cons c (aD.nil _)));refine ⟨by simp only[*,go_sem],?_⟩;refine mW ?_;simp only[*,go_sem];apply aE;simp only[*,go_sem];exact ⟨_,(((((B).trans al).trans m).trans s).trans T).trans a8,Le.sub (List.nil_sublist _),_,rfl,a9⟩
def z1 (u0:aj)(c:Int)(a:(cV×Int))(st:(Bool×Int×(List (List Int))×Int)):Option (Fl (Bool×Int×(List (List Int))×Int) ((List Int)×Bool×Int)):=
 cond (decide (st.2.2.2<(IntKind.i64.wrap ((IntKind.i64.wrap (3 - (u0.props.length:Int)))+1)))) (af (qd a.1 c st.2.2.1) fun b=>cond (decide (0<(b.length:Int))) (af (bh b 0) fun d=>some (.rt (d,true,0))) (af (o6 a.1.book st.2.2.1) fun e=>some (.nx (st.1,st.2.1,e,(IntKind.i64.wrap (st.2.2.2+1)))))) (some (.bk (st.1,st.2.1,st.2.2.1,st.2.2.2)))
def z2 (u0:aj)(b:Int):Option ((List Int)×Bool×Int):=
 af (gr u0 ([(gK b)])) fun a=>cond ((a.2 != 0)) (some (([]:(List Int)),false,a.2)) (af (aU (z1 u0 b a) fu (false,a.2,([([]:(List Int))]),0)) fun o=>aC o (fun c=>some (([]:(List Int)),false,0)) (fun _ _=>none) (fun r=>some r))
theorem MP {ro:Addr->Option Value}(K:di ro)(u0:aj){s1 S k l:Value}(n:bQ ro u0 s1 S k l)(a:Int){r:((List Int)×Bool×Int)}(h:z2 u0 a=some r):qK Tryz.prog 14 #[bv u0 s1 S k l,.int .i64 a] ro (fun v aN=>∃T,v= .tuple #[T,.bool r.2.1,.int .i64 r.2.2]/\az rI aN T r.1):=by
 obtain ⟨d10,L,rfl,ed,eh,-⟩:=id n.p;unfold z2 at h;have bm:=n.oc;simp only[bJ] at bm;refine fY.go Tryz.func14 rfl Tryz.ntmps14 Tryz.results14 (by simp) fun Φ hJ A bo hd hs=>?_;have br:=hs 0;have k1:=hs 1;clear hs;apply ah hJ;simp only[*,go_sem];refine aA fun M C bs=>?_;try simp only[av] at bs
 apply ag hJ;refine ay hJ fun bz=>?_;apply ak hJ;revert h;refine bS fun f b0 h=>?_;simp only[*,go_sem];refine aA fun q U V=>?_;have W:=aR.cons V bz;try simp only[av] at V
 obtain ⟨g,N,X⟩:=gj (b:=q) (o:=(.cells #[.func (.func 70) #[.int .i64 a] #[]] 120)) [] ((M,bk u0 s1 (sl d10 u0.props L) k l)::[]) W U (aD.cons C (aD.nil _));have Y:az (dh) (bU ro q (.cells #[.func (.func 70) #[.int .i64 a] #[]] 120)) (.slice (some ⟨q,0,none⟩) 1 1) [(gK a)]:=(az.one (r:=(dh)) (e:=120) (cs:=#[.func (.func 70) #[.int .i64 a] #[]]) (x:=(gK a)) (own:=[(q,.cells #[.func (.func 70) #[.int .i64 a] #[]] 120)]) U (by simp[lk]) ⟨70,#[.int .i64 a],#[],rfl,⟨by simp only[go_sem],fun et ev b1 _ _ _ _ _ b2 b3 b4 b5 h=>by simp only[go_sem];exact xE a b1 ⟨b2,b3,b4,b5⟩ h⟩⟩)
 generalize bU ro q (.cells #[.func (.func 70) #[.int .i64 a] #[]] 120)=eQ at Y N g X;refine iu hJ X ?_;replace n:=n.mono g;replace C:=N.hd;replace K:=K.mono g;simp only[bq] at N;have ca:=aR.tl W;refine b6 hJ _ (ku K u0 n ([(gK a)]) Y b0) fun v Z O ab s=>?_;obtain ⟨ad,ae,al,ao,ar,rfl,c,i⟩:=s;have cb:=c.oc;simp only[bJ] at cb;have cd:=i.oc;simp only[bJ] at cd;replace C:=ab.hd;simp only[bq] at ab;apply aJ;simp only[*,go_sem];refine aA fun a0 cf a2=>?_;have eS:=aR.cons a2 ca;try simp only[av] at a2
 refine ag hJ (ah hJ ?_);simp only[*,go_sem];revert h;refine aY hJ (fun cl h=>?_) fun cl h=>?_
 .cases h;apply ah hJ;simp only[*,go_sem];apply aE;simp only[*,go_sem];exact ⟨_,(g).trans O,Le.sub (List.nil_sublist _),_,rfl,az.nil _ _⟩
 refine aI hJ (ag hJ ?_);refine ay hJ fun cy=>?_;apply ak hJ;simp only[*,go_sem];refine aA fun j a3 a4=>?_;have e0:=aR.cons a4 cy;try simp only[av] at a4
 refine ag hJ (ah hJ ?_);simp only[*,go_sem];refine ay hJ fun a5=>?_;obtain ⟨u,a6,a7⟩:=gj (b:=j) (o:=(.cells #[.slice none 0 0] 35)) [] ((a0,kn f.1 ad ae al ao ar)::(M,bk u0 s1 (sl d10 u0.props L) k l)::[]) a5 a3 (aD.cons cf (aD.cons C (aD.nil _)));clear a5;have P:az (rL rI) (bU Z j (.cells #[.slice none 0 0] 35)) (.slice (some ⟨j,0,none⟩) 1 1) [([]:(List Int))]:=(az.one (r:=(rL rI)) (e:=35) (cs:=#[.slice none 0 0]) (x:=([]:(List Int))) (own:=[(j,.cells #[.slice none 0 0] 35)]) a3 (by simp[lk]) ⟨_,rfl,az.nil _ _⟩)
 generalize bU Z j (.cells #[.slice none 0 0] 35)=a8 at u a6 a7 P;refine cz hJ a7 ?_;obtain ⟨e1,e2,-⟩:=P.op;replace c:=c.mono u;replace i:=i.mono u;simp only[bq] at a6;apply aT hJ;revert h;refine bS fun cS D a9=>?_;refine bT hJ (rg 27 17 [4,5,6,8,9]) (fun m E F'=>∃(F:Addr->Option Value) (d98:Option Addr) (Q:Nat) (G:Bool) (H:Int) (d:(List (List Int))) (I:Int),aU (z1 u0 a f) m (G,H,d,I)=some cS/\F'=⟨F,(a0,kn f.1 ad ae al ao ar)::(M,bk u0 s1 (sl d10 u0.props L) k l)::[]⟩/\Ext a8 F/\az (rL rI) F (.slice d98 d.length Q) d/\slot E 5= .bool G/\slot E 6= .int .i64 H/\slot E 8= .slice d98 d.length Q/\slot E 27= .int .i64 I) fu ?_ ?_
 .refine ⟨a8,(some ⟨j,0,none⟩),1,false,f.2,([([]:(List Int))]),0,D,rfl,Ext.refl _,P,?_⟩;simp only[*,go_sem]
 rintro R e3 F' ba ⟨F,d98,Q,G,H,d,I,D,rfl,w,z,fa,fb,ff,fg⟩;refine fF hJ fun _ c0=>?_;replace c:=c.mono w;replace i:=i.mono w;simp only[bq] at c0;obtain ⟨fi,fl,-⟩:=z.op;obtain ⟨da,db,dd⟩:=ba.pick [1,7,26] (by decide);simp only[*,go_sem] at da db dd;clear ba bo hd br k1;obtain _|R:=R
 .exact absurd D (by simp only[aU,reduceCtorEq,not_false_eq_true])
 revert D;refine bS fun fp h B=>?_;unfold z1 at h;try dsimp only at h
 apply ah hJ;simp only[*,go_sem];apply ag hJ;revert h;refine aY hJ (fun df h=>?_) fun df h=>?_
 .refine aI hJ (ag hJ ?_);refine aT hJ (ag hJ ?_);apply ah hJ;revert h;refine bS fun fq dk h=>?_;simp only[*,go_sem];refine oK _ (EZ f.1 c.e c.p c.y c.t i a d z dk) fun v fr J dp s=>?_;obtain ⟨fs,rfl,bb⟩:=s;replace z:=z.mono J;replace c:=c.mono J;simp only[bq] at dp;obtain ⟨d121,ft,rfl,fv,fw,-⟩:=id bb;apply aJ;simp only[*,go_sem];apply ah hJ;simp only[*,go_sem];revert h;refine aY hJ (fun dq h=>?_) fun dq h=>?_
  .apply ah hJ;revert h;refine bS fun fx ds h=>?_;cases h;obtain ⟨fz,fP,bc⟩:=c5 ds;obtain ⟨fQ,fS,dt,du,bd⟩:=bb.el _ _ bc;obtain ⟨fU,rfl,bj⟩:=du;obtain ⟨d130,gg,rfl,gl,gn,gp⟩:=id bj;cases dt;have dv:=bd 0 _ rfl;simp only[go_sem] at dv;clear bd bc;simp only[*,go_sem];obtain rfl:=sI B;clear B;have h:=a9;dsimp only[aC] at h;cases h;apply aE;simp only[*,go_sem];exact ⟨_,((((g).trans O).trans u).trans w).trans J,Le.sub (List.nil_sublist _),_,rfl,bj⟩
  refine aI hJ (ak hJ ?_);revert h;refine bS fun dC dE h=>?_;cases h;simp only[*,go_sem];refine b6 hJ _ (Cs f.1.book c d z dE) fun v dT ea eb s=>?_;obtain ⟨gB,rfl,bl⟩:=s;simp only[bq] at eb;obtain ⟨d144,ec,rfl,gC,gM,-⟩:=id bl;apply aJ;simp only[*,go_sem];apply ak hJ;simp only[*,go_sem];refine ⟨R,Nat.lt_succ_self _,_,Le.sub (List.Sublist.refl _),dT,d144,ec,G,H,dC,(IntKind.i64.wrap (I+1)),B,rfl,(w.trans (J.trans ea)),bl,?_⟩;simp only[*,go_sem]
 cases h;apply bR;simp only[go_sem];obtain rfl:=sI B;clear B;have h:=a9;dsimp only[aC] at h;cases h;apply ah hJ;simp only[*,go_sem];apply aE;simp only[*,go_sem];exact ⟨_,(((g).trans O).trans u).trans w,Le.sub (List.nil_sublist _),_,rfl,az.nil _ _⟩
end Go.Proofs.YtnaejeiofbpbkaaGreatDoor
end

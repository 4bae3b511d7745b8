/- A part of the proof of a row and its tied card: QH9. -/
import Derived.Test.YtpgcmoanfifglaaGreatDoorQH8
import Derived.Conc.AtomicLaws2
import Derived.Conc.WgArith
set_option linter.all false
section
namespace Go.Sep
open Go Go.Conc
open Go.ConcN (sumTo upd upd_ne upd_same)
open Go.ConcM (MuAt muA msA muBlock OsLater)
open Go.ConcR (WgAt wgBlock stA smA)
section
variable {c : Cy} {i : Nat} {ph : Ph} {ops : Array Oper} {j n : Nat} {Q : Act → aa → Ph → Prop} {a : Act} {F : aa} {f fi : FuncId} {d : Option Tmp}
theorem dG {s:Sh}:s.ms<=s.ms/\s.ws<=s.ws:=⟨Int.le_refl _,Int.le_refl _⟩
theorem xY (g:Entry c.P f (fun _=>do mark .disable;pure Extern.Race.none_)){vals:List Value}(l:At ops j a f vals d)(m:ph.gp≠ .gone)(p:ph.gp≠ .new)
  (h:ai (WJ c i) fi ops (j+1) n Q (bf a d (.tuple #[])) F {ph with deaf:=ph.deaf+1}):ai (WJ c i) fi ops j (n+1) Q a F ph:=by
 obtain ⟨o,cv,dh,e,hg,q,_,rfl⟩:=l
 refine fe e m fun w s k φ p0 _ hs hi he r=>.inr ⟨.tuple #[],w,_,s,_,fun b t cs hb=>?_,hs,.refl _ _,r.CG hi he p _,Jb,.inr dG,h⟩
 obtain ⟨fn,f1,f2,f3,f4,f5⟩:=g.ex
 exact stepG_mark0 .disable (by simp) e (cc hg) hb.kind q f1 f2 f3 f4 f5
theorem s7 (l:Entry c.P f (fun _=>do mark .enable;pure Extern.Race.none_)){vals:List Value}(m:At ops j a f vals d)(p:ph.gp≠ .gone)(q:ph.gp≠ .new){e:Nat}(hd:ph.deaf=e+1)
  (h:ai (WJ c i) fi ops (j+1) n Q (bf a d (.tuple #[])) F {ph with deaf:=e}):ai (WJ c i) fi ops j (n+1) Q a F ph:=by
 obtain ⟨o,cv,dh,g,hg,r,_,rfl⟩:=m
 refine fe g p fun w s k φ p0 _ hs hi he t=>.inr ⟨.tuple #[],w,_,s,_,fun b u cs hb=>?_,hs,.refl _ _,t.CG hi he q _,Jc hd,.inr dG,h⟩
 obtain ⟨fn,f1,f2,f3,f4,f5⟩:=l.ex
 exact stepG_mark0 .enable (by simp) g (cc hg) hb.kind r f1 f2 f3 f4 f5
theorem oq {k:Nat}{φ:Nat->Ph}{p0:P0}{s:Sh}(he:φ i=ph)(a:Inv c.n c.bs k φ p0 s):Inv c.n c.bs k (upd φ i ph) p0 s:=by rw[<-he,xT];exact a
theorem CH (l:Entry c.P f (Extern.Race.marked .acquire))(m:At ops j a f [.pointer (some (muA c.Mu))] d)(e:ph.gp= .cnt)
  (h:ai (WJ c i) fi ops (j+1) n Q (bf a d (.tuple #[])) F ph):ai (WJ c i) fi ops j (n+1) Q a F ph:=by
 obtain ⟨o,cv,dh,g,hg,p,q,rfl⟩:=m
 obtain ⟨x,rfl,r⟩:=jD q
 refine fe g (by rw[e];simp) fun w s k φ p0 _ hs hi he t=>.inr ⟨.tuple #[],w,_,s,ph,fun b u cs hb=>?_,hs,.refl _ _,oq he t,.word (.acquire (muA c.Mu)) rfl (.inl rfl) rfl ⟨e,e⟩,.inr dG,h⟩
 obtain ⟨fn,f1,f2,f3,f4,f5⟩:=l.ex
 exact stepG_markAt .acquire (by simp) g (cc hg) hb.kind p f1 f2 f3 f4 f5 (by simp[er,r])
theorem Jd (l:Entry c.P f (Extern.Race.marked .releaseMerge))(m:At ops j a f [.pointer (some (muA c.Mu))] d)(e:ph.gp= .cnt)
  (h:ai (WJ c i) fi ops (j+1) n Q (bf a d (.tuple #[])) F ph):ai (WJ c i) fi ops j (n+1) Q a F ph:=by
 obtain ⟨o,cv,dh,g,hg,p,q,rfl⟩:=m
 obtain ⟨x,rfl,r⟩:=jD q
 refine fe g (by rw[e];simp) fun w s k φ p0 _ hs hi he t=>.inr ⟨.tuple #[],w,_,s,ph,fun b u cs hb=>?_,hs,.refl _ _,oq he t,.word (.releaseMerge (muA c.Mu)) rfl (.inr rfl) rfl ⟨e,e⟩,.inr dG,h⟩
 obtain ⟨fn,f1,f2,f3,f4,f5⟩:=l.ex
 exact stepG_markAt .releaseMerge (by simp) g (cc hg) hb.kind p f1 f2 f3 f4 f5 (by simp[er,r])
theorem Je (q:Entry c.P f (Extern.Race.marked .releaseMerge))(r:At ops j a f [.pointer (some (stA c.Wg))] d)(g:ph.gp= .cnt)
  (hd:ph.deaf=0) (t:ph.mp= .idle\/ph.mp= .fin) (u:ph.stored=c.bs i)
  (h:ai (WJ c i) fi ops (j+1) n Q (bf a d (.tuple #[])) F {mp:=.fin,gp:=.rel,stored:=ph.stored,deaf:=0}):ai (WJ c i) fi ops j (n+1) Q a F ph:=by
 obtain ⟨o,cv,dh,p,hg,v,y,rfl⟩:=r
 obtain ⟨x,rfl,z⟩:=jD y
 refine fe p (by rw[g];simp) fun w s k φ p0 _ hs hi he l=>.inr ⟨.tuple #[],w,_,s,{mp:=.fin,gp:=.rel,stored:=ph.stored,deaf:=0},fun b A cs hb=>?_,hs,.refl _ _,?_,.rel rfl ⟨hd,rfl⟩ g,.inr dG,h⟩
 ·obtain ⟨fn,f1,f2,f3,f4,f5⟩:=q.ex
  exact stepG_markAt .releaseMerge (by simp) p (cc hg) hb.kind v f1 f2 f3 f4 f5 (by simp[er,z])
 ·obtain ⟨C,S,W,L,m,hm⟩:=l.m
  refine l.jz hi he (by rw[g];simp) (by simp) ⟨C,S,W,L,m,mM hm hi _ ?_⟩ (sV l.w hi _ (.inr ⟨by rw[he];exact g,rfl⟩)) ?_ (fun _=>⟨u,rfl⟩)
  ·rw[he];rcases t with e|e
   ·exact .inr ⟨e,rfl⟩
   ·exact .inl e.symm
  ·have:=l.i.all i hi
   rw[he] at this
   exact (xX this).symm
theorem s8 (old nw:Int)(I:Entry c.P f (Extern.Atomic.casT (.int .i32)))(aE:c.Mu≠c.Wg/\c.Mu≠c.Is/\c.Wg≠c.Is)(J:At ops j a f [.pointer (some (muA c.Mu)),.int .i32 old,.int .i32 nw] d)
  (e:ph.gp= .cnt) (B:0<ph.deaf)
  (K:∀φ ms C S W L m,φ i=ph->i<c.n->cn c.n φ old ms C S W L m->∃mp,(∃g h l p q,cn c.n (upd φ i {ph with mp:=mp}) nw ms g h l p q)/\ai (WJ c i) fi ops (j+1) n Q (bf a d (.bool true)) F {ph with mp:=mp})
  (M:∀φ mu ms C S W L m,φ i=ph->i<c.n->cn c.n φ mu ms C S W L m->mu≠old->∃mp,(∃g h l p q,cn c.n (upd φ i {ph with mp:=mp}) mu ms g h l p q)/\ai (WJ c i) fi ops (j+1) n Q (bf a d (.bool false)) F {ph with mp:=mp}):ai (WJ c i) fi ops j (n+1) Q a F ph:=by
 obtain ⟨o,cv,dh,r,hg,D,N,rfl⟩:=J
 obtain ⟨x,y,z,rfl,E,G,H⟩:=qs N
 obtain ⟨fn,f1,f2,f3,f4,f5⟩:=I.ex
 refine fe r (by rw[e];simp) fun w s k φ p0 _ hs hi he t=>.inr ?_
 obtain ⟨C,S,W,L,m,hm⟩:=t.m
 by_cases u:s.mu=old
 ·subst u
  obtain ⟨mp,v,A⟩:=K φ s.ms C S W L m he hi hm
  exact ⟨.bool true,_,_,{s with mu:=nw},{ph with mp:=mp},fun b O cs hb=>stepG_cas_hit r (cc hg) hb.kind D f1 f2 f3 f4 .i32 f5 E G H hs.mu.1 hs.mu.2,hs.CD aE nw,.set _ (.inl rfl),t.mutex hi he e v,xV rfl Iff.rfl B (.inr ⟨rfl,e⟩),.inr dG,A⟩
 ·obtain ⟨mp,v,A⟩:=M φ s.mu s.ms C S W L m he hi hm u
  exact ⟨.bool false,_,_,{s with mu:=s.mu},{ph with mp:=mp},fun b O cs hb=>stepG_cas_miss r (cc hg) hb.kind D f1 f2 f3 f4 .i32 f5 E G H hs.mu.1 hs.mu.2 u,hs,.refl _ _,t.mutex hi he e v,xU false rfl Iff.rfl B (.inr ⟨rfl,e⟩),.inr dG,A⟩
theorem xZ (dl:Int)(q:Entry c.P f (Extern.Atomic.update (Op.intArith .add) .i32 true))(aE:c.Mu≠c.Wg/\c.Mu≠c.Is/\c.Wg≠c.Is)(r:At ops j a f [.pointer (some (muA c.Mu)),.int .i32 dl] d)
  (g:ph.gp= .cnt) (t:0<ph.deaf)
  (h:∀φ mu ms C S W L m,φ i=ph->i<c.n->cn c.n φ mu ms C S W L m->∃mp nw,IntKind.i32.wrap (mu+dl)=nw/\(∃u v z A B,cn c.n (upd φ i {ph with mp:=mp}) nw ms u v z A B)/\ai (WJ c i) fi ops (j+1) n Q (bf a d (.int .i32 nw)) F {ph with mp:=mp}):
  ai (WJ c i) fi ops j (n+1) Q a F ph:=by
 obtain ⟨o,cv,dh,l,hg,D,E,rfl⟩:=r
 obtain ⟨x,y,rfl,G,H⟩:=qq E
 obtain ⟨fn,f1,f2,f3,f4,f5⟩:=q.ex
 refine fe l (by rw[g];simp) fun w s k φ p0 _ hs hi he p=>.inr ?_
 obtain ⟨C,S,W,L,m,hm⟩:=p.m
 obtain ⟨mp,nw,e,I,J⟩:=h φ s.mu s.ms C S W L m he hi hm
 exact ⟨.int .i32 nw,_,_,{s with mu:=nw},{ph with mp:=mp},fun b K cs hb=>by rw[<-e];exact stepG_add_atomic l (cc hg) hb.kind D f1 f2 f3 f4 .i32 f5 G H hs.mu.1 hs.mu.2,by rw[<-e];exact hs.CD aE _,.set _ (.inl rfl),p.mutex hi he g I,xV rfl Iff.rfl t (.inr ⟨rfl,g⟩),.inr dG,J⟩
theorem ot {ty:TypeId}(p:(c.P.funcs[fi]?).any (·.norace)=true)(e:c.P.underlying ty=some (.int .i32)){x:Operand}(q:mO ops j a (.load ty x) d)(f:ph.gp= .cnt)(r:ev a x= .pointer (some (muA c.Mu)))
  (h:∀φ mu ms C S W L m,φ i=ph->i<c.n->cn c.n φ mu ms C S W L m->∃mp,(∃t u v y z,cn c.n (upd φ i {ph with mp:=mp}) mu ms t u v y z)/\ai (WJ c i) fi ops (j+1) n Q (bf a d (.int .i32 mu)) F {ph with mp:=mp}):
  ai (WJ c i) fi ops j (n+1) Q a F ph:=by
 obtain ⟨o,g,hg,A,rfl⟩:=q
 refine fe g (by rw[f];simp) fun w s k φ p0 _ hs hi he l=>.inr ?_
 obtain ⟨C,S,W,L,m,hm⟩:=l.m
 obtain ⟨mp,B,D⟩:=h φ s.mu s.ms C S W L m he hi hm
 have e1:execOp a.eval o=(do pure (.value (<-loadVar ty (muA c.Mu))):Sem Next):=by
  unfold execOp
  simp only[A,er,r]
  rfl
 have E:(execOp a.eval o).run c.P w= .ok (.value (.int .i32 s.mu)) w:=by
  rw[e1]
  have:=hs.mu.1
  simp[loadVar,isAgg,run_underlying e,this]
 have G:(execOp a.eval o).events c.P w #[]=#[⟨.cell (muA c.Mu),false,false⟩]:=by
  rw[e1]
  have:=hs.mu.1
  simp[loadVar,isAgg,run_underlying e,events_load,this]
 have H:seen c.P fi #[⟨.cell (muA c.Mu),false,false⟩]=#[]:=by rw[seen_def];simp[seenStep,p]
 refine ⟨.int .i32 s.mu,w,#[],{s with mu:=s.mu},{ph with mp:=mp},fun b I cs hb=>?_,hs,.refl _ _,l.mutex hi he f B,mP rfl Iff.rfl,.inr dG,D⟩
 rw[stepG_value g (cc hg) hb.kind E]
 unfold listed
 rw[G,hb.fn,H]
end
section
variable {c : Cy} {i : Nat} {ph : Ph} {ops : Array Oper} {j n : Nat} {Q : Act → aa → Ph → Prop} {a : Act} {F : aa} {f fi : FuncId} {d : Option Tmp}
theorem Jf (u v:Value)(A:Entry c.P f Extern.Sync.semacquire)(aE:c.Mu≠c.Wg/\c.Mu≠c.Is/\c.Wg≠c.Is)(B:At ops j a f [.pointer (some (msA c.Mu)),u,v] d)
  (e:ph.gp= .cnt) {G:Nat} (hm:ph.mp= .ir G) (h:ai (WJ c i) fi ops (j+1) n Q (bf a d (.tuple #[])) F {ph with mp:=.jx G}):ai (WJ c i) fi ops j (n+1) Q a F ph:=by
 obtain ⟨o,cv,dh,g,hg,p,D,rfl⟩:=B
 obtain ⟨x,y,z,rfl,q,_,_⟩:=qs D
 obtain ⟨fn,f1,f2,f3,f4,f5⟩:=A.ex
 refine fe g (by rw[e];simp) fun w s k φ p0 _ hs hi he r=>?_
 by_cases l:s.ms=0
 ·refine .inl ⟨by rw[hm];rfl,l,fun b E cs=>stepG_semacquire_wait g (cc hg) p f1 f2 f3 f4 f5 (ad:=msA c.Mu) (by simp[er,q]) (by rw[hs.ms.1,l])⟩
 ·obtain ⟨C,S,W,L,m,t⟩:=r.m
  have H:=t.cnt
  refine .inr ⟨.tuple #[],_,_,{s with ms:=s.ms - 1},{ph with mp:=.jx G},fun b E cs hb=>stepG_semacquire g (cc hg) hb.kind p f1 f2 f3 f4 f5 (by simp[er,q]) hs.ms.1 l hs.ms.2,hs.CE aE _,.set _ (.inl rfl),
   r.mutex hi he e ⟨C,S,W,L,m - 1,Ii t hi _ (by rw[he];exact hm) rfl (by omega)⟩,xW rfl Iff.rfl (.inr ⟨rfl,e⟩),.inr ⟨by simp only;omega,Int.le_refl _⟩,h⟩
theorem CI (u v:Value)(p:Entry c.P f Extern.Sync.semrelease)(aE:c.Mu≠c.Wg/\c.Mu≠c.Is/\c.Wg≠c.Is)(A:At ops j a f [.pointer (some (msA c.Mu)),u,v] d)
  (g:ph.gp= .cnt) (hm:ph.mp= .n8\/ph.mp= .n9) (h:ai (WJ c i) fi ops (j+1) n Q (bf a d (.tuple #[])) F {ph with mp:=.fin}):ai (WJ c i) fi ops j (n+1) Q a F ph:=by
 obtain ⟨o,cv,dh,q,hg,r,B,rfl⟩:=A
 obtain ⟨x,y,z,rfl,l,_,_⟩:=qs B
 obtain ⟨fn,f1,f2,f3,f4,f5⟩:=p.ex
 refine fe q (by rw[g];simp) fun w s k φ p0 _ hs hi he t=>.inr ?_
 obtain ⟨C,S,W,L,m,e⟩:=t.m
 have E:=e.cnt
 have hb:=e.st.w
 have G:=e.st.s
 have H:m<=1:=by
  rcases Nat.lt_or_ge S 1 with y|y
  ·have:=e.norm (by omega);omega
  ·have:=e.fR (by omega);omega
 have D:IntKind.u32.wrap (s.ms+1)=s.ms+1:=by
  unfold IntKind.wrap
  simp[IntKind.bits,IntKind.signed]
  omega
 refine ⟨.tuple #[],_,_,{s with ms:=s.ms+1},{ph with mp:=.fin},fun b I cs hb=>stepG_semrelease q (cc hg) hb.kind r f1 f2 f3 f4 f5 (by simp[er,l]) hs.ms.1 hs.ms.2,by rw[D];exact hs.CE aE _,.set _ (.inl rfl),
  t.mutex hi he g ⟨C,S,W,L,m+1,Ip e hi _ (by rw[he];exact hm) rfl⟩,xW rfl Iff.rfl (.inr ⟨rfl,g⟩),.inl ⟨_,r,fun x l=>?_⟩,h⟩
 cases l
 exact ⟨f,rfl,p.Ct⟩
theorem CJ (l:Entry c.P f Extern.OsHooks.nano)(e:(c.P.funcs[f]?).any (·.norace)=true){vals:List Value}(m:At ops j a f vals d)
  (p:ph.gp≠ .gone) (h:∀x:Int,ai (WJ c i) fi ops (j+1) n Q (bf a d (.int .i64 x)) F ph):ai (WJ c i) fi ops j (n+1) Q a F ph:=by
 obtain ⟨o,cv,dh,g,hg,q,_,rfl⟩:=m
 obtain ⟨fn,f1,f2,f3,f4,f5⟩:=l.ex
 refine fe g p fun w s k φ p0 _ hs hi he r=>.inr ⟨_,w.later,#[],s,ph,fun b t cs hb=>stepG_nanotime g (cc hg) hb.kind q f1 f2 f3 f4 f5 (by rw[f1] at e;simpa using e),hs,⟨rfl,rfl,rfl,⟨w.tick,rfl⟩,fun _ _=>rfl⟩,oq he r,mP rfl Iff.rfl,.inr dG,h _⟩
theorem Jg (it:Int)(m:Entry c.P f Extern.Sync.canSpin)(p:At ops j a f [.int .i64 it] d)
  (q:ph.gp≠ .gone) (h:∀t:Bool,(t=true->it<4)->ai (WJ c i) fi ops (j+1) n Q (bf a d (.bool t)) F ph):ai (WJ c i) fi ops j (n+1) Q a F ph:=by
 obtain ⟨o,cv,dh,e,hg,g,r,rfl⟩:=p
 obtain ⟨x,rfl,u⟩:=jD r
 obtain ⟨fn,f1,f2,f3,f4,f5⟩:=m.ex
 have hm:(#[x]:Array Operand).map a.eval=#[.int .i64 it]:=by simp[er,u]
 refine fe e q fun w s k φ p0 _ hs hi he l=>.inr ?_
 by_cases v:4<=it
 ·exact ⟨_,w,#[],s,ph,fun b y cs hb=>stepG_canSpin_no e (cc hg) hb.kind g f1 f2 f3 f4 f5 hm v,hs,.refl _ _,oq he l,mP rfl Iff.rfl,.inr dG,h false (by simp)⟩
 ·exact ⟨_,w.asked,#[],s,ph,fun b y cs hb=>stepG_canSpin_ask e (cc hg) hb.kind g f1 f2 f3 f4 f5 hm (by omega),hs,⟨rfl,rfl,rfl,.refl _,fun _ _=>rfl⟩,oq he l,mP rfl Iff.rfl,.inr dG,h _ (fun _=>by omega)⟩
end
theorem ai.entry {P:Program}{main:Bool}{S:Type}{JF:S->Goroutine->aa->Prop}{fi f:FuncId}{ops:Array Oper}{j n:Nat}{Q:Act->aa->S->Prop}{a:Act}{F:aa}{ph:S}{d:Option Tmp}(v:Value)(e:dS P main (JF ph))(g:Entry P f (fun _=>pure v))
  {vals:List Value} (i:At ops j a f vals d) (h:ai JF fi ops (j+1) n Q (bf a d v) F ph):ai JF fi ops j (n+1) Q a F ph:=fun b c cs hb k=>by
 obtain ⟨fn,f1,f2,f3,f4,f5⟩:=g.ex
 obtain ⟨o,cv,dh,l,hg,m,_,rfl⟩:=i
 rw[List.range'_succ,ez hb.round]
 refine e.move (fr':=b.at (a.put o.dst v) (.inRegion ops (List.range' (j+1) n)::c)) (fun w=>stepG_entry_pure v l (cc hg) hb.kind m f1 f2 f3 f4 f5) (by rw[<-ez hb.round];exact h b c cs hb k)
section
variable {c : Cy} {i : Nat} {ph : Ph} {ops : Array Oper} {j n : Nat} {Q : Act → aa → Ph → Prop} {a : Act} {F : aa} {f fi : FuncId} {d : Option Tmp}
theorem s9 (ad:Addr){src dst t:TypeId}(hs:c.P.underlying src=some (.pointer t))(hd:c.P.underlying dst=some .unsafePointer)(e:(c.P.info? t).map (fun i=>decide (i.size=0))=some false){x:Operand}
  (m:mO ops j a (.convert src dst x) d) (p:ph.gp≠ .gone) (q:ev a x= .pointer (some ad)) (r:∀w s,cu c w s->∃v,w.cell? ad=some v) (h:ai (WJ c i) fi ops (j+1) n Q (bf a d (.pointer (some ad))) F ph):ai (WJ c i) fi ops j (n+1) Q a F ph:=by
 obtain ⟨o,f,hg,u,rfl⟩:=m
 refine fe f p fun w s k φ p0 _ g hi he y=>.inr ⟨_,w,#[],s,ph,fun b B cs hb=>?_,g,.refl _ _,oq he y,mP rfl Iff.rfl,.inr dG,h⟩
 obtain ⟨v,l⟩:=r w s g
 have e1:execOp a.eval o=(do pure (.value (<-convert src dst (.pointer (some ad)))):Sem Next):=by
  unfold execOp
  simp only[u,er,q]
 have z:(execOp a.eval o).run c.P w= .ok (.value (.pointer (some ad))) w:=by
  rw[e1];simp[run_convert_to_unsafe hs hd e l]
 have A:(execOp a.eval o).events c.P w #[]=#[]:=by
  rw[e1];simp[events_convert_to_unsafe hs hd e l]
 rw[stepG_value f (cc hg) hb.kind z]
 unfold listed
 rw[A,seen_none]
theorem Jh {ty:TypeId}(J:c.P.underlying ty=some .bool)(z:bW c.P ty=some 1)(A:(c.P.funcs[fi]?).any (·.norace)=false)(aE:c.Mu≠c.Wg/\c.Mu≠c.Is/\c.Wg≠c.Is){x y:Operand}
  (B:mO ops j a (.store ty x y) d) (e:ph.gp= .cnt) (g:ev a x= .pointer (some ⟨c.Is,i,none⟩)) (l:ev a y= .bool true) (h:ai (WJ c i) fi ops (j+1) n Q (bf a d undef) F {ph with stored:=true}):ai (WJ c i) fi ops j (n+1) Q a F ph:=by
 obtain ⟨o,p,hg,q,rfl⟩:=B
 refine fe p (by rw[e];simp) fun w s k φ p0 _ hs hi he f=>.inr ?_
 have hlen:=f.i.len
 have r:w.cell? ⟨c.Is,i,none⟩=some (.bool (s.is[i]'(by omega))):=by
  have:=hs.2.2
  simp[World.cell?,this,hlen,hi]
 have t:w.frozen? ⟨c.Is,i,none⟩=false:=by
  have:=hs.2.2
  simp[World.frozen?,this]
 have u:(sizeOf ty).run c.P w= .ok 1 w:=by
  obtain ⟨inf,e,D⟩:=Option.map_eq_some_iff.1 z
  simp[Go.sizeOf,typeInfo,e,D]
 have v:Instr.sureAddr (.pointer (some ⟨c.Is,i,none⟩))=(Pure.pure ⟨c.Is,i,none⟩:Sem Addr):=rfl
 have E:(execOp a.eval o).run c.P w= .ok .skip (w.setCell ⟨c.Is,i,none⟩ (.bool true)):=by
  unfold execOp
  simp only[q,er,g,l]
  simp[Instr.storeAt,v,storeVar,u,Value.cells,storeCells,Addr.add,r,t,run_store c.P w ⟨c.Is,i,none⟩ (.bool true) .plain rfl,Result.andThen]
 have G:(execOp a.eval o).events c.P w #[]=#[⟨.cell ⟨c.Is,i,none⟩,true,false⟩]:=by
  unfold execOp
  simp only[q,er,g,l]
  simp[Instr.storeAt,v,storeVar,u,Value.cells,storeCells,Addr.add,r,t,events_store c.P w _ ⟨c.Is,i,none⟩ (.bool true) .plain rfl,run_store c.P w ⟨c.Is,i,none⟩ (.bool true) .plain rfl,Result.evThen]
 have H:seen c.P fi #[⟨.cell ⟨c.Is,i,none⟩,true,false⟩]=#[⟨.cell ⟨c.Is,i,none⟩,true,false⟩]:=by rw[seen_def];simp[seenStep,A]
 obtain ⟨C,S,W,L,m,hm⟩:=f.m
 refine ⟨undef,_,_,{s with is:=s.is.set i true},{ph with stored:=true},fun b K cs hb=>?_,hs.Ja aE i true,.set _ (.inr (.inr rfl)),?_,.store rfl rfl ⟨e,e⟩,.inr dG,h⟩
 ·rw[stepG_none p (cc hg) hb.kind E]
  unfold listed
  rw[G,hb.fn,H]
 ·exact f.jz hi he (by rw[e];simp) (by simp[e]) ⟨C,S,W,L,m,mM hm hi _ (.inl (by rw[he]))⟩ (sV f.w hi _ (.inl (by rw[he]))) rfl (fun I=>absurd e I)
end
theorem ai.shr {P:Program}{main:Bool}{S:Type}{JF:S->Goroutine->aa->Prop}{fi:FuncId}{ops:Array Oper}{j n:Nat}{Q:Act->aa->S->Prop}{a:Act}{F:aa}{ph:S}{d:Option Tmp}{t f:TypeId}{k b:IntKind}{u m:Int}(v:Int)(g:dS P main (JF ph)){x y:Operand}
  (i:mO ops j a (.binOp .shr t x y f) d) (l:ev a x= .int k u) (p:ev a y= .int b m) (hm:0<=m) (c:u.fdiv (2 ^ min m.toNat k.bits)=v) (h:ai JF fi ops (j+1) n Q (bf a d (.int k v)) F ph):ai JF fi ops j (n+1) Q a F ph:=by
 obtain ⟨o,q,hg,r,rfl⟩:=i
 have e:¬m<0:=by omega
 have e1:execOp a.eval o=(do eqGuard .shr t x y (.int k u) (.int b m);pure (.value (<-binOp .shr t (.int k u) (.int b m))):Sem Next):=by
  unfold execOp
  simp only[r,er,l,p]
  simp
 refine ai.plain g (.int k v) q hg (fun w=>?_) (fun w=>?_) h
 ·rw[e1];subst c;simp[eqGuard,binOp,Op.shift,e]
 ·rw[e1];subst c;simp[eqGuard,binOp,Op.shift,e]
theorem ai.mQ {P:Program}{main:Bool}{S:Type}{JF:S->Goroutine->aa->Prop}{fi:FuncId}{ops:Array Oper}{j n:Nat}{Q:Act->aa->S->Prop}{a:Act}{F:aa}{ph:S}{d:Option Tmp}{t b:TypeId}(u v:Int)(c:dS P main (JF ph)){x y:Operand}
  (e:mO ops j a (.binOp .shr t x y b) d) (f:ev a x= .int .i32 u) (g:ev a y= .int .u64 3) (i:u.fdiv 8=v) (h:ai JF fi ops (j+1) n Q (bf a d (.int .i32 v)) F ph):ai JF fi ops j (n+1) Q a F ph:=
 ai.shr v c e f g (by decide) i h
end Go.Sep
end
section
namespace Go.Proofs.YtpgcmoanfifglaaGreatDoor
open Go Go.Sep Go.Proofs Go.Conc
open Go.ConcN (upd upd_same)
open Go.ConcM (muA msA)
open Go.ConcR (stA smA)
set_option maxRecDepth 100000
set_option maxHeartbeats 4000000
attribute [local go_sem] Int.reduceBEq Int.reduceBNe muA msA stA smA
section
variable {Mu Wg Is n base T0 i : Nat} {bs : Nat → Bool} {st : Bool} {F : aa}
theorem x2 (w:World)(s:Sh)(h:cu (CY Mu Wg Is n bs base T0) w s):∃v,w.cell? ⟨Mu,0,none⟩=some v:=⟨_,h.mu.1⟩
theorem Ji (aE:Mu≠Wg/\Mu≠Is/\Wg≠Is)
  (b:cC Tryz.prog (WJ (CY Mu Wg Is n bs base T0) i) 194 #[.pointer (some (muA Mu))] F ⟨.idle,.cnt,st,1⟩ (fun v F' aK=>v= .tuple #[]/\F'=F/\aK=⟨.held,.cnt,st,0⟩)):
  cC Tryz.prog (WJ (CY Mu Wg Is n bs base T0) i) 165 #[.pointer (some (muA Mu))] F ⟨.idle,.cnt,st,0⟩ (fun v F' aK=>v= .tuple #[]/\F'=F/\aK=⟨.held,.cnt,st,0⟩):=by
 have a:=WJ.ej (CY Mu Wg Is n bs base T0) i
 have hJ:∀ph:Ph,ph.gp= .cnt->Go.Sep.Closed Tryz.prog false (WJ (CY Mu Wg Is n bs base T0) i ph):=fun ph h=>Wk.closed (CY Mu Wg Is n bs base T0) i ph h
 refine cC.go (main:=false) a Tryz.func165 rfl Tryz.ntmps165 (by simp) fun A d hd hs=>?_
 have e:=hs 0
 clear hs
 repeat refine ax (a _) ?_
 refine cV a ?_
 refine xY qp ⟨_,_,_,rfl,(by first|rfl|simp only[*,go_sem]),rfl,by first|(simp only[*,go_sem];done)|(simp only[*,go_sem];rfl),rfl⟩ (by simp) (by simp) ?_
 refine ai.nil a ?_;try simp only[go_sem]
 repeat refine ax (a _) ?_
 refine cV a ?_
 refine ai.bx (hJ _ rfl) 3 (n:=1) _ rfl rfl ?_;simp only[*,go_sem]
 refine s8 0 1 s4 aE ⟨_,_,_,rfl,(by first|rfl|simp only[*,go_sem]),rfl,by first|(simp only[*,go_sem];done)|(simp only[*,go_sem];rfl),rfl⟩ (by rfl) (by simp) (fun φ ms C S W L m he hi hm=>⟨.held,⟨0,0,0,1,m,Ib hm hi _ (by rw[he]) rfl rfl⟩,?_⟩) (fun φ mu ms C S W L m he hi hm f=>⟨.idle,⟨C,S,W,L,m,mM hm hi _ (.inl (by rw[he]))⟩,?_⟩)
 ·refine ai.nil a ?_;try simp only[go_sem]
  repeat refine ax (a _) ?_
  refine cU (a _) (by simp only[*,go_sem]) ?_
  repeat refine ax (a _) ?_
  refine cU (a _) (by simp only[*,go_sem]) ?_
  repeat refine ax (a _) ?_
  refine cV a ?_
  refine s7 lf ⟨_,_,_,rfl,(by first|rfl|simp only[*,go_sem]),rfl,by first|(simp only[*,go_sem];done)|(simp only[*,go_sem];rfl),rfl⟩ (by simp) (by simp) rfl ?_
  refine ai.nil a ?_;try simp only[go_sem]
  repeat refine ax (a _) ?_
  refine cV a ?_
  refine ai.bx (hJ _ rfl) 1 (n:=2) _ rfl rfl ?_;simp only[*,go_sem]
  refine s9 ⟨Mu,0,none⟩ xP lg xR ⟨_,rfl,(by first|rfl|simp only[*,go_sem]),rfl,rfl⟩ (by simp) (by simp only[*,go_sem]) x2 ?_
  refine CH s3 ⟨_,_,_,rfl,(by first|rfl|simp only[*,go_sem]),rfl,by first|(simp only[*,go_sem];done)|(simp only[*,go_sem];rfl),rfl⟩ (by rfl) ?_
  refine ai.nil a ?_;try simp only[go_sem]
  refine fc ?_;try simp only[go_sem]
  exact om rfl (by simp only[*,go_sem]) ⟨rfl,rfl,rfl⟩
 ·refine ai.nil a ?_;try simp only[go_sem]
  repeat refine ax (a _) ?_
  refine cA (a _) (by simp only[*,go_sem]) ?_
  refine cD (a _) ?_;try simp only[go_sem]
  repeat refine ax (a _) ?_
  refine cV a ?_
  refine ai.bx (hJ _ rfl) 1 (n:=1) _ rfl rfl ?_;simp only[*,go_sem]
  refine ai.fU (a _) rfl rfl rfl EA (by simp only[*,go_sem,muA]) b fun v F' aK c=>?_
  obtain ⟨rfl,rfl,rfl⟩:=c
  refine ai.nil a ?_
  exact k8 rfl (by simp only[*,go_sem]) ⟨rfl,rfl,rfl⟩
def ja (C S W:Nat)(nw:Int)(G:Nat):Mp:=if S=1 then .n9 else if 0<C/\W=0 then .gb nw G else .fin
def Jj (Mu n:Nat)(st:Bool)(F:aa)(m:Nat)(a:Act)(F':aa)(aK:Ph):Prop:=
 ∃(old:Int) (C S W L G:Nat),F'=F/\slot a 0= .pointer (some ⟨Mu,0,none⟩)/\slot a 4= .int .i32 old/\sz a=43/\a.defers=[]/\Wd old C S W L/\C<=3*n/\G<=m/\
   ((S=0/\L=0/\W=0/\0<C/\aK=⟨.gb old G,.cnt,st,1⟩)\/(¬(S=0/\L=0/\W=0/\0<C)/\aK=⟨.fin,.cnt,st,1⟩))
theorem Jk (aE:Mu≠Wg/\Mu≠Is/\Wg≠Is)(ab:n<67108864){nw:Int}{C S W G:Nat}(hw:Wd nw C S W 0)(hC:C<=3*n):
  cC Tryz.prog (WJ (CY Mu Wg Is n bs base T0) i) 196 #[.pointer (some (muA Mu)),.int .i32 nw] F ⟨ja C S W nw G,.cnt,st,1⟩ (fun v F' aK=>v= .tuple #[]/\F'=F/\aK=⟨.fin,.cnt,st,1⟩):=by
 have a:=WJ.ej (CY Mu Wg Is n bs base T0) i
 have hJ:∀ph:Ph,ph.gp= .cnt->Go.Sep.Closed Tryz.prog false (WJ (CY Mu Wg Is n bs base T0) i ph):=fun ph h=>Wk.closed (CY Mu Wg Is n bs base T0) i ph h
 refine cC.go (main:=false) a Tryz.func196 rfl Tryz.ntmps196 (by simp) fun A u hd hs=>?_
 have y:=hs 0
 have k1:=hs 1
 clear hs
 have z:=hw.st.s
 have hW:=hw.st.w
 have w1:IntKind.i32.wrap (nw+1)=nw+1:=by have e0:=hw.st.eq;exact iw (by omega) (by omega)
 have B:Wd (nw+1) C S W 1:=by have e0:=hw.st.eq;exact wd ⟨by omega,by omega,hW,z⟩ (by omega)
 have K:dR (nw+1) 1=1:=B.a1
 repeat refine ax (a _) ?_
 refine cV a ?_
 refine ai.bx (hJ _ rfl) 4 (n:=0) _ rfl rfl ?_;simp only[*,go_sem]
 refine ai.nil a ?_;try simp only[go_sem]
 repeat refine ax (a _) ?_
 refine cA (a _) (by simp only[*,go_sem]) ?_
 refine cD (a _) ?_;try simp only[go_sem]
 rcases (by omega:S=1\/S=0) with rfl|rfl
 ·
  have b4:dR nw 4=4:=hw.a4
  repeat refine ax (a _) ?_
  refine cV a ?_
  refine ai.bx (hJ _ rfl) 3 (n:=0) _ rfl rfl ?_;simp only[*,go_sem]
  refine ai.nil a ?_;try simp only[go_sem]
  repeat refine ax (a _) ?_
  refine cA (a _) (by simp only[*,go_sem]) ?_
  repeat refine ax (a _) ?_
  refine cV a ?_
  refine ai.bx (hJ _ rfl) 3 (n:=1) _ rfl rfl ?_;simp only[*,go_sem]
  refine CI (.bool true) (.int .i64 2) Cv aE ⟨_,_,_,rfl,(by first|rfl|simp only[*,go_sem]),rfl,by first|(simp only[*,go_sem];done)|(simp only[*,go_sem];rfl),rfl⟩ (by rfl) (by simp[ja]) ?_
  refine ai.nil a ?_;try simp only[go_sem]
  exact k8 rfl (by simp only[*,go_sem]) ⟨rfl,rfl,rfl⟩
 ·have b4:dR nw 4=0:=hw.a4
  repeat refine ax (a _) ?_
  refine cV a ?_
  refine ai.bx (hJ _ rfl) 3 (n:=0) _ rfl rfl ?_;simp only[*,go_sem]
  refine ai.nil a ?_;try simp only[go_sem]
  repeat refine ax (a _) ?_
  refine cU (a _) (by simp only[*,go_sem]) ?_
  repeat refine ax (a _) ?_
  refine cV a ?_
  refine ai.bx (hJ _ rfl) 2 (n:=0) _ rfl rfl ?_;simp only[*,go_sem]
  refine ai.nil a ?_;try simp only[go_sem]
  repeat refine ax (a _) ?_
  refine jA a ?_
  refine qo a (fun m M F' aK=>Jj Mu n st F m M F' aK) G ?_ ?_
  ·refine ⟨nw,C,0,W,0,G,rfl,by simp only[*,go_sem,muA],by simp only[*,go_sem],by simp only[*,go_sem],by simp only[*,go_sem],hw,hC,Nat.le_refl _,?_⟩
   by_cases f:0<C/\W=0
   ·exact .inl ⟨rfl,rfl,f.2,f.1,by simp[ja,f]⟩
   ·exact .inr ⟨fun x=>f ⟨x.2.2.2,x.2.2.1⟩,by simp[ja,f]⟩
  ·clear hw hC b4 K B w1 z hW y k1 u hd
   rintro m A F' aK ⟨old,C,S,W,L,G,rfl,y,ad,u,hd,hw,hC,ae,N⟩
   repeat refine ax (a _) ?_
   refine jA a ?_
   have sh:old.fdiv 8=(C:Int):=hw.sh
   rcases N with ⟨rfl,rfl,rfl,j,rfl⟩|⟨al,rfl⟩
   ·
    have O:dR old 7=0:=hw.a7
    have D:((C:Int)==0)=false:=by simp;omega
    repeat refine ax (a _) ?_
    refine cV a ?_
    refine ai.bx (hJ _ rfl) 1 (n:=7) _ rfl rfl ?_;simp only[*,go_sem]
    refine ai.mQ old (C:Int) (a _) ⟨_,rfl,(by first|rfl|simp only[*,go_sem]),rfl,rfl⟩ (by simp only[*,go_sem]) (by simp only[*,go_sem]) hw.sh ?_
    refine ai.bx (hJ _ rfl) 6 (n:=0) _ rfl rfl ?_;simp only[*,go_sem]
    refine ai.nil a ?_;try simp only[go_sem]
    repeat refine ax (a _) ?_
    refine cA (a _) (by simp only[*,go_sem]) ?_
    refine cD (a _) ?_;try simp only[go_sem]
    have ao:IntKind.i32.wrap (old - 8)=old - 8:=by have e0:=hw.st.eq;exact iw (by omega) (by omega)
    have P:Wd (old - 8) (C - 1) 0 0 0:=by have e0:=hw.st.eq;exact wd ⟨by omega,by omega,by omega,by omega⟩ (by omega)
    have o2:iV (old - 8) 2=old - 8+2:=P.o2
    repeat refine ax (a _) ?_
    refine cV a ?_
    refine ai.bx (hJ _ rfl) 4 (n:=0) _ rfl rfl ?_;simp only[*,go_sem]
    refine ai.nil a ?_;try simp only[go_sem]
    repeat refine ax (a _) ?_
    refine cV a ?_
    refine ai.bx (hJ _ rfl) 5 (n:=1) _ rfl rfl ?_;simp only[*,go_sem]
    refine s8 old (old - 8+2) s4 aE ⟨_,_,_,rfl,(by first|rfl|simp only[*,go_sem]),rfl,by first|(simp only[*,go_sem];done)|(simp only[*,go_sem];rfl),rfl⟩ (by rfl) (by simp) (fun φ ms Q R T U k he hi hm=>?_) (fun φ mu ms Q R T U k he hi hm V=>?_)
    ·obtain ⟨rfl,rfl,rfl,rfl⟩:=hm.st.uniq hw.st
     refine ⟨.n8,⟨_,_,_,_,k,Im hm hi _ (by rw[he]) rfl rfl rfl rfl j⟩,?_⟩
     refine ai.nil a ?_;try simp only[go_sem]
     repeat refine ax (a _) ?_
     refine cU (a _) (by simp only[*,go_sem]) ?_
     repeat refine ax (a _) ?_
     refine cV a ?_
     refine ai.bx (hJ _ rfl) 3 (n:=1) _ rfl rfl ?_;simp only[*,go_sem]
     refine CI (.bool false) (.int .i64 2) Cv aE ⟨_,_,_,rfl,(by first|rfl|simp only[*,go_sem]),rfl,by first|(simp only[*,go_sem];done)|(simp only[*,go_sem];rfl),rfl⟩ (by rfl) (by simp) ?_
     refine ai.nil a ?_;try simp only[go_sem]
     refine fc ?_;try simp only[go_sem]
     exact om rfl (by simp only[*,go_sem]) ⟨rfl,rfl,rfl⟩
    ·obtain ⟨X,ar,Y⟩:=Io hm hi {mp:=.gb mu (bJ n φ ms),gp:=.cnt,stored:=st,deaf:=1} (by rw[he]) rfl
     have a0:bJ n φ ms<G:=Y V
     refine ⟨.gb mu (bJ n φ ms),⟨_,_,_,_,k,X⟩,?_⟩
     refine ai.nil a ?_;try simp only[go_sem]
     repeat refine ax (a _) ?_
     refine cA (a _) (by simp only[*,go_sem]) ?_
     refine cD (a _) ?_;try simp only[go_sem]
     repeat refine ax (a _) ?_
     refine cV a ?_
     refine ai.bx (hJ _ rfl) 3 (n:=2) _ rfl rfl ?_;simp only[*,go_sem]
     refine ot I9 oo ⟨_,rfl,(by first|rfl|simp only[*,go_sem]),rfl,rfl⟩ (by rfl) (by simp only[*,go_sem]) (fun c g d l o p q E H I e=>?_)
     have J:=wd e.st (by have:=e.bound;simp only[CY] at this;omega)
     by_cases b:o=0/\q=0/\p=0/\0<l
     ·obtain ⟨r,t,_⟩:=B8 e I {mp:=.gb g (bJ n c d),gp:=.cnt,stored:=st,deaf:=1} (by rw[H]) (.inl ⟨b.1,b.2.1,b.2.2.1,b.2.2.2,rfl⟩)
      have Z:bJ n c d<=bJ n φ ms:=t
      refine ⟨.gb g (bJ n c d),⟨_,_,_,_,E,r⟩,?_⟩
      refine ai.bx (hJ _ rfl) 1 (n:=0) _ rfl rfl ?_;simp only[*,go_sem]
      refine ai.nil a ?_;try simp only[go_sem]
      exact ⟨bJ n c d,by omega,g,l,o,p,q,bJ n c d,rfl,(by simp only[*,go_sem]),(by simp only[*,go_sem]),(by simp only[*,go_sem]),(by simp only[*,go_sem]),J,e.bound,Nat.le_refl _,.inl ⟨b.1,b.2.1,b.2.2.1,b.2.2.2,rfl⟩⟩
     ·obtain ⟨r,t,_⟩:=B8 e I {mp:=.fin,gp:=.cnt,stored:=st,deaf:=1} (by rw[H]) (.inr ⟨b,rfl⟩)
      have Z:bJ n c d<=bJ n φ ms:=t
      refine ⟨.fin,⟨_,_,_,_,E,r⟩,?_⟩
      refine ai.bx (hJ _ rfl) 1 (n:=0) _ rfl rfl ?_;simp only[*,go_sem]
      refine ai.nil a ?_;try simp only[go_sem]
      exact ⟨bJ n c d,by omega,g,l,o,p,q,bJ n c d,rfl,(by simp only[*,go_sem]),(by simp only[*,go_sem]),(by simp only[*,go_sem]),(by simp only[*,go_sem]),J,e.bound,Nat.le_refl _,.inr ⟨b,rfl⟩⟩
   ·
    by_cases j:C=0
    ·have D:((C:Int)==0)=true:=by simp[j]
     repeat refine ax (a _) ?_
     refine cV a ?_
     refine ai.bx (hJ _ rfl) 1 (n:=7) _ rfl rfl ?_;simp only[*,go_sem]
     refine ai.mQ old (C:Int) (a _) ⟨_,rfl,(by first|rfl|simp only[*,go_sem]),rfl,rfl⟩ (by simp only[*,go_sem]) (by simp only[*,go_sem]) hw.sh ?_
     refine ai.bx (hJ _ rfl) 6 (n:=0) _ rfl rfl ?_;simp only[*,go_sem]
     refine ai.nil a ?_;try simp only[go_sem]
     repeat refine ax (a _) ?_
     refine cU (a _) (by simp only[*,go_sem]) ?_
     refine fc ?_;try simp only[go_sem]
     exact om rfl (by simp only[*,go_sem]) ⟨rfl,rfl,rfl⟩
    ·have D:((C:Int)==0)=false:=by simp;omega
     have O:=hw.a7
     have a2:(((4*S+(2*W+L):Nat):Int) != 0)=true:=by simp;omega
     repeat refine ax (a _) ?_
     refine cV a ?_
     refine ai.bx (hJ _ rfl) 1 (n:=7) _ rfl rfl ?_;simp only[*,go_sem]
     refine ai.mQ old (C:Int) (a _) ⟨_,rfl,(by first|rfl|simp only[*,go_sem]),rfl,rfl⟩ (by simp only[*,go_sem]) (by simp only[*,go_sem]) hw.sh ?_
     refine ai.bx (hJ _ rfl) 6 (n:=0) _ rfl rfl ?_;simp only[*,go_sem]
     refine ai.nil a ?_;try simp only[go_sem]
     repeat refine ax (a _) ?_
     refine cU (a _) (by simp only[*,go_sem]) ?_
     refine fc ?_;try simp only[go_sem]
     exact om rfl (by simp only[*,go_sem]) ⟨rfl,rfl,rfl⟩
theorem Jl (aE:Mu≠Wg/\Mu≠Is/\Wg≠Is)(j:n<67108864):
  cC Tryz.prog (WJ (CY Mu Wg Is n bs base T0) i) 166 #[.pointer (some (muA Mu))] F ⟨.held,.cnt,st,0⟩ (fun v F' aK=>v= .tuple #[]/\F'=F/\aK=⟨.fin,.cnt,st,0⟩):=by
 have a:=WJ.ej (CY Mu Wg Is n bs base T0) i
 have hJ:∀ph:Ph,ph.gp= .cnt->Go.Sep.Closed Tryz.prog false (WJ (CY Mu Wg Is n bs base T0) i ph):=fun ph h=>Wk.closed (CY Mu Wg Is n bs base T0) i ph h
 refine cC.go (main:=false) a Tryz.func166 rfl Tryz.ntmps166 (by simp) fun A x hd hs=>?_
 have y:=hs 0
 clear hs
 repeat refine ax (a _) ?_
 refine cU (a _) (by simp only[*,go_sem]) ?_
 repeat refine ax (a _) ?_
 refine cV a ?_
 refine ai.bx (hJ _ rfl) 3 (n:=1) _ rfl rfl ?_;simp only[*,go_sem]
 refine ot I8 oo ⟨_,rfl,(by first|rfl|simp only[*,go_sem]),rfl,rfl⟩ (by rfl) (by simp only[*,go_sem]) (fun z B D E G H I k l o p=>⟨.held,⟨_,_,_,_,k,mM p o _ (.inl (by rw[l]))⟩,?_⟩)
 refine ai.nil a ?_;try simp only[go_sem]
 repeat refine ax (a _) ?_
 refine cV a ?_
 refine ai.bx (hJ _ rfl) 1 (n:=2) _ rfl rfl ?_;simp only[*,go_sem]
 refine s9 ⟨Mu,0,none⟩ xP lg xR ⟨_,rfl,(by first|rfl|simp only[*,go_sem]),rfl,rfl⟩ (by simp) (by simp only[*,go_sem]) x2 ?_
 refine Jd Cu ⟨_,_,_,rfl,(by first|rfl|simp only[*,go_sem]),rfl,by first|(simp only[*,go_sem];done)|(simp only[*,go_sem];rfl),rfl⟩ (by rfl) ?_
 refine ai.nil a ?_;try simp only[go_sem]
 repeat refine ax (a _) ?_
 refine cV a ?_
 refine xY qp ⟨_,_,_,rfl,(by first|rfl|simp only[*,go_sem]),rfl,by first|(simp only[*,go_sem];done)|(simp only[*,go_sem];rfl),rfl⟩ (by simp) (by simp) ?_
 refine ai.nil a ?_;try simp only[go_sem]
 repeat refine ax (a _) ?_
 refine cV a ?_
 refine ai.bx (hJ _ rfl) 3 (n:=2) _ rfl rfl ?_;simp only[*,go_sem]
 refine xZ (-1) xN aE ⟨_,_,_,rfl,(by first|rfl|simp only[*,go_sem]),rfl,by first|(simp only[*,go_sem];done)|(simp only[*,go_sem];rfl),rfl⟩ (by rfl) (by simp) (fun φ mu ms C S W L m he hi hm=>?_)
 have q:=B7 hm hi (by rw[he])
 subst q
 have hb:C<=3*n:=hm.bound
 have r:=hm.st.s
 have hW:=hm.st.w
 have d:IntKind.i32.wrap (mu+ -1)=mu - 1:=by have e0:=hm.st.eq;exact iw (by omega) (by omega)
 have g:St (mu - 1) C S W 0:=⟨by have e0:=hm.st.eq;omega,by omega,hW,r⟩
 have hw:Wd (mu - 1) C S W 0:=wd g (by omega)
 have e:cn n (upd φ i ⟨ja C S W (mu - 1) (sm n φ Mp.wt+2*m),.cnt,st,1⟩) (mu - 1) ms C S W 0 m:=by
  refine Il hm hi _ (by rw[he]) ?_
  by_cases b:S=1
  ·exact .inl ⟨b,by simp[ja,b]⟩
  ·by_cases c:0<C/\W=0
   ·exact .inr (.inl ⟨by omega,c.1,c.2,by simp[ja,b,c]⟩)
   ·exact .inr (.inr ⟨by omega,by omega,by simp[ja,b,c]⟩)
 refine ⟨ja C S W (mu - 1) (sm n φ Mp.wt+2*m),mu - 1,d,⟨_,_,_,_,m,e⟩,?_⟩
 refine ai.bx (hJ _ rfl) 1 (n:=0) _ rfl rfl ?_;simp only[*,go_sem]
 refine ai.nil a ?_;try simp only[go_sem]
 by_cases f:mu - 1=0
 ·have e0:=g.eq
  have t:ja C S W (mu - 1) (sm n φ Mp.wt+2*m)= .fin:=by
   have:C=0:=by omega
   have:S=0:=by omega
   simp[ja, *]
  clear hw e d e0
  rw[t]
  rw[f]
  repeat refine ax (a _) ?_
  refine cV a ?_
  refine ai.bx (hJ _ rfl) 2 (n:=0) _ rfl rfl ?_;simp only[*,go_sem]
  refine ai.nil a ?_;try simp only[go_sem]
  repeat refine ax (a _) ?_
  refine cA (a _) (by simp only[*,go_sem]) ?_
  refine cD (a _) ?_;try simp only[go_sem]
  repeat refine ax (a _) ?_
  refine cV a ?_
  refine s7 lf ⟨_,_,_,rfl,(by first|rfl|simp only[*,go_sem]),rfl,by first|(simp only[*,go_sem];done)|(simp only[*,go_sem];rfl),rfl⟩ (by simp) (by simp) rfl ?_
  refine ai.nil a ?_;try simp only[go_sem]
  exact k8 rfl (by simp only[*,go_sem]) ⟨rfl,rfl,rfl⟩
 ·have J:(mu - 1 != 0)=true:=by simpa using f
  clear e d f
  repeat refine ax (a _) ?_
  refine cV a ?_
  refine ai.bx (hJ _ rfl) 2 (n:=0) _ rfl rfl ?_;simp only[*,go_sem]
  refine ai.nil a ?_;try simp only[go_sem]
  repeat refine ax (a _) ?_
  refine cU (a _) (by simp only[*,go_sem]) ?_
  repeat refine ax (a _) ?_
  refine cV a ?_
  refine ai.bx (hJ _ rfl) 2 (n:=1) _ rfl rfl ?_;simp only[*,go_sem]
  refine ai.fU (a _) rfl rfl rfl EB (by simp only[*,go_sem,muA]) (Jk aE j hw hb) fun v F' aK u=>?_
  obtain ⟨rfl,rfl,rfl⟩:=u
  refine ai.nil a ?_;try simp only[go_sem]
  repeat refine ax (a _) ?_
  refine cV a ?_
  refine s7 lf ⟨_,_,_,rfl,(by first|rfl|simp only[*,go_sem]),rfl,by first|(simp only[*,go_sem];done)|(simp only[*,go_sem];rfl),rfl⟩ (by simp) (by simp) rfl ?_
  refine ai.nil a ?_;try simp only[go_sem]
  exact k8 rfl (by simp only[*,go_sem]) ⟨rfl,rfl,rfl⟩
end
end Go.Proofs.YtpgcmoanfifglaaGreatDoor
end
section
namespace Go.Sep
open Go Go.Conc
def ta {S:Type}(b:Act->aa->S->Prop)(Q:Ex->Act->aa->S->Prop):Ex->Act->aa->S->Prop
 | .normal,a,F,ph=>b a F ph
 |e,a,F,ph=>Q e a F ph
attribute [go_sem] ta
theorem kq {P:Program}{main:Bool}{S:Type}{JF:S->Goroutine->aa->Prop}{fi:FuncId}{Q:Ex->Act->aa->S->Prop}{a:Act}{F:aa}{ph:S}(c:∀ph,dS P main (JF ph)){x y:Code}(b:Act->aa->S->Prop)
  (d:cI JF fi x (ta b Q) a F ph) (f:∀a F ph,b a F ph->cI JF fi y Q a F ph):cI JF fi (.seq x y) Q a F ph:=
 ax (c _) (d.mono fun e a F ph h=>by
  cases e with
  |normal=>exact f a F ph h
  |exit i=>exact h
  |ret=>exact h)
theorem tc {P:Program}{main:Bool}{S:Type}{JF:S->Goroutine->aa->Prop}{fi:FuncId}{Q:Ex->Act->aa->S->Prop}{a:Act}{F:aa}{ph:S}(f:∀ph,dS P main (JF ph)){x:Code}(b:Act->aa->S->Prop)
  (c:cI JF fi x (ta b Q) a F ph) (d:∀a F ph,b a F ph->Q .normal a F ph):cI JF fi x Q a F ph:=
 c.mono fun e a F ph h=>by
  cases e with
  |normal=>exact d a F ph h
  |exit i=>exact h
  |ret=>exact h
theorem aX {P:Program}{main:Bool}{S:Type}{JF:S->Goroutine->aa->Prop}{fi:FuncId}{Q:Ex->Act->aa->S->Prop}{a:Act}{F:aa}{ph:S}(b:∀ph,dS P main (JF ph)){id:Nat}{ops:Array Oper}
  (h:∀K:Act->aa->S->Prop,(∀a F ph,Q .normal a F ph->K a F ph)->ai JF fi ops 0 ops.size K a F ph):cI JF fi (.region id ops false) Q a F ph:=cV b (h _ fun _ _ _ h=>h)
theorem ep {S:Type}{b:Act->aa->S->Prop}{Q:Ex->Act->aa->S->Prop}{a:Act}{F:aa}{ph:S}(h:b a F ph):ta b Q .normal a F ph:=h
theorem iS {S:Type}{I:Nat->Act->aa->S->Prop}{n:Nat}{Q:Ex->Act->aa->S->Prop}{a:Act}{F:aa}{ph:S}(h:∃m,m<n/\I m a F ph):xL I n Q .normal a F ph:=h
theorem Jm {x:Int}(a: -9223372036854775808<=x)(b:x<9223372036854775808):IntKind.i64.wrap x=x:=by
 unfold IntKind.wrap;simp[IntKind.bits,IntKind.signed];omega
end Go.Sep
namespace Go.Proofs.YtpgcmoanfifglaaGreatDoor
open Go Go.Sep Go.Proofs Go.Conc
open Go.ConcN (upd upd_same)
open Go.ConcM (muA msA)
open Go.ConcR (stA smA)
set_option maxRecDepth 100000
set_option maxHeartbeats 8000000
set_option linter.all false
attribute [local go_sem] Int.reduceBEq Int.reduceBNe muA msA stA smA
def td (Mu n:Nat)(st:Bool)(F:aa)(m:Nat)(a:Act)(F':aa)(ph:Ph):Prop:=
 ∃(wt it old:Int) (sv aw:Bool) (C S W L G:Nat),F'=F/\slot a 0= .pointer (some ⟨Mu,0,none⟩)/\slot a 2= .int .i64 wt/\slot a 3= .bool sv/\slot a 4= .bool aw/\slot a 5= .int .i64 it/\slot a 6= .int .i32 old/\sz a=139/\a.defers=[]/\
  Wd old C S W L/\C<=3*n/\0<=it/\it<=4/\(sv=true->aw=true)/\(aw=true->S=0/\W=1)/\8*G+(5 - it).toNat<=m/\ph=⟨.want aw old G,.cnt,st,1⟩
def tf (Mu:Nat)(st:Bool)(F:aa)(a:Act)(F':aa)(ph:Ph):Prop:=F'=F/\slot a 0= .pointer (some ⟨Mu,0,none⟩)/\sz a=139/\a.defers=[]/\ph=⟨.held,.cnt,st,1⟩
def Jn (Mu:Nat)(st:Bool)(F:aa)(wt it:Int)(sv:Bool)(G:Nat)(a:Act)(F':aa)(ph:Ph):Prop:=
 ∃(aw:Bool) (o:Int) (b:Nat),F'=F/\slot a 0= .pointer (some ⟨Mu,0,none⟩)/\slot a 2= .int .i64 wt/\slot a 3= .bool sv/\slot a 4= .bool aw/\slot a 5= .int .i64 it/\sz a=139/\a.defers=[]/\(sv=true->aw=true)/\b<=G/\ph=⟨.want aw o b,.cnt,st,1⟩
def qt (Mu:Nat)(st:Bool)(F:aa)(wt it old:Int)(x:Option Int)(sv aw:Bool)(G:Nat)(a:Act)(F':aa)(ph:Ph):Prop:=
 F'=F/\slot a 0= .pointer (some ⟨Mu,0,none⟩)/\slot a 2= .int .i64 wt/\slot a 3= .bool sv/\slot a 4= .bool aw/\slot a 5= .int .i64 it/\slot a 6= .int .i32 old/\(∀y,x=some y->slot a 7= .int .i32 y)/\sz a=139/\a.defers=[]/\ph=⟨.want aw old G,.cnt,st,1⟩
def CK (Mu:Nat)(st:Bool)(F:aa)(sv:Bool)(mp:Mp)(a:Act)(F':aa)(ph:Ph):Prop:=
 ∃wt:Int,F'=F/\slot a 0= .pointer (some ⟨Mu,0,none⟩)/\slot a 2= .int .i64 wt/\slot a 3= .bool sv/\sz a=139/\a.defers=[]/\ph=⟨mp,.cnt,st,1⟩
def CL (Mu:Nat)(st:Bool)(F:aa)(mp:Mp)(a:Act)(F':aa)(ph:Ph):Prop:=
 ∃(wt:Int) (sv:Bool),F'=F/\slot a 0= .pointer (some ⟨Mu,0,none⟩)/\slot a 2= .int .i64 wt/\slot a 3= .bool sv/\sz a=139/\a.defers=[]/\ph=⟨mp,.cnt,st,1⟩
def Jo (Mu:Nat)(st:Bool)(F:aa)(y:Bool)(a:Act)(F':aa)(ph:Ph):Prop:=
 ∃e:Bool,F'=F/\slot a 0= .pointer (some ⟨Mu,0,none⟩)/\slot a 9= .int .i32 (-7)/\slot a 123= .bool e/\sz a=139/\a.defers=[]/\(e=false->y=true)/\ph=⟨.kg y,.cnt,st,1⟩
section
variable {Mu Wg Is n base T0 i : Nat} {bs : Nat → Bool} {st : Bool} {F : aa}
theorem Jp (aE:Mu≠Wg/\Mu≠Is/\Wg≠Is)(e3:n<67108864):
  cC Tryz.prog (WJ (CY Mu Wg Is n bs base T0) i) 194 #[.pointer (some (muA Mu))] F ⟨.idle,.cnt,st,1⟩ (fun v F' aK=>v= .tuple #[]/\F'=F/\aK=⟨.held,.cnt,st,0⟩):=by
 have a:=WJ.ej (CY Mu Wg Is n bs base T0) i
 have hJ:∀ph:Ph,ph.gp= .cnt->Go.Sep.Closed Tryz.prog false (WJ (CY Mu Wg Is n bs base T0) i ph):=fun ph h=>Wk.closed (CY Mu Wg Is n bs base T0) i ph h
 refine cC.go (main:=false) a Tryz.func194 rfl Tryz.ntmps194 (by simp) fun A d hd hs=>?_
 have f:=hs 0
 clear hs
 repeat refine ax (a _) ?_
 refine aX a fun K b=>?_
 refine ai.bx (hJ _ rfl) 1 (n:=0) _ rfl rfl ?_;simp only[*,go_sem,-b,-a,-hJ]
 refine ai.nil a (b _ _ _ ?_);clear b K
 repeat refine ax (a _) ?_
 refine aX a fun K b=>?_
 refine ai.bx (hJ _ rfl) 1 (n:=0) _ rfl rfl ?_;simp only[*,go_sem,-b,-a,-hJ]
 refine ai.nil a (b _ _ _ ?_);clear b K
 repeat refine ax (a _) ?_
 refine aX a fun K b=>?_
 refine ai.bx (hJ _ rfl) 1 (n:=0) _ rfl rfl ?_;simp only[*,go_sem,-b,-a,-hJ]
 refine ai.nil a (b _ _ _ ?_);clear b K
 repeat refine ax (a _) ?_
 refine aX a fun K b=>?_
 refine ai.bx (hJ _ rfl) 1 (n:=0) _ rfl rfl ?_;simp only[*,go_sem,-b,-a,-hJ]
 refine ai.nil a (b _ _ _ ?_);clear b K
 repeat refine ax (a _) ?_
 refine aX a fun K b=>?_
 refine ai.bx (hJ _ rfl) 3 (n:=2) _ rfl rfl ?_;simp only[*,go_sem,-b,-a,-hJ]
 refine ot s5 oo ⟨_,rfl,(by first|(simp only[*,go_sem,-b,-a,-hJ];done)|rfl),rfl,rfl⟩ (by rfl) (by simp only[*,go_sem,-b,-a,-hJ]) (fun φ mu ms C S W L m he hi hm=>⟨.want false mu (bJ n φ ms),⟨_,_,_,_,m,Ic hm hi _ (by rw[he]) rfl⟩,?_⟩)
 have hw:=wd hm.st (by have:C<=3*n:=hm.bound;omega)
 have hC:C<=3*n:=hm.bound
 refine ai.bx (hJ _ rfl) 1 (n:=0) _ rfl rfl ?_;simp only[*,go_sem,-b,-a,-hJ]
 refine ai.nil a (b _ _ _ ?_);clear b K
 refine kq a (tf Mu st F) ?_ ?_
 ·repeat refine ax (a _) ?_
  refine jA a ?_
  refine qo a (td Mu n st F) (8*bJ n φ ms+5) ?_ ?_
  ·exact ⟨0,0,mu,false,false,C,S,W,L,bJ n φ ms,rfl,(by simp only[*,go_sem,-a,-hJ]),(by simp only[*,go_sem,-a,-hJ]),(by simp only[*,go_sem,-a,-hJ]),(by simp only[*,go_sem,-a,-hJ]),(by simp only[*,go_sem,-a,-hJ]),(by simp only[*,go_sem,-a,-hJ]),(by simp only[*,go_sem,-a,-hJ]),(by simp only[*,go_sem,-a,-hJ]),hw,hC,by omega,by omega,by simp,by simp,by simp,rfl⟩
  ·clear hw hC hm hi he d hd f
   rintro m A F' aK ⟨wt,it,old,sv,aw,C,S,W,L,G,rfl,f,k,o,z,D,I,d,hd,hw,hC,fa,fb,V,X,fg,rfl⟩
   have cS:S=0\/S=1:=by have:=hw.st.s;omega
   have a7:L=0\/L=1:=by have:=hw.st.l;omega
   have bd:W=0\/W=1:=by have:=hw.st.w;omega
   repeat refine ax (a _) ?_
   refine jA a ?_
   refine kq a (qt Mu st F' wt it old none sv aw G) ?_ ?_
   ·
    by_cases Y:S=0/\L=1
    ·obtain ⟨rfl,rfl⟩:=Y
     have b5:dR old 5=1:=hw.a5
     repeat refine ax (a _) ?_
     refine aX a fun K b=>?_
     refine ai.bx (hJ _ rfl) 5 (n:=2) _ rfl rfl ?_;simp only[*,go_sem,-b,-a,-hJ]
     refine Jg it IZ ⟨_,_,_,rfl,(by first|(simp only[*,go_sem,-b,-a,-hJ];done)|rfl),rfl,by first|(simp only[*,go_sem,-b,-a,-hJ];done)|(simp only[*,go_sem,-b,-a,-hJ];rfl),rfl⟩ (by simp) fun t ht=>?_
     refine ai.bx (hJ _ rfl) 1 (n:=0) _ rfl rfl ?_;simp only[*,go_sem,-b,-a,-hJ]
     refine ai.nil a (b _ _ _ ?_);clear b K
     cases t
     ·repeat refine ax (a _) ?_
      refine cA (a _) (by simp only[*,go_sem,-a,-hJ]) ?_
      refine cD (a _) ?_
      exact ep ⟨rfl,(by simp only[*,go_sem,-a,-hJ]),(by simp only[*,go_sem,-a,-hJ]),(by simp only[*,go_sem,-a,-hJ]),(by simp only[*,go_sem,-a,-hJ]),(by simp only[*,go_sem,-a,-hJ]),(by simp only[*,go_sem,-a,-hJ]),by simp,(by simp only[*,go_sem,-a,-hJ]),(by simp only[*,go_sem,-a,-hJ]),rfl⟩
     ·have fi:=ht rfl
      repeat refine ax (a _) ?_
      refine cU (a _) (by simp only[*,go_sem,-a,-hJ]) ?_
      refine kq a (Jn Mu st F' wt it sv G) ?_ ?_
      ·cases aw
       ·obtain rfl:sv=false:=by cases sv<;>simp_all
        rcases bd with rfl|rfl
        ·have b2:dR old 2=0:=hw.a2
         by_cases dE:C=0
         ·have br:((C:Int) != 0)=false:=by simp[dE]
          repeat refine ax (a _) ?_
          refine aX a fun K b=>?_
          refine ai.bx (hJ _ rfl) 9 (n:=12) _ rfl rfl ?_;simp only[*,go_sem,-b,-a,-hJ]
          refine ai.mQ old (C:Int) (a _) ⟨_,rfl,(by first|(simp only[*,go_sem,-b,-a,-hJ];done)|rfl),rfl,rfl⟩ (by simp only[*,go_sem,-b,-a,-hJ]) (by simp only[*,go_sem,-b,-a,-hJ]) hw.sh ?_
          refine ai.bx (hJ _ rfl) 11 (n:=0) _ rfl rfl ?_;simp only[*,go_sem,-b,-a,-hJ]
          refine ai.nil a (b _ _ _ ?_);clear b K
          repeat refine ax (a _) ?_
          refine cA (a _) (by simp only[*,go_sem,-a,-hJ]) ?_
          refine cD (a _) ?_
          exact ep ⟨false,old,G,rfl,(by simp only[*,go_sem,-a,-hJ]),(by simp only[*,go_sem,-a,-hJ]),(by simp only[*,go_sem,-a,-hJ]),(by simp only[*,go_sem,-a,-hJ]),(by simp only[*,go_sem,-a,-hJ]),(by simp only[*,go_sem,-a,-hJ]),(by simp only[*,go_sem,-a,-hJ]),by simp,Nat.le_refl _,rfl⟩
         ·have br:((C:Int) != 0)=true:=by simp;omega
          have o2:iV old 2=old+2:=hw.o2
          repeat refine ax (a _) ?_
          refine aX a fun K b=>?_
          refine ai.bx (hJ _ rfl) 9 (n:=12) _ rfl rfl ?_;simp only[*,go_sem,-b,-a,-hJ]
          refine ai.mQ old (C:Int) (a _) ⟨_,rfl,(by first|(simp only[*,go_sem,-b,-a,-hJ];done)|rfl),rfl,rfl⟩ (by simp only[*,go_sem,-b,-a,-hJ]) (by simp only[*,go_sem,-b,-a,-hJ]) hw.sh ?_
          refine ai.bx (hJ _ rfl) 9 (n:=2) _ rfl rfl ?_;simp only[*,go_sem,-b,-a,-hJ]
          refine s8 old (old+2) s4 aE ⟨_,_,_,rfl,(by first|(simp only[*,go_sem,-b,-a,-hJ];done)|rfl),rfl,by first|(simp only[*,go_sem,-b,-a,-hJ];done)|(simp only[*,go_sem,-b,-a,-hJ];rfl),rfl⟩ (by rfl) (by simp) (fun φ ms bz ao bS Z p he hi hm=>?_) (fun φ mu ms bz ao bS Z p he hi hm df=>?_)
          ·obtain ⟨rfl,rfl,rfl,rfl⟩:=hm.st.uniq hw.st
           refine ⟨.want true old G,⟨_,_,_,_,p,Ie hm hi _ (by rw[he]) rfl rfl rfl rfl rfl⟩,?_⟩
           refine ai.bx (hJ _ rfl) 1 (n:=0) _ rfl rfl ?_;simp only[*,go_sem,-b,-a,-hJ]
           refine ai.nil a (b _ _ _ ?_);clear b K
           repeat refine ax (a _) ?_
           refine cU (a _) (by simp only[*,go_sem,-a,-hJ]) ?_
           repeat refine ax (a _) ?_
           refine aX a fun K b=>?_
           refine ai.bx (hJ _ rfl) 1 (n:=0) _ rfl rfl ?_;simp only[*,go_sem,-b,-a,-hJ]
           refine ai.nil a (b _ _ _ ?_);clear b K
           exact ep ⟨true,old,G,rfl,(by simp only[*,go_sem,-a,-hJ]),(by simp only[*,go_sem,-a,-hJ]),(by simp only[*,go_sem,-a,-hJ]),(by simp only[*,go_sem,-a,-hJ]),(by simp only[*,go_sem,-a,-hJ]),(by simp only[*,go_sem,-a,-hJ]),(by simp only[*,go_sem,-a,-hJ]),by simp,Nat.le_refl _,rfl⟩
          ·obtain ⟨J,a8,bj⟩:=sS hm hi {mp:=.want false mu (bJ n φ ms),gp:=.cnt,stored:=st,deaf:=1} (by rw[he]) rfl
           refine ⟨.want false mu (bJ n φ ms),⟨_,_,_,_,p,J⟩,?_⟩
           refine ai.bx (hJ _ rfl) 1 (n:=0) _ rfl rfl ?_;simp only[*,go_sem,-b,-a,-hJ]
           refine ai.nil a (b _ _ _ ?_);clear b K
           repeat refine ax (a _) ?_
           refine cA (a _) (by simp only[*,go_sem,-a,-hJ]) ?_
           refine cD (a _) ?_
           exact ep ⟨false,mu,bJ n φ ms,rfl,(by simp only[*,go_sem,-a,-hJ]),(by simp only[*,go_sem,-a,-hJ]),(by simp only[*,go_sem,-a,-hJ]),(by simp only[*,go_sem,-a,-hJ]),(by simp only[*,go_sem,-a,-hJ]),(by simp only[*,go_sem,-a,-hJ]),(by simp only[*,go_sem,-a,-hJ]),by simp,a8,rfl⟩
        ·have b2:dR old 2=2:=hw.a2
         repeat refine ax (a _) ?_
         refine aX a fun K b=>?_
         refine ai.bx (hJ _ rfl) 21 (n:=0) _ rfl rfl ?_;simp only[*,go_sem,-b,-a,-hJ]
         refine ai.nil a (b _ _ _ ?_);clear b K
         repeat refine ax (a _) ?_
         refine cA (a _) (by simp only[*,go_sem,-a,-hJ]) ?_
         refine cD (a _) ?_
         exact ep ⟨false,old,G,rfl,(by simp only[*,go_sem,-a,-hJ]),(by simp only[*,go_sem,-a,-hJ]),(by simp only[*,go_sem,-a,-hJ]),(by simp only[*,go_sem,-a,-hJ]),(by simp only[*,go_sem,-a,-hJ]),(by simp only[*,go_sem,-a,-hJ]),(by simp only[*,go_sem,-a,-hJ]),by simp,Nat.le_refl _,rfl⟩
       ·repeat refine ax (a _) ?_
        refine aX a fun K b=>?_
        refine ai.bx (hJ _ rfl) 21 (n:=0) _ rfl rfl ?_;simp only[*,go_sem,-b,-a,-hJ]
        refine ai.nil a (b _ _ _ ?_);clear b K
        repeat refine ax (a _) ?_
        refine cA (a _) (by simp only[*,go_sem,-a,-hJ]) ?_
        refine cD (a _) ?_
        exact ep ⟨true,old,G,rfl,(by simp only[*,go_sem,-a,-hJ]),(by simp only[*,go_sem,-a,-hJ]),(by simp only[*,go_sem,-a,-hJ]),(by simp only[*,go_sem,-a,-hJ]),(by simp only[*,go_sem,-a,-hJ]),(by simp only[*,go_sem,-a,-hJ]),(by simp only[*,go_sem,-a,-hJ]),by simp,Nat.le_refl _,rfl⟩
      ·clear f k o z D I d hd b5
       rintro A c ab ⟨bk,o2,dT,rfl,f,k,o,z,D,d,hd,ea,fp,rfl⟩
       have fr:IntKind.i64.wrap (it+1)=it+1:=Jm (by omega) (by omega)
       repeat refine ax (a _) ?_
       refine aX a fun K b=>?_
       refine ai.entry _ (a _) I0 ⟨_,_,_,rfl,(by first|(simp only[*,go_sem,-b,-a,-hJ];done)|rfl),rfl,by first|(simp only[*,go_sem,-b,-a,-hJ];done)|(simp only[*,go_sem,-b,-a,-hJ];rfl),rfl⟩ ?_
       refine ai.nil a (b _ _ _ ?_);clear b K
       repeat refine ax (a _) ?_
       refine aX a fun K b=>?_
       refine ai.bx (hJ _ rfl) 3 (n:=0) _ rfl rfl ?_;simp only[*,go_sem,-b,-a,-hJ]
       refine ai.nil a (b _ _ _ ?_);clear b K
       repeat refine ax (a _) ?_
       refine aX a fun K b=>?_
       refine ai.bx (hJ _ rfl) 3 (n:=2) _ rfl rfl ?_;simp only[*,go_sem,-b,-a,-hJ]
       refine ot s5 oo ⟨_,rfl,(by first|(simp only[*,go_sem,-b,-a,-hJ];done)|rfl),rfl,rfl⟩ (by rfl) (by simp only[*,go_sem,-b,-a,-hJ]) (fun φ mu ms P al bl b0 b1 he hi hm=>?_)
       obtain ⟨J,a8,bj⟩:=sS hm hi {mp:=.want bk mu (bJ n φ ms),gp:=.cnt,stored:=st,deaf:=1} (by rw[he]) rfl
       have ad:=wd hm.st (by have:P<=3*n:=hm.bound;omega)
       have a9:P<=3*n:=hm.bound
       have ca:bJ n φ ms<=dT:=a8
       have cb:bk=true->al=0/\bl=1:=fun e=>by subst e;exact B5 hm hi (by rw[he])
       refine ⟨.want bk mu (bJ n φ ms),⟨_,_,_,_,b1,J⟩,?_⟩
       refine ai.bx (hJ _ rfl) 1 (n:=0) _ rfl rfl ?_;simp only[*,go_sem,-b,-a,-hJ]
       refine ai.nil a (b _ _ _ ?_);clear b K
       refine oh ?_
       change ∃p,p<m/\td Mu n st c p _ _ _
       exact ⟨8*bJ n φ ms+(5 - (it+1)).toNat,by omega,wt,it+1,mu,sv,bk,P,al,bl,b0,bJ n φ ms,rfl,(by simp only[*,go_sem,-a,-hJ]),(by simp only[*,go_sem,-a,-hJ]),(by simp only[*,go_sem,-a,-hJ]),(by simp only[*,go_sem,-a,-hJ]),(by simp only[*,go_sem,-a,-hJ]),(by simp only[*,go_sem,-a,-hJ]),(by simp only[*,go_sem,-a,-hJ]),(by simp only[*,go_sem,-a,-hJ]),ad,a9,by omega,by omega,ea,cb,Nat.le_refl _,rfl⟩
    ·have b5:=hw.a5
     have cd:(((4*S+L:Nat):Int)==1)=false:=by simp;omega
     repeat refine ax (a _) ?_
     refine aX a fun K b=>?_
     refine ai.bx (hJ _ rfl) 7 (n:=0) _ rfl rfl ?_;simp only[*,go_sem,-b,-a,-hJ]
     refine ai.nil a (b _ _ _ ?_);clear b K
     repeat refine ax (a _) ?_
     refine cA (a _) (by simp only[*,go_sem,-a,-hJ]) ?_
     refine cD (a _) ?_
     exact ep ⟨rfl,(by simp only[*,go_sem,-a,-hJ]),(by simp only[*,go_sem,-a,-hJ]),(by simp only[*,go_sem,-a,-hJ]),(by simp only[*,go_sem,-a,-hJ]),(by simp only[*,go_sem,-a,-hJ]),(by simp only[*,go_sem,-a,-hJ]),by simp,(by simp only[*,go_sem,-a,-hJ]),(by simp only[*,go_sem,-a,-hJ]),rfl⟩
   ·clear f k o z D I d hd
    rintro A c ab ⟨rfl,f,k,o,z,D,I,q,d,hd,rfl⟩
    clear q
    repeat refine ax (a _) ?_
    refine aX a fun K b=>?_
    refine ai.bx (hJ _ rfl) 2 (n:=0) _ rfl rfl ?_;simp only[*,go_sem,-b,-a,-hJ]
    refine ai.nil a (b _ _ _ ?_);clear b K
    obtain ⟨Q,j,r⟩:∃Q:Int,(S=0->Q=old+1 - L)/\(S=1->Q=old):=⟨if S=0 then old+1 - L else old,fun e=>by simp[e],fun e=>by simp[e]⟩
    refine kq a (qt Mu st c wt it old (some Q) sv aw G) ?_ ?_
    ·rcases cS with rfl|rfl
     ·have b4:dR old 4=0:=hw.a4
      have o1:iV old 1=Q:=by rw[j rfl,hw.o1];omega
      clear j r
      repeat refine ax (a _) ?_
      refine aX a fun K b=>?_
      refine ai.bx (hJ _ rfl) 3 (n:=0) _ rfl rfl ?_;simp only[*,go_sem,-b,-a,-hJ]
      refine ai.nil a (b _ _ _ ?_);clear b K
      repeat refine ax (a _) ?_
      refine cU (a _) (by simp only[*,go_sem,-a,-hJ]) ?_
      repeat refine ax (a _) ?_
      refine aX a fun K b=>?_
      refine ai.bx (hJ _ rfl) 3 (n:=0) _ rfl rfl ?_;simp only[*,go_sem,-b,-a,-hJ]
      refine ai.nil a (b _ _ _ ?_);clear b K
      exact ep ⟨rfl,(by simp only[*,go_sem,-a,-hJ]),(by simp only[*,go_sem,-a,-hJ]),(by simp only[*,go_sem,-a,-hJ]),(by simp only[*,go_sem,-a,-hJ]),(by simp only[*,go_sem,-a,-hJ]),(by simp only[*,go_sem,-a,-hJ]),fun y g=>by cases g;simp only[*,go_sem,-a,-hJ],(by simp only[*,go_sem,-a,-hJ]),(by simp only[*,go_sem,-a,-hJ]),rfl⟩
     ·have b4:dR old 4=4:=hw.a4
      obtain rfl:=r rfl
      clear j r
      repeat refine ax (a _) ?_
      refine aX a fun K b=>?_
      refine ai.bx (hJ _ rfl) 3 (n:=0) _ rfl rfl ?_;simp only[*,go_sem,-b,-a,-hJ]
      refine ai.nil a (b _ _ _ ?_);clear b K
      repeat refine ax (a _) ?_
      refine cA (a _) (by simp only[*,go_sem,-a,-hJ]) ?_
      refine cD (a _) ?_
      exact ep ⟨rfl,(by simp only[*,go_sem,-a,-hJ]),(by simp only[*,go_sem,-a,-hJ]),(by simp only[*,go_sem,-a,-hJ]),(by simp only[*,go_sem,-a,-hJ]),(by simp only[*,go_sem,-a,-hJ]),(by simp only[*,go_sem,-a,-hJ]),fun y g=>by cases g;simp only[*,go_sem,-a,-hJ],(by simp only[*,go_sem,-a,-hJ]),(by simp only[*,go_sem,-a,-hJ]),rfl⟩
    clear f k o z D I d hd
    rintro A c ab ⟨rfl,f,k,o,z,D,I,q,d,hd,rfl⟩
    replace q:=q _ rfl
    obtain ⟨R,x,E⟩:∃R:Int,(S=1\/L=1->R=Q+8)/\(S=0->L=0->R=Q):=⟨if S=1\/L=1 then Q+8 else Q,fun e=>by simp[e],fun e cf=>by simp[e,cf]⟩
    refine kq a (qt Mu st c wt it old (some R) sv aw G) ?_ ?_
    ·by_cases Y:S=1\/L=1
     ·have b5:=hw.a5
      have cd:(((4*S+L:Nat):Int) != 0)=true:=by simp;omega
      have fs:IntKind.i32.wrap (Q+8)=R:=by
       have e0:=hw.st.eq
       rw[x Y]
       refine iw ?_ ?_<;>rcases cS with rfl|rfl<;>first|(have:=j rfl;omega)|(have:=r rfl;omega)
      clear j r x E Y
      repeat refine ax (a _) ?_
      refine aX a fun K b=>?_
      refine ai.bx (hJ _ rfl) 3 (n:=0) _ rfl rfl ?_;simp only[*,go_sem,-b,-a,-hJ]
      refine ai.nil a (b _ _ _ ?_);clear b K
      repeat refine ax (a _) ?_
      refine cU (a _) (by simp only[*,go_sem,-a,-hJ]) ?_
      repeat refine ax (a _) ?_
      refine aX a fun K b=>?_
      refine ai.bx (hJ _ rfl) 3 (n:=0) _ rfl rfl ?_;simp only[*,go_sem,-b,-a,-hJ]
      refine ai.nil a (b _ _ _ ?_);clear b K
      exact ep ⟨rfl,(by simp only[*,go_sem,-a,-hJ]),(by simp only[*,go_sem,-a,-hJ]),(by simp only[*,go_sem,-a,-hJ]),(by simp only[*,go_sem,-a,-hJ]),(by simp only[*,go_sem,-a,-hJ]),(by simp only[*,go_sem,-a,-hJ]),fun y g=>by cases g;simp only[*,go_sem,-a,-hJ],(by simp only[*,go_sem,-a,-hJ]),(by simp only[*,go_sem,-a,-hJ]),rfl⟩
     ·obtain rfl:S=0:=by omega
      obtain rfl:L=0:=by omega
      have b5:dR old 5=0:=hw.a5
      obtain rfl:=E rfl rfl
      clear j r x E Y
      repeat refine ax (a _) ?_
      refine aX a fun K b=>?_
      refine ai.bx (hJ _ rfl) 3 (n:=0) _ rfl rfl ?_;simp only[*,go_sem,-b,-a,-hJ]
      refine ai.nil a (b _ _ _ ?_);clear b K
      repeat refine ax (a _) ?_
      refine cA (a _) (by simp only[*,go_sem,-a,-hJ]) ?_
      refine cD (a _) ?_
      exact ep ⟨rfl,(by simp only[*,go_sem,-a,-hJ]),(by simp only[*,go_sem,-a,-hJ]),(by simp only[*,go_sem,-a,-hJ]),(by simp only[*,go_sem,-a,-hJ]),(by simp only[*,go_sem,-a,-hJ]),(by simp only[*,go_sem,-a,-hJ]),fun y g=>by cases g;simp only[*,go_sem,-a,-hJ],(by simp only[*,go_sem,-a,-hJ]),(by simp only[*,go_sem,-a,-hJ]),rfl⟩
    clear f k o z D I q d hd
    rintro A c ab ⟨rfl,f,k,o,z,D,I,q,d,hd,rfl⟩
    replace q:=q _ rfl
    obtain ⟨M,N,u⟩:∃M:Int,(sv=true->L=1->M=R+4)/\(¬(sv=true/\L=1)->M=R):=⟨if sv=true/\L=1 then R+4 else R,fun e cf=>by simp[e,cf],fun e=>by simp[e]⟩
    refine kq a (qt Mu st c wt it old (some M) sv aw G) ?_ ?_
    ·cases sv
     ·obtain rfl:=u (by simp)
      clear j r x E N u
      repeat refine ax (a _) ?_
      refine aX a fun K b=>?_
      refine ai.bx (hJ _ rfl) 6 (n:=0) _ rfl rfl ?_;simp only[*,go_sem,-b,-a,-hJ]
      refine ai.nil a (b _ _ _ ?_);clear b K
      repeat refine ax (a _) ?_
      refine cA (a _) (by simp only[*,go_sem,-a,-hJ]) ?_
      refine cD (a _) ?_
      exact ep ⟨rfl,(by simp only[*,go_sem,-a,-hJ]),(by simp only[*,go_sem,-a,-hJ]),(by simp only[*,go_sem,-a,-hJ]),(by simp only[*,go_sem,-a,-hJ]),(by simp only[*,go_sem,-a,-hJ]),(by simp only[*,go_sem,-a,-hJ]),fun y g=>by cases g;simp only[*,go_sem,-a,-hJ],(by simp only[*,go_sem,-a,-hJ]),(by simp only[*,go_sem,-a,-hJ]),rfl⟩
     ·obtain rfl:aw=true:=V rfl
      rcases a7 with rfl|rfl
      ·have eb:dR old 1=0:=hw.a1
       obtain rfl:=u (by simp)
       clear j r x E N u
       repeat refine ax (a _) ?_
       refine aX a fun K b=>?_
       refine ai.bx (hJ _ rfl) 6 (n:=0) _ rfl rfl ?_;simp only[*,go_sem,-b,-a,-hJ]
       refine ai.nil a (b _ _ _ ?_);clear b K
       repeat refine ax (a _) ?_
       refine cA (a _) (by simp only[*,go_sem,-a,-hJ]) ?_
       refine cD (a _) ?_
       exact ep ⟨rfl,(by simp only[*,go_sem,-a,-hJ]),(by simp only[*,go_sem,-a,-hJ]),(by simp only[*,go_sem,-a,-hJ]),(by simp only[*,go_sem,-a,-hJ]),(by simp only[*,go_sem,-a,-hJ]),(by simp only[*,go_sem,-a,-hJ]),fun y g=>by cases g;simp only[*,go_sem,-a,-hJ],(by simp only[*,go_sem,-a,-hJ]),(by simp only[*,go_sem,-a,-hJ]),rfl⟩
      ·have eb:dR old 1=1:=hw.a1
       have o4:iV R 4=M:=by
        have e0:=hw.st.eq
        obtain ⟨rfl,rfl⟩:=X rfl
        have e1:=j rfl
        have e2:=x (.inr rfl)
        rw[N rfl rfl,(wd (C:=C+1) (S:=0) (W:=1) (L:=1) ⟨by omega,by omega,by omega,by omega⟩ (by omega)).o4]
        omega
       clear j r x E N u
       repeat refine ax (a _) ?_
       refine aX a fun K b=>?_
       refine ai.bx (hJ _ rfl) 6 (n:=0) _ rfl rfl ?_;simp only[*,go_sem,-b,-a,-hJ]
       refine ai.nil a (b _ _ _ ?_);clear b K
       repeat refine ax (a _) ?_
       refine cU (a _) (by simp only[*,go_sem,-a,-hJ]) ?_
       repeat refine ax (a _) ?_
       refine aX a fun K b=>?_
       refine ai.bx (hJ _ rfl) 3 (n:=0) _ rfl rfl ?_;simp only[*,go_sem,-b,-a,-hJ]
       refine ai.nil a (b _ _ _ ?_);clear b K
       exact ep ⟨rfl,(by simp only[*,go_sem,-a,-hJ]),(by simp only[*,go_sem,-a,-hJ]),(by simp only[*,go_sem,-a,-hJ]),(by simp only[*,go_sem,-a,-hJ]),(by simp only[*,go_sem,-a,-hJ]),(by simp only[*,go_sem,-a,-hJ]),fun y g=>by cases g;simp only[*,go_sem,-a,-hJ],(by simp only[*,go_sem,-a,-hJ]),(by simp only[*,go_sem,-a,-hJ]),rfl⟩
    clear f k o z D I q d hd
    rintro A c ab ⟨rfl,f,k,o,z,D,I,q,d,hd,rfl⟩
    replace q:=q _ rfl
    obtain ⟨ae,T,U⟩:∃ae:Int,(aw=true->ae=M - 2)/\(aw=false->ae=M):=⟨if aw then M - 2 else M,fun e=>by simp[e],fun e=>by simp[e]⟩
    refine kq a (qt Mu st c wt it old (some ae) sv aw G) ?_ ?_
    ·cases aw
     ·obtain rfl:=U rfl
      clear j r x E N u T U
      repeat refine ax (a _) ?_
      refine aX a fun K b=>?_
      refine ai.bx (hJ _ rfl) 1 (n:=0) _ rfl rfl ?_;simp only[*,go_sem,-b,-a,-hJ]
      refine ai.nil a (b _ _ _ ?_);clear b K
      repeat refine ax (a _) ?_
      refine cA (a _) (by simp only[*,go_sem,-a,-hJ]) ?_
      refine cD (a _) ?_
      exact ep ⟨rfl,(by simp only[*,go_sem,-a,-hJ]),(by simp only[*,go_sem,-a,-hJ]),(by simp only[*,go_sem,-a,-hJ]),(by simp only[*,go_sem,-a,-hJ]),(by simp only[*,go_sem,-a,-hJ]),(by simp only[*,go_sem,-a,-hJ]),fun y g=>by cases g;simp only[*,go_sem,-a,-hJ],(by simp only[*,go_sem,-a,-hJ]),(by simp only[*,go_sem,-a,-hJ]),rfl⟩
     ·obtain ⟨rfl,rfl⟩:=X rfl
      have ad:∃P al,Wd M P al 1 1:=by
       have e0:=hw.st.eq
       have e1:=j rfl
       rcases a7 with rfl|rfl
       ·have e2:=E rfl rfl
        have ar:=u (by simp)
        exact ⟨C,0,wd ⟨by omega,by omega,by omega,by omega⟩ (by omega)⟩
       ·have e2:=x (.inr rfl)
        cases sv
        ·have ar:=u (by simp)
         exact ⟨C+1,0,wd ⟨by omega,by omega,by omega,by omega⟩ (by omega)⟩
        ·have ar:=N rfl rfl
         exact ⟨C+1,1,wd ⟨by omega,by omega,by omega,by omega⟩ (by omega)⟩
      obtain ⟨P,al,ad⟩:=ad
      have b2:dR M 2=2:=ad.a2
      have n2:qn M 2=ae:=by rw[T rfl,ad.n2];rfl
      clear j r x E N u T U
      repeat refine ax (a _) ?_
      refine aX a fun K b=>?_
      refine ai.bx (hJ _ rfl) 1 (n:=0) _ rfl rfl ?_;simp only[*,go_sem,-b,-a,-hJ]
      refine ai.nil a (b _ _ _ ?_);clear b K
      repeat refine ax (a _) ?_
      refine cU (a _) (by simp only[*,go_sem,-a,-hJ]) ?_
      repeat refine ax (a _) ?_
      refine aX a fun K b=>?_
      refine ai.bx (hJ _ rfl) 3 (n:=0) _ rfl rfl ?_;simp only[*,go_sem,-b,-a,-hJ]
      refine ai.nil a (b _ _ _ ?_);clear b K
      repeat refine ax (a _) ?_
      refine cA (a _) (by simp only[*,go_sem,-a,-hJ]) ?_
      refine cD (a _) ?_
      repeat refine ax (a _) ?_
      refine aX a fun K b=>?_
      refine ai.bx (hJ _ rfl) 3 (n:=0) _ rfl rfl ?_;simp only[*,go_sem,-b,-a,-hJ]
      refine ai.nil a (b _ _ _ ?_);clear b K
      exact ep ⟨rfl,(by simp only[*,go_sem,-a,-hJ]),(by simp only[*,go_sem,-a,-hJ]),(by simp only[*,go_sem,-a,-hJ]),(by simp only[*,go_sem,-a,-hJ]),(by simp only[*,go_sem,-a,-hJ]),(by simp only[*,go_sem,-a,-hJ]),fun y g=>by cases g;simp only[*,go_sem,-a,-hJ],(by simp only[*,go_sem,-a,-hJ]),(by simp only[*,go_sem,-a,-hJ]),rfl⟩
    clear f k o z D I q d hd
    rintro A c ab ⟨rfl,f,k,o,z,D,I,q,d,hd,rfl⟩
    replace q:=q _ rfl
    repeat refine ax (a _) ?_
    refine aX a fun K b=>?_
    refine ai.bx (hJ _ rfl) 5 (n:=1) _ rfl rfl ?_;simp only[*,go_sem,-b,-a,-hJ]
    refine s8 old ae s4 aE ⟨_,_,_,rfl,(by first|(simp only[*,go_sem,-b,-a,-hJ];done)|rfl),rfl,by first|(simp only[*,go_sem,-b,-a,-hJ];done)|(simp only[*,go_sem,-b,-a,-hJ];rfl),rfl⟩ (by rfl) (by simp) (fun φ ms bz ao bS Z p he hi hm=>?_) (fun φ mu ms bz ao bS Z p he hi hm df=>?_)
    ·obtain ⟨rfl,rfl,rfl,rfl⟩:=hm.st.uniq hw.st
     by_cases Y:ao=0/\Z=0
     ·obtain ⟨rfl,rfl⟩:=Y
      have O:ae=old+1 - (if aw then 2 else 0):=by
       have e1:=j rfl
       have e2:=E rfl rfl
       have ar:=u (by simp)
       cases aw
       ·have O:=U rfl
        simp;omega
       ·have O:=T rfl
        simp;omega
      have b5:dR old 5=0:=hw.a5
      refine ⟨.held,by rw[O];exact ⟨_,_,_,_,p,Ig hm hi _ (by rw[he]) rfl rfl rfl (fun e=>(X e).2)⟩,?_⟩
      clear j r x E N u T U O he hi hm V X cS a7 bd
      refine ai.nil a (b _ _ _ ?_);clear b K
      repeat refine ax (a _) ?_
      refine cU (a _) (by simp only[*,go_sem,-a,-hJ]) ?_
      repeat refine ax (a _) ?_
      refine aX a fun K b=>?_
      refine ai.bx (hJ _ rfl) 3 (n:=0) _ rfl rfl ?_;simp only[*,go_sem,-b,-a,-hJ]
      refine ai.nil a (b _ _ _ ?_);clear b K
      repeat refine ax (a _) ?_
      refine cU (a _) (by simp only[*,go_sem,-a,-hJ]) ?_
      refine oh ?_
      change tf Mu st c _ _ _
      exact ⟨rfl,(by simp only[*,go_sem,-a,-hJ]),(by simp only[*,go_sem,-a,-hJ]),(by simp only[*,go_sem,-a,-hJ]),rfl⟩
     ·have cl:ao=1\/Z=1:=by omega
      have O:ae=old+8+(if sv then 4 else 0) - (if aw then 2 else 0):=by
       have e2:=x cl
       rcases cS with rfl|rfl
       ·have e1:=j rfl
        obtain rfl:Z=1:=by omega
        cases sv
        ·have ar:=u (by simp)
         cases aw
         ·have O:=U rfl
          simp;omega
         ·have O:=T rfl
          simp;omega
        ·obtain rfl:aw=true:=V rfl
         have ar:=N rfl rfl
         have O:=T rfl
         simp;omega
       ·have ec:aw=false:=by
         cases aw
         ·rfl
         ·exact absurd (X rfl).1 (by omega)
        subst ec
        have ed:sv=false:=by
         cases sv
         ·rfl
         ·exact absurd (V rfl) (by simp)
        subst ed
        have e1:=r rfl
        have ar:=u (by simp)
        have O:=U rfl
        simp;omega
      have dk:sv=true->aw=true/\Z=1:=fun e=>⟨V e,by have:=X (V e);omega⟩
      have dp:bJ n φ ms<=G:=(hm.seen i hi (some old) G (by rw[he];rfl)).1
      have b5:=hw.a5
      have cd:(((4*ao+Z:Nat):Int)==0)=false:=by simp;omega
      refine ⟨.ir (bJ n φ ms),by rw[O];exact ⟨_,_,_,_,p,Ih hm hi _ (by rw[he]) rfl cl dk⟩,?_⟩
      clear j r x E N u T U O he hi hm V X cS a7 bd Y cl dk
      revert dp
      generalize bJ n φ ms=B
      intro dp
      refine ai.nil a (b _ _ _ ?_);clear b K
      repeat refine ax (a _) ?_
      refine cU (a _) (by simp only[*,go_sem,-a,-hJ]) ?_
      repeat refine ax (a _) ?_
      refine aX a fun K b=>?_
      refine ai.bx (hJ _ rfl) 3 (n:=0) _ rfl rfl ?_;simp only[*,go_sem,-b,-a,-hJ]
      refine ai.nil a (b _ _ _ ?_);clear b K
      repeat refine ax (a _) ?_
      refine cA (a _) (by simp only[*,go_sem,-a,-hJ]) ?_
      refine cD (a _) ?_
      repeat refine ax (a _) ?_
      refine aX a fun K b=>?_
      refine ai.bx (hJ _ rfl) 3 (n:=0) _ rfl rfl ?_;simp only[*,go_sem,-b,-a,-hJ]
      refine ai.nil a (b _ _ _ ?_);clear b K
      repeat refine ax (a _) ?_
      refine aX a fun K b=>?_
      refine ai.bx (hJ _ rfl) 2 (n:=0) _ rfl rfl ?_;simp only[*,go_sem,-b,-a,-hJ]
      refine ai.nil a (b _ _ _ ?_);clear b K
      first|refine kq a (CK Mu st c sv (.ir B)) ?_ ?_|refine tc a (CK Mu st c sv (.ir B)) ?_ ?_
      ·cases ft:(wt==0)
       ·repeat refine ax (a _) ?_
        refine cA (a _) (by simp only[*,go_sem,-a,-hJ]) ?_
        refine cD (a _) ?_
        exact ep ⟨wt,rfl,(by simp only[*,go_sem,-a,-hJ]),(by simp only[*,go_sem,-a,-hJ]),(by simp only[*,go_sem,-a,-hJ]),(by simp only[*,go_sem,-a,-hJ]),(by simp only[*,go_sem,-a,-hJ]),rfl⟩
       ·repeat refine ax (a _) ?_
        refine cU (a _) (by simp only[*,go_sem,-a,-hJ]) ?_
        repeat refine ax (a _) ?_
        refine aX a fun K b=>?_
        refine CJ Cw CC ⟨_,_,_,rfl,(by first|(simp only[*,go_sem,-b,-a,-hJ];done)|rfl),rfl,by first|(simp only[*,go_sem,-b,-a,-hJ];done)|(simp only[*,go_sem,-b,-a,-hJ];rfl),rfl⟩ (by simp) fun t=>?_
        refine ai.bx (hJ _ rfl) 1 (n:=0) _ rfl rfl ?_;simp only[*,go_sem,-b,-a,-hJ]
        refine ai.nil a (b _ _ _ ?_);clear b K
        exact ep ⟨t,rfl,(by simp only[*,go_sem,-a,-hJ]),(by simp only[*,go_sem,-a,-hJ]),(by simp only[*,go_sem,-a,-hJ]),(by simp only[*,go_sem,-a,-hJ]),(by simp only[*,go_sem,-a,-hJ]),rfl⟩
      clear f k o z D I q d hd b5 cd
      rintro A c ab ⟨dq,rfl,f,k,o,d,hd,rfl⟩
      repeat refine ax (a _) ?_
      refine aX a fun K b=>?_
      refine ai.bx (hJ _ rfl) 4 (n:=1) _ rfl rfl ?_;simp only[*,go_sem,-b,-a,-hJ]
      refine Jf (slot A 8) (.int .i64 2) IY aE ⟨_,_,_,rfl,(by first|(simp only[*,go_sem,-b,-a,-hJ];done)|rfl),rfl,by first|(simp only[*,go_sem,-b,-a,-hJ];done)|(simp only[*,go_sem,-b,-a,-hJ];rfl),rfl⟩ (by rfl) rfl ?_
      refine ai.nil a (b _ _ _ ?_);clear b K
      first|refine kq a (CL Mu st c (.jx B)) ?_ ?_|refine tc a (CL Mu st c (.jx B)) ?_ ?_
      ·cases sv
       ·repeat refine ax (a _) ?_
        refine aX a fun K b=>?_
        refine ai.bx (hJ _ rfl) 2 (n:=6) _ rfl rfl ?_;simp only[*,go_sem,-b,-a,-hJ]
        refine CJ Cw CC ⟨_,_,_,rfl,(by first|(simp only[*,go_sem,-b,-a,-hJ];done)|rfl),rfl,by first|(simp only[*,go_sem,-b,-a,-hJ];done)|(simp only[*,go_sem,-b,-a,-hJ];rfl),rfl⟩ (by simp) fun t=>?_
        refine ai.bx (hJ _ rfl) 5 (n:=0) _ rfl rfl ?_;simp only[*,go_sem,-b,-a,-hJ]
        refine ai.nil a (b _ _ _ ?_);clear b K
        exact ep ⟨dq,_,rfl,(by simp only[*,go_sem,-a,-hJ]),(by simp only[*,go_sem,-a,-hJ]),(by simp only[*,go_sem,-a,-hJ];rfl),(by simp only[*,go_sem,-a,-hJ]),(by simp only[*,go_sem,-a,-hJ]),rfl⟩
       ·repeat refine ax (a _) ?_
        refine aX a fun K b=>?_
        refine ai.bx (hJ _ rfl) 8 (n:=0) _ rfl rfl ?_;simp only[*,go_sem,-b,-a,-hJ]
        refine ai.nil a (b _ _ _ ?_);clear b K
        exact ep ⟨dq,true,rfl,(by simp only[*,go_sem,-a,-hJ]),(by simp only[*,go_sem,-a,-hJ]),(by simp only[*,go_sem,-a,-hJ]),(by simp only[*,go_sem,-a,-hJ]),(by simp only[*,go_sem,-a,-hJ]),rfl⟩
      clear f k o d hd
      rintro A c ab ⟨eh,ds,rfl,f,k,o,d,hd,rfl⟩
      repeat refine ax (a _) ?_
      refine aX a fun K b=>?_
      refine ai.bx (hJ _ rfl) 3 (n:=2) _ rfl rfl ?_;simp only[*,go_sem,-b,-a,-hJ]
      refine ot s5 oo ⟨_,rfl,(by first|(simp only[*,go_sem,-b,-a,-hJ];done)|rfl),rfl,rfl⟩ (by rfl) (by simp only[*,go_sem,-b,-a,-hJ]) (fun φ mu ms H ba cy c0 bm he hi hm=>?_)
      have dt:H<=3*n:=hm.bound
      have a0:=wd hm.st (by omega)
      rcases (by have:=hm.st.s;omega:ba=0\/ba=1) with rfl|rfl
      ·obtain ⟨J,rfl,da⟩:=Ij hm hi {mp:=.want true mu (bJ n φ ms),gp:=.cnt,stored:=st,deaf:=1} (by rw[he]) rfl rfl
       have fu:bJ n φ ms<B:=da
       refine ⟨.want true mu (bJ n φ ms),⟨_,_,_,_,bm,J⟩,?_⟩
       have b4:dR mu 4=0:=a0.a4
       clear J da
       refine ai.bx (hJ _ rfl) 1 (n:=0) _ rfl rfl ?_;simp only[*,go_sem,-b,-a,-hJ]
       refine ai.nil a (b _ _ _ ?_);clear b K
       repeat refine ax (a _) ?_
       refine aX a fun K b=>?_
       refine ai.bx (hJ _ rfl) 3 (n:=0) _ rfl rfl ?_;simp only[*,go_sem,-b,-a,-hJ]
       refine ai.nil a (b _ _ _ ?_);clear b K
       repeat refine ax (a _) ?_
       refine cA (a _) (by simp only[*,go_sem,-a,-hJ]) ?_
       refine cD (a _) ?_
       repeat refine ax (a _) ?_
       refine aX a fun K b=>?_
       refine ai.bx (hJ _ rfl) 1 (n:=0) _ rfl rfl ?_;simp only[*,go_sem,-b,-a,-hJ]
       refine ai.nil a (b _ _ _ ?_);clear b K
       repeat refine ax (a _) ?_
       refine aX a fun K b=>?_
       refine ai.bx (hJ _ rfl) 1 (n:=0) _ rfl rfl ?_;simp only[*,go_sem,-b,-a,-hJ]
       refine ai.nil a (b _ _ _ ?_);clear b K
       change ∃p,p<m/\td Mu n st c p _ _ _
       exact ⟨8*bJ n φ ms+5,by omega,eh,0,mu,ds,true,H,0,1,c0,bJ n φ ms,rfl,(by simp only[*,go_sem,-a,-hJ]),(by simp only[*,go_sem,-a,-hJ]),(by simp only[*,go_sem,-a,-hJ]),(by simp only[*,go_sem,-a,-hJ]),(by simp only[*,go_sem,-a,-hJ]),(by simp only[*,go_sem,-a,-hJ]),(by simp only[*,go_sem,-a,-hJ]),(by simp only[*,go_sem,-a,-hJ]),a0,dt,by omega,by omega,fun _=>rfl,fun _=>⟨rfl,rfl⟩,by simp,rfl⟩
      ·obtain ⟨J,rfl,rfl,et⟩:=Ik hm hi {mp:=.kg (decide (2<=H)),gp:=.cnt,stored:=st,deaf:=1} (by rw[he]) rfl rfl
       refine ⟨.kg (decide (2<=H)),⟨_,_,_,_,bm,J⟩,?_⟩
       have b4:dR mu 4=4:=a0.a4
       have b3:dR mu 3=0:=a0.a3
       have br:((H:Int)==0)=false:=by simp;omega
       have db:=a0.sh
       obtain ⟨y,g⟩:∃y,decide (2<=H)=y:=⟨_,rfl⟩
       have a6:((H:Int)==1)=false->y=true:=fun e=>by rw[<-g];simp at e ⊢;omega
       rw[g]
       clear J he hi hm a0 dt et g
       refine ai.bx (hJ _ rfl) 1 (n:=0) _ rfl rfl ?_;simp only[*,go_sem,-b,-a,-hJ]
       refine ai.nil a (b _ _ _ ?_);clear b K
       repeat refine ax (a _) ?_
       refine aX a fun K b=>?_
       refine ai.bx (hJ _ rfl) 3 (n:=0) _ rfl rfl ?_;simp only[*,go_sem,-b,-a,-hJ]
       refine ai.nil a (b _ _ _ ?_);clear b K
       repeat refine ax (a _) ?_
       refine cU (a _) (by simp only[*,go_sem,-a,-hJ]) ?_
       repeat refine ax (a _) ?_
       refine aX a fun K b=>?_
       refine ai.bx (hJ _ rfl) 5 (n:=3) _ rfl rfl ?_;simp only[*,go_sem,-b,-a,-hJ]
       refine ai.mQ mu (H:Int) (a _) ⟨_,rfl,(by first|(simp only[*,go_sem,-b,-a,-hJ];done)|rfl),rfl,rfl⟩ (by simp only[*,go_sem,-b,-a,-hJ]) (by simp only[*,go_sem,-b,-a,-hJ]) db ?_
       refine ai.bx (hJ _ rfl) 2 (n:=0) _ rfl rfl ?_;simp only[*,go_sem,-b,-a,-hJ]
       refine ai.nil a (b _ _ _ ?_);clear b K
       repeat refine ax (a _) ?_
       refine cA (a _) (by simp only[*,go_sem,-a,-hJ]) ?_
       refine cD (a _) ?_
       repeat refine ax (a _) ?_
       refine aX a fun K b=>?_
       refine ai.bx (hJ _ rfl) 1 (n:=0) _ rfl rfl ?_;simp only[*,go_sem,-b,-a,-hJ]
       refine ai.nil a (b _ _ _ ?_);clear b K
       repeat refine ax (a _) ?_
       refine tc a (Jo Mu st c y) ?_ ?_
       ·cases ds
        ·repeat refine ax (a _) ?_
         refine aX a fun K b=>?_
         refine ai.bx (hJ _ rfl) 7 (n:=0) _ rfl rfl ?_;simp only[*,go_sem,-b,-a,-hJ]
         refine ai.nil a (b _ _ _ ?_);clear b K
         exact ep ⟨true,rfl,(by simp only[*,go_sem,-a,-hJ]),(by simp only[*,go_sem,-a,-hJ]),(by simp only[*,go_sem,-a,-hJ]),(by simp only[*,go_sem,-a,-hJ]),(by simp only[*,go_sem,-a,-hJ]),by simp,rfl⟩
        ·repeat refine ax (a _) ?_
         refine aX a fun K b=>?_
         refine ai.bx (hJ _ rfl) 4 (n:=3) _ rfl rfl ?_;simp only[*,go_sem,-b,-a,-hJ]
         refine ai.mQ mu (H:Int) (a _) ⟨_,rfl,(by first|(simp only[*,go_sem,-b,-a,-hJ];done)|rfl),rfl,rfl⟩ (by simp only[*,go_sem,-b,-a,-hJ]) (by simp only[*,go_sem,-b,-a,-hJ]) db ?_
         refine ai.bx (hJ _ rfl) 2 (n:=0) _ rfl rfl ?_;simp only[*,go_sem,-b,-a,-hJ]
         refine ai.nil a (b _ _ _ ?_);clear b K
         exact ep ⟨(H:Int)==1,rfl,(by simp only[*,go_sem,-a,-hJ]),(by simp only[*,go_sem,-a,-hJ]),(by simp only[*,go_sem,-a,-hJ]),(by simp only[*,go_sem,-a,-hJ]),(by simp only[*,go_sem,-a,-hJ]),a6,rfl⟩
       clear f k o d hd b4 b3 br db a6
       rintro A c ab ⟨e,rfl,f,fv,fw,d,hd,a6,rfl⟩
       cases e
       ·obtain rfl:=a6 rfl
        clear a6
        repeat refine ax (a _) ?_
        refine cA (a _) (by simp only[*,go_sem,-a,-hJ]) ?_
        refine cD (a _) ?_
        repeat refine ax (a _) ?_
        refine aX a fun K b=>?_
        refine ai.bx (hJ _ rfl) 4 (n:=1) _ rfl rfl ?_;simp only[*,go_sem,-b,-a,-hJ]
        refine xZ (-7) xN aE ⟨_,_,_,rfl,(by first|(simp only[*,go_sem,-b,-a,-hJ];done)|rfl),rfl,by first|(simp only[*,go_sem,-b,-a,-hJ];done)|(simp only[*,go_sem,-b,-a,-hJ];rfl),rfl⟩ (by rfl) (by simp) (fun φ mu ms P al bl b0 b1 he hi hm=>⟨.held,_,?_,⟨_,_,_,_,_,B6 hm hi {mp:=.held,gp:=.cnt,stored:=st,deaf:=1} false (by rw[he]) rfl (fun _=>rfl)⟩,?_⟩)
        ·have e0:=hm.st.eq
         have a9:P<=3*n:=hm.bound
         have ev:=hm.st.s
         have eQ:=hm.st.w
         have eS:=hm.st.l
         rw[iw (by omega) (by omega)]
         simp;omega
        refine ai.nil a (b _ _ _ ?_);clear b K
        refine oh ?_
        change tf Mu st c _ _ _
        exact ⟨rfl,(by simp only[*,go_sem,-a,-hJ]),(by simp only[*,go_sem,-a,-hJ]),(by simp only[*,go_sem,-a,-hJ]),rfl⟩
       ·clear a6
        repeat refine ax (a _) ?_
        refine cU (a _) (by simp only[*,go_sem,-a,-hJ]) ?_
        repeat refine ax (a _) ?_
        refine aX a fun K b=>?_
        refine ai.bx (hJ _ rfl) 3 (n:=0) _ rfl rfl ?_;simp only[*,go_sem,-b,-a,-hJ]
        refine ai.nil a (b _ _ _ ?_);clear b K
        repeat refine ax (a _) ?_
        refine aX a fun K b=>?_
        refine ai.bx (hJ _ rfl) 4 (n:=1) _ rfl rfl ?_;simp only[*,go_sem,-b,-a,-hJ]
        refine xZ (-11) xN aE ⟨_,_,_,rfl,(by first|(simp only[*,go_sem,-b,-a,-hJ];done)|rfl),rfl,by first|(simp only[*,go_sem,-b,-a,-hJ];done)|(simp only[*,go_sem,-b,-a,-hJ];rfl),rfl⟩ (by rfl) (by simp) (fun φ mu ms P al bl b0 b1 he hi hm=>⟨.held,_,?_,⟨_,_,_,_,_,B6 hm hi {mp:=.held,gp:=.cnt,stored:=st,deaf:=1} true (by rw[he]) rfl (by simp)⟩,?_⟩)
        ·have e0:=hm.st.eq
         have a9:P<=3*n:=hm.bound
         have ev:=hm.st.s
         have eQ:=hm.st.w
         have eS:=hm.st.l
         rw[iw (by omega) (by omega)]
         simp;omega
        refine ai.nil a (b _ _ _ ?_);clear b K
        refine oh ?_
        change tf Mu st c _ _ _
        exact ⟨rfl,(by simp only[*,go_sem,-a,-hJ]),(by simp only[*,go_sem,-a,-hJ]),(by simp only[*,go_sem,-a,-hJ]),rfl⟩
    ·obtain ⟨J,a8,bj⟩:=sS hm hi {mp:=.want aw mu (bJ n φ ms),gp:=.cnt,stored:=st,deaf:=1} (by rw[he]) rfl
     have da:bJ n φ ms<G:=bj df
     refine ⟨.want aw mu (bJ n φ ms),⟨_,_,_,_,p,J⟩,?_⟩
     clear j r x E N u T U J a8 bj he hi hm X cS a7 bd
     refine ai.nil a (b _ _ _ ?_);clear b K
     repeat refine ax (a _) ?_
     refine cA (a _) (by simp only[*,go_sem,-a,-hJ]) ?_
     repeat refine ax (a _) ?_
     refine aX a fun K b=>?_
     refine ai.bx (hJ _ rfl) 3 (n:=2) _ rfl rfl ?_;simp only[*,go_sem,-b,-a,-hJ]
     refine ot s5 oo ⟨_,rfl,(by first|(simp only[*,go_sem,-b,-a,-hJ];done)|rfl),rfl,rfl⟩ (by rfl) (by simp only[*,go_sem,-b,-a,-hJ]) (fun bb dd bc H ba cy c0 bm du dv bo=>?_)
     obtain ⟨ca,dC,_⟩:=sS bo dv {mp:=.want aw dd (bJ n bb bc),gp:=.cnt,stored:=st,deaf:=1} (by rw[du]) rfl
     have fx:bJ n bb bc<=bJ n φ ms:=dC
     have a9:H<=3*n:=bo.bound
     have ad:=wd bo.st (by omega)
     have cb:aw=true->ba=0/\cy=1:=fun e=>by subst e;exact B5 bo dv (by rw[du])
     refine ⟨.want aw dd (bJ n bb bc),⟨_,_,_,_,bm,ca⟩,?_⟩
     clear ca dC
     refine ai.bx (hJ _ rfl) 1 (n:=0) _ rfl rfl ?_;simp only[*,go_sem,-b,-a,-hJ]
     refine ai.nil a (b _ _ _ ?_);clear b K
     change ∃p,p<m/\td Mu n st c p _ _ _
     exact ⟨8*bJ n bb bc+(5 - it).toNat,by omega,wt,it,dd,sv,aw,H,ba,cy,c0,bJ n bb bc,rfl,(by simp only[*,go_sem,-a,-hJ]),(by simp only[*,go_sem,-a,-hJ]),(by simp only[*,go_sem,-a,-hJ]),(by simp only[*,go_sem,-a,-hJ]),(by simp only[*,go_sem,-a,-hJ]),(by simp only[*,go_sem,-a,-hJ]),(by simp only[*,go_sem,-a,-hJ]),(by simp only[*,go_sem,-a,-hJ]),ad,a9,by omega,by omega,V,cb,Nat.le_refl _,rfl⟩
 ·rintro A F' aK ⟨rfl,f,d,hd,rfl⟩
  repeat refine ax (a _) ?_
  refine cU (a _) (by simp only[*,go_sem,-a,-hJ]) ?_
  repeat refine ax (a _) ?_
  refine aX a fun K b=>?_
  refine s7 lf ⟨_,_,_,rfl,(by first|(simp only[*,go_sem,-b,-a,-hJ];done)|rfl),rfl,by first|(simp only[*,go_sem,-b,-a,-hJ];done)|(simp only[*,go_sem,-b,-a,-hJ];rfl),rfl⟩ (by simp) (by simp) rfl ?_
  refine ai.nil a (b _ _ _ ?_);clear b K
  repeat refine ax (a _) ?_
  refine aX a fun K b=>?_
  refine ai.bx (hJ _ rfl) 1 (n:=2) _ rfl rfl ?_;simp only[*,go_sem,-b,-a,-hJ]
  refine s9 ⟨Mu,0,none⟩ xP lg xR ⟨_,rfl,(by first|(simp only[*,go_sem,-b,-a,-hJ];done)|rfl),rfl,rfl⟩ (by simp) (by simp only[*,go_sem,-b,-a,-hJ]) x2 ?_
  refine CH s3 ⟨_,_,_,rfl,(by first|(simp only[*,go_sem,-b,-a,-hJ];done)|rfl),rfl,by first|(simp only[*,go_sem,-b,-a,-hJ];done)|(simp only[*,go_sem,-b,-a,-hJ];rfl),rfl⟩ (by rfl) ?_
  refine ai.nil a (b _ _ _ ?_);clear b K
  exact k8 rfl (by simp only[*,go_sem,-a,-hJ]) ⟨rfl,rfl,rfl⟩
end
end Go.Proofs.YtpgcmoanfifglaaGreatDoor
end
section
namespace Go.Proofs.YtpgcmoanfifglaaGreatDoor
open Go Go.Sep Go.Proofs Go.Conc
open Go.ConcN (upd upd_same)
open Go.ConcM (muA msA)
open Go.ConcR (stA smA)
set_option maxRecDepth 100000
set_option maxHeartbeats 4000000
attribute [local go_sem] Int.reduceBEq Int.reduceBNe muA msA stA smA
section
variable {Mu Wg Is n base T0 i : Nat} {bs : Nat → Bool} {st : Bool} {F : aa}
theorem Jq (aE:Mu≠Wg/\Mu≠Is/\Wg≠Is)(b:n<67108864):
  cC Tryz.prog (WJ (CY Mu Wg Is n bs base T0) i) 137 #[.pointer (some (muA Mu))] F ⟨.idle,.cnt,st,0⟩ (fun v F' aK=>v= .tuple #[]/\F'=F/\aK=⟨.held,.cnt,st,0⟩):=by
 have a:=WJ.ej (CY Mu Wg Is n bs base T0) i
 have hJ:∀ph:Ph,ph.gp= .cnt->Go.Sep.Closed Tryz.prog false (WJ (CY Mu Wg Is n bs base T0) i ph):=fun ph h=>Wk.closed (CY Mu Wg Is n bs base T0) i ph h
 refine cC.go (main:=false) a Tryz.func137 rfl Tryz.ntmps137 (by simp) fun A d hd hs=>?_
 have e:=hs 0
 clear hs
 repeat refine ax (a _) ?_
 refine cV a ?_
 refine ai.bx (hJ _ rfl) 3 (n:=1) _ rfl rfl ?_;simp only[*,go_sem]
 refine ai.fU (a _) rfl rfl rfl Ew (by simp only[*,go_sem,muA]) (Ji aE (Jp aE b)) fun v F' aK c=>?_
 obtain ⟨rfl,rfl,rfl⟩:=c
 refine ai.nil a ?_
 exact k8 rfl (by simp only[*,go_sem]) ⟨rfl,rfl,rfl⟩
theorem Jr (aE:Mu≠Wg/\Mu≠Is/\Wg≠Is)(b:n<67108864):
  cC Tryz.prog (WJ (CY Mu Wg Is n bs base T0) i) 138 #[.pointer (some (muA Mu))] F ⟨.held,.cnt,st,0⟩ (fun v F' aK=>v= .tuple #[]/\F'=F/\aK=⟨.fin,.cnt,st,0⟩):=by
 have a:=WJ.ej (CY Mu Wg Is n bs base T0) i
 have hJ:∀ph:Ph,ph.gp= .cnt->Go.Sep.Closed Tryz.prog false (WJ (CY Mu Wg Is n bs base T0) i ph):=fun ph h=>Wk.closed (CY Mu Wg Is n bs base T0) i ph h
 refine cC.go (main:=false) a Tryz.func138 rfl Tryz.ntmps138 (by simp) fun A d hd hs=>?_
 have e:=hs 0
 clear hs
 repeat refine ax (a _) ?_
 refine cV a ?_
 refine ai.bx (hJ _ rfl) 3 (n:=1) _ rfl rfl ?_;simp only[*,go_sem]
 refine ai.fU (a _) rfl rfl rfl Ey (by simp only[*,go_sem,muA]) (Jl aE b) fun v F' aK c=>?_
 obtain ⟨rfl,rfl,rfl⟩:=c
 refine ai.nil a ?_
 exact k8 rfl (by simp only[*,go_sem]) ⟨rfl,rfl,rfl⟩
end
end Go.Proofs.YtpgcmoanfifglaaGreatDoor
end
section
namespace Go.Sep
open Go Go.Conc
def tg (op:BinOp)(u v:Value):Option Value:=match op with
 | .shl=>match u,v with
  | .int k a,.int _ b=>if b<0 then none else some (.int k (k.wrap (a*2 ^ min b.toNat k.bits)))
  |_,_=>none
 | .shr=>match u,v with
  | .int k a,.int _ b=>if b<0 then none else some (.int k (a.fdiv (2 ^ min b.toNat k.bits)))
  |_,_=>none
 |_=>mX op u v
def ou (P:Program)(op:Op)(a:Act):Option Value:=match op with
 | .move x| .assign x=>some (ev a x)
 | .nilCheck x=>match ev a x with
  | .pointer (some ad)=>some (.pointer (some ad))
  |_=>none
 | .pick c x y=>match ev a c with
  | .bool b=>some (if b then ev a x else ev a y)
  |_=>none
 | .binOp op t x y _=>tg op (ev a x) (ev a y)
 | .unOp op _ x=>lG op (ev a x)
 | .convert src dst x=>lI P src dst (ev a x)
 | .fieldAddr s x n=>match ev a x with
  | .pointer (some ad)=>match cJ P s n with
   |some k=>some (.pointer (some (ad.add k)))
   |none=>none
  |_=>none
 |_=>none
theorem Js {P:Program}{op:BinOp}{t:TypeId}{x y:Operand}{u v r:Value}(h:tg op u v=some r)(w:World):
  (do eqGuard op t x y u v;pure (.value (<-binOp op t u v)):Sem Next).run P w= .ok (.value r) w/\(do eqGuard op t x y u v;pure (.value (<-binOp op t u v)):Sem Next).events P w #[]=#[]:=by
 unfold tg at h
 split at h
 ·split at h
  case h_2=>cases h
  split at h
  ·cases h
  ·rename_i hb;cases h;simp[eqGuard,binOp,Op.shift,hb]
 ·split at h
  case h_2=>cases h
  split at h
  ·cases h
  ·rename_i hb;cases h;simp[eqGuard,binOp,Op.shift,hb]
 ·rename_i n1 n2
  unfold mX at h
  split at h
  case h_2=>cases h
  rename_i k a d b
  split at h
  case isFalse=>cases h
  rename_i c
  subst c
  cases op<;>simp only[binOp,ne_eq,not_true_eq_false,if_false,Op.intArith,Op.intDiv,Op.intCmp,Op.intBits,Op.shift,eqGuard] at h ⊢<;>first
   |(cases h;done)
   |(exact absurd rfl n1)
   |(exact absurd rfl n2)
   |(cases h;simp;done)
   |(split at h
     ·cases h
     ·rename_i hb;cases h;simp[hb])
theorem CM {P:Program}{o:Oper}{a:Act}{v:Value}(h:ou P o.op a=some v)(w:World):(execOp a.eval o).run P w= .ok (.value v) w/\(execOp a.eval o).events P w #[]=#[]:=by
 obtain ⟨dst,op,type,pos,after,guard⟩:=o;unfold execOp;simp only[er] at h ⊢;unfold ou at h;cases op<;>simp only[reduceCtorEq] at h ⊢
 case move x=>cases h;simp
 case assign x=>cases h;simp
 case nilCheck x=>
  split at h
  ·rename_i ad e;cases h;simp[e]
  ·cases h
 case pick c x y=>
  split at h
  ·rename_i b hb;cases h;simp[hb,asBool]
  ·cases h
 case binOp op t x y r=>have:=Js (P:=P) (t:=t) (x:=x) (y:=y) h w;simpa using this
 case unOp op t x=>
  revert h;cases ev a x<;>cases op<;>simp only[lG,reduceCtorEq,false_implies,Option.some.injEq]<;>intro h<;>subst h<;>simp[Op.unary,Op.intArith]
 case convert src dst x=>
  revert h;cases e:ev a x<;>simp only[lI,reduceCtorEq,false_implies];intro h;split at h
  ·rename_i k1 A i j;cases h;simp[convert,run_underlying i,run_underlying j,Conv.intToInt]
  ·cases h
 case fieldAddr s x n=>
  split at h
  case h_2=>cases h
  rename_i ad l;split at h
  case h_2=>cases h
  rename_i k d;cases h;unfold cJ at d;split at d
  case h_2=>cases d
  rename_i B g;split at d
  case h_2=>cases d
  rename_i f p;split at d
  case h_2=>cases d
  rename_i m hm;cases d;obtain ⟨inf,q,u⟩:=Option.map_eq_some_iff.1 hm;have z:Instr.sureAddr (.pointer (some ad))=(Pure.pure ad:Sem Addr):=rfl;simp[Instr.fieldAt,run_underlying g,g,p,l,z,fieldPlace,Go.sizeOf,typeInfo,q,u,Result.andThen,Result.evThen]
def iB (P:Program)(ops:Array Oper)(K:Act->Prop):List Oper->Act->Prop
 |[],a=>K a
 |o::rest,a=>match cx ops o a with
  |some true=>match ou P o.op a with
   |some v=>iB P ops K rest (bf a o.dst v)
   |none=>False
  |some false=>iB P ops K rest (bf a o.dst undef)
  |none=>False
theorem Jt {P:Program}{ops:Array Oper}{K:Act->Prop}{a:Act}:iB P ops K [] a=K a:=(Eq.refl _).trans (Eq.refl _)
theorem Ju {P:Program}{ops:Array Oper}{K:Act->Prop}{o:Oper}{rest:List Oper}{a:Act}:iB P ops K (o::rest) a=match cx ops o a with
  |some true=>match ou P o.op a with
   |some v=>iB P ops K rest (bf a o.dst v)
   |none=>False
  |some false=>iB P ops K rest (bf a o.dst undef)
  |none=>False:=(Eq.refl _).trans (Eq.refl _)
attribute [go_sem] Jt Ju ou tg
section
variable {P : Program} {main : Bool} {S : Type} {JF : S → Goroutine → aa → Prop} {fi : FuncId} {ops : Array Oper} {F : aa} {ph : S} {Q : Act → aa → S → Prop}
theorem x3 (d:dS P main (JF ph)):∀(l:List Oper) (i n:Nat) (a:Act),(∀j o,l[j]?=some o->ops[i+j]?=some o)->iB P ops (fun b=>ai JF fi ops (i+l.length) n Q b F ph) l a->ai JF fi ops i (l.length+n) Q a F ph
 |[],i,n,a,_,h=>by rw[List.length_nil,Nat.zero_add];exact h
 |o::rest,i,n,a,k,h=>by
  have m:ops[i]?=some o:=k 0 o rfl
  have p:∀j x,rest[j]?=some x->ops[i+1+j]?=some x:=fun j x q=>by rw[Nat.add_assoc,Nat.add_comm 1 j];exact k (j+1) x q
  have e:(o::rest).length+n=(rest.length+n)+1:=by rw[List.length_cons];omega
  have e2:∀b,ai JF fi ops (i+(o::rest).length) n Q b F ph->ai JF fi ops (i+1+rest.length) n Q b F ph:=fun b x=>by
   rw[show i+1+rest.length=i+(o::rest).length by rw[List.length_cons];omega];exact x
  rw[e]
  have mono:∀(l:List Oper) (a:Act) {K f:Act->Prop},(∀a,K a->f a)->iB P ops K l a->iB P ops f l a:=by
   intro l
   induction l with
   |nil=>intro a K f g h;exact g a h
   |cons o l ih=>
    intro a K f g h
    unfold iB at h ⊢
    cases hg:cx ops o a with
    |none=>rw[hg] at h;exact h.elim
    |some t=>
     rw[hg] at h
     cases t with
     |false=>exact ih _ g h
     |true=>
      simp only at h ⊢
      cases c:ou P o.op a with
      |none=>rw[c] at h;exact h.elim
      |some v=>rw[c] at h;exact ih _ g h
  unfold iB at h
  split at h
  ·rename_i hg
   split at h
   ·rename_i v c
    exact ai.plain d v m hg (fun w=>(CM c w).1) (fun w=>(CM c w).2) (x3 d rest (i+1) n _ p (mono _ _ e2 h))
   ·exact h.elim
  ·rename_i hg
   exact ai.skip d m hg (x3 d rest (i+1) n _ p (mono _ _ e2 h))
  ·exact h.elim
theorem ai.pure (d:dS P main (JF ph))(m:Nat){i n:Nat}{a:Act}(l:List Oper)(c:(ops.toList.drop i).take m=l)(hm:l.length=m)(h:iB P ops (fun e=>ai JF fi ops (i+m) n Q e F ph) l a):ai JF fi ops i (m+n) Q a F ph:=by
 subst hm;refine x3 d l i n a (fun j o b=>?_) h;rw[<-c] at b;have f:j<l.length:=by
  rcases Nat.lt_or_ge j l.length with x|x
  ·exact x
  ·rw[c,List.getElem?_eq_none x] at b;cases b
 rw[List.getElem?_take,if_pos f,List.getElem?_drop] at b;simpa using b
end
end Go.Sep
end
section
namespace Go.Sep
open Go Go.Conc
open Go.ConcN (sumTo upd upd_ne upd_same)
open Go.ConcM (MuAt muA msA muBlock OsLater)
open Go.ConcR (WgAt wgBlock stA smA)
section
variable {c : Cy} {i : Nat} {ph : Ph} {ops : Array Oper} {j n : Nat} {Q : Act → aa → Ph → Prop} {a : Act} {F : aa} {f fi : FuncId} {d : Option Tmp}
theorem Inv.group {k:Nat}{φ:Nat->Ph}{p0:P0}{s:Sh}(h:Inv c.n c.bs k φ p0 s)(hi:i<c.n)(he:φ i=ph)(a:ph.gp≠ .new)(b:ph.gp≠ .cnt){gp:Gp}(d:gp≠ .new){wg ws:Int}
  (hw:dz c.n (upd φ i {ph with gp:=gp}) p0 wg ws):Inv c.n c.bs k (upd φ i {ph with gp:=gp}) p0 {s with wg:=wg,ws:=ws}:=by
 obtain ⟨C,S,W,L,m,hm⟩:=h.m
 refine h.jz hi he a d ⟨C,S,W,L,m,mM hm hi _ (.inl (by rw[he]))⟩ hw ?_ (fun _=>?_)
 ·have:=h.i.all i hi
  rw[he] at this
  exact (xX this).symm
 ·have:=h.i.done i hi (by rw[he];exact b) (by rw[he];exact a)
  rw[he] at this
  exact this
theorem Jv (m:Entry c.P f (Extern.Atomic.update (Op.intArith .add) .u64 true))(aE:c.Mu≠c.Wg/\c.Mu≠c.Is/\c.Wg≠c.Is)(H:c.n<67108864)(p:At ops j a f [.pointer (some (stA c.Wg)),.int .u64 18446744069414584320] d)
  (e:ph.gp= .rel) (q:0<ph.deaf)
  (h:∀v t:Nat,v<=c.n->t<=1->ai (WJ c i) fi ops (j+1) n Q (bf a d (.int .u64 ((v:Int)*4294967296+t))) F {ph with gp:=if v=0/\t=1 then .ld else .gone}):
  ai (WJ c i) fi ops j (n+1) Q a F ph:=by
 obtain ⟨o,cv,dh,l,hg,r,u,rfl⟩:=p
 obtain ⟨x,y,rfl,z,A⟩:=qq u
 obtain ⟨fn,f1,f2,f3,f4,f5⟩:=m.ex
 refine fe l (by rw[e];simp) fun w s k φ p0 _ hs hi he g=>.inr ?_
 obtain ⟨v,t,e1,ht,B,_⟩:=B9 g.w hi ph (by rw[he];exact e)
 obtain ⟨C,D,E,I,_,hw⟩:=B9 g.w hi {ph with gp:=if v=0/\t=1 then .ld else .gone} (by rw[he];exact e)
 obtain ⟨rfl,rfl⟩:v=C/\t=D:=by simp only[cR] at e1 E;omega
 have e2:IntKind.u64.wrap (s.wg+18446744069414584320)=(v:Int)*4294967296+t:=by
  rw[e1]
  unfold IntKind.wrap
  simp only[IntKind.bits,IntKind.signed,cR]
  simp
  omega
 have G:s.wg - cR=(v:Int)*4294967296+t:=by rw[e1];simp only[cR];omega
 refine ⟨.int .u64 ((v:Int)*4294967296+t),_,_,{s with wg:=(v:Int)*4294967296+t},{ph with gp:=if v=0/\t=1 then .ld else .gone},fun b J cs hb=>by rw[<-e2];exact stepG_add_atomic l (cc hg) hb.kind r f1 f2 f3 f4 .u64 f5 z A hs.wg.1 hs.wg.2,by rw[<-e2];exact hs.s6 aE _,.set _ (.inr (.inl rfl)),?_,xV rfl ?_ q (.inl rfl),.inr dG,h v t B ht⟩
 ·refine g.group hi he (by rw[e];simp) (by rw[e];simp) (by split<;>simp) ?_
  rw[<-G]
  exact hw rfl
 ·simp only[e];split<;>simp
theorem Jw (m:Entry c.P f (Extern.Atomic.loadT (.int .u64)))(p:At ops j a f [.pointer (some (stA c.Wg))] d)(e:ph.gp= .ld)(q:0<ph.deaf)
  (h:ai (WJ c i) fi ops (j+1) n Q (bf a d (.int .u64 1)) F {ph with gp:=.st}):ai (WJ c i) fi ops j (n+1) Q a F ph:=by
 obtain ⟨o,cv,dh,g,hg,r,t,rfl⟩:=p
 obtain ⟨x,rfl,u⟩:=jD t
 obtain ⟨fn,f1,f2,f3,f4,f5⟩:=m.ex
 refine fe g (by rw[e];simp) fun w s k φ p0 _ hs hi he l=>.inr ?_
 obtain ⟨e1,hw⟩:=Ir l.w hi {ph with gp:=.st} (by rw[he];exact e) rfl
 exact ⟨.int .u64 1,_,_,s,{ph with gp:=.st},fun b v cs hb=>by rw[<-e1];exact stepG_load_atomic g (cc hg) hb.kind r f1 f2 f3 f4 .u64 f5 u hs.wg.1,hs,.refl _ _,l.group hi he (by rw[e];simp) (by rw[e];simp) (by simp) hw,xU false rfl (by simp[e]) q (.inl rfl),.inr dG,h⟩
theorem Jx (m:Entry c.P f Extern.Atomic.storeT)(aE:c.Mu≠c.Wg/\c.Mu≠c.Is/\c.Wg≠c.Is)(p:At ops j a f [.pointer (some (stA c.Wg)),.int .u64 0] d)(e:ph.gp= .st)(q:0<ph.deaf)
  (h:ai (WJ c i) fi ops (j+1) n Q (bf a d (.tuple #[])) F {ph with gp:=.sm}):ai (WJ c i) fi ops j (n+1) Q a F ph:=by
 obtain ⟨o,cv,dh,g,hg,r,t,rfl⟩:=p
 obtain ⟨x,y,rfl,u,v⟩:=qq t
 obtain ⟨fn,f1,f2,f3,f4,f5⟩:=m.ex
 refine fe g (by rw[e];simp) fun w s k φ p0 _ hs hi he l=>.inr ?_
 obtain ⟨e1,hw⟩:=It l.w hi {ph with gp:=.sm} (by rw[he];exact e) rfl
 exact ⟨.tuple #[],_,_,{s with wg:=0},{ph with gp:=.sm},fun b z cs hb=>stepG_store_atomic g (cc hg) hb.kind r f1 f2 f3 f4 f5 u v hs.wg.1 hs.wg.2,hs.s6 aE _,.set _ (.inr (.inl rfl)),l.group hi he (by rw[e];simp) (by rw[e];simp) (by simp) hw,xU true rfl (by simp[e]) q (.inl rfl),.inr dG,h⟩
theorem Jy (r t:Value)(l:Entry c.P f Extern.Sync.semrelease)(aE:c.Mu≠c.Wg/\c.Mu≠c.Is/\c.Wg≠c.Is)(u:At ops j a f [.pointer (some (smA c.Wg)),r,t] d)(e:ph.gp= .sm)
  (h:ai (WJ c i) fi ops (j+1) n Q (bf a d (.tuple #[])) F {ph with gp:=.gone}):ai (WJ c i) fi ops j (n+1) Q a F ph:=by
 obtain ⟨o,cv,dh,m,hg,p,v,rfl⟩:=u
 obtain ⟨x,y,z,rfl,g,_,_⟩:=qs v
 obtain ⟨fn,f1,f2,f3,f4,f5⟩:=l.ex
 refine fe m (by rw[e];simp) fun w s k φ p0 _ hs hi he q=>.inr ?_
 obtain ⟨e1,hw⟩:=Iu q.w hi {ph with gp:=.gone} (by rw[he];exact e) rfl
 have A:IntKind.u32.wrap (s.ws+1)=s.ws+1:=by rw[e1];decide
 refine ⟨.tuple #[],_,_,{s with ws:=s.ws+1},{ph with gp:=.gone},fun b B cs hb=>stepG_semrelease m (cc hg) hb.kind p f1 f2 f3 f4 f5 (by simp[er,g]) hs.ws.1 hs.ws.2,by rw[A];exact hs.CF aE _,.set _ (.inr (.inl rfl)),
  q.group hi he (by rw[e];simp) (by rw[e];simp) (by simp) hw,xW rfl (by simp[e]) (.inl rfl),.inl ⟨_,p,fun x g=>?_⟩,h⟩
 cases g
 exact ⟨f,rfl,l.Ct⟩
end
end Go.Sep
end
section
namespace Go.Sep
open Go Go.Conc
open Go.ConcN (sumTo upd upd_ne upd_same)
theorem ai.defer {P:Program}{main:Bool}{S:Type}{JF:S->Goroutine->aa->Prop}{fi f:FuncId}{ops:Array Oper}{j n:Nat}{Q:Act->aa->S->Prop}{a:Act}{F:aa}{ph:S}(e:dS P main (JF ph)){o:Oper}{cv:Array Operand}{dh:Array TypeId}{vals:Array Value}
  (g:ops[j]?=some o) (hg:cx ops o a=some true) (k:o.op= .defer {callee:=.value (.func f),args:=cv,argTypes:=dh}) (hd:o.dst=none) (l:cv.map a.eval=vals)
  (h:∀c:Act,(∀i,slot c i=slot a i)->sz c=sz a->c.defers=dcall f vals::a.defers->ai JF fi ops (j+1) n Q c F ph):ai JF fi ops j (n+1) Q a F ph:=fun b d cs hb m=>by
 rw[List.range'_succ,ez hb.round]
 refine e.move (fr':=b.at (Act.put ⟨a.tmps,dcall f (cv.map a.eval)::a.defers⟩ o.dst undef) (.inRegion ops (List.range' (j+1) n)::d)) (fun w=>stepG_defer g (cc hg) hb.kind k) ?_
 rw[<-ez hb.round,hd,l]
 exact h ⟨a.tmps,dcall f vals::a.defers⟩ (fun _=>rfl) rfl rfl b d cs hb m
section
variable {c : Cy} {i : Nat} {ph : Ph} {F : aa} {f : FuncId}
theorem Jz (g:Entry c.P f (fun _=>do mark .enable;pure Extern.Race.none_))(hg:ph.gp= .gone){d:Nat}(hd:ph.deaf=d+1){b:Frame}{a:Act}{todo:List Item}{cs:List Frame}{e:List Deferred}(j:a.defers=dcall f #[]::e)
  (h:WJ c i {ph with deaf:=d} (G {b.at ⟨a.tmps,e⟩ todo with mode:=.returning} cs) F):WJ c i ph (G {b.at a todo with mode:=.returning} cs) F:=by
 obtain ⟨F0,r,hle,hW⟩:=h
 obtain ⟨q,_,k⟩:=hW.left hg
 obtain ⟨fn,f1,f2,f3,f4,f5⟩:=g.ex
 refine Wk.gone (q:=q+1) hg (QuitsD.unwind_mark .enable rfl (by simp) j f1 f2 f3 f4 f5 ?_)
 rw[hd]
 exact k
def kr (f:FuncId)(R:Value->aa->Ph->Prop):Ex->Act->aa->Ph->Prop
 | .exit _,_,_,_=>False
 |_,a,F,ph=>a.defers=[dcall f #[]]/\ph.gp= .gone/\∃b,ph.deaf=b+1/\R (.tuple #[]) F {ph with deaf:=b}
theorem cC.JA {f0:FuncId}(p:Entry c.P f (fun _=>do mark .enable;pure Extern.Race.none_)){fn:Func}{cd:Code}{n:Nat}{args:Array Value}{R:Value->aa->Ph->Prop}(l:c.P.funcs[f0]?=some fn)(hb:fn.body=some cd)(m:fn.results=#[])(o:fn.ntmps=n)(v:args.size<=n)
  (h:∀A:Act,sz A=n->A.defers=[]->(∀i,slot A i=args.getD i undef)->cI (WJ c i) f0 cd (kr f R) A F ph):cC c.P (WJ c i) f0 args F ph R:=by
 intro d cs q
 let b:Frame:={(default:Frame) with fn:=f0,kind:=.normal}
 have r:b.roundOf=none:=rfl
 have s:Frame.enter c.P f0 args .normal=on b {tmps:=args++Array.replicate (fn.ntmps - args.size) undef,defers:=[]} [.code cd]:=by
  simp[Frame.enter,on,l,hb,b]
  rfl
 rw[s]
 have g:=WJ.ej c i
 have leave:∀(a:Act) (todo:List Item) F' (aK:Ph),(a.defers=[dcall f #[]]/\aK.gp= .gone/\∃j,aK.deaf=j+1/\R (.tuple #[]) F' {aK with deaf:=j})->WJ c i aK (G {on b a todo with mode:=.returning} (d::cs)) F':=by
  intro a todo F' aK ⟨hd,hg,j,t,u⟩
  rw[ez r]
  refine Jz p hg t hd ((g _).move (fr':=d.finish (.tuple #[])) (cs':=cs) (fun w=>?_) (q _ F' _ u))
  exact stepG_leave rfl rfl l (results_none m _ c.P w) (events_results_none m _ _)
 refine h _ (by simp[sz,o];omega) rfl (fun i=>?_) b [] (d::cs) ⟨by simp[b],rfl,rfl⟩ fun e a F' aK k=>?_
 ·simp only[slot,o,Array.getD_eq_getD_getElem?]
  rcases Nat.lt_or_ge i args.size with hi|hi
  ·rw[Array.getElem?_append_left hi]
  ·rw[Array.getElem?_append_right hi,Array.getElem?_replicate,Array.getElem?_eq_none hi]
   split<;>rfl
 ·cases e with
  |normal=>exact (g aK).move (fun _=>lB rfl) (leave a _ F' aK k)
  |exit i=>exact k.elim
  |ret=>exact fun x=>(g aK).move (fun _=>stepG_ret' rfl) (leave a _ F' aK k)
def x4 (R:aa->Ph->Prop):Ex->Act->aa->Ph->Prop
 | .exit _,_,_,_=>False
 |_,a,F,ph=>a.defers=[]/\R F ph
theorem JB {f0:FuncId}{fn:Func}{cd:Code}{n:Nat}{args:Array Value}{R:aa->Ph->Prop}(k:c.P.funcs[f0]?=some fn)(p:(fn.name== "runtime.NumGoroutine")=false)(hb:fn.body=some cd)(l:fn.results=#[])(m:fn.ntmps=n)(t:args.size<=n)
  {b:Frame} {a:Act} {todo:List Item} {cs:List Frame} {f:List Deferred} (q:a.defers=dcall f0 args::f)
  (h:∀A:Act,sz A=n->A.defers=[]->(∀i,slot A i=args.getD i undef)->cI (WJ c i) f0 cd (x4 R) A F ph)
  (r:∀F' aK,R F' aK->WJ c i aK (G {b.at ⟨a.tmps,f⟩ todo with mode:=.returning} cs) F'):WJ c i ph (G {b.at a todo with mode:=.returning} cs) F:=by
 have g:=WJ.ej c i
 refine (g ph).move (fun w=>stepG_unwind_enter q k p hb) ?_
 have leave:∀(d:Act) (o:List Item) F' (aK:Ph),(d.defers=[]/\R F' aK)->WJ c i aK (G {(baseD f0).at d o with mode:=.returning} ({b.at ⟨a.tmps,f⟩ todo with mode:=.returning}::cs)) F':=by
  intro d o F' aK ⟨hd,s⟩
  exact (g _).move (fun w=>stepG_leave_deferred rfl hd k (results_none l _ c.P w) (events_results_none l _ _) rfl) (r F' aK s)
 have:=h {tmps:=args++Array.replicate (fn.ntmps - args.size) undef,defers:=[]} (by simp[sz,m];omega) rfl (fun i=>?_) (baseD f0) [] ({b.at ⟨a.tmps,f⟩ todo with mode:=.returning}::cs) ⟨by simp[baseD],rfl,rfl⟩ fun e d F' aK j=>?_
 ·rw[ez rfl] at this;exact this
 ·simp only[slot,m,Array.getD_eq_getD_getElem?]
  rcases Nat.lt_or_ge i args.size with hi|hi
  ·rw[Array.getElem?_append_left hi]
  ·rw[Array.getElem?_append_right hi,Array.getElem?_replicate,Array.getElem?_eq_none hi]
   split<;>rfl
 ·cases e with
  |normal=>exact (g aK).move (fun _=>lB rfl) (leave d _ F' aK j)
  |exit i=>exact j.elim
  |ret=>exact fun u=>(g aK).move (fun _=>stepG_ret' rfl) (leave d _ F' aK j)
end
attribute [go_sem] kr x4
end Go.Sep
end
section
namespace Go.Sep
open Go
def ku (x y:Int):Int:=IntKind.u64.wrap ((BitVec.ofInt 64 x&&& BitVec.ofInt 64 y).toNat:Int)
@[go_sem] theorem QH (x y:Int):IntKind.u64.wrap ((@HAnd.hAnd (BitVec 64) (BitVec 64) (BitVec 64) (@instHAndOfAndOp (BitVec IntKind.u64.bits) (@BitVec.instAndOp IntKind.u64.bits)) (BitVec.ofInt 64 x) (BitVec.ofInt 64 y)).toNat:Int)=ku x y:=rfl
theorem x5 (v t:Nat)(a:v<2147483648)(ht:t<=1):ku ((v:Int)*4294967296+(t:Int)) 2147483648=0:=Go.ConcN.st_flag v t a ht
theorem x6 (v t:Nat)(a:v<2147483648)(ht:t<=1):ku ((v:Int)*4294967296+(t:Int)) 2147483647=(t:Int):=Go.ConcN.st_waiters v t a ht
theorem x7 (v t:Nat)(ht:t<=1):((v:Int)*4294967296+(t:Int)).fdiv 4294967296=v:=by
 rw[Int.fdiv_eq_ediv_of_nonneg _ (by decide)];omega
end Go.Sep
namespace Go.Proofs.YtpgcmoanfifglaaGreatDoor
open Go Go.Sep Go.Proofs Go.Conc
open Go.ConcN (upd upd_same)
open Go.ConcM (muA msA)
open Go.ConcR (stA smA)
set_option maxRecDepth 100000
set_option maxHeartbeats 4000000
set_option linter.all false
attribute [local go_sem] Int.reduceBEq Int.reduceBNe muA msA stA smA
section
variable {Mu Wg Is n base T0 i : Nat} {bs : Nat → Bool} {st : Bool} {F : aa}
theorem JC (w:World)(s:Sh)(h:cu (CY Mu Wg Is n bs base T0) w s):∃v,w.cell? ⟨Wg,0,none⟩=some v:=⟨_,h.wg.1⟩
theorem JD (aE:Mu≠Wg/\Mu≠Is/\Wg≠Is)(b:n<67108864){mp:Mp}:
  cC Tryz.prog (WJ (CY Mu Wg Is n bs base T0) i) 158 #[.pointer (some (stA Wg)),.int .u64 18446744069414584320] F ⟨mp,.rel,st,1⟩
   (fun r F' aK=>F'=F/\∃v t:Nat,v<=n/\t<=1/\r= .int .u64 ((v:Int)*4294967296+(t:Int))/\aK=⟨mp,if v=0/\t=1 then .ld else .gone,st,1⟩):=by
 have a:=WJ.ej (CY Mu Wg Is n bs base T0) i
 refine cC.go (main:=false) a Tryz.func158 rfl Tryz.ntmps158 (by simp) fun A d hd hs=>?_
 have e:=hs 0
 have k1:=hs 1
 clear hs
 repeat refine ax (a _) ?_
 refine cV a ?_
 refine ai.pure (a _) 1 (n:=0) _ rfl rfl ?_;simp only[*,go_sem]
 refine ai.nil a ?_;try simp only[go_sem]
 repeat refine ax (a _) ?_
 refine cV a ?_
 refine ai.pure (a _) 4 (n:=2) _ rfl rfl ?_;simp only[*,go_sem]
 refine Jv Cx aE b ⟨_,_,_,rfl,(by first|rfl|simp only[*,go_sem]),rfl,by first|(simp only[*,go_sem];done)|(simp only[*,go_sem];rfl),rfl⟩ (by rfl) (by simp) fun v t c ht=>?_
 refine ai.pure (a _) 1 (n:=0) _ rfl rfl ?_;simp only[*,go_sem]
 refine ai.nil a ?_;try simp only[go_sem]
 refine fc ?_;try simp only[go_sem]
 exact (k9 rfl (by simp only[*,go_sem]) (by simp only[*,go_sem]) ⟨rfl,v,t,c,ht,rfl,rfl⟩).2
theorem JE {mp:Mp}:
  cC Tryz.prog (WJ (CY Mu Wg Is n bs base T0) i) 160 #[.pointer (some (stA Wg))] F ⟨mp,.ld,st,1⟩
   (fun r F' aK=>F'=F/\r= .int .u64 1/\aK=⟨mp,.st,st,1⟩):=by
 have a:=WJ.ej (CY Mu Wg Is n bs base T0) i
 refine cC.go (main:=false) a Tryz.func160 rfl Tryz.ntmps160 (by simp) fun A b hd hs=>?_
 have c:=hs 0
 clear hs
 repeat refine ax (a _) ?_
 refine cV a ?_
 refine ai.pure (a _) 1 (n:=0) _ rfl rfl ?_;simp only[*,go_sem]
 refine ai.nil a ?_;try simp only[go_sem]
 repeat refine ax (a _) ?_
 refine cV a ?_
 refine ai.pure (a _) 3 (n:=2) _ rfl rfl ?_;simp only[*,go_sem]
 refine Jw xO ⟨_,_,_,rfl,(by first|rfl|simp only[*,go_sem]),rfl,by first|(simp only[*,go_sem];done)|(simp only[*,go_sem];rfl),rfl⟩ (by rfl) (by simp) ?_
 refine ai.pure (a _) 1 (n:=0) _ rfl rfl ?_;simp only[*,go_sem]
 refine ai.nil a ?_;try simp only[go_sem]
 refine fc ?_;try simp only[go_sem]
 exact (k9 rfl (by simp only[*,go_sem]) (by simp only[*,go_sem]) ⟨rfl,rfl,rfl⟩).2
theorem JG (aE:Mu≠Wg/\Mu≠Is/\Wg≠Is){mp:Mp}:
  cC Tryz.prog (WJ (CY Mu Wg Is n bs base T0) i) 161 #[.pointer (some (stA Wg)),.int .u64 0] F ⟨mp,.st,st,1⟩
   (fun r F' aK=>F'=F/\r= .tuple #[]/\aK=⟨mp,.sm,st,1⟩):=by
 have a:=WJ.ej (CY Mu Wg Is n bs base T0) i
 refine cC.go (main:=false) a Tryz.func161 rfl Tryz.ntmps161 (by simp) fun A b hd hs=>?_
 have c:=hs 0
 have k1:=hs 1
 clear hs
 repeat refine ax (a _) ?_
 refine cV a ?_
 refine ai.pure (a _) 4 (n:=1) _ rfl rfl ?_;simp only[*,go_sem]
 refine Jx I2 aE ⟨_,_,_,rfl,(by first|rfl|simp only[*,go_sem]),rfl,by first|(simp only[*,go_sem];done)|(simp only[*,go_sem];rfl),rfl⟩ (by rfl) (by simp) ?_
 refine ai.nil a ?_;try simp only[go_sem]
 exact k8 rfl (by simp only[*,go_sem]) ⟨rfl,rfl,rfl⟩
end
end Go.Proofs.YtpgcmoanfifglaaGreatDoor
end
section
namespace Go.Sep
open Go Go.Conc
open Go.ConcN (sumTo upd upd_ne upd_same)
open Go.ConcM (MuAt muA msA muBlock OsLater)
open Go.ConcR (WgAt wgBlock stA smA)
structure X where
 Mu:Nat
 Wg:Nat
 Is:Nat
 n:Nat
 bs:Nat->Bool
 base:Nat
 T0:Nat
 B0:Nat
inductive Z where
 |free
 |co (x:X) (k:Nat) (p:P0) (d:Nat)
structure PT where
 P:Program
 tM:TypeId
 tW:TypeId
 tI:TypeId
abbrev X.cy (x:X)(T:PT):Cy:=⟨T.P,x.Mu,x.Wg,x.Is,T.tM,T.tW,T.tI,x.n,x.bs,x.base,x.T0⟩
def ZJ (T:PT)(Φ:Goroutine->aa->Prop):Z->Goroutine->aa->Prop
 | .free=>iA T.P Φ
 | .co x k p d=>fun g F=>(p= .reg->k=x.n)/\ei (x.cy T) x.B0 (iA T.P Φ) k p d g F
section
variable {T : PT} {Φ : Goroutine → aa → Prop} {x : X} {k d : Nat} {p : P0} {ops : Array Oper} {j n : Nat} {Q : Act → aa → Z → Prop} {a : Act} {F : aa} {o : Oper} {f fi : FuncId} {dt : Option Tmp}
theorem CN {c:Cy}:Ev0 c d d #[]:=⟨by simp,rfl⟩
theorem JH {c:Cy}:Ev0 c d (d+1) #[cE .disable]:=⟨fun e he=>by simp at he;exact .inl he,rfl⟩
theorem CO {c:Cy}:Ev0 c (d+1) d #[cE .enable]:=⟨fun e he=>by simp at he;exact .inr (.inl he),rfl⟩
theorem x8 {c:Cy}{ad:Addr}(y:Bool)(h:ad.block=c.Wg):Ev0 c d d #[⟨.cell ad,y,true⟩]:=⟨fun e he=>by simp at he;exact .inr (.inr ⟨ad,h,.inl ⟨y,he⟩⟩),by simp[deafBehind]⟩
theorem CP {c:Cy}{ad:Addr}(h:ad.block=c.Wg):Ev0 c d d #[⟨.cell ad,false,true⟩,⟨.cell ad,true,true⟩]:=
 ⟨fun e he=>by simp at he;rcases he with he|he<;>exact .inr (.inr ⟨ad,h,.inl ⟨_,he⟩⟩),by simp[deafBehind]⟩
theorem JI {c:Cy}{ad:Addr}(h:ad.block=c.Wg):Ev0 c d d #[cE (.read ad)]:=⟨fun e he=>by simp at he;exact .inr (.inr ⟨ad,h,.inr (.inl he)⟩),by simp[deafBehind,cE]⟩
theorem JJ {c:Cy}{ad:Addr}(h:ad.block=c.Wg):Ev0 c d d #[cE (.write ad)]:=⟨fun e he=>by simp at he;exact .inr (.inr ⟨ad,h,.inr (.inr he)⟩),by simp[deafBehind,cE]⟩
theorem JK {c:Cy}{ad:Addr}(h:ad.block=c.Wg):Ev0 c d d (semEvents ad):=by
 refine ⟨fun e he=>?_,by simp[deafBehind,semEvents]⟩;simp[semEvents] at he;rcases he with rfl|rfl|rfl|rfl
 ·exact .inl rfl
 ·exact .inr (.inr ⟨ad,h,.inl ⟨_,rfl⟩⟩)
 ·exact .inr (.inr ⟨ad,h,.inl ⟨_,rfl⟩⟩)
 ·exact .inr (.inl rfl)
theorem ZJ.ej (T:PT)(Φ:Goroutine->aa->Prop)(z:Z):dS T.P true (ZJ T Φ z):=by
 cases z with
 |free=>exact Closed.ej (Cn T.P Φ)
 |co x k p d=>
  refine ⟨fun {fr fr' cs cs' F} hs h=>⟨h.1,ei.xJ (c:=x.cy T) rfl rfl h.1 fun w s φ e a b=>?_⟩⟩;exact ⟨_,w,#[],s,p,d,hs w,a,.refl _ _,b,CN,.inr dG,h.2⟩
theorem ZJ.closed (T:PT)(Φ:Goroutine->aa->Prop){z:Z}(b:∀x k d,z≠ .co x k .reg d):Closed T.P true (ZJ T Φ z):=by
 cases z with
 |free=>exact Cn T.P Φ
 |co x k p d=>
  have a:p≠ .reg:=fun e=>b x k d (by rw[e]);have hC:=ei.closed (x.cy T) x.B0 (iA T.P Φ) k p d a
  exact ⟨fun hle h=>⟨h.1,hC.mono hle h.2⟩,fun {fr cs F} h=>⟨fun e=>absurd e a,hC.step fun w hw=>by
   obtain ⟨g',w',es,F',k1,c,f,g,i⟩:=h w hw
   exact ⟨g',w',es,F',k1,c,f,g,i.2⟩⟩⟩
theorem kz (A:ops[j]?=some o)(i:p= .reg->k=x.n)
  (h:∀(w:World) (s:Sh) (φ:Nat->Ph),Has F w->cu (x.cy T) w s->Inv x.n x.bs k φ p s->
   ∃(v:Value) (w':World) (es:Array Event) (s':Sh) (f:P0) (g:Nat),(∀(b:Frame) (e:List Item) (cs:List Frame),BF fi b->
    stepG T.P true (G (b.at a (.inRegion ops (j::List.range' (j+1) n)::e)) cs) w= .go (G (b.at (a.put o.dst v) (.inRegion ops (List.range' (j+1) n)::e)) cs) w' es)/\cu (x.cy T) w' s'/\gS (x.cy T) w w'/\Inv x.n x.bs k φ f s'/\Ev0 (x.cy T) d g es/\
    (s'.ms<=s.ms/\s'.ws<=s.ws)/\ai (ZJ T Φ) fi ops (j+1) n Q (a.put o.dst v) F (.co x k f g)):ai (ZJ T Φ) fi ops j (n+1) Q a F (.co x k p d):=fun b e cs hb l=>by
 rw[List.range'_succ,ez hb.round]
 refine ⟨i,ei.xJ (c:=x.cy T) rfl rfl i fun w s φ e1 e2 m=>?_⟩
 obtain ⟨v,w',es,s',f,g,k1,q,r,t,u,y,z⟩:=h w s φ e1 e2 m
 have:=z b e cs hb l
 rw[ez hb.round] at this
 exact ⟨_,w',es,s',f,g,k1 b e cs hb,q,r,t,u,.inr y,this.2⟩
theorem ov {k:Nat}{φ:Nat->Ph}{p a:P0}{s:Sh}(h:Inv x.n x.bs k φ p s){wg ws:Int}(hw:dz x.n φ a wg ws):Inv x.n x.bs k φ a {s with wg:=wg,ws:=ws}:=⟨h.m,hw,h.i⟩
theorem CQ (i:Entry T.P f (fun _=>do mark .disable;pure Extern.Race.none_)){vals:List Value}(l:At ops j a f vals dt)(m:p= .reg->k=x.n)(c:P0)(q:∀φ wg ws,dz x.n φ p wg ws->dz x.n φ c wg ws)
  (h:ai (ZJ T Φ) fi ops (j+1) n Q (bf a dt (.tuple #[])) F (.co x k c (d+1))):ai (ZJ T Φ) fi ops j (n+1) Q a F (.co x k p d):=by
 obtain ⟨o,cv,dh,e,hg,r,_,rfl⟩:=l
 obtain ⟨fn,f1,f2,f3,f4,f5⟩:=i.ex
 exact kz e m fun w s φ _ hs g=>⟨.tuple #[],w,_,s,c,d+1,fun b t cs hb=>stepG_mark0 .disable (by simp) e (cc hg) hb.kind r f1 f2 f3 f4 f5,hs,.refl _ _,ov g (q _ _ _ g.w),JH,dG,h⟩
theorem CR (e:Entry T.P f (fun _=>do mark .enable;pure Extern.Race.none_)){vals:List Value}(g:At ops j a f vals dt)(i:p= .reg->k=x.n)
  (h:ai (ZJ T Φ) fi ops (j+1) n Q (bf a dt (.tuple #[])) F (.co x k p d)):ai (ZJ T Φ) fi ops j (n+1) Q a F (.co x k p (d+1)):=by
 obtain ⟨o,cv,dh,c,hg,l,_,rfl⟩:=g
 obtain ⟨fn,f1,f2,f3,f4,f5⟩:=e.ex
 exact kz c i fun w s φ _ hs m=>⟨.tuple #[],w,_,s,p,d,fun b q cs hb=>stepG_mark0 .enable (by simp) c (cc hg) hb.kind l f1 f2 f3 f4 f5,hs,.refl _ _,m,CO,dG,h⟩
theorem JL (e:Entry T.P f (Extern.Race.marked .read))(g:At ops j a f [.pointer (some (smA x.Wg))] dt)(i:p= .reg->k=x.n)
  (h:ai (ZJ T Φ) fi ops (j+1) n Q (bf a dt (.tuple #[])) F (.co x k p d)):ai (ZJ T Φ) fi ops j (n+1) Q a F (.co x k p d):=by
 obtain ⟨o,cv,dh,c,hg,l,m,rfl⟩:=g
 obtain ⟨y,rfl,q⟩:=jD m
 obtain ⟨fn,f1,f2,f3,f4,f5⟩:=e.ex
 exact kz c i fun w s φ _ hs r=>⟨.tuple #[],w,_,s,p,d,fun b t cs hb=>stepG_markAt .read (by simp) c (cc hg) hb.kind l f1 f2 f3 f4 f5 (by simp[er,q]),hs,.refl _ _,r,JI (ad:=smA x.Wg) rfl,dG,h⟩
theorem JM (e:Entry T.P f (Extern.Race.marked .write))(g:At ops j a f [.pointer (some (smA x.Wg))] dt)(i:p= .reg->k=x.n)
  (h:ai (ZJ T Φ) fi ops (j+1) n Q (bf a dt (.tuple #[])) F (.co x k p d)):ai (ZJ T Φ) fi ops j (n+1) Q a F (.co x k p d):=by
 obtain ⟨o,cv,dh,c,hg,l,m,rfl⟩:=g
 obtain ⟨y,rfl,q⟩:=jD m
 obtain ⟨fn,f1,f2,f3,f4,f5⟩:=e.ex
 exact kz c i fun w s φ _ hs r=>⟨.tuple #[],w,_,s,p,d,fun b t cs hb=>stepG_markAt .write (by simp) c (cc hg) hb.kind l f1 f2 f3 f4 f5 (by simp[er,q]),hs,.refl _ _,r,JJ (ad:=smA x.Wg) rfl,dG,h⟩
theorem th (ad:Addr){src dst t:TypeId}(hs:T.P.underlying src=some (.pointer t))(hd:T.P.underlying dst=some .unsafePointer)(c:(T.P.info? t).map (fun i=>decide (i.size=0))=some false){y:Operand}
  (l:mO ops j a (.convert src dst y) dt) (m:p= .reg->k=x.n) (q:ev a y= .pointer (some ad)) (r:∀w s,cu (x.cy T) w s->∃v,w.cell? ad=some v) (h:ai (ZJ T Φ) fi ops (j+1) n Q (bf a dt (.pointer (some ad))) F (.co x k p d)):ai (ZJ T Φ) fi ops j (n+1) Q a F (.co x k p d):=by
 obtain ⟨o,e,hg,u,rfl⟩:=l
 refine kz e m fun w s φ _ f z=>⟨_,w,#[],s,p,d,fun b C cs hb=>?_,f,.refl _ _,z,CN,dG,h⟩
 obtain ⟨v,g⟩:=r w s f
 have e1:execOp a.eval o=(do pure (.value (<-convert src dst (.pointer (some ad)))):Sem Next):=by
  unfold execOp
  simp only[u,er,q]
 have A:(execOp a.eval o).run T.P w= .ok (.value (.pointer (some ad))) w:=by
  rw[e1];simp[run_convert_to_unsafe hs hd c g]
 have B:(execOp a.eval o).events T.P w #[]=#[]:=by
  rw[e1];simp[events_convert_to_unsafe hs hd c g]
 rw[stepG_value e (cc hg) hb.kind A]
 unfold listed
 rw[B,seen_none]
theorem JN (i:Entry T.P f (Extern.Atomic.update (Op.intArith .add) .u64 true))(aE:x.Mu≠x.Wg/\x.Mu≠x.Is/\x.Wg≠x.Is)(A:x.n<67108864)(l:At ops j a f [.pointer (some (stA x.Wg)),.int .u64 4294967296] dt)
  (h:∀v:Nat,v<=x.n->ai (ZJ T Φ) fi ops (j+1) n Q (bf a dt (.int .u64 (((v+1:Nat):Int)*4294967296+((0:Nat):Int)))) F (.co x k (.opn 1) d)):ai (ZJ T Φ) fi ops j (n+1) Q a F (.co x k (.opn 0) d):=by
 obtain ⟨o,cv,dh,c,hg,m,p,rfl⟩:=l
 obtain ⟨y,z,rfl,q,r⟩:=qq p
 obtain ⟨fn,f1,f2,f3,f4,f5⟩:=i.ex
 refine kz c (fun e=>by cases e) fun w s φ _ hs g=>?_
 obtain ⟨v,e1,t,hw⟩:=Iv g.w
 have e2:IntKind.u64.wrap (s.wg+4294967296)=((v+1:Nat):Int)*4294967296+((0:Nat):Int):=by
  rw[e1]
  unfold IntKind.wrap
  simp only[IntKind.bits,IntKind.signed,cR]
  simp
  omega
 have u:s.wg+cR=((v+1:Nat):Int)*4294967296+((0:Nat):Int):=by rw[e1];simp only[cR];omega
 rw[u] at hw
 exact ⟨_,_,_,{s with wg:=((v+1:Nat):Int)*4294967296+((0:Nat):Int)},.opn 1,d,fun b B cs hb=>by rw[<-e2];exact stepG_add_atomic c (cc hg) hb.kind m f1 f2 f3 f4 .u64 f5 q r hs.wg.1 hs.wg.2,by rw[<-e2];exact hs.s6 aE _,.set _ (.inr (.inl rfl)),ov g hw,CP rfl,dG,h v t⟩
theorem JO (i:Entry T.P f (Extern.Atomic.loadT (.int .u64)))(l:At ops j a f [.pointer (some (stA x.Wg))] dt){u:Nat}
  (h:∀v:Nat,v<=u->ai (ZJ T Φ) fi ops (j+1) n Q (bf a dt (.int .u64 ((v:Int)*4294967296+((0:Nat):Int)))) F (.co x k (if v=0 then .eL else .look v) d)):ai (ZJ T Φ) fi ops j (n+1) Q a F (.co x k (.look u) d):=by
 obtain ⟨o,cv,dh,c,hg,m,p,rfl⟩:=l
 obtain ⟨y,rfl,q⟩:=jD p
 obtain ⟨fn,f1,f2,f3,f4,f5⟩:=i.ex
 refine kz c (fun e=>by cases e) fun w s φ _ hs g=>?_
 obtain ⟨v,e1,r,hw⟩:=Iy g.w
 have e2:s.wg=(v:Int)*4294967296+((0:Nat):Int):=by rw[e1];simp only[cR];omega
 exact ⟨_,_,_,s,_,d,fun b t cs hb=>by rw[<-e2];exact stepG_load_atomic c (cc hg) hb.kind m f1 f2 f3 f4 .u64 f5 q hs.wg.1,hs,.refl _ _,ov g hw,x8 false rfl,dG,h v r⟩
theorem JP (i:Entry T.P f (Extern.Atomic.loadT (.int .u64)))(l:At ops j a f [.pointer (some (stA x.Wg))] dt)
  (h:ai (ZJ T Φ) fi ops (j+1) n Q (bf a dt (.int .u64 0)) F (.co x k .eL d)):ai (ZJ T Φ) fi ops j (n+1) Q a F (.co x k .eL d):=by
 obtain ⟨o,cv,dh,c,hg,m,p,rfl⟩:=l
 obtain ⟨y,rfl,q⟩:=jD p
 obtain ⟨fn,f1,f2,f3,f4,f5⟩:=i.ex
 refine kz c (fun e=>by cases e) fun w s φ _ hs g=>?_
 have e2:s.wg=0:=(Ca g.w).1
 exact ⟨_,_,_,s,_,d,fun b r cs hb=>by rw[<-e2];exact stepG_load_atomic c (cc hg) hb.kind m f1 f2 f3 f4 .u64 f5 q hs.wg.1,hs,.refl _ _,g,x8 false rfl,dG,h⟩
theorem JQ (q:Entry T.P f (Extern.Atomic.casT (.int .u64)))(aE:x.Mu≠x.Wg/\x.Mu≠x.Is/\x.Wg≠x.Is){v:Nat}(r:0<v)(G:k=x.n)(t:At ops j a f [.pointer (some (stA x.Wg)),.int .u64 ((v:Int)*4294967296+((0:Nat):Int)),.int .u64 ((v:Int)*4294967296+((0:Nat):Int)+1)] dt)
  (u:ai (ZJ T Φ) fi ops (j+1) n Q (bf a dt (.bool true)) F (.co x k .reg d)) (A:ai (ZJ T Φ) fi ops (j+1) n Q (bf a dt (.bool false)) F (.co x k (.look (v - 1)) d)):ai (ZJ T Φ) fi ops j (n+1) Q a F (.co x k (.look v) d):=by
 obtain ⟨o,cv,dh,g,hg,h,B,rfl⟩:=t
 obtain ⟨y,z,H,rfl,i,l,m⟩:=qs B
 obtain ⟨fn,f1,f2,f3,f4,f5⟩:=q.ex
 refine kz g (fun e=>by cases e) fun w s φ _ hs c=>?_
 by_cases e:s.wg=(v:Int)*4294967296+((0:Nat):Int)
 ·have e1:s.wg=(v:Int)*cR:=by rw[e];simp only[cR];omega
  have hw:=c.w
  rw[e1] at hw
  have p:=Iz hw r
  have C:(v:Int)*cR+1=(v:Int)*4294967296+((0:Nat):Int)+1:=by simp only[cR];omega
  rw[C] at p
  exact ⟨.bool true,_,_,{s with wg:=(v:Int)*4294967296+((0:Nat):Int)+1},.reg,d,fun b D cs hb=>stepG_cas_hit g (cc hg) hb.kind h f1 f2 f3 f4 .u64 f5 i l m (by rw[<-e];exact hs.wg.1) hs.wg.2,hs.s6 aE _,.set _ (.inr (.inl rfl)),ov c p,CP rfl,dG,u⟩
 ·have e1:s.wg≠(v:Int)*cR:=fun E=>e (by rw[E];simp only[cR];omega)
  exact ⟨.bool false,_,_,s,.look (v - 1),d,fun b D cs hb=>stepG_cas_miss g (cc hg) hb.kind h f1 f2 f3 f4 .u64 f5 i l m hs.wg.1 hs.wg.2 e,hs,.refl _ _,ov c (IA c.w e1).2,x8 false rfl,dG,A⟩
theorem JR (q:Value)(r:Entry T.P f Extern.Sync.semacquire)(aE:x.Mu≠x.Wg/\x.Mu≠x.Is/\x.Wg≠x.Is)(g:k=x.n)(t:At ops j a f [.pointer (some (smA x.Wg)),q] dt)
  (h:ai (ZJ T Φ) fi ops (j+1) n Q (bf a dt (.tuple #[])) F (.co x k .eL d)):ai (ZJ T Φ) fi ops j (n+1) Q a F (.co x k .reg d):=fun b u cs hb v=>by
 obtain ⟨o,cv,dh,i,hg,l,A,rfl⟩:=t
 obtain ⟨y,z,rfl,m,_⟩:=qq A
 obtain ⟨fn,f1,f2,f3,f4,f5⟩:=r.ex
 rw[List.range'_succ,ez hb.round]
 refine ⟨fun _=>g,ei.act (c:=x.cy T) rfl rfl (fun _=>⟨g,fun w s hs e=>?_⟩) fun w s φ e1 hs p B=>?_⟩
 ·exact stepG_semacquire_wait i (cc hg) l f1 f2 f3 f4 f5 (ad:=smA x.Wg) (by simp[er,m]) (by rw[hs.ws.1,e])
 ·have e:=B rfl
  obtain ⟨C,D,hw⟩:=IB p.w e
  have:=h b u cs hb v
  rw[ez hb.round] at this
  exact ⟨_,_,_,{s with ws:=s.ws - 1},.eL,d,stepG_semacquire i (cc hg) hb.kind l f1 f2 f3 f4 f5 (by simp[er,m]) hs.ws.1 e hs.ws.2,hs.CF aE _,.set _ (.inr (.inl rfl)),ov p hw,JK rfl,.inr ⟨Int.le_refl _,by simp only;omega⟩,this.2⟩
theorem CS (d:Entry T.P f (Extern.Race.marked .acquire))(e:k=x.n)(g:At ops j a f [.pointer (some (stA x.Wg))] dt)
  (h:ai (ZJ T Φ) fi ops (j+1) n Q (bf a dt (.tuple #[])) ⟨F.ro,(x.Is,(x.cy T).fin)::F.own⟩ .free):ai (ZJ T Φ) fi ops j (n+1) Q a F (.co x k .eL 0):=fun b i cs hb l=>by
 obtain ⟨o,cv,dh,m,hg,p,q,rfl⟩:=g
 obtain ⟨y,rfl,r⟩:=jD q
 obtain ⟨fn,f1,f2,f3,f4,f5⟩:=d.ex
 rw[List.range'_succ,ez hb.round]
 subst e
 have:=h b i cs hb l
 rw[ez hb.round] at this
 exact ⟨fun _=>rfl,ei.join (c:=x.cy T) rfl rfl fun w hw=>⟨_,stepG_markAt .acquire (by simp) m (cc hg) hb.kind p f1 f2 f3 f4 f5 (by simp[er,r]),rfl,this⟩⟩
theorem JS (i:k<x.n){d:Deferred}{fv:Operand}{g:Fn}{caps:Array Value}(l:ops[j]?=some o)(hg:cx ops o a=some true)(f:∀w,(execOp a.eval o).run T.P w= .ok (.spawn d) w/\(execOp a.eval o).events T.P w #[]=#[])(hd:d.target= .fn g caps)
  (hW:Wk (x.cy T) k ⟨.idle,.cnt,false,0⟩ (born T.P d) ⟨F.ro,[]⟩) (h:ai (ZJ T Φ) fi ops (j+1) n Q (bf a o.dst undef) F (.co x (k+1) (.opn 0) 0)):ai (ZJ T Φ) fi ops j (n+1) Q a F (.co x k (.opn 1) 0):=fun b m cs hb p=>by
 rw[List.range'_succ,ez hb.round]
 have:=h b m cs hb p
 rw[ez hb.round] at this
 refine ⟨fun e=>(by cases e),ei.spawn (c:=x.cy T) rfl rfl i fun w hw=>⟨_,_,?_,hW,rfl,rfl,this.2⟩⟩
 rw[stepG_spawn l (cc hg) hb.kind (f w).1 hd]
 unfold listed
 rw[(f w).2,seen_none]
 rfl
end
section
variable {T : PT} {Φ : Goroutine → aa → Prop} {fi f : FuncId}
theorem JU {cd:Code}{Q:Ex->Act->aa->Z->Prop}{a:Act}{F:aa}(c:aa)(Mu Wg Is n:Nat)(bs:Nat->Bool)
  (hle:Le ⟨c.ro,(Mu,muBlock T.tM 0 0)::(Wg,wgBlock T.tW 0 0)::(Is,.cells (List.replicate n (Value.bool false)).toArray T.tI)::c.own⟩ F)
  (h:∀base B0 T0,0<base->(Mu≠Wg/\Mu≠Is/\Wg≠Is)->cI (ZJ T Φ) fi cd Q a c (.co ⟨Mu,Wg,Is,n,bs,base,T0,B0⟩ 0 (.opn 0) 0)):cI (ZJ T Φ) fi cd Q a F .free:=fun b k cs hb d=>
 iA.found bs rfl rfl hle fun base B0 T0 e aE=>(h base B0 T0 e aE b k cs hb d).2
theorem JV (l:Entry T.P f (fun _=>do mark .enable;pure Extern.Race.none_)){x:X}{k d:Nat}{p:P0}{F:aa}(e:p= .reg->k=x.n){b:Frame}{a:Act}{todo:List Item}{cs:List Frame}{i:List Deferred}(m:a.defers=dcall f #[]::i)
  (h:ZJ T Φ (.co x k p d) (G {b.at ⟨a.tmps,i⟩ todo with mode:=.returning} cs) F):ZJ T Φ (.co x k p (d+1)) (G {b.at a todo with mode:=.returning} cs) F:=by
 obtain ⟨fn,f1,f2,f3,f4,f5⟩:=l.ex
 refine ⟨e,ei.xJ (c:=x.cy T) rfl rfl e fun w s φ e1 hs o=>⟨_,w,#[cE .enable],s,p,d,?_,hs,.refl _ _,o,CO,.inr dG,h.2⟩⟩
 exact stepG_unwind_entry (v:=.tuple #[]) m f1 f2 f3 f4 f5 (by simp[Extern.Race.none_]) (by simp[cE]) (by
  intro y j
  simp[cE] at j
  subst j
  exact ⟨rfl,fun g h=>by cases h⟩)
def x9 (f:FuncId)(R:Value->aa->Z->Prop):Ex->Act->aa->Z->Prop
 | .exit _,_,_,_=>False
 |_,a,F,z=>a.defers=[dcall f #[]]/\∃x k p d,(p= .reg->k=x.n)/\z= .co x k p (d+1)/\R (.tuple #[]) F (.co x k p d)
theorem cC.JW {f0:FuncId}(r:Entry T.P f (fun _=>do mark .enable;pure Extern.Race.none_)){fn:Func}{cd:Code}{n:Nat}{args:Array Value}{R:Value->aa->Z->Prop}{F:aa}{z:Z}(m:T.P.funcs[f0]?=some fn)(hb:fn.body=some cd)(o:fn.results=#[])(q:fn.ntmps=n)(C:args.size<=n)
  (h:∀A:Act,sz A=n->A.defers=[]->(∀i,slot A i=args.getD i undef)->cI (ZJ T Φ) f0 cd (x9 f R) A F z):cC T.P (ZJ T Φ) f0 args F z R:=by
 intro g cs s
 let b:Frame:={(default:Frame) with fn:=f0,kind:=.normal}
 have t:b.roundOf=none:=rfl
 have u:Frame.enter T.P f0 args .normal=on b {tmps:=args++Array.replicate (fn.ntmps - args.size) undef,defers:=[]} [.code cd]:=by
  simp[Frame.enter,on,m,hb,b]
  rfl
 rw[u]
 have j:=ZJ.ej T Φ
 have leave:∀(c:Act) (todo:List Item) F' (a:Z),(c.defers=[dcall f #[]]/\∃x k p d,(p= .reg->k=x.n)/\a= .co x k p (d+1)/\R (.tuple #[]) F' (.co x k p d))->ZJ T Φ a (G {on b c todo with mode:=.returning} (g::cs)) F':=by
  intro c todo F' a ⟨hd,x,k,p,d,v,y,B⟩
  subst y
  rw[ez t]
  refine JV r v hd ((j _).move (fr':=g.finish (.tuple #[])) (cs':=cs) (fun w=>?_) (s _ F' _ B))
  exact stepG_leave rfl rfl m (results_none o _ T.P w) (events_results_none o _ _)
 refine h _ (by simp[sz,q];omega) rfl (fun i=>?_) b [] (g::cs) ⟨by simp[b],rfl,rfl⟩ fun e c F' a l=>?_
 ·simp only[slot,q,Array.getD_eq_getD_getElem?]
  rcases Nat.lt_or_ge i args.size with hi|hi
  ·rw[Array.getElem?_append_left hi]
  ·rw[Array.getElem?_append_right hi,Array.getElem?_replicate,Array.getElem?_eq_none hi]
   split<;>rfl
 ·cases e with
  |normal=>exact (j a).move (fun _=>lB rfl) (leave c _ F' a l)
  |exit i=>exact l.elim
  |ret=>exact fun D=>(j a).move (fun _=>stepG_ret' rfl) (leave c _ F' a l)
theorem fz.JX {args:Array Value}{ro:Addr->Option Value}{R:Value->aa->Prop}(h:∀Φ,cC T.P (ZJ T Φ) f args ⟨ro,[]⟩ .free (fun v F' z=>z= .free/\R v F')):fz T.P f args ⟨ro,[]⟩ R:=
 fz.IX fun Φ c cs a=>h Φ c cs fun v F' z ⟨b,d⟩=>by subst b;exact a v F' d
end
end Go.Sep
end
section
namespace Go.Proofs.YtpgcmoanfifglaaGreatDoor
open Go Go.Sep Go.Proofs Go.Conc
open Go.ConcN (upd upd_same)
open Go.ConcM (muA msA)
open Go.ConcR (stA smA)
set_option maxRecDepth 100000
set_option maxHeartbeats 4000000
attribute [local go_sem] Int.reduceBEq Int.reduceBNe muA msA stA smA
noncomputable abbrev TT:PT:=⟨Tryz.prog,184,191,4⟩
theorem JY {f:FuncId}{R:Value->aa->Z->Prop}{a:Act}{F:aa}{x:X}{k d:Nat}{p:P0}(hd:a.defers=[dcall f #[]])(b:p= .reg->k=x.n)(c:R (.tuple #[]) F (.co x k p d)):x9 f R .ret a F (.co x k p (d+1)):=⟨hd,x,k,p,d,b,rfl,c⟩
section
variable {Φ : Goroutine → aa → Prop} {x : X} {F : aa} {k : Nat}
theorem CU (w:World)(s:Sh)(h:cu (x.cy TT) w s):∃v,w.cell? ⟨x.Wg,0,none⟩=some v:=⟨_,h.wg.1⟩
theorem CV (w:World)(s:Sh)(h:cu (x.cy TT) w s):∃v,w.cell? ⟨x.Wg,1,none⟩=some v:=⟨_,h.ws.1⟩
theorem JZ (aE:x.Mu≠x.Wg/\x.Mu≠x.Is/\x.Wg≠x.Is)(c:x.n<67108864):
  cC Tryz.prog (ZJ TT Φ) 158 #[.pointer (some (stA x.Wg)),.int .u64 4294967296] F (.co x k (.opn 0) 1)
   (fun r F' d=>F'=F/\∃v:Nat,v<=x.n/\r= .int .u64 (((v+1:Nat):Int)*4294967296+((0:Nat):Int))/\d= .co x k (.opn 1) 1):=by
 have a:=ZJ.ej TT Φ
 have hJ:True:=trivial
 refine cC.go (main:=true) a Tryz.func158 rfl Tryz.ntmps158 (by simp) fun A f hd hs=>?_
 have g:=hs 0
 have k1:=hs 1
 clear hs
 repeat refine ax (a _) ?_
 refine aX a fun K b=>?_
 refine ai.pure (a _) 1 (n:=0) _ rfl rfl ?_;simp only[*,go_sem,-b,-a]
 refine ai.nil a (b _ _ _ ?_);clear b K
 repeat refine ax (a _) ?_
 refine aX a fun K b=>?_
 refine ai.pure (a _) 4 (n:=2) _ rfl rfl ?_;simp only[*,go_sem,-b,-a]
 refine JN Cx aE c ⟨_,_,_,rfl,(by first|(simp only[*,go_sem,-b,-a,-hJ];done)|rfl),rfl,by first|(simp only[*,go_sem,-b,-a,-hJ];done)|(simp only[*,go_sem,-b,-a,-hJ];rfl),rfl⟩ fun v e=>?_
 refine ai.pure (a _) 1 (n:=0) _ rfl rfl ?_;simp only[*,go_sem,-b,-a]
 refine ai.nil a (b _ _ _ ?_);clear b K
 exact fc (k9 rfl (by simp only[*,go_sem,-a,-hJ]) (by simp only[*,go_sem,-a,-hJ]) ⟨rfl,v,e,rfl,rfl⟩).2
theorem J0 {u:Nat}:
  cC Tryz.prog (ZJ TT Φ) 160 #[.pointer (some (stA x.Wg))] F (.co x k (.look u) 1)
   (fun r F' c=>F'=F/\∃v:Nat,v<=u/\r= .int .u64 ((v:Int)*4294967296+((0:Nat):Int))/\c= .co x k (if v=0 then .eL else .look v) 1):=by
 have a:=ZJ.ej TT Φ
 have hJ:True:=trivial
 refine cC.go (main:=true) a Tryz.func160 rfl Tryz.ntmps160 (by simp) fun A e hd hs=>?_
 have f:=hs 0
 clear hs
 repeat refine ax (a _) ?_
 refine aX a fun K b=>?_
 refine ai.pure (a _) 1 (n:=0) _ rfl rfl ?_;simp only[*,go_sem,-b,-a]
 refine ai.nil a (b _ _ _ ?_);clear b K
 repeat refine ax (a _) ?_
 refine aX a fun K b=>?_
 refine ai.pure (a _) 3 (n:=2) _ rfl rfl ?_;simp only[*,go_sem,-b,-a]
 refine JO xO ⟨_,_,_,rfl,(by first|(simp only[*,go_sem,-b,-a,-hJ];done)|rfl),rfl,by first|(simp only[*,go_sem,-b,-a,-hJ];done)|(simp only[*,go_sem,-b,-a,-hJ];rfl),rfl⟩ fun v d=>?_
 refine ai.pure (a _) 1 (n:=0) _ rfl rfl ?_;simp only[*,go_sem,-b,-a]
 refine ai.nil a (b _ _ _ ?_);clear b K
 exact fc (k9 rfl (by simp only[*,go_sem,-a,-hJ]) (by simp only[*,go_sem,-a,-hJ]) ⟨rfl,v,d,rfl,rfl⟩).2
theorem J1:
  cC Tryz.prog (ZJ TT Φ) 160 #[.pointer (some (stA x.Wg))] F (.co x k .eL 1)
   (fun r F' c=>F'=F/\r= .int .u64 0/\c= .co x k .eL 1):=by
 have a:=ZJ.ej TT Φ
 have hJ:True:=trivial
 refine cC.go (main:=true) a Tryz.func160 rfl Tryz.ntmps160 (by simp) fun A d hd hs=>?_
 have e:=hs 0
 clear hs
 repeat refine ax (a _) ?_
 refine aX a fun K b=>?_
 refine ai.pure (a _) 1 (n:=0) _ rfl rfl ?_;simp only[*,go_sem,-b,-a]
 refine ai.nil a (b _ _ _ ?_);clear b K
 repeat refine ax (a _) ?_
 refine aX a fun K b=>?_
 refine ai.pure (a _) 3 (n:=2) _ rfl rfl ?_;simp only[*,go_sem,-b,-a]
 refine JP xO ⟨_,_,_,rfl,(by first|(simp only[*,go_sem,-b,-a,-hJ];done)|rfl),rfl,by first|(simp only[*,go_sem,-b,-a,-hJ];done)|(simp only[*,go_sem,-b,-a,-hJ];rfl),rfl⟩ ?_
 refine ai.pure (a _) 1 (n:=0) _ rfl rfl ?_;simp only[*,go_sem,-b,-a]
 refine ai.nil a (b _ _ _ ?_);clear b K
 exact fc (k9 rfl (by simp only[*,go_sem,-a,-hJ]) (by simp only[*,go_sem,-a,-hJ]) ⟨rfl,rfl,rfl⟩).2
theorem J2 (aE:x.Mu≠x.Wg/\x.Mu≠x.Is/\x.Wg≠x.Is){v:Nat}(d:0<v):
  cC Tryz.prog (ZJ TT Φ) 169 #[.pointer (some (stA x.Wg)),.int .u64 ((v:Int)*4294967296+((0:Nat):Int)),.int .u64 ((v:Int)*4294967296+((0:Nat):Int)+1)] F (.co x x.n (.look v) 1)
   (fun r F' c=>F'=F/\((r= .bool true/\c= .co x x.n .reg 1)\/(r= .bool false/\c= .co x x.n (.look (v - 1)) 1))):=by
 have a:=ZJ.ej TT Φ
 have hJ:True:=trivial
 refine cC.go (main:=true) a Tryz.func169 rfl Tryz.ntmps169 (by simp) fun A e hd hs=>?_
 have f:=hs 0
 have k1:=hs 1
 have g:=hs 2
 clear hs
 repeat refine ax (a _) ?_
 refine aX a fun K b=>?_
 refine ai.pure (a _) 1 (n:=0) _ rfl rfl ?_;simp only[*,go_sem,-b,-a]
 refine ai.nil a (b _ _ _ ?_);clear b K
 repeat refine ax (a _) ?_
 refine aX a fun K b=>?_
 refine ai.pure (a _) 5 (n:=2) _ rfl rfl ?_;simp only[*,go_sem,-b,-a]
 refine JQ I1 aE d rfl ⟨_,_,_,rfl,(by first|(simp only[*,go_sem,-b,-a,-hJ];done)|rfl),rfl,by first|(simp only[*,go_sem,-b,-a,-hJ];done)|(simp only[*,go_sem,-b,-a,-hJ];rfl),rfl⟩ ?_ ?_
 ·refine ai.pure (a _) 1 (n:=0) _ rfl rfl ?_;simp only[*,go_sem,-b,-a]
  refine ai.nil a (b _ _ _ ?_);clear b K
  exact fc (k9 rfl (by simp only[*,go_sem,-a,-hJ]) (by simp only[*,go_sem,-a,-hJ]) ⟨rfl,.inl ⟨rfl,rfl⟩⟩).2
 ·refine ai.pure (a _) 1 (n:=0) _ rfl rfl ?_;simp only[*,go_sem,-b,-a]
  refine ai.nil a (b _ _ _ ?_);clear b K
  exact fc (k9 rfl (by simp only[*,go_sem,-a,-hJ]) (by simp only[*,go_sem,-a,-hJ]) ⟨rfl,.inr ⟨rfl,rfl⟩⟩).2
end
attribute [local go_sem] Int.reduceBEq Int.reduceBNe muA msA stA smA
def J3 (Wg:Nat)(F:aa)(z:Z)(v:Int)(a:Act)(F':aa)(b:Z):Prop:=
 F'=F/\slot a 1= .int .i64 1/\slot a 7= .int .i32 v/\slot a 8= .int .u32 0/\sz a=117/\a.defers=[dcall 153 #[]]/\b=z
section
variable {Φ : Goroutine → aa → Prop} {x : X} {F : aa} {k : Nat}
theorem J4 (aE:x.Mu≠x.Wg/\x.Mu≠x.Is/\x.Wg≠x.Is)(o:x.n<67108864):
  cC Tryz.prog (ZJ TT Φ) 132 #[.pointer (some (stA x.Wg)),.int .i64 1] F (.co x k (.opn 0) 0)
   (fun r F' g=>r= .tuple #[]/\F'=F/\g= .co x k (.opn 1) 0):=by
 have a:=ZJ.ej TT Φ
 have hJ:True:=trivial
 refine cC.JW lf Tryz.func132 rfl rfl Tryz.ntmps132 (by simp) fun A i hd hs=>?_
 have p:=hs 0
 have k1:=hs 1
 clear hs
 have c1:decide ((1:Int)<0)=false:=by decide
 have c2:decide ((1:Int)>0)=true:=by decide
 repeat refine ax (a _) ?_
 refine cU (a _) (by simp only[*,go_sem,-a,-hJ]) ?_
 repeat refine ax (a _) ?_
 refine aX a fun K b=>?_
 refine ai.pure (a _) 2 (n:=0) _ rfl rfl ?_;simp only[*,go_sem,-b,-a]
 refine ai.nil a (b _ _ _ ?_);clear b K
 repeat refine ax (a _) ?_
 refine cA (a _) (by simp only[*,go_sem,-a,-hJ]) ?_
 refine cD (a _) ?_
 repeat refine ax (a _) ?_
 refine aX a fun K b=>?_
 refine CQ qp ⟨_,_,_,rfl,(by first|(simp only[*,go_sem,-b,-a,-hJ];done)|rfl),rfl,by first|(simp only[*,go_sem,-b,-a,-hJ];done)|(simp only[*,go_sem,-b,-a,-hJ];rfl),rfl⟩ (fun e=>by cases e) (.opn 0) (fun _ _ _ h=>h) ?_
 refine ai.nil a (b _ _ _ ?_);clear b K
 repeat refine ax (a _) ?_
 refine aX a fun K b=>?_
 refine ai.defer (a _) rfl (by first|(simp only[*,go_sem,-b,-a,-hJ];done)|rfl) rfl rfl (by simp;rfl) fun d e1 e2 j=>?_
 have l0:slot d 0= .pointer (some ⟨x.Wg,0,none⟩):=(e1 0).trans (by simp only[*,go_sem,-a,-hJ])
 have l:slot d 1= .int .i64 1:=(e1 1).trans (by simp only[*,go_sem,-a,-hJ])
 replace i:sz d=117:=e2.trans (by simp only[*,go_sem,-a,-hJ])
 replace hd:d.defers=[dcall 153 #[]]:=j.trans (by simp only[*,go_sem,-a,-hJ])
 clear e1 e2 j p k1
 refine ai.nil a (b _ _ _ ?_);clear b K
 repeat refine ax (a _) ?_
 refine aX a fun K b=>?_
 refine ai.pure (a _) 1 (n:=0) _ rfl rfl ?_;simp only[*,go_sem,-b,-a]
 refine ai.nil a (b _ _ _ ?_);clear b K
 repeat refine ax (a _) ?_
 refine aX a fun K b=>?_
 refine ai.entry (.bool false) (a _) Cz ⟨_,_,_,rfl,(by first|(simp only[*,go_sem,-b,-a,-hJ];done)|rfl),rfl,by first|(simp only[*,go_sem,-b,-a,-hJ];done)|(simp only[*,go_sem,-b,-a,-hJ];rfl),rfl⟩ ?_
 refine ai.nil a (b _ _ _ ?_);clear b K
 repeat refine ax (a _) ?_
 refine cA (a _) (by simp only[*,go_sem,-a,-hJ]) ?_
 refine cD (a _) ?_
 have w1:IntKind.u64.wrap 1=1:=by decide
 have w2:IntKind.u64.wrap (1*2 ^ min 32 64)=4294967296:=by decide
 repeat refine ax (a _) ?_
 refine aX a fun K b=>?_
 refine ai.pure (a _) 6 (n:=2) _ rfl rfl ?_;simp only[*,go_sem,-b,-a]
 refine ai.fU (a _) rfl (by first|(simp only[*,go_sem,-b,-a,-hJ];done)|rfl) rfl zF (by simp only[*,go_sem,-b,-a,-hJ]) (JZ aE o) fun r F' aK q=>?_
 obtain ⟨rfl,v,s,rfl,rfl⟩:=q
 obtain ⟨y,c⟩:∃y:Int,y=((v+1:Nat):Int)*4294967296+((0:Nat):Int):=⟨_,rfl⟩
 rw[<-c]
 have a1:gZ y 2147483648=0:=by show ku y 2147483648=0;rw[c];exact x5 (v+1) 0 (by omega) (by omega)
 have a2:gZ y 2147483647=0:=by show ku y 2147483647=0;rw[c];exact x6 (v+1) 0 (by omega) (by omega)
 obtain ⟨V,m⟩:∃V:Int,V=((v+1:Nat):Int):=⟨_,rfl⟩
 have a3:y.fdiv (2 ^ min 32 64)=V:=by rw[c,m];exact x7 (v+1) 0 (by omega)
 have a4:IntKind.i32.wrap V=V:=iw (by omega) (by omega)
 have a5:IntKind.u32.wrap 0=0:=by decide
 have w:IntKind.i32.wrap 1=1:=by decide
 have c3:decide (V<0)=false:=by simp;omega
 have c4:decide (V>0)=true:=by simp;omega
 have f:(V==1)=true\/(V==1)=false:=by cases (V==1)<;>simp
 clear c m s
 refine ai.pure (a _) 1 (n:=0) _ rfl rfl ?_;simp only[*,go_sem,-b,-a]
 refine ai.nil a (b _ _ _ ?_);clear b K
 repeat refine ax (a _) ?_
 refine aX a fun K b=>?_
 refine ai.pure (a _) 7 (n:=0) _ rfl rfl ?_;simp only[*,go_sem,-b,-a]
 refine ai.nil a (b _ _ _ ?_);clear b K
 repeat refine ax (a _) ?_
 refine cA (a _) (by simp only[*,go_sem,-a,-hJ]) ?_
 refine cD (a _) ?_
 repeat refine ax (a _) ?_
 refine aX a fun K b=>?_
 refine ai.pure (a _) 4 (n:=0) _ rfl rfl ?_;simp only[*,go_sem,-b,-a]
 refine ai.nil a (b _ _ _ ?_);clear b K
 repeat refine ax (a _) ?_
 refine aX a fun K b=>?_
 refine ai.pure (a _) 4 (n:=0) _ rfl rfl ?_;simp only[*,go_sem,-b,-a]
 refine ai.nil a (b _ _ _ ?_);clear b K
 repeat refine ax (a _) ?_
 refine aX a fun K b=>?_
 refine ai.pure (a _) 10 (n:=0) _ rfl rfl ?_;simp only[*,go_sem,-b,-a]
 refine ai.nil a (b _ _ _ ?_);clear b K
 repeat refine ax (a _) ?_
 refine tc a (J3 x.Wg F' (.co x k (.opn 1) 1) V) ?_ ?_
 ·rcases f with f|f
  ·repeat refine ax (a _) ?_
   refine cU (a _) (by simp only[*,go_sem,-a,-hJ]) ?_
   repeat refine ax (a _) ?_
   refine aX a fun K b=>?_
   refine ai.pure (a _) 3 (n:=2) _ rfl rfl ?_;simp only[*,go_sem,-b,-a]
   refine th ⟨x.Wg,1,none⟩ CA lg CB ⟨_,rfl,(by first|(simp only[*,go_sem,-b,-a,-hJ];done)|rfl),rfl,rfl⟩ (fun e=>by cases e) (by simp only[*,go_sem,-b,-a,-hJ]) CV ?_
   refine JL I3 ⟨_,_,_,rfl,(by first|(simp only[*,go_sem,-b,-a,-hJ];done)|rfl),rfl,by first|(simp only[*,go_sem,-b,-a,-hJ];done)|(simp only[*,go_sem,-b,-a,-hJ];rfl),rfl⟩ (fun e=>by cases e) ?_
   refine ai.nil a (b _ _ _ ?_);clear b K
   exact ep ⟨rfl,(by simp only[*,go_sem,-a,-hJ]),(by simp only[*,go_sem,-a,-hJ]),(by simp only[*,go_sem,-a,-hJ]),(by simp only[*,go_sem,-a,-hJ]),(by simp only[*,go_sem,-a,-hJ]),rfl⟩
  ·repeat refine ax (a _) ?_
   refine cA (a _) (by simp only[*,go_sem,-a,-hJ]) ?_
   refine cD (a _) ?_
   exact ep ⟨rfl,(by simp only[*,go_sem,-a,-hJ]),(by simp only[*,go_sem,-a,-hJ]),(by simp only[*,go_sem,-a,-hJ]),(by simp only[*,go_sem,-a,-hJ]),(by simp only[*,go_sem,-a,-hJ]),rfl⟩
 clear f l0 l i hd a1 a2 a3
 rintro A t z ⟨rfl,l,B,C,i,hd,rfl⟩
 repeat refine ax (a _) ?_
 refine aX a fun K b=>?_
 refine ai.pure (a _) 2 (n:=0) _ rfl rfl ?_;simp only[*,go_sem,-b,-a]
 refine ai.nil a (b _ _ _ ?_);clear b K
 repeat refine ax (a _) ?_
 refine cA (a _) (by simp only[*,go_sem,-a,-hJ]) ?_
 refine cD (a _) ?_
 repeat refine ax (a _) ?_
 refine aX a fun K b=>?_
 refine ai.pure (a _) 12 (n:=0) _ rfl rfl ?_;simp only[*,go_sem,-b,-a]
 refine ai.nil a (b _ _ _ ?_);clear b K
 repeat refine ax (a _) ?_
 refine cA (a _) (by simp only[*,go_sem,-a,-hJ]) ?_
 refine cD (a _) ?_
 repeat refine ax (a _) ?_
 refine aX a fun K b=>?_
 refine ai.pure (a _) 6 (n:=0) _ rfl rfl ?_;simp only[*,go_sem,-b,-a]
 refine ai.nil a (b _ _ _ ?_);clear b K
 repeat refine ax (a _) ?_
 refine cU (a _) (by simp only[*,go_sem,-a,-hJ]) ?_
 exact fc (show x9 153 (fun r u g=>r= .tuple #[]/\u=t/\g= .co x k (.opn 1) 0) .ret _ _ _ from JY (by simp only[*,go_sem,-a,-hJ]) (fun e=>by cases e) ⟨rfl,rfl,rfl⟩)
end
attribute [local go_sem] Int.reduceBEq Int.reduceBNe muA msA stA smA
def CW (x:X)(F:aa)(m:Nat)(a:Act)(F':aa)(z:Z):Prop:=
 ∃u:Nat,u<=m/\u<=x.n/\F'=F/\slot a 0= .pointer (some ⟨x.Wg,0,none⟩)/\sz a=84/\a.defers=[]/\z= .co x x.n (.look u) 1
section
variable {Φ : Goroutine → aa → Prop} {x : X} {F : aa} {k : Nat}
theorem J5 (aE:x.Mu≠x.Wg/\x.Mu≠x.Is/\x.Wg≠x.Is)(z:x.n<67108864):
  cC Tryz.prog (ZJ TT Φ) 139 #[.pointer (some (stA x.Wg))] F (.co x x.n (.opn 0) 0)
   (fun r F' d=>r= .tuple #[]/\F'=⟨F.ro,(x.Is,(x.cy TT).fin)::F.own⟩/\d= .free):=by
 have a:=ZJ.ej TT Φ
 have hJ:True:=trivial
 refine cC.go (main:=true) a Tryz.func139 rfl Tryz.ntmps139 (by simp) fun A o hd hs=>?_
 have p:=hs 0
 clear hs
 repeat refine ax (a _) ?_
 refine cU (a _) (by simp only[*,go_sem,-a,-hJ]) ?_
 repeat refine ax (a _) ?_
 refine aX a fun K b=>?_
 refine CQ qp ⟨_,_,_,rfl,(by first|(simp only[*,go_sem,-b,-a,-hJ];done)|rfl),rfl,by first|(simp only[*,go_sem,-b,-a,-hJ];done)|(simp only[*,go_sem,-b,-a,-hJ];rfl),rfl⟩ (fun e=>by cases e) (.look x.n) (fun _ _ _ h=>Ix h) ?_
 refine ai.nil a (b _ _ _ ?_);clear b K
 repeat refine ax (a _) ?_
 refine jA a ?_
 refine qo a (CW x F) x.n ?_ ?_
 ·exact ⟨x.n,Nat.le_refl _,Nat.le_refl _,rfl,(by simp only[*,go_sem,-a,-hJ]),(by simp only[*,go_sem,-a,-hJ]),(by simp only[*,go_sem,-a,-hJ]),rfl⟩
 ·clear o hd p
  rintro m A F' d ⟨u,B,C,rfl,p,o,hd,rfl⟩
  repeat refine ax (a _) ?_
  refine jA a ?_
  repeat refine ax (a _) ?_
  refine aX a fun K b=>?_
  refine ai.pure (a _) 3 (n:=2) _ rfl rfl ?_;simp only[*,go_sem,-b,-a]
  refine ai.fU (a _) rfl (by first|(simp only[*,go_sem,-b,-a,-hJ];done)|rfl) rfl uJ (by simp only[*,go_sem,-b,-a,-hJ]) J0 fun r k D f=>?_
  obtain ⟨rfl,v,t,rfl,rfl⟩:=f
  obtain ⟨y,c⟩:∃y:Int,y=(v:Int)*4294967296+((0:Nat):Int):=⟨_,rfl⟩
  rw[<-c]
  have a1:gZ y 2147483648=0:=by show ku y 2147483648=0;rw[c];exact x5 v 0 (by omega) (by omega)
  have a2:gZ y 2147483647=0:=by show ku y 2147483647=0;rw[c];exact x6 v 0 (by omega) (by omega)
  obtain ⟨V,i⟩:∃V:Int,V=(v:Int):=⟨_,rfl⟩
  have a3:y.fdiv (2 ^ min 32 64)=V:=by rw[c,i];exact x7 v 0 (by omega)
  have a4:IntKind.i32.wrap V=V:=iw (by omega) (by omega)
  have a5:IntKind.u32.wrap 0=0:=by decide
  have E:IntKind.u64.wrap (y+1)=y+1:=by
   unfold IntKind.wrap
   simp only[IntKind.bits,IntKind.signed]
   simp
   omega
  by_cases j:v=0
  ·
   have c1:(V==0)=true:=by rw[i,j];rfl
   have g:(if v=0 then P0.eL else .look v)= .eL:=if_pos j
   rw[g]
   clear g c i t j
   refine ai.pure (a _) 1 (n:=0) _ rfl rfl ?_;simp only[*,go_sem,-b,-a]
   refine ai.nil a (b _ _ _ ?_);clear b K
   repeat refine ax (a _) ?_
   refine aX a fun K b=>?_
   refine ai.pure (a _) 4 (n:=0) _ rfl rfl ?_;simp only[*,go_sem,-b,-a]
   refine ai.nil a (b _ _ _ ?_);clear b K
   repeat refine ax (a _) ?_
   refine aX a fun K b=>?_
   refine ai.pure (a _) 4 (n:=0) _ rfl rfl ?_;simp only[*,go_sem,-b,-a]
   refine ai.nil a (b _ _ _ ?_);clear b K
   repeat refine ax (a _) ?_
   refine aX a fun K b=>?_
   refine ai.pure (a _) 2 (n:=0) _ rfl rfl ?_;simp only[*,go_sem,-b,-a]
   refine ai.nil a (b _ _ _ ?_);clear b K
   repeat refine ax (a _) ?_
   refine cU (a _) (by simp only[*,go_sem,-a,-hJ]) ?_
   repeat refine ax (a _) ?_
   refine cU (a _) (by simp only[*,go_sem,-a,-hJ]) ?_
   repeat refine ax (a _) ?_
   refine aX a fun K b=>?_
   refine CR lf ⟨_,_,_,rfl,(by first|(simp only[*,go_sem,-b,-a,-hJ];done)|rfl),rfl,by first|(simp only[*,go_sem,-b,-a,-hJ];done)|(simp only[*,go_sem,-b,-a,-hJ];rfl),rfl⟩ (fun e=>by cases e) ?_
   refine ai.nil a (b _ _ _ ?_);clear b K
   repeat refine ax (a _) ?_
   refine aX a fun K b=>?_
   refine ai.pure (a _) 1 (n:=2) _ rfl rfl ?_;simp only[*,go_sem,-b,-a]
   refine th ⟨x.Wg,0,none⟩ xQ lg xS ⟨_,rfl,(by first|(simp only[*,go_sem,-b,-a,-hJ];done)|rfl),rfl,rfl⟩ (fun e=>by cases e) (by simp only[*,go_sem,-b,-a,-hJ]) CU ?_
   refine CS s3 rfl ⟨_,_,_,rfl,(by first|(simp only[*,go_sem,-b,-a,-hJ];done)|rfl),rfl,by first|(simp only[*,go_sem,-b,-a,-hJ];done)|(simp only[*,go_sem,-b,-a,-hJ];rfl),rfl⟩ ?_
   refine ai.nil a (b _ _ _ ?_);clear b K
   repeat refine ax (a _) ?_
   refine aX a fun K b=>?_
   refine ai.pure (a _) 11 (n:=0) _ rfl rfl ?_;simp only[*,go_sem,-b,-a]
   refine ai.nil a (b _ _ _ ?_);clear b K
   repeat refine ax (a _) ?_
   refine cA (a _) (by simp only[*,go_sem,-a,-hJ]) ?_
   refine cD (a _) ?_
   exact fc (show jB Tryz.prog Tryz.f139 (fun (r:Value) (F':aa) (d:Z)=>r= .tuple #[]/\F'=⟨k.ro,(x.Is,(x.cy TT).fin)::k.own⟩/\d=Z.free) .ret _ _ _ from om rfl (by simp only[*,go_sem,-a,-hJ]) ⟨rfl,rfl,rfl⟩)
  ·have c1:(V==0)=false:=by simp;omega
   have g:(if v=0 then P0.eL else .look v)= .look v:=if_neg j
   rw[g]
   have l:=J2 (Φ:=Φ) (F:=k) aE (v:=v) (by omega)
   rw[<-c] at l
   clear g c i
   refine ai.pure (a _) 1 (n:=0) _ rfl rfl ?_;simp only[*,go_sem,-b,-a]
   refine ai.nil a (b _ _ _ ?_);clear b K
   repeat refine ax (a _) ?_
   refine aX a fun K b=>?_
   refine ai.pure (a _) 4 (n:=0) _ rfl rfl ?_;simp only[*,go_sem,-b,-a]
   refine ai.nil a (b _ _ _ ?_);clear b K
   repeat refine ax (a _) ?_
   refine aX a fun K b=>?_
   refine ai.pure (a _) 4 (n:=0) _ rfl rfl ?_;simp only[*,go_sem,-b,-a]
   refine ai.nil a (b _ _ _ ?_);clear b K
   repeat refine ax (a _) ?_
   refine aX a fun K b=>?_
   refine ai.pure (a _) 2 (n:=0) _ rfl rfl ?_;simp only[*,go_sem,-b,-a]
   refine ai.nil a (b _ _ _ ?_);clear b K
   repeat refine ax (a _) ?_
   refine cA (a _) (by simp only[*,go_sem,-a,-hJ]) ?_
   refine cD (a _) ?_
   repeat refine ax (a _) ?_
   refine aX a fun K b=>?_
   refine ai.pure (a _) 6 (n:=1) _ rfl rfl ?_;simp only[*,go_sem,-b,-a]
   refine ai.fU (a _) rfl (by first|(simp only[*,go_sem,-b,-a,-hJ];done)|rfl) rfl Ez (by simp only[*,go_sem,-b,-a,-hJ]) l fun r w G f=>?_
   clear l
   obtain ⟨rfl,⟨rfl,rfl⟩|⟨rfl,rfl⟩⟩:=f
   ·
    refine ai.nil a (b _ _ _ ?_);clear b K
    repeat refine ax (a _) ?_
    refine cU (a _) (by simp only[*,go_sem,-a,-hJ]) ?_
    repeat refine ax (a _) ?_
    refine aX a fun K b=>?_
    refine ai.pure (a _) 4 (n:=0) _ rfl rfl ?_;simp only[*,go_sem,-b,-a]
    refine ai.nil a (b _ _ _ ?_);clear b K
    repeat refine ax (a _) ?_
    refine cU (a _) (by simp only[*,go_sem,-a,-hJ]) ?_
    repeat refine ax (a _) ?_
    refine aX a fun K b=>?_
    refine ai.pure (a _) 3 (n:=2) _ rfl rfl ?_;simp only[*,go_sem,-b,-a]
    refine th ⟨x.Wg,1,none⟩ CA lg CB ⟨_,rfl,(by first|(simp only[*,go_sem,-b,-a,-hJ];done)|rfl),rfl,rfl⟩ (fun _=>rfl) (by simp only[*,go_sem,-b,-a,-hJ]) CV ?_
    refine JM I4 ⟨_,_,_,rfl,(by first|(simp only[*,go_sem,-b,-a,-hJ];done)|rfl),rfl,by first|(simp only[*,go_sem,-b,-a,-hJ];done)|(simp only[*,go_sem,-b,-a,-hJ];rfl),rfl⟩ (fun _=>rfl) ?_
    refine ai.nil a (b _ _ _ ?_);clear b K
    repeat refine ax (a _) ?_
    refine aX a fun K b=>?_
    refine ai.pure (a _) 1 (n:=0) _ rfl rfl ?_;simp only[*,go_sem,-b,-a]
    refine ai.nil a (b _ _ _ ?_);clear b K
    repeat refine ax (a _) ?_
    refine aX a fun K b=>?_
    refine ai.pure (a _) 6 (n:=0) _ rfl rfl ?_;simp only[*,go_sem,-b,-a]
    refine ai.nil a (b _ _ _ ?_);clear b K
    repeat refine ax (a _) ?_
    refine cA (a _) (by simp only[*,go_sem,-a,-hJ]) ?_
    refine cD (a _) ?_
    repeat refine ax (a _) ?_
    refine aX a fun K b=>?_
    refine ai.pure (a _) 4 (n:=1) _ rfl rfl ?_;simp only[*,go_sem,-b,-a]
    refine JR (.bool false) I5 aE rfl ⟨_,_,_,rfl,(by first|(simp only[*,go_sem,-b,-a,-hJ];done)|rfl),rfl,by first|(simp only[*,go_sem,-b,-a,-hJ];done)|(simp only[*,go_sem,-b,-a,-hJ];rfl),rfl⟩ ?_
    refine ai.nil a (b _ _ _ ?_);clear b K
    repeat refine ax (a _) ?_
    refine aX a fun K b=>?_
    refine ai.pure (a _) 3 (n:=3) _ rfl rfl ?_;simp only[*,go_sem,-b,-a]
    refine ai.fU (a _) rfl (by first|(simp only[*,go_sem,-b,-a,-hJ];done)|rfl) rfl uJ (by simp only[*,go_sem,-b,-a,-hJ]) J1 fun r q H f=>?_
    obtain ⟨rfl,rfl,rfl⟩:=f
    refine ai.pure (a _) 2 (n:=0) _ rfl rfl ?_;simp only[*,go_sem,-b,-a]
    refine ai.nil a (b _ _ _ ?_);clear b K
    repeat refine ax (a _) ?_
    refine cU (a _) (by simp only[*,go_sem,-a,-hJ]) ?_
    repeat refine ax (a _) ?_
    refine aX a fun K b=>?_
    refine CR lf ⟨_,_,_,rfl,(by first|(simp only[*,go_sem,-b,-a,-hJ];done)|rfl),rfl,by first|(simp only[*,go_sem,-b,-a,-hJ];done)|(simp only[*,go_sem,-b,-a,-hJ];rfl),rfl⟩ (fun e=>by cases e) ?_
    refine ai.nil a (b _ _ _ ?_);clear b K
    repeat refine ax (a _) ?_
    refine aX a fun K b=>?_
    refine ai.pure (a _) 1 (n:=2) _ rfl rfl ?_;simp only[*,go_sem,-b,-a]
    refine th ⟨x.Wg,0,none⟩ xQ lg xS ⟨_,rfl,(by first|(simp only[*,go_sem,-b,-a,-hJ];done)|rfl),rfl,rfl⟩ (fun e=>by cases e) (by simp only[*,go_sem,-b,-a,-hJ]) CU ?_
    refine CS s3 rfl ⟨_,_,_,rfl,(by first|(simp only[*,go_sem,-b,-a,-hJ];done)|rfl),rfl,by first|(simp only[*,go_sem,-b,-a,-hJ];done)|(simp only[*,go_sem,-b,-a,-hJ];rfl),rfl⟩ ?_
    refine ai.nil a (b _ _ _ ?_);clear b K
    repeat refine ax (a _) ?_
    refine aX a fun K b=>?_
    refine ai.pure (a _) 1 (n:=0) _ rfl rfl ?_;simp only[*,go_sem,-b,-a]
    refine ai.nil a (b _ _ _ ?_);clear b K
    repeat refine ax (a _) ?_
    refine cA (a _) (by simp only[*,go_sem,-a,-hJ]) ?_
    refine cD (a _) ?_
    exact fc (show jB Tryz.prog Tryz.f139 (fun (r:Value) (F':aa) (d:Z)=>r= .tuple #[]/\F'=⟨q.ro,(x.Is,(x.cy TT).fin)::q.own⟩/\d=Z.free) .ret _ _ _ from om rfl (by simp only[*,go_sem,-a,-hJ]) ⟨rfl,rfl,rfl⟩)
   ·
    refine ai.nil a (b _ _ _ ?_);clear b K
    repeat refine ax (a _) ?_
    refine cA (a _) (by simp only[*,go_sem,-a,-hJ]) ?_
    refine cD (a _) ?_
    change ∃s,s<m/\CW x w s _ _ _
    exact ⟨v - 1,by omega,v - 1,Nat.le_refl _,by omega,rfl,(by simp only[*,go_sem,-a,-hJ]),(by simp only[*,go_sem,-a,-hJ]),(by simp only[*,go_sem,-a,-hJ]),rfl⟩
end
end Go.Proofs.YtpgcmoanfifglaaGreatDoor
end
section
namespace Go.Sep
open Go Go.Conc
variable {P : Program}
theorem J6 {t e:TypeId}{i:TypeInfo}{n:Nat}{R:Value->aa->Prop}{F:aa}(hu:P.underlying t=some (.slice e))(hi:P.info? e=some i)(hb:i.bytes=1)(hs:bW P e=some 1)(d:zeroOf P e=some (.bool false))(g:n<1048576)
  (h:∀b,dP F b->R (.slice (some ⟨b,0,none⟩) n n) (F.push b (.cells (List.replicate n (Value.bool false)).toArray e))):eN P (Instr.makeSlice t (.int .i64 n) (.int .i64 n)) R F:=by
 unfold eN
 have hw:IntKind.i64.wrap (n:Int)=(n:Int):=by
  unfold IntKind.wrap
  simp[IntKind.bits,IntKind.signed]
  omega
 have e1:¬((n:Int)<0\/(1:Int)*(n:Int)>2 ^ 48):=by
  have:((2:Int) ^ 48)=281474976710656:=by decide
  omega
 simp only[Instr.makeSlice,bp,dr,hu,yZ,oI,hi,hb,hw]
 have e2:(((n:Int)<0||decide (((1:Nat):Int)*(n:Int)>2 ^ 48))||decide ((n:Int)<0)||decide ((n:Int)>(n:Int)))=false:=by
  have:((2:Int) ^ 48)=281474976710656:=by decide
  simp only[Bool.or_eq_false_iff,decide_eq_false_iff_not]
  omega
 rw[if_neg (by rw[e2];simp)]
 simp only[bp]
 refine uh _ ?_
 simp only[bp,eE,hs,Int.toNat_natCast,Nat.mul_one]
 have fin:∀zero:Array Value,(n≠0->zero=#[.bool false])->aS P (newRow e ((Array.range n).map (fun j=>zero[j % zero.size]!))) (fun a G=>aS P (Pure.pure (Value.slice (some a) n n)) R G) F:=fun zero hzero=>by
  simp only[newRow,bp,oH,bD]
  have f:((Array.range n).map (fun j=>zero[j % zero.size]!))=(List.replicate n (Value.bool false)).toArray:=by
   rcases Nat.eq_zero_or_pos n with rfl|k
   ·simp
   ·rw[hzero (by omega)]
    rw[<-Array.toList_inj]
    simp only[Array.toList_map,Array.toList_range]
    apply List.ext_getElem
    ·simp
    ·intro i l m
     simp[Nat.mod_one]
  rw[f]
  exact ⟨rfl,h⟩
 by_cases c:n=0
 ·rw[if_pos c]
  exact fin #[] (fun x=>absurd c x)
 ·rw[if_neg c]
  rw[bp,lD,d]
  exact fin #[.bool false] (fun _=>rfl)
section
variable {T : PT} {Φ : Goroutine → aa → Prop} {fi : FuncId}
def ya:Z->Bool| .co _ _ .reg _=>false|_=>true
theorem ZJ.J7 (T:PT)(Φ:Goroutine->aa->Prop)(z:Z)(h:ya z=true):Closed T.P true (ZJ T Φ z):=ZJ.closed T Φ fun x k d e=>by subst e;simp[ya] at h
theorem CX {P:Program}{main:Bool}{S:Type}{JF:S->Goroutine->aa->Prop}{ph:S}(hJ:Closed P main (JF ph)){c:Code}{Q:Ex->Act->aa->S->Prop}{a:Act}{F F':aa}(hle:Le F F')(h:cI JF fi c Q a F ph):cI JF fi c Q a F' ph:=
 fun b k cs hb d=>hJ.mono hle (h b k cs hb d)
theorem yb {P:Program}{main:Bool}{S:Type}{JF:S->Goroutine->aa->Prop}{ph:S}(hJ:Closed P main (JF ph)){c:Code}{Q:Ex->Act->aa->S->Prop}{a:Act}{F:aa}(h:aP (keys F.own)->aF F.ro F.own->cI JF fi c Q a F ph):cI JF fi c Q a F ph:=by
 intro b k cs hb d;by_cases hw:∃w,Has F w
 ·obtain ⟨w,hw⟩:=hw;refine h ⟨hw.nodup⟩ (fun b hb off sp=>?_) b k cs hb d;cases e:F.ro ⟨b,off,sp⟩ with
  |none=>rfl
  |some v=>exact absurd hb (hw.apart _ v e)
 ·exact hJ.step fun w f=>absurd ⟨w,f⟩ hw
end
theorem mR {ro:Addr->Option Value}{b a off:Nat}{sp:Option Nat}{o:Obj}(h:ro ⟨a,off,sp⟩=none)(aE:a≠b):bP ro b o ⟨a,off,sp⟩=none:=by simp[bP,h,aE]
theorem J8 {ro:Addr->Option Value}{b3 b4 b a I M W:Nat}{i o4 g c d e f:Obj}(p:aP (keys [(W,f),(M,e),(a,c),(I,d),(b,g),(b4,o4),(b3,i)]))(l:aF ro [(W,f),(M,e),(a,c),(I,d),(b,g),(b4,o4),(b3,i)]):
  ∃j,Ext ro j/\Le ⟨j,[(M,e),(W,f),(I,d)]⟩ ⟨ro,[(W,f),(M,e),(a,c),(I,d),(b,g),(b4,o4),(b3,i)]⟩/\
   (∀off v,cellOf i off=some v->j ⟨b3,off,none⟩=some v)/\(∀off v,cellOf o4 off=some v->j ⟨b4,off,none⟩=some v)/\(∀off v,cellOf g off=some v->j ⟨b,off,none⟩=some v)/\(∀off v,cellOf c off=some v->j ⟨a,off,none⟩=some v):=by
 have hd:=p.1
 simp only[keys,List.map_cons,List.map_nil,List.nodup_cons,List.mem_cons,List.not_mem_nil,not_or] at hd
 obtain ⟨⟨-,a1,-,a2,a3,a4,-⟩,⟨G,-,H,J,K,-⟩,⟨c1,c2,c3,c4,-⟩,⟨i1,i2,i3,-⟩,⟨e1,e2,-⟩,⟨r,-⟩,-⟩:=hd
 have r3:∀off sp,ro ⟨b3,off,sp⟩=none:=l b3 (by simp[keys])
 have s:∀off sp,ro ⟨b4,off,sp⟩=none:=l b4 (by simp[keys])
 have t:∀off sp,ro ⟨b,off,sp⟩=none:=l b (by simp[keys])
 have u:∀off sp,ro ⟨a,off,sp⟩=none:=l a (by simp[keys])
 clear l p
 have w:b4≠b3:=r
 have x:b≠b3:=e2
 have y:b≠b4:=e1
 have z:a≠b3:=c4
 have A:a≠b4:=c3
 have B:a≠b:=c2
 let s1:=bP ro b3 i
 let s2:=bP s1 b4 o4
 let k:=bP s2 b g
 let n:=bP k a c
 have C:Ext ro s1:=fW _ _ _
 have q:Ext s1 s2:=fW _ _ _
 have o:Ext s2 k:=fW _ _ _
 have m:Ext k n:=fW _ _ _
 have t4:∀off sp,s1 ⟨b4,off,sp⟩=none:=fun off sp=>mR (s off sp) w
 have t7:∀off sp,s2 ⟨b,off,sp⟩=none:=fun off sp=>mR (mR (t off sp) x) y
 have t8:∀off sp,k ⟨a,off,sp⟩=none:=fun off sp=>mR (mR (mR (u off sp) z) A) B
 have k1:Le ⟨s1,[(W,f),(M,e),(a,c),(I,d),(b,g),(b4,o4)]⟩ ⟨ro,[(W,f),(M,e),(a,c),(I,d),(b,g),(b4,o4),(b3,i)]⟩:=
  jK (by simp[lk, *]) (by simp) (by simp[au,Ne.symm, *])
 have D:Le ⟨s2,[(W,f),(M,e),(a,c),(I,d),(b,g)]⟩ ⟨s1,[(W,f),(M,e),(a,c),(I,d),(b,g),(b4,o4)]⟩:=
  jK (by simp[lk, *]) (by simp) (by simp[au,Ne.symm, *])
 have E:Le ⟨k,[(W,f),(M,e),(a,c),(I,d)]⟩ ⟨s2,[(W,f),(M,e),(a,c),(I,d),(b,g)]⟩:=
  jK (by simp[lk, *]) (by simp) (by simp[au,Ne.symm, *])
 have F:Le ⟨n,[(W,f),(M,e),(I,d)]⟩ ⟨k,[(W,f),(M,e),(a,c),(I,d)]⟩:=
  jK (by simp[lk, *]) (by simp) (by simp[au,Ne.symm, *])
 refine ⟨n,((C.trans q).trans o).trans m,zH.trans (((F.trans E).trans D).trans k1),fun off v h=>?_,fun off v h=>?_,fun off v h=>?_,fun off v h=>?_⟩
 ·exact m _ _ (o _ _ (q _ _ ((iK r3).trans h)))
 ·exact m _ _ (o _ _ ((iK t4).trans h))
 ·exact m _ _ ((iK t7).trans h)
 ·exact (iK t8).trans h
theorem J9 {ro:Addr->Option Value}{a b2:Nat}{o1 o2:Obj}(d:aP (keys [(b2,o2),(a,o1)]))(c:aF ro [(b2,o2),(a,o1)]):
  ∃b,Ext ro b/\Le ⟨b,[]⟩ ⟨ro,[(b2,o2),(a,o1)]⟩/\(∀off v,cellOf o1 off=some v->b ⟨a,off,none⟩=some v)/\(∀off v,cellOf o2 off=some v->b ⟨b2,off,none⟩=some v):=by
 have hd:=d.1
 simp only[keys,List.map_cons,List.map_nil,List.nodup_cons,List.mem_cons,List.not_mem_nil,not_or] at hd
 have r1:∀off sp,ro ⟨a,off,sp⟩=none:=c a (by simp[keys])
 have r2:∀off sp,ro ⟨b2,off,sp⟩=none:=c b2 (by simp[keys])
 have e:b2≠a:=by obtain ⟨⟨z,-⟩,-⟩:=hd;exact z
 have t2:∀off sp,bP ro a o1 ⟨b2,off,sp⟩=none:=fun off sp=>mR (r2 off sp) e
 have k1:Le ⟨bP ro a o1,[(b2,o2)]⟩ ⟨ro,[(b2,o2),(a,o1)]⟩:=jK (by simp[lk, *]) (by simp) (by simp[au,Ne.symm, *])
 have f:Le ⟨bP (bP ro a o1) b2 o2,[]⟩ ⟨bP ro a o1,[(b2,o2)]⟩:=jK (by simp only[lk];simp) (by simp) trivial
 exact ⟨_,(fW _ _ _).trans (fW _ _ _),f.trans k1,fun off v h=>fW _ _ _ _ _ ((iK r1).trans h),fun off v h=>(iK t2).trans h⟩
theorem Ka {T:PT}{Φ:Goroutine->aa->Prop}{x:X}{k:Nat}{ops:Array Oper}{j n:Nat}{Q:Act->aa->Z->Prop}{a:Act}{F:aa}{fi:FuncId}(b:k<x.n){y:Operand}{f0:FuncId}{dh:Array TypeId}{caps:Array Value}(c:mO ops j a (.go {callee:=.value y,args:=#[],argTypes:=dh}) none)(d:ev a y= .func (.func f0) #[] caps)
  (hW:Wk (x.cy T) k ⟨.idle,.cnt,false,0⟩ (born T.P {target:=.fn (.func f0) caps,args:=#[]}) ⟨F.ro,[]⟩) (h:ai (ZJ T Φ) fi ops (j+1) n Q (bf a none undef) F (.co x (k+1) (.opn 0) 0)):ai (ZJ T Φ) fi ops j (n+1) Q a F (.co x k (.opn 1) 0):=by
 obtain ⟨o,e,hg,f,hd⟩:=c
 have e1:execOp a.eval o=(pure (.spawn {target:=.fn (.func f0) caps,args:=#[]}):Sem Next):=by
  unfold execOp
  have e0:(#[]:Array Value)++Array.map (ev a) #[]=#[]:=by simp
  simp only[f,resolve,er,d,Deferred.ofValue,e0]
  rfl
 refine JS (fv:=y) b e hg (fun w=>?_) rfl hW (by rw[hd];exact h)
 rw[e1]
 exact ⟨rfl,rfl⟩
end Go.Sep
end
section
namespace Go.Proofs.YtpgcmoanfifglaaGreatDoor
open Go Go.Sep Go.Proofs Go.Conc
open Go.ConcN (upd upd_same)
open Go.ConcM (muA msA)
open Go.ConcR (stA smA)
set_option maxRecDepth 100000
set_option maxHeartbeats 4000000
attribute [local go_sem] Int.reduceBEq Int.reduceBNe muA msA stA smA
def Kb (Wg:Nat)(st:Bool)(F:aa)(m:Nat)(a:Act)(F':aa)(ph:Ph):Prop:=
 ∃t8:Int,F'=F/\slot a 0= .pointer (some ⟨Wg,0,none⟩)/\slot a 8= .int .u32 t8/\sz a=117/\a.defers=[dcall 153 #[]]/\((m=1/\t8=1/\ph=⟨.fin,.sm,st,1⟩)\/(m=0/\t8=0/\ph=⟨.fin,.gone,st,1⟩))
theorem Kc {f:FuncId}{R:Value->aa->Ph->Prop}{a:Act}{F:aa}{ph:Ph}{b:Nat}(hd:a.defers=[dcall f #[]])(hg:ph.gp= .gone)(h:ph.deaf=b+1)(c:R (.tuple #[]) F {ph with deaf:=b}):kr f R .normal a F ph:=⟨hd,hg,b,h,c⟩
theorem tj {f:FuncId}{R:Value->aa->Ph->Prop}{a:Act}{F:aa}{ph:Ph}{b:Nat}(hd:a.defers=[dcall f #[]])(hg:ph.gp= .gone)(h:ph.deaf=b+1)(c:R (.tuple #[]) F {ph with deaf:=b}):kr f R .ret a F ph:=⟨hd,hg,b,h,c⟩
section
variable {Mu Wg Is n base T0 i : Nat} {bs : Nat → Bool} {st : Bool} {F : aa}
theorem Ke (aE:Mu≠Wg/\Mu≠Is/\Wg≠Is)(s:n<67108864){mp:Mp}(u:mp= .idle\/mp= .fin)(w:st=bs i):
  cC Tryz.prog (WJ (CY Mu Wg Is n bs base T0) i) 132 #[.pointer (some (stA Wg)),.int .i64 (-1)] F ⟨mp,.cnt,st,0⟩
   (fun r F' aK=>r= .tuple #[]/\F'=F/\aK=⟨.fin,.gone,st,0⟩):=by
 have a:=WJ.ej (CY Mu Wg Is n bs base T0) i
 refine cC.JA lf Tryz.func132 rfl rfl Tryz.ntmps132 (by simp) fun A h hd hs=>?_
 have hJ:True:=trivial
 have y:=hs 0
 have k1:=hs 1
 clear hs
 subst w
 have c1:decide ((-1:Int)<0)=true:=by decide
 have c2:decide ((-1:Int)>0)=false:=by decide
 repeat refine ax (a _) ?_
 refine cU (a _) (by simp only[*,go_sem,-a,-hJ]) ?_
 repeat refine ax (a _) ?_
 refine aX a fun K b=>?_
 refine ai.pure (a _) 2 (n:=0) _ rfl rfl ?_;simp only[*,go_sem,-b,-a]
 refine ai.nil a (b _ _ _ ?_);clear b K
 repeat refine ax (a _) ?_
 refine cU (a _) (by simp only[*,go_sem,-a,-hJ]) ?_
 repeat refine ax (a _) ?_
 refine aX a fun K b=>?_
 refine ai.pure (a _) 1 (n:=2) _ rfl rfl ?_;simp only[*,go_sem,-b,-a]
 refine s9 ⟨Wg,0,none⟩ xQ lg xS ⟨_,rfl,(by first|(simp only[*,go_sem,-b,-a,-hJ];done)|rfl),rfl,rfl⟩ (by simp) (by simp only[*,go_sem,-b,-a,-hJ]) JC ?_
 refine Je Cu ⟨_,_,_,rfl,(by first|(simp only[*,go_sem,-b,-a,-hJ];done)|rfl),rfl,by first|(simp only[*,go_sem,-b,-a,-hJ];done)|(simp only[*,go_sem,-b,-a,-hJ];rfl),rfl⟩ rfl rfl u rfl ?_
 refine ai.nil a (b _ _ _ ?_);clear b K
 repeat refine ax (a _) ?_
 refine aX a fun K b=>?_
 refine xY qp ⟨_,_,_,rfl,(by first|(simp only[*,go_sem,-b,-a,-hJ];done)|rfl),rfl,by first|(simp only[*,go_sem,-b,-a,-hJ];done)|(simp only[*,go_sem,-b,-a,-hJ];rfl),rfl⟩ (by simp) (by simp) ?_
 refine ai.nil a (b _ _ _ ?_);clear b K
 repeat refine ax (a _) ?_
 refine aX a fun K b=>?_
 refine ai.defer (a _) rfl (by first|(simp only[*,go_sem,-b,-a,-hJ];done)|rfl) rfl rfl (by simp;rfl) fun g e1 e2 l=>?_
 have l0:slot g 0= .pointer (some ⟨Wg,0,none⟩):=(e1 0).trans (by simp only[*,go_sem,-a,-hJ])
 have z:slot g 1= .int .i64 (-1):=(e1 1).trans (by simp only[*,go_sem,-a,-hJ])
 replace h:sz g=117:=e2.trans (by simp only[*,go_sem,-a,-hJ])
 replace hd:g.defers=[dcall 153 #[]]:=l.trans (by simp only[*,go_sem,-a,-hJ])
 clear e1 e2 l y k1
 refine ai.nil a (b _ _ _ ?_);clear b K
 repeat refine ax (a _) ?_
 refine aX a fun K b=>?_
 refine ai.pure (a _) 1 (n:=0) _ rfl rfl ?_;simp only[*,go_sem,-b,-a]
 refine ai.nil a (b _ _ _ ?_);clear b K
 repeat refine ax (a _) ?_
 refine aX a fun K b=>?_
 refine ai.entry (.bool false) (a _) Cz ⟨_,_,_,rfl,(by first|(simp only[*,go_sem,-b,-a,-hJ];done)|rfl),rfl,by first|(simp only[*,go_sem,-b,-a,-hJ];done)|(simp only[*,go_sem,-b,-a,-hJ];rfl),rfl⟩ ?_
 refine ai.nil a (b _ _ _ ?_);clear b K
 repeat refine ax (a _) ?_
 refine cA (a _) (by simp only[*,go_sem,-a,-hJ]) ?_
 refine cD (a _) ?_
 have w1:IntKind.u64.wrap (-1)=18446744073709551615:=by decide
 have w2:IntKind.u64.wrap (18446744073709551615*2 ^ min 32 64)=18446744069414584320:=by decide
 repeat refine ax (a _) ?_
 refine aX a fun K b=>?_
 refine ai.pure (a _) 6 (n:=2) _ rfl rfl ?_;simp only[*,go_sem,-b,-a]
 refine ai.fU (a _) rfl (by first|(simp only[*,go_sem,-b,-a,-hJ];done)|rfl) rfl zF (by simp only[*,go_sem,-b,-a,-hJ]) (JD aE s) fun r F' aK f=>?_
 obtain ⟨rfl,v,t,o,ht,rfl,rfl⟩:=f
 obtain ⟨x,d⟩:∃x:Int,x=(v:Int)*4294967296+(t:Int):=⟨_,rfl⟩
 rw[<-d]
 have a1:gZ x 2147483648=0:=by show ku x 2147483648=0;rw[d];exact x5 v t (by omega) ht
 have a2:gZ x 2147483647=(t:Int):=by show ku x 2147483647=(t:Int);rw[d];exact x6 v t (by omega) ht
 have a3:x.fdiv (2 ^ min 32 64)=(v:Int):=by rw[d];exact x7 v t ht
 have a4:IntKind.i32.wrap (v:Int)=(v:Int):=iw (by omega) (by omega)
 have a5:IntKind.u32.wrap (t:Int)=(t:Int):=by
  unfold IntKind.wrap
  simp[IntKind.bits,IntKind.signed]
  omega
 have j:v=0->t=1->((1:Int) != x)=false:=fun e B=>by rw[d,e,B];rfl
 clear d
 refine ai.pure (a _) 1 (n:=0) _ rfl rfl ?_;simp only[*,go_sem,-b,-a]
 refine ai.nil a (b _ _ _ ?_);clear b K
 repeat refine ax (a _) ?_
 refine aX a fun K b=>?_
 refine ai.pure (a _) 7 (n:=0) _ rfl rfl ?_;simp only[*,go_sem,-b,-a]
 refine ai.nil a (b _ _ _ ?_);clear b K
 repeat refine ax (a _) ?_
 refine cA (a _) (by simp only[*,go_sem,-a,-hJ]) ?_
 refine cD (a _) ?_
 repeat refine ax (a _) ?_
 refine aX a fun K b=>?_
 refine ai.pure (a _) 4 (n:=0) _ rfl rfl ?_;simp only[*,go_sem,-b,-a]
 refine ai.nil a (b _ _ _ ?_);clear b K
 repeat refine ax (a _) ?_
 refine aX a fun K b=>?_
 refine ai.pure (a _) 4 (n:=0) _ rfl rfl ?_;simp only[*,go_sem,-b,-a]
 refine ai.nil a (b _ _ _ ?_);clear b K
 repeat refine ax (a _) ?_
 refine aX a fun K b=>?_
 refine ai.pure (a _) 10 (n:=0) _ rfl rfl ?_;simp only[*,go_sem,-b,-a]
 refine ai.nil a (b _ _ _ ?_);clear b K
 repeat refine ax (a _) ?_
 refine cA (a _) (by simp only[*,go_sem,-a,-hJ]) ?_
 refine cD (a _) ?_
 have c3:decide ((v:Int)<0)=false:=by simp
 repeat refine ax (a _) ?_
 refine aX a fun K b=>?_
 refine ai.pure (a _) 2 (n:=0) _ rfl rfl ?_;simp only[*,go_sem,-b,-a]
 refine ai.nil a (b _ _ _ ?_);clear b K
 repeat refine ax (a _) ?_
 refine cA (a _) (by simp only[*,go_sem,-a,-hJ]) ?_
 refine cD (a _) ?_
 have p:t=0\/t=1:=by omega
 by_cases hC:v=0/\t=1
 ·
  obtain ⟨rfl,rfl⟩:=hC
  have C:((1:Int) != x)=false:=j rfl rfl
  have hg:(if (0:Nat)=0/\(1:Nat)=1 then Gp.ld else Gp.gone)= .ld:=rfl
  rw[hg]
  have D:((1:Nat):Int)=1:=rfl
  clear hg j p o ht
  repeat refine ax (a _) ?_
  refine aX a fun K b=>?_
  refine ai.pure (a _) 12 (n:=0) _ rfl rfl ?_;simp only[*,go_sem,-b,-a]
  refine ai.nil a (b _ _ _ ?_);clear b K
  repeat refine ax (a _) ?_
  refine cA (a _) (by simp only[*,go_sem,-a,-hJ]) ?_
  refine cD (a _) ?_
  repeat refine ax (a _) ?_
  refine aX a fun K b=>?_
  refine ai.pure (a _) 6 (n:=0) _ rfl rfl ?_;simp only[*,go_sem,-b,-a]
  refine ai.nil a (b _ _ _ ?_);clear b K
  repeat refine ax (a _) ?_
  refine cA (a _) (by simp only[*,go_sem,-a,-hJ]) ?_
  refine cD (a _) ?_
  repeat refine ax (a _) ?_
  refine aX a fun K b=>?_
  refine ai.pure (a _) 3 (n:=3) _ rfl rfl ?_;simp only[*,go_sem,-b,-a]
  refine ai.fU (a _) rfl (by first|(simp only[*,go_sem,-b,-a,-hJ];done)|rfl) rfl uJ (by simp only[*,go_sem,-b,-a,-hJ]) JE fun r F' aK f=>?_
  obtain ⟨rfl,rfl,rfl⟩:=f
  refine ai.pure (a _) 2 (n:=0) _ rfl rfl ?_;simp only[*,go_sem,-b,-a]
  refine ai.nil a (b _ _ _ ?_);clear b K
  repeat refine ax (a _) ?_
  refine cA (a _) (by simp only[*,go_sem,-a,-hJ]) ?_
  refine cD (a _) ?_
  repeat refine ax (a _) ?_
  refine aX a fun K b=>?_
  refine ai.pure (a _) 3 (n:=1) _ rfl rfl ?_;simp only[*,go_sem,-b,-a]
  refine ai.fU (a _) rfl (by first|(simp only[*,go_sem,-b,-a,-hJ];done)|rfl) rfl Ev (by simp only[*,go_sem,-b,-a,-hJ]) (JG aE) fun r F' aK f=>?_
  obtain ⟨rfl,rfl,rfl⟩:=f
  refine ai.nil a (b _ _ _ ?_);clear b K
  repeat refine ax (a _) ?_
  refine aX a fun K b=>?_
  refine ai.pure (a _) 1 (n:=0) _ rfl rfl ?_;simp only[*,go_sem,-b,-a]
  refine ai.nil a (b _ _ _ ?_);clear b K
  repeat refine ax (a _) ?_
  refine cA (a _) (by simp only[*,go_sem,-a,-hJ]) ?_
  refine cD (a _) ?_
  repeat refine ax (a _) ?_
  refine jA a ?_
  refine qo a (Kb Wg (bs i) F') 1 ?_ ?_
  ·exact ⟨1,rfl,(by simp only[*,go_sem,-a,-hJ]),(by simp only[*,go_sem,-a,-hJ]),(by simp only[*,go_sem,-a,-hJ]),(by simp only[*,go_sem,-a,-hJ]),.inl ⟨rfl,rfl,rfl⟩⟩
  ·clear l0 z h hd c1 c2 c3 C a1 a2 a3 a4 a5 w1 w2 D
   rintro m A E H ⟨t8,rfl,l0,I,h,hd,⟨rfl,rfl,rfl⟩|⟨rfl,rfl,rfl⟩⟩
   ·have G:((1:Int) != 0)=true:=rfl
    have w3:IntKind.u32.wrap (1 - 1)=0:=by decide
    repeat refine ax (a _) ?_
    refine aX a fun K b=>?_
    refine ai.pure (a _) 2 (n:=0) _ rfl rfl ?_;simp only[*,go_sem,-b,-a]
    refine ai.nil a (b _ _ _ ?_);clear b K
    repeat refine ax (a _) ?_
    refine cU (a _) (by simp only[*,go_sem,-a,-hJ]) ?_
    refine cD (a _) ?_
    repeat refine ax (a _) ?_
    refine jA a ?_
    repeat refine ax (a _) ?_
    refine aX a fun K b=>?_
    refine ai.pure (a _) 3 (n:=1) _ rfl rfl ?_;simp only[*,go_sem,-b,-a]
    refine Jy (.bool false) (.int .i64 0) I6 aE ⟨_,_,_,rfl,(by first|(simp only[*,go_sem,-b,-a,-hJ];done)|rfl),rfl,by first|(simp only[*,go_sem,-b,-a,-hJ];done)|(simp only[*,go_sem,-b,-a,-hJ];rfl),rfl⟩ (by rfl) ?_
    refine ai.nil a (b _ _ _ ?_);clear b K
    repeat refine ax (a _) ?_
    refine aX a fun K b=>?_
    refine ai.pure (a _) 3 (n:=0) _ rfl rfl ?_;simp only[*,go_sem,-b,-a]
    refine ai.nil a (b _ _ _ ?_);clear b K
    exact ⟨0,by omega,0,rfl,(by simp only[*,go_sem,-a,-hJ]),(by simp only[*,go_sem,-a,-hJ]),(by simp only[*,go_sem,-a,-hJ]),(by simp only[*,go_sem,-a,-hJ]),.inr ⟨rfl,rfl,rfl⟩⟩
   ·have G:((0:Int) != 0)=false:=rfl
    repeat refine ax (a _) ?_
    refine aX a fun K b=>?_
    refine ai.pure (a _) 2 (n:=0) _ rfl rfl ?_;simp only[*,go_sem,-b,-a]
    refine ai.nil a (b _ _ _ ?_);clear b K
    repeat refine ax (a _) ?_
    refine cA (a _) (by simp only[*,go_sem,-a,-hJ]) ?_
    exact oh (show kr 153 (fun r c aK=>r= .tuple #[]/\c=E/\aK=⟨.fin,.gone,bs i,0⟩) .normal _ _ _ from Kc (by simp only[*,go_sem,-a,-hJ]) rfl rfl ⟨rfl,rfl,rfl⟩)
 ·
  rw[if_neg hC]
  have q:(0<v/\decide ((v:Int)>0)=true)\/(v=0/\decide ((v:Int)>0)=false/\((t:Int)==0)=true):=by
   rcases Nat.eq_zero_or_pos v with e|e
   ·refine .inr ⟨e,by simp[e],?_⟩
    obtain rfl:t=0:=by omega
    rfl
   ·exact .inl ⟨e,by simp;omega⟩
  have a7:((t:Int) != 0)=false\/((t:Int) != 0)=true:=by cases ((t:Int) != 0)<;>simp
  clear j hC o ht p
  rcases a7 with a7|a7
  ·repeat refine ax (a _) ?_
   refine aX a fun K b=>?_
   refine ai.pure (a _) 12 (n:=0) _ rfl rfl ?_;simp only[*,go_sem,-b,-a]
   refine ai.nil a (b _ _ _ ?_);clear b K
   repeat refine ax (a _) ?_
   refine cA (a _) (by simp only[*,go_sem,-a,-hJ]) ?_
   refine cD (a _) ?_
   rcases q with ⟨_,k⟩|⟨_,k,b2⟩
   ·repeat refine ax (a _) ?_
    refine aX a fun K b=>?_
    refine ai.pure (a _) 6 (n:=0) _ rfl rfl ?_;simp only[*,go_sem,-b,-a]
    refine ai.nil a (b _ _ _ ?_);clear b K
    repeat refine ax (a _) ?_
    refine cU (a _) (by simp only[*,go_sem,-a,-hJ]) ?_
    exact fc (show kr 153 (fun r c aK=>r= .tuple #[]/\c=F'/\aK=⟨.fin,.gone,bs i,0⟩) .ret _ _ _ from tj (by simp only[*,go_sem,-a,-hJ]) rfl rfl ⟨rfl,rfl,rfl⟩)
   ·repeat refine ax (a _) ?_
    refine aX a fun K b=>?_
    refine ai.pure (a _) 6 (n:=0) _ rfl rfl ?_;simp only[*,go_sem,-b,-a]
    refine ai.nil a (b _ _ _ ?_);clear b K
    repeat refine ax (a _) ?_
    refine cU (a _) (by simp only[*,go_sem,-a,-hJ]) ?_
    exact fc (show kr 153 (fun r c aK=>r= .tuple #[]/\c=F'/\aK=⟨.fin,.gone,bs i,0⟩) .ret _ _ _ from tj (by simp only[*,go_sem,-a,-hJ]) rfl rfl ⟨rfl,rfl,rfl⟩)
  ·repeat refine ax (a _) ?_
   refine aX a fun K b=>?_
   refine ai.pure (a _) 12 (n:=0) _ rfl rfl ?_;simp only[*,go_sem,-b,-a]
   refine ai.nil a (b _ _ _ ?_);clear b K
   repeat refine ax (a _) ?_
   refine cA (a _) (by simp only[*,go_sem,-a,-hJ]) ?_
   refine cD (a _) ?_
   rcases q with ⟨_,k⟩|⟨_,k,b2⟩
   ·repeat refine ax (a _) ?_
    refine aX a fun K b=>?_
    refine ai.pure (a _) 6 (n:=0) _ rfl rfl ?_;simp only[*,go_sem,-b,-a]
    refine ai.nil a (b _ _ _ ?_);clear b K
    repeat refine ax (a _) ?_
    refine cU (a _) (by simp only[*,go_sem,-a,-hJ]) ?_
    exact fc (show kr 153 (fun r c aK=>r= .tuple #[]/\c=F'/\aK=⟨.fin,.gone,bs i,0⟩) .ret _ _ _ from tj (by simp only[*,go_sem,-a,-hJ]) rfl rfl ⟨rfl,rfl,rfl⟩)
   ·repeat refine ax (a _) ?_
    refine aX a fun K b=>?_
    refine ai.pure (a _) 6 (n:=0) _ rfl rfl ?_;simp only[*,go_sem,-b,-a]
    refine ai.nil a (b _ _ _ ?_);clear b K
    repeat refine ax (a _) ?_
    refine cU (a _) (by simp only[*,go_sem,-a,-hJ]) ?_
    exact fc (show kr 153 (fun r c aK=>r= .tuple #[]/\c=F'/\aK=⟨.fin,.gone,bs i,0⟩) .ret _ _ _ from tj (by simp only[*,go_sem,-a,-hJ]) rfl rfl ⟨rfl,rfl,rfl⟩)
end
end Go.Proofs.YtpgcmoanfifglaaGreatDoor
end
section
namespace Go.Sep
open Go Go.Conc
open Go.ConcN (sumTo upd upd_ne upd_same)
def jb (P:Program):Frame:={(default:Frame) with fn:=P.funcs.size,defers:=[],mode:=.panicking [goexitEntry]}
section
variable {P : Program} {f : FuncId} {fn : Func} {cd : Code} {w : World} {caps args : Array Value}
theorem Kf (a:P.funcs[f]?=some fn)(b:(fn.name== "runtime.NumGoroutine")=false)(hb:fn.body=some cd):
  stepG P false (born P {target:=.fn (.func f) caps,args:=args}) w= .go (G ((baseD f).at {tmps:=args++caps++Array.replicate (fn.ntmps - (args++caps).size) undef,defers:=[]} [.code cd]) [jb P]) w #[]:=by
 have c:¬fn.name= "runtime.NumGoroutine":=by simpa using b
 rw[<-enter_atD (args++caps) a hb]
 simp[born,G,stepG,unwind,callDeferred,invoke,callFunc,a,c,hb,GStep.after,seen_none,jb]
theorem Kg {b:Frame}{a:Act}{todo:List Item}(d:b.kind= .deferred)(hd:a.defers=[])(e:P.funcs[b.fn]?=some fn)(c:fn.results=#[]):
  stepG P false (G {b.at a todo with mode:=.returning} [jb P]) w= .go (G (jb P) []) w #[]:=by
 have he:(results fn a.tmps).events P w #[]=#[]:=events_results_none c _ _
 have f:(results fn a.tmps).run P w= .ok (.tuple #[]) w:=results_none c _ P w
 simp[G,stepG,unwind,doReturn,Frame.at,d,hd,e,f,he,jb,goexitEntry,seen_none,GStep.after]
theorem Kh:stepG P false (G (jb P) []) w= .go {frame:=jb P,callers:=[],status:=.finished,dying:=none} w #[]:=by
 have e:(default:Frame).todo=[]:=rfl;simp[G,stepG,unwind,jb,goexitEntry,Frame.catches,e]
end
section
variable {c : Cy} {i : Nat} {F : aa} {f fd : FuncId}
def yc (c:Cy)(i:Nat)(fd:FuncId)(v:Value):Ex->Act->aa->Ph->Prop
 | .exit _,_,_,_=>False
 |_,a,_,ph=>a.defers=[dcall fd #[v]]/\(ph.mp= .idle\/ph.mp= .fin)/\ph.gp= .cnt/\ph.stored=c.bs i/\ph.deaf=0
theorem worker {fn b:Func}{cd l:Code}{n nd:Nat}{v:Value}(m:c.P.funcs[f]?=some fn)(z:(fn.name== "runtime.NumGoroutine")=false)(hb:fn.body=some cd)(B:fn.results=#[])(o:fn.ntmps=n){caps:Array Value}(R:caps.size<=n)
  (C:c.P.funcs[fd]?=some b) (D:(b.name== "runtime.NumGoroutine")=false) (E:b.body=some l) (H:b.results=#[]) (I:b.ntmps=nd) (J:1<=nd)
  (hd:∀(mp:Mp) (F:aa),mp= .idle\/mp= .fin->∀A:Act,sz A=nd->A.defers=[]->(∀j,slot A j=(#[v]:Array Value).getD j undef)->cI (WJ c i) fd l (x4 fun F' aK=>aK=⟨.fin,.gone,c.bs i,0⟩) A F ⟨mp,.cnt,c.bs i,0⟩)
  (h:∀A:Act,sz A=n->A.defers=[]->(∀j,slot A j=caps.getD j undef)->cI (WJ c i) f cd (yc c i fd v) A F ⟨.idle,.cnt,false,0⟩):
  Wk c i ⟨.idle,.cnt,false,0⟩ (born c.P {target:=.fn (.func f) caps,args:=#[]}) F:=by
 have p:=WJ.ej c i
 have e0:∀w,stepG c.P false (born c.P {target:=.fn (.func f) caps,args:=#[]}) w= .go (G ((baseD f).at {tmps:=caps++Array.replicate (fn.ntmps - caps.size) undef,defers:=[]} [.code cd]) [jb c.P]) w #[]:=fun w=>by
  have:=Kf (P:=c.P) (w:=w) (caps:=caps) (args:=#[]) m z hb
  simpa using this
 refine Wk.act (c:=c) (i:=i) rfl rfl (by simp) fun w s k φ p0 e1 e2 S K L=>.inr ⟨_,w,#[],s,⟨.idle,.cnt,false,0⟩,e0 w,e2,.refl _ _,?_,mP rfl Iff.rfl,.inr dG,?_⟩
 ·rw[<-K,xT];exact L
 have out:∀(a:Act) (r:List Item) F' (aK:Ph),(a.defers=[dcall fd #[v]]/\(aK.mp= .idle\/aK.mp= .fin)/\aK.gp= .cnt/\aK.stored=c.bs i/\aK.deaf=0)->WJ c i aK (G {(baseD f).at a r with mode:=.returning} [jb c.P]) F':=by
  intro a r F' aK ⟨k1,t,u,x,y⟩
  obtain ⟨mp,gp,st,T⟩:=aK
  simp only at t u x y
  subst u x y
  refine JB C D E H I (by simpa using J) k1 (fun A M N O=>hd mp F' t A M N O) fun U V Q=>?_
  subst Q
  refine Wk.gone (q:=2) rfl (QuitsD.ctl rfl (fun w=>Kg rfl rfl m B) (QuitsD.ctl rfl (fun w=>Kh) ⟨rfl,rfl⟩))
 have:=h {tmps:=caps++Array.replicate (fn.ntmps - caps.size) undef,defers:=[]} (by simp[sz,o];omega) rfl (fun j=>?_) (baseD f) [] [jb c.P] ⟨by simp[baseD],rfl,rfl⟩ fun e a F' aK g=>?_
 ·rw[ez rfl] at this;exact this
 ·simp only[slot,o,Array.getD_eq_getD_getElem?]
  rcases Nat.lt_or_ge j caps.size with d|d
  ·rw[Array.getElem?_append_left d]
  ·rw[Array.getElem?_append_right d,Array.getElem?_replicate,Array.getElem?_eq_none d]
   split<;>rfl
 ·cases e with
  |normal=>exact (p aK).move (fun _=>lB rfl) (out a _ F' aK g)
  |exit i=>exact g.elim
  |ret=>exact fun W=>(p aK).move (fun _=>stepG_ret' rfl) (out a _ F' aK g)
end
attribute [go_sem] yc
end Go.Sep
end
section
namespace Go.Proofs.YtpgcmoanfifglaaGreatDoor
open Go Go.Sep Go.Proofs Go.Conc
open Go.ConcN (upd upd_same)
open Go.ConcM (muA msA)
open Go.ConcR (stA smA)
set_option maxRecDepth 100000
set_option maxHeartbeats 4000000
attribute [local go_sem] Int.reduceBEq Int.reduceBNe muA msA stA smA
theorem Ki:(Tryz.prog.funcs[133]?).any (·.norace)=false:=by kernel_rfl
section
variable {Mu Wg Is n base T0 i : Nat} {bs : Nat → Bool}
theorem Kj (aE:Mu≠Wg/\Mu≠Is/\Wg≠Is)(x:n<67108864)(a5:i<n){ro:Addr->Option Value}(u0:cK){s1:Value}(o:aA eX ro s1 u0.book.aD){K:Value}(q:aA eu ro K u0.book.props){L:Value}(r:aA eH ro L u0.book.aG){M:Value}(s:aA dg ro M u0.book.told)
  (z:Int) (B:List Int) {N:Value} (u:aA rI ro N B) (C:List aZ) {O:Value} (g:aA iO ro O C) {f b2 b3 b4 P Q:Nat}
  (g0:ro ⟨f,0,none⟩=some (.int .i64 u0.book.bH)) (R:ro ⟨f,1,none⟩=some (.int .i64 u0.book.bO)) (S:ro ⟨f,2,none⟩=some (.int .i64 u0.book.aW.num)) (T:ro ⟨f,3,none⟩=some (.int .i64 u0.book.aW.den)) (U:ro ⟨f,4,none⟩=some s1) (V:ro ⟨f,5,none⟩=some K) (W:ro ⟨f,6,none⟩=some L) (X:ro ⟨f,7,none⟩=some M)
  (Y:ro ⟨b2,0,none⟩=some (.int .i64 z)) (Z:ro ⟨b3,0,none⟩=some N) (ab:ro ⟨b4,0,none⟩=some O) (D:ro ⟨P,0,none⟩=some (.slice (some ⟨Is,0,none⟩) n n)) (E:ro ⟨Q,0,none⟩=some (.int .i64 i))
  (h:ag (rY u0.book z B) (fun b=>rO b C)=some (bs i)):
  Wk (CY Mu Wg Is n bs base T0) i ⟨.idle,.cnt,false,0⟩ (born Tryz.prog {target:=.fn (.func 133) #[.pointer (some ⟨Wg,0,none⟩),.pointer (some ⟨f,0,none⟩),.pointer (some ⟨b2,0,none⟩),.pointer (some ⟨b3,0,none⟩),.pointer (some ⟨b4,0,none⟩),.pointer (some ⟨Mu,0,none⟩),.pointer (some ⟨P,0,none⟩),.pointer (some ⟨Q,0,none⟩)],args:=#[]}) ⟨ro,[]⟩:=by
 have d:=WJ.ej (CY Mu Wg Is n bs base T0) i
 have hJ:∀ph:Ph,ph.gp= .cnt->Go.Sep.Closed Tryz.prog false (WJ (CY Mu Wg Is n bs base T0) i ph):=fun ph h=>Wk.closed (CY Mu Wg Is n bs base T0) i ph h
 refine worker (c:=CY Mu Wg Is n bs base T0) (i:=i) (fd:=134) (v:=.pointer (some ⟨Wg,0,none⟩)) Tryz.func133 rfl rfl rfl Tryz.ntmps133 (by simp) Tryz.func134 rfl rfl rfl Tryz.ntmps134 (by simp) ?_ ?_
 ·intro mp F a6 A G hd hs
  have w:=hs 0
  clear hs h g0 R S T U V W X Y Z ab D E o q r s u g hJ a5
  repeat refine ax (d _) ?_
  refine cV d ?_
  refine ai.pure (d _) 1 (n:=1) _ rfl rfl ?_;simp only[*,go_sem]
  refine ai.fU (d _) rfl rfl rfl zE (by simp only[*,go_sem,stA]) (Ke aE x a6 rfl) fun v F' aK j=>?_
  obtain ⟨rfl,rfl,rfl⟩:=j
  refine ai.nil d ?_
  exact ⟨(by simp only[*,go_sem]),rfl⟩
 ·intro ad G hd hs
  have w:=hs 0
  have k1:=hs 1
  have ae:=hs 2
  have al:=hs 3
  have ao:=hs 4
  have ar:=hs 5
  have a0:=hs 6
  have a2:=hs 7
  clear hs
  repeat refine ax (d _) ?_
  refine cV d ?_
  refine ai.defer (d _) (vals:=#[.pointer (some ⟨Wg,0,none⟩)]) rfl (by rfl) rfl rfl (by simp only[List.map_toArray,List.map_cons,List.map_nil];rw[show ad.eval (.tmp 0)=slot ad 0 from rfl,w];rfl) fun A e1 e2 H=>?_
  replace w:=(e1 0).trans w
  replace k1:=(e1 1).trans k1
  replace ae:=(e1 2).trans ae
  replace al:=(e1 3).trans al
  replace ao:=(e1 4).trans ao
  replace ar:=(e1 5).trans ar
  replace a0:=(e1 6).trans a0
  replace a2:=(e1 7).trans a2
  replace G:sz A=20:=e2.trans G
  rw[hd] at H
  replace hd:=H
  clear e1 e2 H
  refine ai.nil d ?_;try simp only[go_sem]
  obtain ⟨d3,c4,rfl,a7,a8,a9⟩:=id o
  obtain ⟨d10,dq,rfl,ba,bb,bc⟩:=id q
  obtain ⟨d17,ds,rfl,bd,bj,bk⟩:=id r
  obtain ⟨d24,dt,rfl,bl,bm,bo⟩:=id s
  obtain ⟨d38,du,rfl,br,bz,bS⟩:=id u
  obtain ⟨d45,dv,rfl,b0,b1,I⟩:=id g
  repeat refine ax (d _) ?_
  have l:=hJ ⟨.idle,.cnt,false,0⟩ rfl
  refine cI.of l ?_
  refine ED l mixed [0,1,2,3,5] [4,6] ⟨ro,[]⟩ (by simp only[*,go_sem,-h]) (by kernel_rfl) ?_
  have b5:=fH h;clear h;obtain ⟨ca,a3,h⟩:=b5
  simp only[*,go_sem,-h,-hJ,-d]
  refine uA l _ (F4 u0.book ⟨o,q,r,s⟩ z B u a3) fun v dC m cb j=>?_
  obtain ⟨dE,dT,ea,eb,rfl,k⟩:=j
  replace g:=g.mono m;clear I;obtain ⟨_,_,I⟩:=g.op
  obtain ⟨d63,ec,rfl,cd,cf,cl⟩:=id k.e
  obtain ⟨d68,ed,rfl,cy,cS,c0⟩:=id k.p
  obtain ⟨d73,eh,rfl,da,db,dd⟩:=id k.y
  obtain ⟨d78,et,rfl,df,dk,dp⟩:=id k.t
  replace D:=m _ _ D
  replace E:=m _ _ E
  clear g0 R S T U V W X Y Z ab
  refine ⟨⟨m,fun a J=>by simp[keys] at J,trivial⟩,eU ?_⟩
  simp only[*,go_sem,-h,-hJ,-d]
  refine bh l _ (FQ ca (k.mono aQ) C (g.mono aQ) h) ?_
  refine ⟨⟨m,fun a J=>by simp[keys] at J,trivial⟩,?_⟩
  clear o q r s u g k a9 bc bk bo bS I cl c0 dd dp h a3 a7 ba bd bl br b0 cd cy da df a8 bb bj bm bz b1 cf cS db dk l cb
  have i0:(0:Int)<=(i:Int):=by omega
  have i1:(i:Int)<(n:Int):=by omega
  cases a4:bs i
  ·repeat refine ax (d _) ?_
   refine cA (d _) (by simp only[*,go_sem]) ?_
   refine cD (d _) ?_
   exact ⟨(by simp only[*,go_sem]),.inl rfl,rfl,a4.symm,rfl⟩
  ·repeat refine ax (d _) ?_
   refine cU (d _) (by simp only[*,go_sem]) ?_
   repeat refine ax (d _) ?_
   refine cV d ?_
   refine ai.fU (d _) rfl (by rfl) rfl Es (by simp only[*,go_sem]) (Jq aE x) fun v F' aK j=>?_
   obtain ⟨rfl,rfl,rfl⟩:=j
   refine ai.nil d ?_;try simp only[go_sem]
   repeat refine ax (d _) ?_
   refine cV d ?_
   refine ai.bx (hJ _ rfl) 3 (n:=1) _ rfl rfl ?_;simp only[*,go_sem]
   refine Jh I7 zw Ki aE ⟨_,rfl,(by first|rfl|simp only[*,go_sem]),rfl,rfl⟩ (by rfl) (by simp only[*,go_sem]) (by simp only[*,go_sem]) ?_
   refine ai.nil d ?_;try simp only[go_sem]
   repeat refine ax (d _) ?_
   refine cV d ?_
   refine ai.fU (d _) rfl (by rfl) rfl Et (by simp only[*,go_sem]) (Jr aE x) fun v F' aK j=>?_
   obtain ⟨rfl,rfl,rfl⟩:=j
   refine ai.nil d ?_
   exact (show yc _ _ _ _ .normal _ _ _ from ⟨(by simp only[*,go_sem]),.inr rfl,rfl,a4.symm,rfl⟩)
end
end Go.Proofs.YtpgcmoanfifglaaGreatDoor
end
section
namespace Go.Proofs.YtpgcmoanfifglaaGreatDoor
open Go Go.Sep Go.Proofs Go.Conc
open Go.ConcN (upd upd_same)
open Go.ConcM (muA msA muBlock)
open Go.ConcR (stA smA wgBlock)
set_option maxRecDepth 100000
set_option maxHeartbeats 4000000
attribute [local go_sem] Int.reduceBEq Int.reduceBNe muA msA stA smA
def Kk (u0:cK)(a:Int)(c:List aZ)(d:List Int):Option Bool:=ag (rY u0.book a d) fun b=>rO b c
def qu (f:List Int->Option Bool):List (List Int)->Option (List Bool)
 |[]=>some []
 |x::l=>ag (f x) fun b=>ag (qu f l) fun r=>some (b::r)
def yd (a:List Bool)(i23:Nat)(b:List Int)(st:List (List Int)):Option (Fl (List (List Int)) (List (List Int))):=
 ag (bn a (i23:Int)) fun c=>cond (c) (ag (c9 st ([b])) fun d=>some (.nx d)) (some (.nx st))
def tn (u0:cK)(b:Int)(a:List (List Int)):Option (List (List Int)):=
 cond (decide (a.length<1048576)) (ag (sn u0) fun c=>ag (qu (Kk u0 b c) a) fun bl=>ag (bF (yd bl) 0 a ([]:List (List Int))) fun o=>aB o (fun d=>some d) (fun _ _=>none) (fun r=>some r)) none
theorem CZ {f:List Int->Option Bool}:∀{l:List (List Int)} {bl:List Bool},qu f l=some bl->bl.length=l.length/\∀(i:Nat) (a:List Int),l[i]?=some a->f a=some (bl[i]?.getD false)
 |[],bl,h=>by
  simp[qu] at h;subst h
  exact ⟨rfl,fun i a hi=>by simp at hi⟩
 |x::l,bl,h=>by
  unfold qu at h
  obtain ⟨b,hb,h⟩:=fH h
  obtain ⟨r,c,h⟩:=fH h
  have h:=Option.some.inj h
  subst h
  obtain ⟨e1,e2⟩:=CZ c
  refine ⟨by simp[e1],fun i a hi=>?_⟩
  cases i with
  |zero=>simp at hi;subst hi;simpa using hb
  |succ i=>simp at hi;simpa using e2 i a hi
def C0 (x:X)(d:Addr->Option Value)(b3 b4 e f:Nat)(b:Value)(m:Nat)(a:Act)(F:aa)(z:Z):Prop:=
 ∃(i:Nat) (c:Addr->Option Value),m=x.n - i/\i<=x.n/\F=⟨c,[]⟩/\Ext d c/\slot a 2=b/\slot a 3= .pointer (some ⟨b3,0,none⟩)/\slot a 4= .pointer (some ⟨b4,0,none⟩)/\slot a 6= .slice none 0 0/\slot a 7= .pointer (some ⟨e,0,none⟩)/\slot a 8= .pointer (some ⟨f,0,none⟩)/\slot a 9= .pointer (some ⟨x.Mu,0,none⟩)/\slot a 10= .pointer (some ⟨x.Wg,0,none⟩)/\slot a 21=b/\slot a 22= .int .i64 x.n/\slot a 23= .int .i64 i/\sz a=49/\a.defers=[]/\z= .co x i (.opn 0) 0
theorem Kl (l:List Bool):(l.map fun b=>[Value.bool b]).flatten=l.map Value.bool:=by
 induction l with
 |nil=>rfl
 |cons b l ih=>simp only[List.map_cons,List.flatten_cons,ih];rfl
theorem Km:Tryz.prog.underlying 177=some (.slice 4):=by kernel_rfl
theorem Kn:Tryz.prog.info? 4=some ((Tryz.prog.info? 4).getD default):=by kernel_rfl
theorem C1 {ro:Addr->Option Value}(u0:cK){s1:Value}(q:aA eX ro s1 u0.book.aD){bo:Value}(s:aA eu ro bo u0.book.props){br:Value}(u:aA eH ro br u0.book.aG){bs:Value}(w:aA dg ro bs u0.book.told){bz:Value}(a4:aA gK ro bz u0.all)(ae:Int)(d:List (List Int)){bS:Value}(o:aA (rL rI) ro bS d){r:List (List Int)}(h:tn u0 ae d=some r):
  oZ Tryz.prog 99 #[.agg #[.int .i64 u0.book.bH,.int .i64 u0.book.bO,.int .i64 u0.book.aW.num,.int .i64 u0.book.aW.den,s1,bo,br,bs,bz],.int .i64 ae,bS] ro (fun v aM=>∃b0,v=b0/\aA (rL rI) aM b0 r):=by
 refine fz.JX (T:=TT) fun Φ=>?_
 obtain ⟨d3,c4,rfl,fx,gg,gl⟩:=id q
 obtain ⟨d10,gn,rfl,gp,gB,R⟩:=id s
 obtain ⟨d17,I,rfl,gC,gM,gT⟩:=id u
 obtain ⟨d24,gV,rfl,g0,g1,g2⟩:=id w
 obtain ⟨d31,jC,rfl,g3,g4,ha⟩:=id a4
 obtain ⟨d38,b1,rfl,j1,b2,C⟩:=id o
 unfold tn at h
 have hlen:d.length<1048576:=by
  rcases Nat.lt_or_ge d.length 1048576 with y|y
  ·exact y
  ·rw[show decide (d.length<1048576)=false by simp;omega] at h;cases h
 rw[show decide (d.length<1048576)=true by simp;omega] at h
 simp only[cond_true] at h
 obtain ⟨b5,ca,h⟩:=fH h
 obtain ⟨bl,cb,h⟩:=fH h
 obtain ⟨cd,cf⟩:=CZ cb
 have a:=ZJ.ej TT Φ
 have hJ:=fun (z:Z) (S:ya z=true)=>ZJ.J7 TT Φ z S
 refine cC.go (main:=true) a Tryz.func99 rfl Tryz.ntmps99 (by simp) fun A S hd hs=>?_
 have hc:=hs 0
 have k1:=hs 1
 have cl:=hs 2
 clear hs cb
 repeat refine ax (a _) ?_
 refine aX a fun K c=>?_
 refine ai.bx (hJ _ rfl) 3 (n:=0) _ rfl rfl ?_;simp only[*,go_sem,-c,-a,-hJ]
 intro b3 f3;have r3:=eA f3;have n3:=fq f3
 try simp only[au] at n3
 intro b4 f4;have hf:=eA f4;have cS:=fq f4
 try simp only[au] at cS
 try simp only[*,go_sem,-c,-a,-hJ,-h]
 refine ai.nil a (c _ _ _ ?_);clear c K
 have p:=hJ .free rfl
 repeat refine ax (a _) ?_
 refine aX a fun K c=>?_
 refine ai.bx (hJ _ rfl) 4 (n:=0) _ rfl rfl ?_;simp only[*,go_sem,-c,-a,-hJ]
 refine uA p _ (Ay u0 ⟨q,s,u,w⟩ a4 ca) fun v j2 J hg U=>?_
 obtain ⟨kh,rfl,L⟩:=U
 replace q:=q.mono J
 replace s:=s.mono J
 replace u:=u.mono J
 replace w:=w.mono J
 replace o:=o.mono J
 obtain ⟨d45,hh,rfl,hj,hk,hl⟩:=id L
 clear gl R gT g2 ha C hl r3 hf
 refine aJ ?_
 try simp only[*,go_sem,-c,-a,-hJ,-h,-p]
 intro a5 f7;have hn:=eA f7;have c0:=fq f7
 try simp only[au] at c0
 try simp only[*,go_sem,-c,-a,-hJ,-h,-p]
 refine ai.nil a (c _ _ _ ?_);clear c K
 repeat refine ax (a _) ?_
 refine aX a fun K c=>?_
 refine ai.bx (hJ _ rfl) 5 (n:=0) _ rfl rfl ?_;simp only[*,go_sem,-c,-a,-hJ]
 refine J6 Km Kn rfl zw Ed hlen fun k a6=>?_
 have rI:=eA a6;have nI:=fq a6
 try simp only[au] at nI
 refine aJ ?_
 try simp only[*,go_sem,-c,-a,-hJ,-h,-p]
 intro V f8;have ho:=eA f8;have da:=fq f8
 try simp only[au] at da
 try simp only[*,go_sem,-c,-a,-hJ,-h,-p]
 refine ai.nil a (c _ _ _ ?_);clear c K
 repeat refine ax (a _) ?_
 refine aX a fun K c=>?_
 refine ai.bx (hJ _ rfl) 1 (n:=0) _ rfl rfl ?_;simp only[*,go_sem,-c,-a,-hJ]
 intro M f9;have hp:=eA f9;have db:=fq f9
 try simp only[au] at db
 try simp only[*,go_sem,-c,-a,-hJ,-h,-p]
 refine ai.nil a (c _ _ _ ?_);clear c K
 repeat refine ax (a _) ?_
 refine aX a fun K c=>?_
 refine ai.bx (hJ _ rfl) 1 (n:=0) _ rfl rfl ?_;simp only[*,go_sem,-c,-a,-hJ]
 intro N f10;have hq:=eA f10;have dd:=fq f10
 try simp only[au] at dd
 try simp only[*,go_sem,-c,-a,-hJ,-h,-p]
 refine ai.nil a (c _ _ _ ?_);clear c K
 repeat refine ax (a _) ?_
 refine aX a fun K c=>?_
 refine ai.bx (hJ _ rfl) 3 (n:=0) _ rfl rfl ?_;simp only[*,go_sem,-c,-a,-hJ]
 refine ai.nil a (c _ _ _ ?_);clear c K
 refine yb p fun nd no=>?_
 obtain ⟨al,D,hle,B,df,dk,dp⟩:=J8 nd no
 clear nd no
 refine JU (T:=TT) (Φ:=Φ) ⟨al,[]⟩ M N k d.length (fun i=>bl[i]?.getD false) hle ?_
 intro base B0 T0 hr aE
 clear hle
 have ao:d.length<67108864:=by omega
 replace q:=q.mono D
 replace s:=s.mono D
 replace u:=u.mono D
 replace w:=w.mono D
 replace o:=o.mono D
 replace L:=L.mono D
 have dq:=B 0 (.int .i64 u0.book.bH) rfl
 have ds:=B 1 (.int .i64 u0.book.bO) rfl
 have dt:=B 2 (.int .i64 u0.book.aW.num) rfl
 have du:=B 3 (.int .i64 u0.book.aW.den) rfl
 have dv:=B 4 (.slice d3 u0.book.aD.length c4) rfl
 have dC:=B 5 (.slice d10 u0.book.props.length gn) rfl
 have dE:=B 6 (.slice d17 u0.book.aG.length I) rfl
 have dT:=B 7 (.slice d24 u0.book.told.length gV) rfl
 have ea:=df 0 (.int .i64 ae) rfl
 have eb:=dk 0 (.slice d45 b5.length hh) rfl
 have a7:=dp 0 (.slice (some ⟨k,0,none⟩) d.length d.length) rfl
 clear B df dk dp f3 f4 f7 f8 f9 f10 a6 n3 cS c0 da db dd nI hn ho hp hq rI hg
 repeat refine ax (a _) ?_
 refine jA a ?_
 refine qo a (C0 (⟨M,N,k,d.length,(fun i=>bl[i]?.getD false),base,T0,B0⟩:X) al b3 b4 a5 V (.slice d38 d.length b1)) d.length ?_ ?_
 ·exact ⟨0,al,rfl,Nat.zero_le _,rfl,Ext.refl _,(by simp only[*,go_sem,-a,-hJ]),(by simp only[*,go_sem,-a,-hJ]),(by simp only[*,go_sem,-a,-hJ]),(by simp only[*,go_sem,-a,-hJ]),(by simp only[*,go_sem,-a,-hJ]),(by simp only[*,go_sem,-a,-hJ]),(by simp only[*,go_sem,-a,-hJ]),(by simp only[*,go_sem,-a,-hJ]),(by simp only[*,go_sem,-a,-hJ]),(by simp only[*,go_sem,-a,-hJ]),(by simp only[*,go_sem,-a,-hJ]),(by simp only[*,go_sem,-a,-hJ]),(by simp only[*,go_sem,-a,-hJ]),rfl⟩
 clear hc k1 cl S hd
 rintro m A F' ec ⟨i,P,rfl,hi,rfl,e,cl,ht,hv,kj,hx,kk,hy,hz,hA,hB,hD,S,hd,rfl⟩
 have hi:i<=d.length:=hi
 replace q:=q.mono e
 replace s:=s.mono e
 replace u:=u.mono e
 replace w:=w.mono e
 replace o:=o.mono e
 replace L:=L.mono e
 rcases Nat.lt_or_ge i d.length with ar|hE
 ·have c1:decide ((i:Int)<(d.length:Int))=true:=by simp;omega
  have i0:(0:Int)<=(i:Int):=by omega
  have i1:(i:Int)<(d.length:Int):=by omega
  obtain ⟨a8,ed⟩:∃x,d[i]?=some x:=⟨_,List.getElem?_eq_getElem ar⟩
  obtain ⟨_,_,C⟩:=o.op
  obtain ⟨hF,eh,a9,ba,W⟩:=C _ _ ed
  obtain ⟨hG,rfl,Y⟩:=ba
  obtain ⟨d32,ab,rfl,hI,hK,-⟩:=id Y
  cases a9
  have hL:=W 0 _ rfl
  simp only[go_sem] at hL
  clear W C
  have et:=cp (n:=i) (by omega)
  repeat refine ax (a _) ?_
  refine aX a fun K c=>?_
  refine ai.bx (hJ _ rfl) 1 (n:=0) _ rfl rfl ?_;simp only[*,go_sem,-c,-a,-hJ]
  refine ai.nil a (c _ _ _ ?_);clear c K
  repeat refine ax (a _) ?_
  refine cU (a _) (by simp only[*,go_sem,-a,-hJ]) ?_
  refine cD (a _) ?_
  repeat refine ax (a _) ?_
  refine jA a ?_
  repeat refine ax (a _) ?_
  refine aX a fun K c=>?_
  refine ai.bx (hJ _ rfl) 7 (n:=0) _ rfl rfl ?_;simp only[*,go_sem,-c,-a,-hJ]
  intro hM f11;have hN:=eA f11;have ev:=fq f11
  try simp only[au] at ev
  try simp only[*,go_sem,-c,-a,-hJ,-h,-p]
  intro hP f12;have hQ:=eA f12;have eQ:=fq f12
  try simp only[au] at eQ
  try simp only[*,go_sem,-c,-a,-hJ,-h,-p]
  refine ai.nil a (c _ _ _ ?_);clear c K
  refine yb (hJ _ rfl) fun nd no=>?_
  obtain ⟨hR,f,hle,eS,e0⟩:=J9 nd no
  clear nd no f11 f12 hN hQ ev eQ
  refine CX (hJ _ rfl) hle ?_
  clear hle
  have hS:=eS 0 (.int .i64 i) rfl
  have hT:=e0 0 (.slice d32 a8.length ab) rfl
  clear eS e0
  repeat refine ax (a _) ?_
  refine aX a fun K c=>?_
  refine ai.fU (a _) rfl (by first|(simp only[*,go_sem,-c,-a,-hJ];done)|rfl) rfl zE (by simp only[*,go_sem,-c,-a,-hJ]) (J4 aE ao) fun v F' ec U=>?_
  obtain ⟨rfl,rfl,rfl⟩:=U
  refine ai.nil a (c _ _ _ ?_);clear c K
  repeat refine ax (a _) ?_
  refine aX a fun K c=>?_
  refine ai.bx (hJ _ rfl) 1 (n:=1) _ rfl rfl ?_;simp only[*,go_sem,-c,-a,-hJ]
  refine Ka (caps:=#[.pointer (some ⟨N,0,none⟩),.pointer (some ⟨b3,0,none⟩),.pointer (some ⟨b4,0,none⟩),.pointer (some ⟨hP,0,none⟩),.pointer (some ⟨a5,0,none⟩),.pointer (some ⟨M,0,none⟩),.pointer (some ⟨V,0,none⟩),.pointer (some ⟨hM,0,none⟩)]) (f0:=133) ar ⟨_,rfl,(by first|(simp only[*,go_sem,-c,-a,-hJ];done)|rfl),rfl,rfl⟩ (by simp only[*,go_sem,-c,-a,-hJ]) ?_ ?_
  ·exact Kj aE ao ar u0 (q.mono f) (s.mono f) (u.mono f) (w.mono f) ae a8 (Y.mono f) b5 (L.mono f) (f _ _ (e _ _ dq)) (f _ _ (e _ _ ds)) (f _ _ (e _ _ dt)) (f _ _ (e _ _ du)) (f _ _ (e _ _ dv)) (f _ _ (e _ _ dC)) (f _ _ (e _ _ dE)) (f _ _ (e _ _ dT)) (f _ _ (e _ _ ea)) hT (f _ _ (e _ _ eb)) (f _ _ (e _ _ a7)) hS (cf i a8 ed)
  refine ai.nil a (c _ _ _ ?_);clear c K
  repeat refine ax (a _) ?_
  refine aX a fun K c=>?_
  refine ai.bx (hJ _ rfl) 2 (n:=0) _ rfl rfl ?_;simp only[*,go_sem,-c,-a,-hJ]
  refine ai.nil a (c _ _ _ ?_);clear c K
  change ∃e1,e1<d.length - i/\C0 _ al b3 b4 a5 V _ e1 _ _ _
  exact ⟨d.length - (i+1),by omega,i+1,hR,rfl,ar,rfl,e.trans f,(by simp only[*,go_sem,-a,-hJ]),(by simp only[*,go_sem,-a,-hJ]),(by simp only[*,go_sem,-a,-hJ]),(by simp only[*,go_sem,-a,-hJ]),(by simp only[*,go_sem,-a,-hJ]),(by simp only[*,go_sem,-a,-hJ]),(by simp only[*,go_sem,-a,-hJ]),(by simp only[*,go_sem,-a,-hJ]),(by simp only[*,go_sem,-a,-hJ]),(by simp only[*,go_sem,-a,-hJ]),(by simp only[*,go_sem,-a,-hJ]),(by simp only[*,go_sem,-a,-hJ]),(by simp only[*,go_sem,-a,-hJ]),rfl⟩
 ·have c1:decide ((i:Int)<(d.length:Int))=false:=by simp;omega
  obtain rfl:i=d.length:=by omega
  repeat refine ax (a _) ?_
  refine aX a fun K c=>?_
  refine ai.bx (hJ _ rfl) 1 (n:=0) _ rfl rfl ?_;simp only[*,go_sem,-c,-a,-hJ]
  refine ai.nil a (c _ _ _ ?_);clear c K
  repeat refine ax (a _) ?_
  refine cA (a _) (by simp only[*,go_sem,-a,-hJ]) ?_
  refine oh ?_
  simp only[go_sem]
  repeat refine ax (a _) ?_
  refine aX a fun K c=>?_
  refine ai.fU (a _) rfl (by first|(simp only[*,go_sem,-c,-a,-hJ];done)|rfl) rfl Eu (by simp only[*,go_sem,-c,-a,-hJ]) (J5 aE ao) fun v F' ec U=>?_
  obtain ⟨rfl,rfl,rfl⟩:=U
  refine ai.nil a (c _ _ _ ?_);clear c K
  refine yb p fun nd no=>?_
  have rI:∀off sp,P ⟨k,off,sp⟩=none:=fun off sp=>no k (by simp[keys]) off sp
  have hle:Le ⟨bP P k (X.cy (⟨M,N,k,d.length,(fun i=>bl[i]?.getD false),base,T0,B0⟩:X) TT).fin,[]⟩ ⟨P,[(k,(X.cy (⟨M,N,k,d.length,(fun i=>bl[i]?.getD false),base,T0,B0⟩:X) TT).fin)]⟩:=jK (by simp[lk]) (by simp) trivial
  have ad:aA rB (bP P k (X.cy (⟨M,N,k,d.length,(fun i=>bl[i]?.getD false),base,T0,B0⟩:X) TT).fin) (.slice (some ⟨k,0,none⟩) bl.length bl.length) bl:=aA.flat (fun b=>[.bool b]) bl (fun _=>rfl) rI (by
   show (((List.range d.length).map fun i=>Value.bool (bl[i]?.getD false)).toArray).toList=_
   rw[<-cd]
   apply List.ext_getElem?
   intro j
   rw[Kl bl]
   simp only[List.getElem?_map]
   rcases Nat.lt_or_ge j bl.length with y|y
   ·simp[y]
   ·simp[y]) (by omega)
  obtain ⟨E,bb⟩:∃E,E=bP P k (X.cy (⟨M,N,k,d.length,(fun i=>bl[i]?.getD false),base,T0,B0⟩:X) TT).fin:=⟨_,rfl⟩
  have a0:Ext P E:=by rw[bb];exact fW _ _ _
  have hV:Ext ro E:=J.trans (D.trans (e.trans a0))
  rw[<-bb] at hle ad
  refine CX p hle ?_
  replace o:=o.mono a0
  have a7:E ⟨V,0,none⟩=some (.slice (some ⟨k,0,none⟩) bl.length bl.length):=by rw[cd];exact a0 _ _ (e _ _ a7)
  clear hle nd no bb rI dq ds dt du dv dC dE dT ea eb a hJ aE ao hr q s u w L ca cf c1 hlen hE hi a0 J D e ht hv hx hy hz hA hB hD fx gg gp gB gC gM g0 g1 a4 g3 g4 hj hk
  obtain ⟨_,_,C⟩:=o.op
  obtain ⟨_,_,R⟩:=ad.op
  have hJ:=p
  clear p
  refine cI.of hJ ?_
  repeat refine af hJ ?_
  refine aj hJ ?_
  simp only[*,go_sem,-h]
  repeat refine af hJ ?_
  refine aj hJ ?_
  simp only[*,go_sem,-h]
  repeat refine af hJ ?_
  refine aO hJ ?_
  have g:=fH h;clear h;obtain ⟨hX,G,hY⟩:=g;have h:=True.intro
  refine bQ hJ [13,14,15,34,35,36,37,38,39,40,41,42,43,44,45,46,47] (fun m e3 F'=>∃(i23:Nat) (d17:Option Addr) (I:Nat) (a2:List (Nat×Obj)) (H:(List (List Int))),m=d.length - i23/\i23<=d.length/\bF (yd bl) i23 (d.drop i23) H=some hX/\F'=⟨E,a2⟩/\aN (rL rI) E 35 (.slice d17 H.length I) H a2/\H.length<=I/\slot e3 34= .int .i64 (i23:Int)/\slot e3 13= .slice d17 H.length I) d.length ?_ ?_
  ·refine ⟨0,none,0,[],([]:List (List Int)),(Nat.sub_zero _).symm,Nat.zero_le _,G,rfl,aN.nil _ _ _,Nat.le_refl _,?_⟩
   simp only[*,go_sem,-h]
  ·rintro kl Q F' O ⟨i23,d17,I,a2,H,rfl,km,G,rfl,bc,hZ,kn,kp⟩
   have h:=True.intro
   have ks:sz Q=49:=by rw[O.size];simp only[*,go_sem,-h]
   have kt:Q.defers=[]:=by rw[O.defers];simp only[*,go_sem,-h]
   have kv:slot Q 6= .slice none 0 0:=by rw[O.dD 6 (by decide)];simp only[*,go_sem,-h]
   have kx:slot Q 8= .pointer (some ⟨V,0,none⟩):=by rw[O.dD 8 (by decide)];simp only[*,go_sem,-h]
   have ky:slot Q 32= .slice d38 d.length b1:=by rw[O.dD 32 (by decide)];simp only[*,go_sem,-h]
   have k0:slot Q 33= .int .i64 (d.length:Int):=by rw[O.dD 33 (by decide)];simp only[*,go_sem,-h]
   clear O S hd
   repeat refine af hJ ?_
   refine aj hJ ?_
   simp only[*,go_sem,-h]
   repeat refine af hJ ?_
   rcases Nat.lt_or_ge i23 d.length with h0|fa
   ·refine bK hJ (by simp only[*,go_sem,-h]) ?_
    refine aH hJ ?_
    obtain ⟨a3,bd⟩:∃x,d[i23]?=some x:=⟨_,List.getElem?_eq_getElem h0⟩
    rw[dc bd] at G
    have g:=fH G;clear G h;obtain ⟨k2,h,fb⟩:=g
    unfold yd at h
    try dsimp only at h
    obtain ⟨lb,lh,h1,h2,fg⟩:=C _ _ bd
    obtain ⟨hG,rfl,Y⟩:=h2;obtain ⟨d32,ab,rfl,hI,hK,lj⟩:=id Y
    cases h1
    have h3:=fg 0 _ rfl;simp only[go_sem] at h3
    clear fg bd
    repeat refine af hJ ?_
    refine aO hJ ?_
    repeat refine af hJ ?_
    refine ay hJ fun ll=>?_
    refine aj hJ ?_
    simp only[*,go_sem,-h]
    repeat refine af hJ ?_
    refine ay hJ fun ln=>?_
    refine aj hJ ?_
    have g:=fH h;clear h;obtain ⟨h4,h5,h⟩:=g
    obtain ⟨lo,lr,fi⟩:=cW h5
    obtain ⟨hF,eh,a9,ba,W⟩:=R _ _ fi
    obtain rfl:eh=[.bool h4]:=ba
    cases a9
    have h6:=W 0 _ rfl;simp only[go_sem] at h6
    clear W fi
    try simp only[*,go_sem,-h]
    have g:=iL h;clear h;rcases g with ⟨bj,h⟩|⟨bj,h⟩
    ·try simp only[Int.ofNat_lt] at bj
     refine bK hJ (by simp only[*,go_sem,-h]) ?_
     refine ay hJ fun h7=>?_
     refine aj hJ ?_
     have g:=fH h;clear h;obtain ⟨h8,h9,h⟩:=g
     obtain ⟨ib,fp⟩:=dw h9
     simp only[*,go_sem,-h]
     intro fr f45;have ic:=eA f45;have fs:=fq f45
     have ih:=aP.cons fs h7
     try simp only[au] at fs
     try simp only[*,go_sem,-h]
     refine zV (r:=(rL rI)) (l:=H) (x:=a3) (cs:=#[.slice d32 a3.length ab]) (e2:=35) [(fr,.cells #[.slice d32 a3.length ab] 35)] [] (by first|rfl|simp only[aT]|(simp only[aT];rfl)) bc ih ib ⟨_,rfl,Y⟩ (by simp only[*,go_sem,-h]) ic rfl rfl kK kK qV qX rfl qW (by decide) (by decide) (fun lv ft bk ik il lx=>?_)
     simp only[aT] at il
     subst ik
     rw[<-fp] at bk;clear fp
     obtain ⟨d53,im,rfl,iv⟩:=bk.len
     refine ⟨⟨E,(fr,.cells #[.slice d32 a3.length ab] 35)::ft⟩,Le.refl _,?_⟩
     refine aJ ?_
     try simp only[*,go_sem,-h]
     have g:=Option.some.inj h;clear h;subst g
     have h:=True.intro
     have et:=cp (n:=i23) (by have:=b2;omega)
     refine aj hJ ?_
     simp only[*,go_sem,-h]
     refine ⟨d.length - (i23+1),by omega,_,Le.sub (List.Sublist.cons _ (List.Sublist.refl _)),i23+1,d53,im,ft,h8,rfl,by omega,fb,rfl,bk,iv,?_⟩
     simp only[*,go_sem,-h]
    ·try simp only[Int.ofNat_lt] at bj
     refine bG hJ (by simp only[*,go_sem,-h]) ?_
     refine aH hJ ?_
     have g:=Option.some.inj h;clear h;subst g
     have h:=True.intro
     have et:=cp (n:=i23) (by have:=b2;omega)
     refine aj hJ ?_
     simp only[*,go_sem,-h]
     refine ⟨d.length - (i23+1),by omega,_,Le.sub (List.Sublist.refl _),i23+1,d17,I,a2,H,rfl,by omega,fb,rfl,bc,hZ,?_⟩
     simp only[*,go_sem,-h]
   ·have ly:=Nat.not_lt.2 fa
    refine bG hJ (by simp only[*,go_sem,-h]) ?_
    rw[List.drop_eq_nil_of_le fa] at G
    have g:=Option.some.inj G;clear G h;subst g
    have h:=hY
    dsimp only[aB] at h
    refine bN ?_
    simp only[go_sem]
    repeat refine af hJ ?_
    refine ay hJ fun lL=>?_
    refine aj hJ ?_
    simp only[*,go_sem,-h]
    have g:=Option.some.inj h;clear h;subst g
    refine ay hJ fun fu=>?_
    obtain ⟨fv,bm,l1,fw,ix⟩:=bc.kM (([]:List (Nat×Obj))) [] [] (by first|rfl|simp only[aT]|(simp only[aT];rfl)) (by first|rfl|simp only[aT]|(simp only[aT];rfl)) fu (aF.nil _)
    clear fu
    refine cB (F:=⟨fv,([]:List (Nat×Obj))⟩) hJ ix ?_
    obtain ⟨l2,l3,l4⟩:=fw.op
    replace o:=o.mono bm;clear C;obtain ⟨_,_,C⟩:=o.op
    replace ad:=ad.mono bm;clear R;obtain ⟨_,_,R⟩:=ad.op
    refine av ?_
    exact (k9 (t:=6) rfl (by simp only[*,go_sem]) (by simp only[*,go_sem]) ⟨rfl,fv,hV.trans bm,Le.refl _,_,rfl,fw⟩).2
end Go.Proofs.YtpgcmoanfifglaaGreatDoor
end
section
namespace Go.Proofs.YtpgcmoanfifglaaGreatDoor
open Go Go.Sep Go.Proofs
set_option maxRecDepth 100000
set_option maxHeartbeats 4000000
def ye (u0:ak)(b:Int):Option ((List Int)×Int):=
 ag (gu u0 ([(gN b),nE])) fun a=>cond ((a.2 != 0)) (some (([]:(List Int)),a.2)) (ag (rZ a.1.book ([([]:(List Int))])) fun c=>ag (tn a.1 b c) fun d=>ag (wq d) fun e=>some (e,0))
theorem Ko {ro:Addr->Option Value}(L:c8 ro)(u0:ak){s1 g i j:Value}(D:bL ro u0 s1 g i j)(a:Int){r:((List Int)×Int)}(h:ye u0 a=some r):oZ Tryz.prog 43 #[bv u0 s1 g i j,.int .i64 a] ro (fun v aM=>∃W,v= .tuple #[W,.int .i64 r.2]/\aA rI aM W r.1):=by
 unfold ye at h;have ba:=D.oc;simp only[bE] at ba;refine fz.go Tryz.func43 rfl Tryz.ntmps43 Tryz.results43 (by simp) fun Φ hJ A b5 hd hs=>?_;have ca:=hs 0;have k1:=hs 1;clear hs;refine ah hJ ?_;simp only[*,go_sem];refine az fun w c bb=>?_;try simp only[au] at bb
 try simp only[*,go_sem]
 refine af hJ ?_;refine ay hJ fun bc=>?_;refine aj hJ ?_;revert h;refine bS fun n bd h=>?_;simp only[*,go_sem];refine az fun z X Y=>?_;have Z:=aP.cons Y bc;try simp only[au] at Y
 try simp only[*,go_sem]
 obtain ⟨B,M,ab⟩:=fK (b:=z) (o:=(.cells #[.func (.func 96) #[.int .i64 a] #[],.func (.func 97) #[] #[]] 127)) [] ((w,bk u0 s1 g i j)::[]) Z X (aF.cons c (aF.nil _));have ad:aA (cY) (bP ro z (.cells #[.func (.func 96) #[.int .i64 a] #[],.func (.func 97) #[] #[]] 127)) (.slice (some ⟨z,0,none⟩) 2 2) [(gN a),nE]:=(aA.two (r:=(cY)) (e:=127) (v:=.func (.func 96) #[.int .i64 a] #[]) (u:=.func (.func 97) #[] #[]) (x:=(gN a)) (y:=nE) (own:=[(z,.cells #[.func (.func 96) #[.int .i64 a] #[],.func (.func 97) #[] #[]] 127)]) X (by simp[lk]) rfl ⟨96,#[.int .i64 a],#[],rfl,⟨by simp only[go_sem],fun bj bl N _ _ _ _ _ O P Q R h=>by simp only[go_sem];exact u5 a N ⟨O,P,Q,R⟩ h⟩⟩ ⟨97,#[],#[],rfl,⟨by simp only[go_sem],fun bj bl N _ _ _ _ _ O P Q R h=>by simp only[go_sem];exact Gx N ⟨O,P,Q,R⟩ h⟩⟩)
 generalize bP ro z (.cells #[.func (.func 96) #[.int .i64 a] #[],.func (.func 97) #[] #[]] 127)=cb at ad M B ab;refine gJ hJ ab ?_;replace D:=D.mono B;replace c:=M.hd;replace L:=L.mono B;simp only[bq] at M;have bm:=aP.tl Z;refine b9 hJ _ (jq L u0 D ([(gN a),nE]) ad bd) fun v ae al ao k=>?_;obtain ⟨E,F,G,H,I,rfl,d,q⟩:=k;have bo:=d.oc;simp only[bE] at bo;have br:=q.oc;simp only[bE] at br;replace c:=ao.hd;simp only[bq] at ao;refine aJ ?_;try simp only[*,go_sem]
 refine az fun J f ar=>?_;have cd:=aP.cons ar bm;try simp only[au] at ar
 try simp only[*,go_sem]
 refine af hJ (ah hJ ?_);simp only[*,go_sem];revert h;refine jC hJ (by simp only[*,go_sem]) (fun bs h=>?_) fun bs h=>?_
 ·obtain rfl:=sI h;refine ah hJ ?_;simp only[*,go_sem];refine av ?_;simp only[*,go_sem];exact ⟨_,(B).trans al,Le.sub (List.nil_sublist _),_,rfl,aA.nil _ _⟩
 refine aH hJ (af hJ ?_);refine ay hJ fun bz=>?_;refine cQ hJ mixed 4 2 (by simp only[*,go_sem]) (by kernel_rfl) ?_;revert h;refine bS fun b0 b1 h=>?_;simp only[*,go_sem];refine az fun C a0 a2=>?_;have a3:=aP.cons a2 bz;try simp only[au] at a2
 try simp only[*,go_sem]
 obtain ⟨m,K,a4⟩:=fK (b:=C) (o:=(.cells #[.slice none 0 0] 35)) [] ((J,kn n.1 E F G H I)::(w,bk u0 s1 g i j)::[]) a3 a0 (aF.cons f (aF.cons c (aF.nil _)));have a5:aA (rL rI) (bP ae C (.cells #[.slice none 0 0] 35)) (.slice (some ⟨C,0,none⟩) 1 1) [([]:(List Int))]:=(aA.one (r:=(rL rI)) (e:=35) (cs:=#[.slice none 0 0]) (x:=([]:(List Int))) (own:=[(C,.cells #[.slice none 0 0] 35)]) a0 (by simp[lk]) ⟨_,rfl,aA.nil _ _⟩)
 generalize bP ae C (.cells #[.slice none 0 0] 35)=cf at a5 K m a4;refine gJ hJ a4 ?_;replace d:=d.mono m;replace q:=q.mono m;replace f:=K.hd;replace c:=K.tl.hd;simp only[bq] at K;have cl:=aP.tl a3;refine b9 hJ _ (Aq n.1.book d ([([]:(List Int))]) a5 b1) fun v cy s S k=>?_;obtain ⟨cS,rfl,a6⟩:=k;replace d:=d.mono s;replace q:=q.mono s;replace f:=S.hd;replace c:=S.tl.hd;simp only[bq] at S;obtain ⟨d92,c0,rfl,da,db,-⟩:=id a6;have dd:=eO (l:=[(J,kn n.1 E F G H I),(w,bk u0 s1 g i j)]) (m.trans s) (aF.cons f (aF.cons c (aF.nil _)));refine ⟨by simp only[*,go_sem],?_⟩;refine eU ?_;revert h;refine bS fun b2 b3 h=>?_;try simp only[*,go_sem]
 refine rf _ (C1 n.1 d.e d.p d.y d.t q a b0 a6 b3) fun v df T U k=>?_;obtain ⟨dk,rfl,a7⟩:=k;replace f:=U.hd;replace c:=U.tl.hd;simp only[bq] at U;obtain ⟨d111,dp,rfl,dq,ds,-⟩:=id a7;have dt:=eO (l:=[(J,kn n.1 E F G H I),(w,bk u0 s1 g i j)]) ((m.trans s).trans T) (aF.cons f (aF.cons c (aF.nil _)));refine ⟨by simp only[*,go_sem],?_⟩;refine eU ?_;revert h;refine bS fun du b4 h=>?_;obtain rfl:=sI h;try simp only[*,go_sem]
 refine b9 hJ _ (Gz b2 a7 b4) fun v dv a8 V k=>?_;obtain ⟨dC,rfl,a9⟩:=k;replace f:=V.hd;replace c:=V.tl.hd;simp only[bq] at V;obtain ⟨d124,dE,rfl,dT,ea,-⟩:=id a9;have eb:=eO (l:=[(J,kn n.1 E F G H I),(w,bk u0 s1 g i j)]) (((m.trans s).trans T).trans a8) (aF.cons f (aF.cons c (aF.nil _)));refine ⟨by simp only[*,go_sem],?_⟩;refine eU ?_;try simp only[*,go_sem]
 refine av ?_;simp only[*,go_sem];exact ⟨_,(((((B).trans al).trans m).trans s).trans T).trans a8,Le.sub (List.nil_sublist _),_,rfl,a9⟩
def yf (u0:ak)(c:Int)(a:(cK×Int))(st:(Bool×Int×(List (List Int))×Int)):Option (Fl (Bool×Int×(List (List Int))×Int) ((List Int)×Bool×Int)):=
 cond (decide (st.2.2.2<(IntKind.i64.wrap ((IntKind.i64.wrap (3 - (u0.props.length:Int)))+1)))) (ag (tn a.1 c st.2.2.1) fun b=>cond (decide (0<(b.length:Int))) (ag (bn b 0) fun d=>some (.rt (d,true,0))) (ag (rZ a.1.book st.2.2.1) fun e=>some (.nx (st.1,st.2.1,e,(IntKind.i64.wrap (st.2.2.2+1)))))) (some (.bk (st.1,st.2.1,st.2.2.1,st.2.2.2)))
def yg (u0:ak)(b:Int):Option ((List Int)×Bool×Int):=
 ag (gu u0 ([(gN b)])) fun a=>cond ((a.2 != 0)) (some (([]:(List Int)),false,a.2)) (ag (aY (yf u0 b a) fu (false,a.2,([([]:(List Int))]),0)) fun o=>aB o (fun c=>some (([]:(List Int)),false,0)) (fun _ _=>none) (fun r=>some r))
theorem Kp {ro:Addr->Option Value}(K:c8 ro)(u0:ak){s1 S k l:Value}(n:bL ro u0 s1 S k l)(a:Int){r:((List Int)×Bool×Int)}(h:yg u0 a=some r):oZ Tryz.prog 47 #[bv u0 s1 S k l,.int .i64 a] ro (fun v aM=>∃T,v= .tuple #[T,.bool r.2.1,.int .i64 r.2.2]/\aA rI aM T r.1):=by
 obtain ⟨d10,L,rfl,ed,eh,-⟩:=id n.p;unfold yg at h;have bm:=n.oc;simp only[bE] at bm;refine fz.go Tryz.func47 rfl Tryz.ntmps47 Tryz.results47 (by simp) fun Φ hJ A bo hd hs=>?_;have br:=hs 0;have k1:=hs 1;clear hs;refine ah hJ ?_;simp only[*,go_sem];refine az fun M C bs=>?_;try simp only[au] at bs
 try simp only[*,go_sem]
 refine af hJ ?_;refine ay hJ fun bz=>?_;refine aj hJ ?_;revert h;refine bS fun f b0 h=>?_;simp only[*,go_sem];refine az fun q U V=>?_;have W:=aP.cons V bz;try simp only[au] at V
 try simp only[*,go_sem]
 obtain ⟨g,N,X⟩:=fK (b:=q) (o:=(.cells #[.func (.func 96) #[.int .i64 a] #[]] 127)) [] ((M,bk u0 s1 (sl d10 u0.props L) k l)::[]) W U (aF.cons C (aF.nil _));have Y:aA (cY) (bP ro q (.cells #[.func (.func 96) #[.int .i64 a] #[]] 127)) (.slice (some ⟨q,0,none⟩) 1 1) [(gN a)]:=(aA.one (r:=(cY)) (e:=127) (cs:=#[.func (.func 96) #[.int .i64 a] #[]]) (x:=(gN a)) (own:=[(q,.cells #[.func (.func 96) #[.int .i64 a] #[]] 127)]) U (by simp[lk]) ⟨96,#[.int .i64 a],#[],rfl,⟨by simp only[go_sem],fun et ev b1 _ _ _ _ _ b2 b3 b4 b5 h=>by simp only[go_sem];exact u5 a b1 ⟨b2,b3,b4,b5⟩ h⟩⟩)
 generalize bP ro q (.cells #[.func (.func 96) #[.int .i64 a] #[]] 127)=eQ at Y N g X;refine gJ hJ X ?_;replace n:=n.mono g;replace C:=N.hd;replace K:=K.mono g;simp only[bq] at N;have ca:=aP.tl W;refine b9 hJ _ (jq K u0 n ([(gN a)]) Y b0) fun v Z O ab s=>?_;obtain ⟨ad,ae,al,ao,ar,rfl,c,i⟩:=s;have cb:=c.oc;simp only[bE] at cb;have cd:=i.oc;simp only[bE] at cd;replace C:=ab.hd;simp only[bq] at ab;refine aJ ?_;try simp only[*,go_sem]
 refine az fun a0 cf a2=>?_;have eS:=aP.cons a2 ca;try simp only[au] at a2
 try simp only[*,go_sem]
 refine af hJ (ah hJ ?_);simp only[*,go_sem];revert h;refine jC hJ (by simp only[*,go_sem]) (fun cl h=>?_) fun cl h=>?_
 ·obtain rfl:=sI h;refine ah hJ ?_;simp only[*,go_sem];refine av ?_;simp only[*,go_sem];exact ⟨_,(g).trans O,Le.sub (List.nil_sublist _),_,rfl,aA.nil _ _⟩
 refine aH hJ (af hJ ?_);refine ay hJ fun cy=>?_;refine aj hJ ?_;simp only[*,go_sem];refine az fun j a3 a4=>?_;have e0:=aP.cons a4 cy;try simp only[au] at a4
 try simp only[*,go_sem]
 refine af hJ (ah hJ ?_);simp only[*,go_sem];refine ay hJ fun a5=>?_;obtain ⟨u,a6,a7⟩:=fK (b:=j) (o:=(.cells #[.slice none 0 0] 35)) [] ((a0,kn f.1 ad ae al ao ar)::(M,bk u0 s1 (sl d10 u0.props L) k l)::[]) a5 a3 (aF.cons cf (aF.cons C (aF.nil _)));clear a5;have P:aA (rL rI) (bP Z j (.cells #[.slice none 0 0] 35)) (.slice (some ⟨j,0,none⟩) 1 1) [([]:(List Int))]:=(aA.one (r:=(rL rI)) (e:=35) (cs:=#[.slice none 0 0]) (x:=([]:(List Int))) (own:=[(j,.cells #[.slice none 0 0] 35)]) a3 (by simp[lk]) ⟨_,rfl,aA.nil _ _⟩)
 generalize bP Z j (.cells #[.slice none 0 0] 35)=a8 at u a6 a7 P;refine cB hJ a7 ?_;obtain ⟨e1,e2,-⟩:=P.op;replace c:=c.mono u;replace i:=i.mono u;simp only[bq] at a6;refine aO hJ ?_;revert h;refine bS fun cS D a9=>?_;refine bQ hJ [4,5,6,8,9,27,28,29,30,31,32,33,34,35,36,37,38,39,40,41,42,43] (fun m E F'=>∃(F:Addr->Option Value) (d98:Option Addr) (Q:Nat) (G:Bool) (H:Int) (d:(List (List Int))) (I:Int),aY (yf u0 a f) m (G,H,d,I)=some cS/\F'=⟨F,(a0,kn f.1 ad ae al ao ar)::(M,bk u0 s1 (sl d10 u0.props L) k l)::[]⟩/\Ext a8 F/\aA (rL rI) F (.slice d98 d.length Q) d/\slot E 5= .bool G/\slot E 6= .int .i64 H/\slot E 8= .slice d98 d.length Q/\slot E 27= .int .i64 I) fu ?_ ?_
 ·refine ⟨a8,(some ⟨j,0,none⟩),1,false,f.2,([([]:(List Int))]),0,D,rfl,Ext.refl _,P,?_⟩;simp only[*,go_sem]
 rintro R e3 F' ba ⟨F,d98,Q,G,H,d,I,D,rfl,w,z,fa,fb,fg,fi⟩;refine fA hJ fun _ c0=>?_;replace c:=c.mono w;replace i:=i.mono w;simp only[bq] at c0;obtain ⟨fp,fr,-⟩:=z.op;obtain ⟨da,db,dd⟩:=ba.pick [1,7,26] (by decide);simp only[*,go_sem] at da db dd;clear ba bo hd br k1;obtain _|R:=R
 ·exact absurd D (by simp only[aY,reduceCtorEq,not_false_eq_true])
 revert D;refine bS fun fs h B=>?_;unfold yf at h;try dsimp only at h
 refine ah hJ ?_;simp only[*,go_sem];refine af hJ ?_;revert h;refine jC hJ (by simp only[*,go_sem]) (fun df h=>?_) fun df h=>?_
 ·refine aH hJ (af hJ ?_);refine aO hJ (af hJ ?_);refine ah hJ ?_;revert h;refine bS fun ft dk h=>?_;simp only[*,go_sem];refine rf _ (C1 f.1 c.e c.p c.y c.t i a d z dk) fun v fv J dp s=>?_;obtain ⟨fw,rfl,bb⟩:=s;replace z:=z.mono J;replace c:=c.mono J;simp only[bq] at dp;obtain ⟨d121,fx,rfl,gg,gl,-⟩:=id bb;refine aJ ?_;try simp only[*,go_sem]
  refine ah hJ ?_;simp only[*,go_sem];revert h;refine jC hJ (by simp only[*,go_sem]) (fun dq h=>?_) fun dq h=>?_
  ·refine ah hJ ?_;revert h;refine bS fun gn ds h=>?_;obtain rfl:=sI h;obtain ⟨gp,gB,bc⟩:=cW ds;obtain ⟨gC,gM,dt,du,bd⟩:=bb.el _ _ bc;obtain ⟨gT,rfl,bj⟩:=du;obtain ⟨d130,gV,rfl,g0,g1,g2⟩:=id bj;cases dt;have dv:=bd 0 _ rfl;simp only[go_sem] at dv;clear bd bc;(try simp only[*,go_sem]);obtain rfl:=sI B;clear B;have h:=a9;dsimp only[aB] at h;obtain rfl:=sI h;refine av ?_;simp only[*,go_sem];exact ⟨_,((((g).trans O).trans u).trans w).trans J,Le.sub (List.nil_sublist _),_,rfl,bj⟩
  refine aH hJ (aj hJ ?_);revert h;refine bS fun dC dE h=>?_;obtain rfl:=sI h;simp only[*,go_sem];refine b9 hJ _ (Aq f.1.book c d z dE) fun v dT ea eb s=>?_;obtain ⟨g3,rfl,bl⟩:=s;simp only[bq] at eb;obtain ⟨d144,ec,rfl,g4,ha,-⟩:=id bl;refine aJ ?_;try simp only[*,go_sem]
  refine aj hJ ?_;simp only[*,go_sem];refine ⟨R,Nat.lt_succ_self _,_,Le.sub (List.Sublist.refl _),dT,d144,ec,G,H,dC,(IntKind.i64.wrap (I+1)),B,rfl,(w.trans (J.trans ea)),bl,?_⟩;simp only[*,go_sem]
 obtain rfl:=sI h;refine bN ?_;simp only[go_sem];obtain rfl:=sI B;clear B;have h:=a9;dsimp only[aB] at h;obtain rfl:=sI h;refine ah hJ ?_;simp only[*,go_sem];refine av ?_;simp only[*,go_sem];exact ⟨_,(((g).trans O).trans u).trans w,Le.sub (List.nil_sublist _),_,rfl,aA.nil _ _⟩
def yh (a:(Int×Int×Int))(e:(ak×Int))(b:((List Int)×Int))(f:(ak×Int))(g:(ak×Int))(c:(Int×Int))(d:((List Int)×Int)):Option Bool:=
 cond ((a.2.2==0)) (cond ((e.2==0)) (cond ((b.2==0)) (cond ((f.2==9)) (cond ((g.2==0)) (cond ((c.2==0)) (cond ((d.2==0)) (cond ((a.1==0)) (cond ((a.2.1==2)) (ag (mb b.1 ([11,12])) fun h=>cond (h) (cond ((c.1==2)) (ag (mb d.1 ([1])) fun i=>some i) (some false)) (some false)) (some false)) (some false)) (some false)) (some false)) (some false)) (some false)) (some false)) (some false)) (some false)
def yj (a:ak):Option Bool:=
 ag (wj a) fun d=>ag (mw 0 true) fun e=>ag (si a e) fun b=>ag (mg b.1 0) fun f=>ag (mw 1 true) fun g=>ag (si a g) fun h=>ag (pY 12 12) fun i=>ag (wm a 0 i) fun c=>ag (jZ c.1) fun j=>ag (mw 0 true) fun k=>ag (pZ a k) fun l=>ag (mw 1 true) fun m=>ag (pZ l m) fun n=>ag (mw 0 false) fun o=>ag (pZ n o) fun p=>ag (wB p) fun q=>yh d b f h c j q
def yl (d:ak)(f:(Int×Int))(g:(Int×Int))(h:(Int×Int))(i:(Int×Int))(b:(Int×an×Int))(c:(Int×an×Int))(a:(an×an×Bool×Int)):Option Bool:=
 ag (ye d 2) fun j=>ag (yg d 2) fun e=>cond ((f.2 != 0)) (some false) (cond ((g.2 != 0)) (some false) (cond ((h.2 != 0)) (some false) (cond ((i.2 != 0)) (some false) (cond ((b.2.2 != 0)) (some false) (cond ((c.2.2 != 0)) (some false) (cond ((a.2.2.2 != 0)) (some false) (cond ((j.2 != 0)) (some false) (cond ((e.2.2 != 0)) (some false) (cond ((f.1 != 0)) (some false) (cond ((g.1 != 2)) (some false) (cond ((h.1 != 0)) (some false) (cond ((i.1 != 1)) (some false) (cond ((b.1 != 0)) (some false) (ag (fD 1 1) fun k=>cond (!((b.2.1.num==k.num)&&(b.2.1.den==k.den))) (some false) (cond ((c.1 != (-1))) (some false) (ag (fD 0 1) fun l=>cond (!((c.2.1.num==l.num)&&(c.2.1.den==l.den))) (some false) (cond (!a.2.2.1) (some false) (ag (fD 3 2) fun m=>cond (!((a.1.num==m.num)&&(a.1.den==m.den))) (some false) (ag (fD 3 2) fun n=>cond (!((a.2.1.num==n.num)&&(a.2.1.den==n.den))) (some false) (ag (mb j.1 ([11,12,13,14])) fun o=>cond (!o) (some false) (cond (!e.2.1) (some false) (ag (mb e.1 ([11])) fun p=>cond (!p) (some false) (yj d)))))))))))))))))))))))
def ym (a:ak)(b:ak):Option Bool:=
 ag (kR a 0) fun c=>ag (kR a 1) fun d=>ag (jZ a) fun e=>ag (jZ b) fun f=>ag (kT a) fun g=>ag (kT b) fun h=>ag (wD a) fun i=>yl a c d e f g h i
def yo (b:ak)(s:ak)(g:(an×Int))(c:(Int×an×Int))(h:(an×Int))(d:(an×Bool×Int))(e:(an×Bool×Int))(f:(an×Bool×Int)):Option Bool:=
 ag (wI b) fun i=>ag (mg b 0) fun j=>ag (wH b 0) fun a=>cond ((g.2 != 0)) (some false) (cond ((c.2.2 != 0)) (some false) (cond ((h.2 != 0)) (some false) (cond ((d.2.2 != 0)) (some false) (cond ((e.2.2 != 0)) (some false) (cond ((f.2.2 != 0)) (some false) (cond ((i.2 != 0)) (some false) (cond ((j.2 != 0)) (some false) (cond ((a.2.2 != 0)) (some false) (ag (fD 13 4) fun k=>cond (!((g.1.num==k.num)&&(g.1.den==k.den))) (some false) (cond ((c.1 != 2)) (some false) (ag (fD 11 8) fun l=>cond (!((c.2.1.num==l.num)&&(c.2.1.den==l.den))) (some false) (ag (fD 1 4) fun m=>cond (!((h.1.num==m.num)&&(h.1.den==m.den))) (some false) (ag (fD 24 13) fun n=>cond (!((d.1.num==n.num)&&(d.1.den==n.den))) (some false) (cond (!d.2.1) (some false) (ag (fD 2 13) fun o=>cond (!((e.1.num==o.num)&&(e.1.den==o.den))) (some false) (cond (e.2.1) (some false) (ag (fD 1 1) fun p=>cond (!((f.1.num==p.num)&&(f.1.den==p.den))) (some false) (cond (!f.2.1) (some false) (cond ((i.1 != 3)) (some false) (ag (mb j.1 ([10,11,12])) fun t=>cond (!t) (some false) (ag (fD 1 4) fun q=>cond (!((a.1.num==q.num)&&(a.1.den==q.den))) (some false) (ag (fD 1 1) fun r=>cond (!((a.2.1.num==r.num)&&(a.2.1.den==r.den))) (some false) (ym b s)))))))))))))))))))))))
def ff :Option Bool:=
 ag (wM) fun a=>ag (wL a ([11]) 2) fun b=>ag (vm a 5) fun c=>ag (ju 2 11) fun d=>ag (vn a d) fun e=>ag (ju 2 10) fun f=>ag (vo a f) fun g=>ag (ju 2 12) fun h=>ag (vp b h) fun i=>ag (ju 2 12) fun j=>ag (me b j) fun k=>ag (ju 2 12) fun l=>ag (me a l) fun m=>yo a b c e g i k m
theorem ow:ff=some true:=by decide+kernel
set_option maxHeartbeats 40000000 in
theorem C2 {Φ:Goroutine->aa->Prop}(hJ:Closed Tryz.prog true (dQ Tryz.prog Φ)){A:Act}{ro:Addr->Option Value}(a:(Int×Int×Int))(f:(ak×Int))(b:((List Int)×Int))(g:(ak×Int))(i:(ak×Int))(d:(Int×Int))(c:((List Int)×Int))(Q:c8 ro){j:Value}(k:aA rI ro j b.1){l:Value}(m:aA rI ro l c.1)(q:sz A=439/\A.defers=[]/\slot A 0= .bool false/\slot A 4= .int .i64 a.2.2/\slot A 7= .int .i64 f.2/\slot A 9= .int .i64 b.2/\slot A 12= .int .i64 g.2/\slot A 15= .int .i64 i.2/\slot A 18= .int .i64 d.2/\slot A 20= .int .i64 c.2/\slot A 21=j/\slot A 28= .int .i64 d.1/\slot A 40= .int .i64 a.1/\slot A 41= .int .i64 a.2.1/\slot A 43=l)(h:yh a f b g i d c=some true):Wp (dQ Tryz.prog Φ) (bu (bu (bu (bu (bu (bu (bu (bu (bu (bu (bu (bu (bu (bu (bu (bu (bu (bu (bu (bu (bu (bu (bu (bu (bu (bu (bu (bu (bu (bu (bu (bu (Tryz.f13.body.getD .skip))))))))))))))))))))))))))))))))) (gY Tryz.prog [.tmp 0] (fun v _=>v= .bool true)) A ⟨ro,[]⟩:=by
 obtain ⟨R,hd,S,T,U,V,W,X,Y,Z,ab,ad,ae,al,ao⟩:=q;obtain ⟨ar,a0,rfl,a2,a3,-⟩:=id k;obtain ⟨a4,a5,rfl,a6,a7,-⟩:=id m;unfold yh at h;refine fA hJ fun s t=>?_;have u:=s.nd;try simp only[keys,List.map_cons,List.map_nil,List.map_append,List.cons_append,List.nil_append,List.nodup_cons,List.mem_cons,List.mem_append,List.not_mem_nil,or_false,not_or] at u
 simp only[bq] at t;refine af hJ ?_;refine ay hJ fun w=>?_;refine en hJ fun K n=>?_;revert h;refine cS (fun y h=>?_) fun y h=>?_
 ·revert h;refine cS (fun z h=>?_) fun z h=>?_
  ·revert h;refine cS (fun B h=>?_) fun B h=>?_
   ·revert h;refine cS (fun C h=>?_) fun C h=>?_
    ·revert h;refine cS (fun D h=>?_) fun D h=>?_
     ·revert h;refine cS (fun E h=>?_) fun E h=>?_
      ·revert h;refine cS (fun F h=>?_) fun F h=>?_
       ·revert h;refine cS (fun G h=>?_) fun G h=>?_
        ·revert h;refine cS (fun H h=>?_) fun H h=>?_
         ·revert h;refine bS fun a8 I h=>?_;(try simp (maxSteps:=9^9) only[*,go_sem]);refine az fun a9 J o=>?_;have L:=aP.cons o w;try simp only[au] at o
          (try simp (maxSteps:=9^9) only[*,go_sem]);refine bh hJ _ (pN b.1 (k.mono aQ) ([11,12]) ((aA.flat (r:=rI) (e:=3) (cs:=#[.int .i64 11,.int .i64 12]) (fun x=>[.int .i64 x]) ([11,12]) (fun _=>rfl) J rfl (by simp)).mono (jN (by simp (maxSteps:=9^9) only[*,go_sem]))) I) (aJ ?_);revert h;refine cS (fun M h=>?_) fun M h=>?_
          ·revert h;refine cS (fun N h=>?_) fun N h=>?_
           ·revert h;refine bS fun ba O h=>?_;obtain rfl:=sI h;(try simp (maxSteps:=9^9) only[*,go_sem]);refine az fun bb P p=>?_;have bc:=aP.cons p L;try simp only[au] at p
            (try simp (maxSteps:=9^9) only[*,go_sem]);refine bh hJ _ (pN c.1 (m.mono aQ) ([1]) ((aA.flat (r:=rI) (e:=3) (cs:=#[.int .i64 1]) (fun x=>[.int .i64 x]) ([1]) (fun _=>rfl) P rfl (by simp)).mono (jN (by simp (maxSteps:=9^9) only[*,go_sem]))) O) (aJ ?_);(try simp (maxSteps:=9^9) only[*,go_sem]);refine n.go ?_;clear n K;refine av ?_;try simp only[*,go_sem]
           cases h
          cases h
         cases h
        cases h
       cases h
      cases h
     cases h
    cases h
   cases h
  cases h
 cases h
set_option maxHeartbeats 40000000 in
theorem Kq {Φ:Goroutine->aa->Prop}(hJ:Closed Tryz.prog true (dQ Tryz.prog Φ)){A:Act}{ro:Addr->Option Value}(d:ak)(eQ:((List Int)×Int))(eS:(Int×Int))(e0:(Int×Int))(b0:(Int×Int))(e1:(Int×Int))(e2:(Int×an×Int))(e3:(Int×an×Int))(fa:(an×an×Bool×Int)){i:Nat}(a:c8 ro){b1:Value}(fb:aA rI ro b1 eQ.1){j k m n:Value}(c:bL ro d j k m n)(fg:sz A=439/\A.defers=[]/\slot A 0= .bool false/\slot A 1= .pointer (some ⟨i,0,none⟩)/\slot A 4= .int .i64 eS.2/\slot A 7= .int .i64 e0.2/\slot A 9= .int .i64 b0.2/\slot A 12= .int .i64 e1.2/\slot A 15= .int .i64 e2.2.2/\slot A 18= .int .i64 e3.2.2/\slot A 20= .int .i64 fa.2.2.2/\slot A 21=b1/\slot A 28= .int .i64 b0.1)(h:yj d=some true):Wp (dQ Tryz.prog Φ) (bu (bu (bu (bu (bu (bu (bu (bu (bu (bu (bu (bu (bu (bu (bu (bu (bu (bu (bu (bu (bu (bu (bu (bu (bu (Tryz.f13.body.getD .skip)))))))))))))))))))))))))) (gY Tryz.prog [.tmp 0] (fun v _=>v= .bool true)) A ⟨ro,(i,bk d j k m n)::[]⟩:=by
 obtain ⟨b2,hd,b3,k1,b4,b5,ca,cb,cd,cf,cl,cy,cS⟩:=fg;obtain ⟨d125,j1,rfl,j2,kh,-⟩:=id fb;unfold yj at h;have fi:=c.oc;simp only[bE] at fi;refine fA hJ fun a2 c0=>?_;have fp:=a2.nd;try simp only[keys,List.map_cons,List.map_nil,List.map_append,List.cons_append,List.nil_append,List.nodup_cons,List.mem_cons,List.mem_append,List.not_mem_nil,or_false,not_or] at fp
 replace g:=c0.hd;simp only[bq] at c0;refine af hJ (en hJ fun K b=>?_);revert h;refine bS fun da fr h=>?_;try simp (maxSteps:=9^9) only[*,go_sem]
 refine bh hJ _ (Gw (a.mono aQ) d (c.mono aQ) fr) (aJ ?_);try simp (maxSteps:=9^9) only[*,go_sem]
 refine b.go ?_;clear b K;refine af hJ ?_;refine jT hJ mixed [] (.rd 0 (.rd 1 (.two 2 (.pure 3 (.pure 4 (.pure 5 (.one 6 (.one 7 (.pure 8 .done)))))) 6 (.one 2 (.pure 3 (.pure 4 (.pure 5 (.one 7 (.pure 8 .done))))))))) ⟨ro,[(i,bk d j k m n)]⟩ (by simp (maxSteps:=9^9) only[*,go_sem]) (by kernel_rfl) fun K b=>?_;revert h;refine bS fun db fs h=>?_;try simp (maxSteps:=9^9) only[*,go_sem]
 refine ⟨_,bC hJ fun F u=>j3 0 true fs,bX ?_⟩;try simp (maxSteps:=9^9) only[*,go_sem]
 refine jS ?_ ?_
 ·revert h;refine bS fun Z ft h=>?_;try simp (maxSteps:=9^9) only[*,go_sem]
  refine b9 hJ _ (sj a d c db ft) fun v kj a3 dd f=>?_;obtain ⟨df,dk,dp,dq,rfl,ds⟩:=f;have fu:=ds.oc;simp only[bE] at fu;replace c:=c.mono a3;replace g:=dd.hd;replace a:=a.mono a3;simp only[bq] at dd;have kk:=eO (l:=[(i,bk d j k m n)]) a3 (aF.cons g (aF.nil _));refine ⟨by simp (maxSteps:=9^9) only[*,go_sem],?_⟩;refine bX ?_;try simp (maxSteps:=9^9) only[*,go_sem]
  refine az fun w s dt=>?_;have kl:=aP.cons dt a2;try simp only[au] at dt
  try simp (maxSteps:=9^9) only[*,go_sem]
  refine b.go ?_;clear b K;refine af hJ (en hJ fun K b=>?_);revert h;refine bS fun fv fw h=>?_;try simp (maxSteps:=9^9) only[*,go_sem]
  refine b9 hJ _ (so a Z.1 ds 0 fw) fun v fx du a4 f=>?_;obtain ⟨km,rfl,o⟩:=f;have gg:=o.oc;simp only[bE] at gg;replace c:=c.mono du;replace s:=a4.hd;replace g:=a4.tl.hd;replace a:=a.mono du;simp only[bq] at a4;refine aJ ?_;try simp (maxSteps:=9^9) only[*,go_sem]
  refine b.go ?_;clear b K;refine af hJ ?_;refine jT hJ mixed [] (.rd 0 (.rd 1 (.one 2 (.pure 3 (.pure 4 (.pure 5 (.pure 6 .done))))))) ⟨fx,[(w,bk Z.1 df dk dp dq),(i,bk d j k m n)]⟩ (by simp (maxSteps:=9^9) only[*,go_sem]) (by kernel_rfl) fun K b=>?_;revert h;refine bS fun gl gn h=>?_;try simp (maxSteps:=9^9) only[*,go_sem]
  refine ⟨_,bC hJ fun F u=>j3 1 true gn,bX ?_⟩;revert h;refine bS fun gp gB h=>?_;try simp (maxSteps:=9^9) only[*,go_sem]
  refine b9 hJ _ (sj a d c gl gB) fun v gC ab a5 f=>?_;obtain ⟨kn,kp,ks,kt,rfl,N⟩:=f;have gM:=N.oc;simp only[bE] at gM;replace o:=o.mono ab;replace c:=c.mono ab;replace s:=a5.hd;replace g:=a5.tl.hd;replace a:=a.mono ab;simp only[bq] at a5;obtain ⟨kv,kx,rfl,ky,k0,-⟩:=id N.e;obtain ⟨k2,lb,rfl,lh,lj,-⟩:=id N.p;obtain ⟨lk,ll,rfl,ln,lo,-⟩:=id N.y;obtain ⟨lr,lv,rfl,lx,ly,-⟩:=id N.t;have lL:=eO (l:=[(w,bk Z.1 df dk dp dq),(i,bk d j k m n)]) ab (aF.cons s (aF.cons g (aF.nil _)));refine ⟨by simp (maxSteps:=9^9) only[*,go_sem],?_⟩;refine bX ?_;try simp (maxSteps:=9^9) only[*,go_sem]
  refine b.go ?_;clear b K;refine af hJ ?_;refine fL [0,1,4,7,9,12,15,18,20,21,28,40,41,42] fun l1 gT gV g0=>?_;simp only[*,go_sem] at gT gV g0;clear b2 hd b3 k1 b4 b5 ca cb cd cf cl cy cS;refine jT hJ mixed [] (.rd 0 (.rd 1 (.one 2 (.pure 3 (.pure 4 (.pure 5 (.one 6 (.pure 7 .done)))))))) ⟨gC,[(i,bk d j k m n)]⟩ (by simp (maxSteps:=9^9) only[*,go_sem]) (by kernel_rfl) fun K b=>?_;revert h;refine bS fun g1 g2 h=>?_;try simp (maxSteps:=9^9) only[*,go_sem]
  refine ⟨_,bC hJ fun F u=>sr 12 12 g2,bX ?_⟩;revert h;refine bS fun x g3 h=>?_;try simp (maxSteps:=9^9) only[*,go_sem]
  refine b9 hJ _ (Aw a d c 0 g1 g3) fun v g4 ad a6 f=>?_;obtain ⟨O,P,Q,R,rfl,dv⟩:=f;have ha:=dv.oc;simp only[bE] at ha;replace o:=o.mono ad;replace c:=c.mono ad;replace s:=a6.hd;replace g:=a6.tl.hd;replace a:=a.mono ad;simp only[bq] at a6;have l2:=eO (l:=[(i,bk d j k m n)]) ad (aF.cons g (aF.nil _));refine ⟨by simp (maxSteps:=9^9) only[*,go_sem],?_⟩;refine bX ?_;try simp (maxSteps:=9^9) only[*,go_sem]
  refine b.go ?_;clear b K;refine af hJ (en hJ fun K b=>?_);revert h;refine bS fun hc hf h=>?_;try simp (maxSteps:=9^9) only[*,go_sem]
  refine bh hJ _ (pW (a.mono aQ) x.1 (dv.mono aQ) hf) (aJ ?_);try simp (maxSteps:=9^9) only[*,go_sem]
  refine b.go ?_;clear b K;refine af hJ ?_;refine jT hJ mixed [] (.rd 0 (.rd 1 (.one 2 (.rd 3 (.one 4 (.rd 5 (.one 6 (.one 7 (.pure 8 (.pure 9 (.pure 10 (.pure 11 (.pure 12 .done))))))))))))) ⟨g4,[(w,bk x.1 O P Q R),(i,bk d j k m n)]⟩ (by simp (maxSteps:=9^9) only[*,go_sem]) (by kernel_rfl) fun K b=>?_;revert h;refine bS fun hg hh h=>?_;try simp (maxSteps:=9^9) only[*,go_sem]
  refine ⟨_,bC hJ fun F u=>j3 0 true hh,bX ?_⟩;revert h;refine bS fun hi hj h=>?_;try simp (maxSteps:=9^9) only[*,go_sem]
  refine b9 hJ _ (nN d c hg hj) fun v l3 z a7 f=>?_;obtain ⟨l4,ma,mf,mi,rfl,D⟩:=f;have hk:=D.oc;simp only[bE] at hk;replace o:=o.mono z;replace c:=c.mono z;replace s:=a7.hd;replace g:=a7.tl.hd;replace a:=a.mono z;simp only[bq] at a7;obtain ⟨ml,mn,rfl,mr,mx,-⟩:=id D.e;obtain ⟨my,m1,rfl,m2,na,-⟩:=id D.p;obtain ⟨nb,nf,rfl,nm,nn,-⟩:=id D.y;obtain ⟨np,ns,rfl,nx,nz,-⟩:=id D.t;have nA:=eO (l:=[(w,bk x.1 O P Q R),(i,bk d j k m n)]) z (aF.cons s (aF.cons g (aF.nil _)));refine ⟨by simp (maxSteps:=9^9) only[*,go_sem],?_⟩;refine bX ?_;revert h;refine bS fun hl hn h=>?_;try simp (maxSteps:=9^9) only[*,go_sem]
  refine ⟨_,bC hJ fun F u=>j3 1 true hn,bX ?_⟩;revert h;refine bS fun ho hp h=>?_;try simp (maxSteps:=9^9) only[*,go_sem]
  refine b9 hJ _ (nN hi D hl hp) fun v nH E a8 f=>?_;obtain ⟨nI,nK,nQ,nR,rfl,G⟩:=f;have hq:=G.oc;simp only[bE] at hq;replace o:=o.mono E;replace c:=c.mono E;replace s:=a8.hd;replace g:=a8.tl.hd;replace a:=a.mono E;simp only[bq] at a8;obtain ⟨nT,nV,rfl,nX,nY,-⟩:=id G.e;obtain ⟨n0,n1,rfl,n2,n3,-⟩:=id G.p;obtain ⟨oi,oj,rfl,ox,oy,-⟩:=id G.y;obtain ⟨o0,o1,rfl,o2,o4,-⟩:=id G.t;have pa:=eO (l:=[(w,bk x.1 O P Q R),(i,bk d j k m n)]) (z.trans E) (aF.cons s (aF.cons g (aF.nil _)));refine ⟨by simp (maxSteps:=9^9) only[*,go_sem],?_⟩;refine bX ?_;revert h;refine bS fun hr hs h=>?_;try simp (maxSteps:=9^9) only[*,go_sem]
  refine ⟨_,bC hJ fun F u=>j3 0 false hs,bX ?_⟩;revert h;refine bS fun ht hv h=>?_;try simp (maxSteps:=9^9) only[*,go_sem]
  refine b9 hJ _ (nN ho G hr hv) fun v pb S a9 f=>?_;obtain ⟨pd,pf,ph,pj,rfl,H⟩:=f;have hx:=H.oc;simp only[bE] at hx;replace o:=o.mono S;replace c:=c.mono S;replace s:=a9.hd;replace g:=a9.tl.hd;replace a:=a.mono S;simp only[bq] at a9;obtain ⟨pk,po,rfl,pr,ps,-⟩:=id H.e;obtain ⟨pt,pv,rfl,pw,px,-⟩:=id H.p;obtain ⟨py,pA,rfl,pB,pC,-⟩:=id H.y;obtain ⟨pD,pL,rfl,pT,p0,-⟩:=id H.t;have p1:=eO (l:=[(w,bk x.1 O P Q R),(i,bk d j k m n)]) ((z.trans E).trans S) (aF.cons s (aF.cons g (aF.nil _)));refine ⟨by simp (maxSteps:=9^9) only[*,go_sem],?_⟩;refine bX ?_;revert h;refine bS fun hy hz h=>?_;try simp (maxSteps:=9^9) only[*,go_sem]
  refine b9 hJ _ (Az a ht H hz) fun v q0 ae ba f=>?_;obtain ⟨q1,rfl,dC⟩:=f;replace o:=o.mono ae;replace c:=c.mono ae;replace s:=ba.hd;replace g:=ba.tl.hd;replace a:=a.mono ae;simp only[bq] at ba;obtain ⟨ra,rb,rfl,re,rh,-⟩:=id dC;have rk:=eO (l:=[(w,bk x.1 O P Q R),(i,bk d j k m n)]) (((z.trans E).trans S).trans ae) (aF.cons s (aF.cons g (aF.nil _)));refine ⟨by simp (maxSteps:=9^9) only[*,go_sem],?_⟩;refine bX ?_;try simp (maxSteps:=9^9) only[*,go_sem]
  refine b.go ?_;clear b K;show Wp _ _ _ _ _;exact cB hJ (Le.sub (.cons _ (.cons _ (List.Sublist.refl _)))) (C2 hJ da Z fv gp x hc hy a o dC (by simp (maxSteps:=9^9) only[*,go_sem]) h)
 revert h;refine bS fun al hA h=>?_;try simp (maxSteps:=9^9) only[*,go_sem]
 refine az fun B r dE=>?_;have rl:=aP.cons dE a2;try simp only[au] at dE
 try simp (maxSteps:=9^9) only[*,go_sem]
 refine b9 hJ _ (sj a d c db hA) fun v rn bb bc f=>?_;obtain ⟨dT,ea,eb,ec,rfl,ed⟩:=f;have hB:=ed.oc;simp only[bE] at hB;replace c:=c.mono bb;replace r:=bc.hd;replace g:=bc.tl.hd;replace a:=a.mono bb;simp only[bq] at bc;have rp:=eO (l:=[(i,bk d j k m n)]) bb (aF.cons g (aF.nil _));refine ⟨by simp (maxSteps:=9^9) only[*,go_sem],?_⟩;refine bX ?_;try simp (maxSteps:=9^9) only[*,go_sem]
 refine b.go ?_;clear b K;refine af hJ (en hJ fun K b=>?_);revert h;refine bS fun hD hE h=>?_;try simp (maxSteps:=9^9) only[*,go_sem]
 refine b9 hJ _ (so a al.1 ed 0 hE) fun v hF eh bd f=>?_;obtain ⟨rr,rfl,q⟩:=f;have hG:=q.oc;simp only[bE] at hG;replace c:=c.mono eh;replace r:=bd.hd;replace g:=bd.tl.hd;replace a:=a.mono eh;simp only[bq] at bd;refine aJ ?_;try simp (maxSteps:=9^9) only[*,go_sem]
 refine b.go ?_;clear b K;refine af hJ ?_;refine jT hJ mixed [] (.rd 0 (.rd 1 (.one 2 (.pure 3 (.pure 4 (.pure 5 (.pure 6 .done))))))) ⟨hF,[(B,bk al.1 dT ea eb ec),(i,bk d j k m n)]⟩ (by simp (maxSteps:=9^9) only[*,go_sem]) (by kernel_rfl) fun K b=>?_;revert h;refine bS fun hI hK h=>?_;try simp (maxSteps:=9^9) only[*,go_sem]
 refine ⟨_,bC hJ fun F u=>j3 1 true hK,bX ?_⟩;revert h;refine bS fun hL hM h=>?_;try simp (maxSteps:=9^9) only[*,go_sem]
 refine b9 hJ _ (sj a d c hI hM) fun v hN ao bj f=>?_;obtain ⟨rv,rB,rL,sa,rfl,T⟩:=f;have hP:=T.oc;simp only[bE] at hP;replace q:=q.mono ao;replace c:=c.mono ao;replace r:=bj.hd;replace g:=bj.tl.hd;replace a:=a.mono ao;simp only[bq] at bj;obtain ⟨sb,sc,rfl,sf,sg,-⟩:=id T.e;obtain ⟨sh,sl,rfl,sm,ss,-⟩:=id T.p;obtain ⟨sy,sI,rfl,sT,tb,-⟩:=id T.y;obtain ⟨te,ti,rfl,tk,tm,-⟩:=id T.t;have tp:=eO (l:=[(B,bk al.1 dT ea eb ec),(i,bk d j k m n)]) ao (aF.cons r (aF.cons g (aF.nil _)));refine ⟨by simp (maxSteps:=9^9) only[*,go_sem],?_⟩;refine bX ?_;try simp (maxSteps:=9^9) only[*,go_sem]
 refine b.go ?_;clear b K;refine af hJ ?_;refine fL [0,1,4,7,9,12,15,18,20,21,28,40,41,42] fun ts hQ hR hS=>?_;simp only[*,go_sem] at hQ hR hS;clear b2 hd b3 k1 b4 b5 ca cb cd cf cl cy cS;refine jT hJ mixed [] (.rd 0 (.rd 1 (.one 2 (.pure 3 (.pure 4 (.pure 5 (.one 6 (.pure 7 .done)))))))) ⟨hN,[(i,bk d j k m n)]⟩ (by simp (maxSteps:=9^9) only[*,go_sem]) (by kernel_rfl) fun K b=>?_;revert h;refine bS fun hT hV h=>?_;try simp (maxSteps:=9^9) only[*,go_sem]
 refine ⟨_,bC hJ fun F u=>sr 12 12 hV,bX ?_⟩;revert h;refine bS fun C hX h=>?_;try simp (maxSteps:=9^9) only[*,go_sem]
 refine b9 hJ _ (Aw a d c 0 hT hX) fun v hY ar bl f=>?_;obtain ⟨U,V,W,X,rfl,et⟩:=f;have hZ:=et.oc;simp only[bE] at hZ;replace q:=q.mono ar;replace c:=c.mono ar;replace r:=bl.hd;replace g:=bl.tl.hd;replace a:=a.mono ar;simp only[bq] at bl;have tt:=eO (l:=[(i,bk d j k m n)]) ar (aF.cons g (aF.nil _));refine ⟨by simp (maxSteps:=9^9) only[*,go_sem],?_⟩;refine bX ?_;try simp (maxSteps:=9^9) only[*,go_sem]
 refine b.go ?_;clear b K;refine af hJ (en hJ fun K b=>?_);revert h;refine bS fun h0 h1 h=>?_;try simp (maxSteps:=9^9) only[*,go_sem]
 refine bh hJ _ (pW (a.mono aQ) C.1 (et.mono aQ) h1) (aJ ?_);try simp (maxSteps:=9^9) only[*,go_sem]
 refine b.go ?_;clear b K;refine af hJ ?_;refine jT hJ mixed [] (.rd 0 (.rd 1 (.one 2 (.rd 3 (.one 4 (.rd 5 (.one 6 (.one 7 (.pure 8 (.pure 9 (.pure 10 (.pure 11 (.pure 12 .done))))))))))))) ⟨hY,[(B,bk C.1 U V W X),(i,bk d j k m n)]⟩ (by simp (maxSteps:=9^9) only[*,go_sem]) (by kernel_rfl) fun K b=>?_;revert h;refine bS fun h2 h3 h=>?_;try simp (maxSteps:=9^9) only[*,go_sem]
 refine ⟨_,bC hJ fun F u=>j3 0 true h3,bX ?_⟩;revert h;refine bS fun h4 h5 h=>?_;try simp (maxSteps:=9^9) only[*,go_sem]
 refine b9 hJ _ (nN d c h2 h5) fun v tx I bm f=>?_;obtain ⟨tz,tI,tM,tW,rfl,J⟩:=f;have h6:=J.oc;simp only[bE] at h6;replace q:=q.mono I;replace r:=bm.hd;replace g:=bm.tl.hd;replace a:=a.mono I;simp only[bq] at bm;obtain ⟨ub,ui,rfl,u1,u2,-⟩:=id J.e;obtain ⟨u3,u4,rfl,va,vd,-⟩:=id J.p;obtain ⟨vs,vx,rfl,vy,v3,-⟩:=id J.y;obtain ⟨wa,wb,rfl,wc,wi,-⟩:=id J.t;have wx:=eO (l:=[(B,bk C.1 U V W X),(i,bk d j k m n)]) I (aF.cons r (aF.cons g (aF.nil _)));refine ⟨by simp (maxSteps:=9^9) only[*,go_sem],?_⟩;refine bX ?_;revert h;refine bS fun h7 h8 h=>?_;try simp (maxSteps:=9^9) only[*,go_sem]
 refine ⟨_,bC hJ fun F u=>j3 1 true h8,bX ?_⟩;revert h;refine bS fun h9 ib h=>?_;try simp (maxSteps:=9^9) only[*,go_sem]
 refine b9 hJ _ (nN h4 J h7 ib) fun v wy Y bo f=>?_;obtain ⟨wG,w0,xa,xc,rfl,L⟩:=f;have ic:=L.oc;simp only[bE] at ic;replace q:=q.mono Y;replace r:=bo.hd;replace g:=bo.tl.hd;replace a:=a.mono Y;simp only[bq] at bo;obtain ⟨xf,xi,rfl,xn,xr,-⟩:=id L.e;obtain ⟨xt,xv,rfl,x0,x1,-⟩:=id L.p;obtain ⟨yi,yk,rfl,yn,yr,-⟩:=id L.y;obtain ⟨ys,yv,rfl,y0,y1,-⟩:=id L.t;have zc:=eO (l:=[(B,bk C.1 U V W X),(i,bk d j k m n)]) (I.trans Y) (aF.cons r (aF.cons g (aF.nil _)));refine ⟨by simp (maxSteps:=9^9) only[*,go_sem],?_⟩;refine bX ?_;revert h;refine bS fun ih ik h=>?_;try simp (maxSteps:=9^9) only[*,go_sem]
 refine ⟨_,bC hJ fun F u=>j3 0 false ik,bX ?_⟩;revert h;refine bS fun il im h=>?_;try simp (maxSteps:=9^9) only[*,go_sem]
 refine b9 hJ _ (nN h9 L ih im) fun v zr a0 br f=>?_;obtain ⟨zs,zt,Ag,At,rfl,M⟩:=f;have iv:=M.oc;simp only[bE] at iv;replace q:=q.mono a0;replace r:=br.hd;replace g:=br.tl.hd;replace a:=a.mono a0;simp only[bq] at br;obtain ⟨Bd,BF,rfl,B0,Cy,-⟩:=id M.e;obtain ⟨CY,Ex,rfl,Fl,F0,-⟩:=id M.p;obtain ⟨Gp,Gr,rfl,Ha,Hb,-⟩:=id M.y;obtain ⟨Hc,Hd,rfl,Hk,Hm,-⟩:=id M.t;have Hn:=eO (l:=[(B,bk C.1 U V W X),(i,bk d j k m n)]) ((I.trans Y).trans a0) (aF.cons r (aF.cons g (aF.nil _)));refine ⟨by simp (maxSteps:=9^9) only[*,go_sem],?_⟩;refine bX ?_;revert h;refine bS fun ix jC h=>?_;try simp (maxSteps:=9^9) only[*,go_sem]
 refine b9 hJ _ (Az a il M jC) fun v H0 bs bz f=>?_;obtain ⟨H2,rfl,ev⟩:=f;replace q:=q.mono bs;replace r:=bz.hd;replace g:=bz.tl.hd;replace a:=a.mono bs;simp only[bq] at bz;obtain ⟨H3,H4,rfl,H5,Is,-⟩:=id ev;have IH:=eO (l:=[(B,bk C.1 U V W X),(i,bk d j k m n)]) (((I.trans Y).trans a0).trans bs) (aF.cons r (aF.cons g (aF.nil _)));refine ⟨by simp (maxSteps:=9^9) only[*,go_sem],?_⟩;refine bX ?_;try simp (maxSteps:=9^9) only[*,go_sem]
 refine b.go ?_;clear b K;show Wp _ _ _ _ _;exact cB hJ (Le.sub (.cons _ (.cons _ (List.Sublist.refl _)))) (C2 hJ da al hD hL C h0 ix a q ev (by simp (maxSteps:=9^9) only[*,go_sem]) h)
set_option maxHeartbeats 40000000 in
theorem Kr {Φ:Goroutine->aa->Prop}(hJ:Closed Tryz.prog true (dQ Tryz.prog Φ)){A:Act}{ro:Addr->Option Value}(g:ak)(q:((List Int)×Int))(N:(an×an×Int))(k:(Int×Int))(l:(Int×Int))(m:(Int×Int))(n:(Int×Int))(c:(Int×an×Int))(d:(Int×an×Int))(a:(an×an×Bool×Int)){s t u w y:Nat}(i:c8 ro){I:Value}(j:aA rI ro I q.1){z B C D:Value}(f:bL ro g z B C D)(O:sz A=439/\A.defers=[]/\slot A 0= .bool false/\slot A 1= .pointer (some ⟨y,0,none⟩)/\slot A 4= .int .i64 k.2/\slot A 7= .int .i64 l.2/\slot A 9= .int .i64 m.2/\slot A 12= .int .i64 n.2/\slot A 15= .int .i64 c.2.2/\slot A 18= .int .i64 d.2.2/\slot A 20= .int .i64 a.2.2.2/\slot A 21=I/\slot A 22= .int .i64 q.2/\slot A 25= .int .i64 N.2.2/\slot A 26= .int .i64 k.1/\slot A 27= .int .i64 l.1/\slot A 28= .int .i64 m.1/\slot A 29= .int .i64 n.1/\slot A 30= .int .i64 c.1/\slot A 31= .pointer (some ⟨w,0,none⟩)/\slot A 32= .int .i64 d.1/\slot A 33= .pointer (some ⟨u,0,none⟩)/\slot A 34= .pointer (some ⟨t,0,none⟩)/\slot A 35= .pointer (some ⟨s,0,none⟩)/\slot A 36= .bool a.2.2.1)(h:yl g k l m n c d a=some true):Wp (dQ Tryz.prog Φ) (bu (bu (bu (bu (bu (bu (bu (bu (bu (bu (bu (bu (bu (bu (bu (bu (bu (bu (bu (bu (bu (Tryz.f13.body.getD .skip)))))))))))))))))))))) (gY Tryz.prog [.tmp 0] (fun v _=>v= .bool true)) A ⟨ro,(s,rt a.2.1.num a.2.1.den)::(t,rt a.1.num a.1.den)::(u,rt d.2.1.num d.2.1.den)::(w,rt c.2.1.num c.2.1.den)::(y,bk g z B C D)::[]⟩:=by
 obtain ⟨P,hd,Q,k1,R,S,T,U,V,W,X,Y,Z,ab,ad,ae,al,ao,ar,a0,a2,a3,a4,a5,a6⟩:=O;unfold yl at h;have a7:=f.oc;simp only[bE] at a7;have a8:=j.oc;simp only[bE] at a8;refine fA hJ fun a9 ba=>?_;have bb:=a9.nd;try simp only[keys,List.map_cons,List.map_nil,List.map_append,List.cons_append,List.nil_append,List.nodup_cons,List.mem_cons,List.mem_append,List.not_mem_nil,or_false,not_or] at bb
 simp only[bq] at ba;refine af hJ (en hJ fun K b=>?_);revert h;refine bS fun bc bd h=>?_;try simp (maxSteps:=9^9) only[*,go_sem]
 refine rf _ (Ko i g f 2 bd) fun v e0 E bj G=>?_;obtain ⟨e1,rfl,o⟩:=G;have bl:=o.oc;simp only[bE] at bl;replace j:=j.mono E;replace f:=f.mono E;replace i:=i.mono E;simp only[bq] at bj;refine aJ ?_;try simp (maxSteps:=9^9) only[*,go_sem]
 refine b.go ?_;clear b K;refine af hJ (en hJ fun K b=>?_);revert h;refine bS fun bm bo h=>?_;try simp (maxSteps:=9^9) only[*,go_sem]
 refine rf _ (Kp i g f 2 bo) fun v br p bs G=>?_;obtain ⟨e2,rfl,J⟩:=G;have bz:=J.oc;simp only[bE] at bz;replace j:=j.mono p;replace f:=f.mono p;replace o:=o.mono p;replace i:=i.mono p;simp only[bq] at bs;refine aJ ?_;try simp (maxSteps:=9^9) only[*,go_sem]
 refine b.go ?_;clear b K;refine af hJ (af hJ (en hJ fun K b=>?_));revert h;refine cS (fun b0 h=>?_) fun b0 h=>?_
 ·cases h
 revert h;refine cS (fun b1 h=>?_) fun b1 h=>?_
 ·cases h
 revert h;refine cS (fun b2 h=>?_) fun b2 h=>?_
 ·cases h
 revert h;refine cS (fun b3 h=>?_) fun b3 h=>?_
 ·cases h
 revert h;refine cS (fun b4 h=>?_) fun b4 h=>?_
 ·cases h
 revert h;refine cS (fun b5 h=>?_) fun b5 h=>?_
 ·cases h
 revert h;refine cS (fun ca h=>?_) fun ca h=>?_
 ·cases h
 revert h;refine cS (fun cb h=>?_) fun cb h=>?_
 ·cases h
 try simp (maxSteps:=9^9) only[*,go_sem]
 revert h;refine cS (fun cd h=>?_) fun cd h=>?_
 ·cases h
 refine b.go ?_;clear b K;refine bG hJ (by simp (maxSteps:=9^9) only[*,go_sem]) ?_;refine aH hJ (af hJ ?_);refine af hJ ?_;refine fL [0,1,4,7,9,12,15,18,20,21,26,27,28,29,30,31,32,33,34,35,36,37,38,39] fun e3 cf cl cy=>?_;simp only[*,go_sem] at cf cl cy;clear P hd Q k1 R S T U V W X Y Z ab ad ae al ao ar a0 a2 a3 a4 a5 a6;refine ay hJ fun c0=>?_;refine jT hJ mixed [] (.pure 0 (.pure 1 (.pure 2 (.pure 3 (.pure 4 (.pure 5 (.pure 6 (.pure 7 (.pure 8 (.pure 9 (.pure 10 (.pure 11 (.pure 12 (.pure 13 (.pure 14 (.pure 15 (.pure 16 (.pure 17 (.pure 18 (.rd 19 (.rd 20 (.pure 21 (.pure 22 (.pure 23 (.pure 24 (.pure 25 (.pure 26 (.pure 27 (.rd 28 (.rd 29 (.pure 30 (.pure 31 (.pure 32 (.pure 33 (.pure 34 (.pure 35 (.pure 36 (.rd 37 (.rd 38 (.pure 39 (.pure 40 (.pure 41 (.rd 42 (.rd 43 (.pure 44 (.pure 45 (.pure 46 (.pure 47 (.one 48 (.one 49 (.pure 50 (.pure 51 (.pure 52 (.pure 53 (.pure 54 (.pure 55 (.pure 56 (.pure 57 (.one 58 (.one 59 (.pure 60 (.pure 61 .done)))))))))))))))))))))))))))))))))))))))))))))))))))))))))))))) ⟨br,[(s,rt a.2.1.num a.2.1.den),(t,rt a.1.num a.1.den),(u,rt d.2.1.num d.2.1.den),(w,rt c.2.1.num c.2.1.den),(y,bk g z B C D)]⟩ (by simp (maxSteps:=9^9) only[*,go_sem]) (by kernel_rfl) fun K b=>?_;revert h;refine cS (fun da h=>?_) fun da h=>?_
 ·cases h
 revert h;refine cS (fun db h=>?_) fun db h=>?_
 ·cases h
 revert h;refine cS (fun dd h=>?_) fun dd h=>?_
 ·cases h
 revert h;refine cS (fun df h=>?_) fun df h=>?_
 ·cases h
 revert h;refine cS (fun dk h=>?_) fun dk h=>?_
 ·cases h
 revert h;refine bS fun fa dp h=>?_;try simp (maxSteps:=9^9) only[*,go_sem]
 refine ⟨_,bC hJ fun F H=>gx 1 1 dp,bX ?_⟩;revert h;refine cS (fun dq h=>?_) fun dq h=>?_
 ·cases h
 revert h;refine cS (fun ds h=>?_) fun ds h=>?_
 ·cases h
 revert h;refine bS fun fb dt h=>?_;try simp (maxSteps:=9^9) only[*,go_sem]
 refine ⟨_,bC hJ fun F H=>gx 0 1 dt,bX ?_⟩;revert h;refine cS (fun du h=>?_) fun du h=>?_
 ·cases h
 revert h;refine cS (fun dv h=>?_) fun dv h=>?_
 ·cases h
 revert h;refine bS fun fg dC h=>?_;try simp (maxSteps:=9^9) only[*,go_sem]
 refine ⟨_,bC hJ fun F H=>gx 3 2 dC,bX ?_⟩;revert h;refine cS (fun dE h=>?_) fun dE h=>?_
 ·cases h
 revert h;refine bS fun fi dT h=>?_;try simp (maxSteps:=9^9) only[*,go_sem]
 refine ⟨_,bC hJ fun F H=>gx 3 2 dT,bX ?_⟩;revert h;refine cS (fun ea h=>?_) fun ea h=>?_
 ·cases h
 revert h;refine bS fun fp eb h=>?_;try simp (maxSteps:=9^9) only[*,go_sem]
 refine az fun fr ec L=>?_;have ed:=aP.cons L c0;try simp only[au] at L
 try simp (maxSteps:=9^9) only[*,go_sem]
 refine bh hJ _ (pN bc.1 (o.mono aQ) ([11,12,13,14]) ((aA.flat (r:=rI) (e:=3) (cs:=#[.int .i64 11,.int .i64 12,.int .i64 13,.int .i64 14]) (fun x=>[.int .i64 x]) ([11,12,13,14]) (fun _=>rfl) ec rfl (by simp)).mono (jN (by simp (maxSteps:=9^9) only[*,go_sem]))) eb) ⟨by simp (maxSteps:=9^9) only[*,go_sem],bX ?_⟩;revert h;refine cS (fun eh h=>?_) fun eh h=>?_
 ·cases h
 revert h;refine cS (fun et h=>?_) fun et h=>?_
 ·cases h
 revert h;refine bS fun fs ev h=>?_;try simp (maxSteps:=9^9) only[*,go_sem]
 refine az fun ft eQ M=>?_;have fu:=aP.cons M ed;try simp only[au] at M
 try simp (maxSteps:=9^9) only[*,go_sem]
 refine bh hJ _ (pN bm.1 (J.mono aQ) ([11]) ((aA.flat (r:=rI) (e:=3) (cs:=#[.int .i64 11]) (fun x=>[.int .i64 x]) ([11]) (fun _=>rfl) eQ rfl (by simp)).mono (jN (by simp (maxSteps:=9^9) only[*,go_sem]))) ev) ⟨by simp (maxSteps:=9^9) only[*,go_sem],bX ?_⟩;try simp (maxSteps:=9^9) only[*,go_sem]
 revert h;refine cS (fun eS h=>?_) fun eS h=>?_
 ·cases h
 refine b.go ?_;clear b K;refine bG hJ (by simp (maxSteps:=9^9) only[*,go_sem]) ?_;refine aH hJ ?_;show Wp _ _ _ _ _;exact cB hJ (Le.sub (.cons _ (.cons _ (.cons _ (.cons _ (.cons _ (.cons _ (.cons₂ _ (List.Sublist.refl _))))))))) (Kq hJ g q k l m n c d a i j f (by simp (maxSteps:=9^9) only[*,go_sem]) h)
set_option maxHeartbeats 40000000 in
theorem Ks {Φ:Goroutine->aa->Prop}(hJ:Closed Tryz.prog true (dQ Tryz.prog Φ)){A:Act}{ro:Addr->Option Value}(c:ak)(g:ak)(G:(an×Int))(H:(Int×an×Int))(I:(an×Int))(J:(an×Bool×Int))(L:(an×Bool×Int))(M:(an×Bool×Int))(N:(Int×Int))(i:((List Int)×Int))(j:(an×an×Int)){k l:Nat}(d:c8 ro){m:Value}(n:aA rI ro m i.1){o q r s:Value}(f:bL ro g o q r s){u w x z:Value}(b:bL ro c u w x z)(O:sz A=439/\A.defers=[]/\slot A 0= .bool false/\slot A 1= .pointer (some ⟨l,0,none⟩)/\slot A 2= .pointer (some ⟨k,0,none⟩)/\slot A 4= .int .i64 G.2/\slot A 7= .int .i64 H.2.2/\slot A 9= .int .i64 I.2/\slot A 12= .int .i64 J.2.2/\slot A 15= .int .i64 L.2.2/\slot A 18= .int .i64 M.2.2/\slot A 20= .int .i64 N.2/\slot A 21=m/\slot A 22= .int .i64 i.2/\slot A 25= .int .i64 j.2.2)(h:ym c g=some true):Wp (dQ Tryz.prog Φ) (bu (bu (bu (bu (bu (bu (bu (bu (bu (bu (bu (bu (bu (bu (Tryz.f13.body.getD .skip))))))))))))))) (gY Tryz.prog [.tmp 0] (fun v _=>v= .bool true)) A ⟨ro,(k,bk g o q r s)::(l,bk c u w x z)::[]⟩:=by
 obtain ⟨P,hd,Q,k1,R,S,T,U,V,W,X,Y,Z,ab,ad⟩:=O;obtain ⟨d45,b1,rfl,b2,b3,-⟩:=id f.e;obtain ⟨d52,b4,rfl,b5,ca,-⟩:=id f.p;obtain ⟨d59,cb,rfl,cd,cf,-⟩:=id f.y;obtain ⟨d66,cl,rfl,cy,cS,-⟩:=id f.t;obtain ⟨d8,c0,rfl,da,db,-⟩:=id b.e;obtain ⟨d15,dd,rfl,df,dk,-⟩:=id b.p;obtain ⟨d22,dp,rfl,dq,ds,-⟩:=id b.y;obtain ⟨d29,dt,rfl,du,dv,-⟩:=id b.t;unfold ym at h;have ae:=f.oc;simp only[bE] at ae;have al:=b.oc;simp only[bE] at al;have ao:=n.oc;simp only[bE] at ao;refine fA hJ fun B ar=>?_;have a0:=B.nd;try simp only[keys,List.map_cons,List.map_nil,List.map_append,List.cons_append,List.nil_append,List.nodup_cons,List.mem_cons,List.mem_append,List.not_mem_nil,or_false,not_or] at a0
 simp only[bq] at ar;refine af hJ (en hJ fun K a=>?_);revert h;refine bS fun a2 a3 h=>?_;try simp (maxSteps:=9^9) only[*,go_sem]
 refine bh hJ _ (v9 (d.mono aQ) c (b.mono aQ) 0 a3) (aJ ?_);try simp (maxSteps:=9^9) only[*,go_sem]
 refine a.go ?_;clear a K;refine af hJ (en hJ fun K a=>?_);revert h;refine bS fun a4 a5 h=>?_;try simp (maxSteps:=9^9) only[*,go_sem]
 refine bh hJ _ (v9 (d.mono aQ) c (b.mono aQ) 1 a5) (aJ ?_);try simp (maxSteps:=9^9) only[*,go_sem]
 refine a.go ?_;clear a K;refine af hJ (en hJ fun K a=>?_);revert h;refine bS fun a6 a7 h=>?_;try simp (maxSteps:=9^9) only[*,go_sem]
 refine bh hJ _ (pW (d.mono aQ) c (b.mono aQ) a7) (aJ ?_);try simp (maxSteps:=9^9) only[*,go_sem]
 refine a.go ?_;clear a K;refine af hJ (en hJ fun K a=>?_);revert h;refine bS fun a8 a9 h=>?_;try simp (maxSteps:=9^9) only[*,go_sem]
 refine bh hJ _ (pW (d.mono aQ) g (f.mono aQ) a9) (aJ ?_);try simp (maxSteps:=9^9) only[*,go_sem]
 refine a.go ?_;clear a K;refine af hJ (en hJ fun K a=>?_);revert h;refine bS fun ba bb h=>?_;try simp (maxSteps:=9^9) only[*,go_sem]
 refine bh hJ _ (wE (d.mono aQ) c (b.mono aQ) bb) (aJ ?_);try simp (maxSteps:=9^9) only[*,go_sem]
 refine az fun dC dE C=>?_;have bc:=aP.cons C B;try simp only[au] at C
 try simp (maxSteps:=9^9) only[*,go_sem]
 refine a.go ?_;clear a K;refine af hJ ?_;refine fL [0,1,2,4,7,9,12,15,18,20,21,22,25,26,27,28,29,30,31] fun dT bd bj bl=>?_;simp only[*,go_sem] at bd bj bl;clear P hd Q k1 R S T U V W X Y Z ab ad;refine en hJ fun K a=>?_;revert h;refine bS fun bm bo h=>?_;try simp (maxSteps:=9^9) only[*,go_sem]
 refine bh hJ _ (wE (d.mono aQ) g (f.mono aQ) bo) (aJ ?_);try simp (maxSteps:=9^9) only[*,go_sem]
 refine az fun ea eb D=>?_;have br:=aP.cons D bc;try simp only[au] at D
 try simp (maxSteps:=9^9) only[*,go_sem]
 refine a.go ?_;clear a K;refine af hJ (en hJ fun K a=>?_);revert h;refine bS fun bs bz h=>?_;try simp (maxSteps:=9^9) only[*,go_sem]
 refine bh hJ _ (GA (d.mono aQ) c (b.mono aQ) bz) (aJ ?_);try simp (maxSteps:=9^9) only[*,go_sem]
 refine az fun ec ed E=>?_;have b0:=aP.cons E br;try simp only[au] at E
 refine az fun eh et F=>?_;have ev:=aP.cons F b0;try simp only[au] at F
 try simp (maxSteps:=9^9) only[*,go_sem]
 refine a.go ?_;clear a K;show Wp _ _ _ _ _;exact cB hJ (Le.sub (.cons₂ _ (.cons₂ _ (.cons₂ _ (.cons₂ _ (.cons _ (.cons₂ _ (List.Sublist.refl _)))))))) (Kr hJ c i j a2 a4 a6 a8 ba bm bs d n b (by simp (maxSteps:=9^9) only[*,go_sem]) h)
set_option maxHeartbeats 40000000 in
theorem Kt {Φ:Goroutine->aa->Prop}(hJ:Closed Tryz.prog true (dQ Tryz.prog Φ)){A:Act}{ro:Addr->Option Value}(b:ak)(n:ak)(i:(an×Int))(c:(Int×an×Int))(j:(an×Int))(d:(an×Bool×Int))(f:(an×Bool×Int))(g:(an×Bool×Int)){q s t u w y z B:Nat}(m:c8 ro){C D E G:Value}(p:bL ro n C D E G){H I J L:Value}(k:bL ro b H I J L)(T:sz A=439/\A.defers=[]/\slot A 0= .bool false/\slot A 1= .pointer (some ⟨B,0,none⟩)/\slot A 2= .pointer (some ⟨z,0,none⟩)/\slot A 3= .pointer (some ⟨y,0,none⟩)/\slot A 4= .int .i64 i.2/\slot A 5= .int .i64 c.1/\slot A 6= .pointer (some ⟨w,0,none⟩)/\slot A 7= .int .i64 c.2.2/\slot A 8= .pointer (some ⟨u,0,none⟩)/\slot A 9= .int .i64 j.2/\slot A 10= .pointer (some ⟨t,0,none⟩)/\slot A 11= .bool d.2.1/\slot A 12= .int .i64 d.2.2/\slot A 13= .pointer (some ⟨s,0,none⟩)/\slot A 14= .bool f.2.1/\slot A 15= .int .i64 f.2.2/\slot A 16= .pointer (some ⟨q,0,none⟩)/\slot A 17= .bool g.2.1/\slot A 18= .int .i64 g.2.2)(h:yo b n i c j d f g=some true):Wp (dQ Tryz.prog Φ) (bu (bu (bu (bu (bu (bu (bu (bu (bu (Tryz.f13.body.getD .skip)))))))))) (gY Tryz.prog [.tmp 0] (fun v _=>v= .bool true)) A ⟨ro,(q,rt g.1.num g.1.den)::(s,rt f.1.num f.1.den)::(t,rt d.1.num d.1.den)::(u,rt j.1.num j.1.den)::(w,rt c.2.1.num c.2.1.den)::(y,rt i.1.num i.1.den)::(z,bk n C D E G)::(B,bk b H I J L)::[]⟩:=by
 obtain ⟨U,hd,V,k1,W,X,Y,Z,ab,ad,ae,al,ao,ar,a0,a2,a3,a4,a5,a6,a7⟩:=T;unfold yo at h;have a8:=p.oc;simp only[bE] at a8;have a9:=k.oc;simp only[bE] at a9;refine fA hJ fun O ba=>?_;have bb:=O.nd;try simp only[keys,List.map_cons,List.map_nil,List.map_append,List.cons_append,List.nil_append,List.nodup_cons,List.mem_cons,List.mem_append,List.not_mem_nil,or_false,not_or] at bb
 simp only[bq] at ba;refine af hJ (en hJ fun K a=>?_);revert h;refine bS fun bc bd h=>?_;try simp (maxSteps:=9^9) only[*,go_sem]
 refine bh hJ _ (GF (m.mono aQ) b (k.mono aQ) bd) (aJ ?_);try simp (maxSteps:=9^9) only[*,go_sem]
 refine a.go ?_;clear a K;refine af hJ (en hJ fun K a=>?_);revert h;refine bS fun P bj h=>?_;try simp (maxSteps:=9^9) only[*,go_sem]
 refine b9 hJ _ (so m b k 0 bj) fun v bl M bm bo=>?_;obtain ⟨e3,rfl,N⟩:=bo;have br:=N.oc;simp only[bE] at br;replace k:=k.mono M;replace p:=p.mono M;replace m:=m.mono M;simp only[bq] at bm;refine aJ ?_;try simp (maxSteps:=9^9) only[*,go_sem]
 refine a.go ?_;clear a K;refine af hJ (en hJ fun K a=>?_);revert h;refine bS fun o bs h=>?_;try simp (maxSteps:=9^9) only[*,go_sem]
 refine bh hJ _ (GB (m.mono aQ) b (k.mono aQ) 0 bs) (aJ ?_);try simp (maxSteps:=9^9) only[*,go_sem]
 refine az fun bz fa Q=>?_;have b0:=aP.cons Q O;try simp only[au] at Q
 refine az fun b1 fb R=>?_;have fg:=aP.cons R b0;try simp only[au] at R
 try simp (maxSteps:=9^9) only[*,go_sem]
 refine a.go ?_;clear a K;refine af hJ (af hJ (en hJ fun K a=>?_));revert h;refine cS (fun b2 h=>?_) fun b2 h=>?_
 ·cases h
 revert h;refine cS (fun b3 h=>?_) fun b3 h=>?_
 ·cases h
 revert h;refine cS (fun b4 h=>?_) fun b4 h=>?_
 ·cases h
 revert h;refine cS (fun b5 h=>?_) fun b5 h=>?_
 ·cases h
 revert h;refine cS (fun ca h=>?_) fun ca h=>?_
 ·cases h
 revert h;refine cS (fun cb h=>?_) fun cb h=>?_
 ·cases h
 revert h;refine cS (fun cd h=>?_) fun cd h=>?_
 ·cases h
 revert h;refine cS (fun cf h=>?_) fun cf h=>?_
 ·cases h
 try simp (maxSteps:=9^9) only[*,go_sem]
 revert h;refine cS (fun cl h=>?_) fun cl h=>?_
 ·cases h
 refine a.go ?_;clear a K;refine bG hJ (by simp (maxSteps:=9^9) only[*,go_sem]) ?_;refine aH hJ (af hJ ?_);refine af hJ ?_;refine fL [0,1,2,3,4,5,6,7,8,9,10,11,12,13,14,15,16,17,18,19,20,21,22,23,24,25] fun fi cy c0 da=>?_;simp only[*,go_sem] at cy c0 da;clear U hd V k1 W X Y Z ab ad ae al ao ar a0 a2 a3 a4 a5 a6 a7;refine ay hJ fun db=>?_;refine jT hJ mixed [] (.rd 0 (.rd 1 (.pure 2 (.pure 3 (.pure 4 (.pure 5 (.pure 6 (.pure 7 (.rd 8 (.rd 9 (.pure 10 (.pure 11 (.pure 12 (.rd 13 (.rd 14 (.pure 15 (.pure 16 (.pure 17 (.rd 18 (.rd 19 (.pure 20 (.pure 21 (.pure 22 (.pure 23 (.pure 24 (.pure 25 (.pure 26 (.rd 27 (.rd 28 (.pure 29 (.pure 30 (.pure 31 (.pure 32 (.pure 33 (.pure 34 (.rd 35 (.rd 36 (.pure 37 (.pure 38 (.pure 39 (.pure 40 (.pure 41 (.pure 42 (.pure 43 (.pure 44 (.pure 45 (.pure 46 (.pure 47 (.pure 48 (.one 49 (.one 50 (.pure 51 (.pure 52 (.pure 53 (.rd 54 (.rd 55 (.pure 56 (.pure 57 (.pure 58 (.rd 59 (.rd 60 (.pure 61 (.pure 62 .done))))))))))))))))))))))))))))))))))))))))))))))))))))))))))))))) ⟨bl,[(b1,rt o.2.1.num o.2.1.den),(bz,rt o.1.num o.1.den),(q,rt g.1.num g.1.den),(s,rt f.1.num f.1.den),(t,rt d.1.num d.1.den),(u,rt j.1.num j.1.den),(w,rt c.2.1.num c.2.1.den),(y,rt i.1.num i.1.den),(z,bk n C D E G),(B,bk b H I J L)]⟩ (by simp (maxSteps:=9^9) only[*,go_sem]) (by kernel_rfl) fun K a=>?_;revert h;refine bS fun fp dd h=>?_;try simp (maxSteps:=9^9) only[*,go_sem]
 refine ⟨_,bC hJ fun F l=>gx 13 4 dd,bX ?_⟩;revert h;refine cS (fun df h=>?_) fun df h=>?_
 ·cases h
 revert h;refine cS (fun dk h=>?_) fun dk h=>?_
 ·cases h
 revert h;refine bS fun fr dp h=>?_;try simp (maxSteps:=9^9) only[*,go_sem]
 refine ⟨_,bC hJ fun F l=>gx 11 8 dp,bX ?_⟩;revert h;refine cS (fun dq h=>?_) fun dq h=>?_
 ·cases h
 revert h;refine bS fun fs ds h=>?_;try simp (maxSteps:=9^9) only[*,go_sem]
 refine ⟨_,bC hJ fun F l=>gx 1 4 ds,bX ?_⟩;revert h;refine cS (fun dt h=>?_) fun dt h=>?_
 ·cases h
 revert h;refine bS fun ft du h=>?_;try simp (maxSteps:=9^9) only[*,go_sem]
 refine ⟨_,bC hJ fun F l=>gx 24 13 du,bX ?_⟩;revert h;refine cS (fun dv h=>?_) fun dv h=>?_
 ·cases h
 revert h;refine cS (fun dC h=>?_) fun dC h=>?_
 ·cases h
 revert h;refine bS fun fu dE h=>?_;try simp (maxSteps:=9^9) only[*,go_sem]
 refine ⟨_,bC hJ fun F l=>gx 2 13 dE,bX ?_⟩;revert h;refine cS (fun dT h=>?_) fun dT h=>?_
 ·cases h
 revert h;refine cS (fun ea h=>?_) fun ea h=>?_
 ·cases h
 revert h;refine bS fun fv eb h=>?_;try simp (maxSteps:=9^9) only[*,go_sem]
 refine ⟨_,bC hJ fun F l=>gx 1 1 eb,bX ?_⟩;revert h;refine cS (fun ec h=>?_) fun ec h=>?_
 ·cases h
 revert h;refine cS (fun ed h=>?_) fun ed h=>?_
 ·cases h
 revert h;refine cS (fun eh h=>?_) fun eh h=>?_
 ·cases h
 revert h;refine bS fun fw et h=>?_;try simp (maxSteps:=9^9) only[*,go_sem]
 refine az fun fx ev S=>?_;have gg:=aP.cons S db;try simp only[au] at S
 try simp (maxSteps:=9^9) only[*,go_sem]
 refine bh hJ _ (pN P.1 (N.mono aQ) ([10,11,12]) ((aA.flat (r:=rI) (e:=3) (cs:=#[.int .i64 10,.int .i64 11,.int .i64 12]) (fun x=>[.int .i64 x]) ([10,11,12]) (fun _=>rfl) ev rfl (by simp)).mono (jN (by simp (maxSteps:=9^9) only[*,go_sem]))) et) ⟨by simp (maxSteps:=9^9) only[*,go_sem],bX ?_⟩;revert h;refine cS (fun eQ h=>?_) fun eQ h=>?_
 ·cases h
 revert h;refine bS fun gl eS h=>?_;try simp (maxSteps:=9^9) only[*,go_sem]
 refine ⟨_,bC hJ fun F l=>gx 1 4 eS,bX ?_⟩;revert h;refine cS (fun e0 h=>?_) fun e0 h=>?_
 ·cases h
 revert h;refine bS fun gn e1 h=>?_;try simp (maxSteps:=9^9) only[*,go_sem]
 refine ⟨_,bC hJ fun F l=>gx 1 1 e1,bX ?_⟩;try simp (maxSteps:=9^9) only[*,go_sem]
 revert h;refine cS (fun e2 h=>?_) fun e2 h=>?_
 ·cases h
 refine a.go ?_;clear a K;refine bG hJ (by simp (maxSteps:=9^9) only[*,go_sem]) ?_;refine aH hJ ?_;show Wp _ _ _ _ _;exact cB hJ (Le.sub (.cons _ (.cons _ (.cons _ (.cons _ (.cons _ (.cons _ (.cons _ (.cons _ (.cons _ (.cons₂ _ (.cons₂ _ (List.Sublist.refl _))))))))))))) (Ks hJ b n i c j d f g bc P o m N p k (by simp (maxSteps:=9^9) only[*,go_sem]) h)
set_option maxHeartbeats 40000000 in
theorem Ku {ro:Addr->Option Value}(d:c8 ro){r:Bool}(I:r=true)(h:ff=some r):fz Tryz.prog 13 #[] ⟨ro,[]⟩ (fun v _=>v= .bool r):=by
 subst I;unfold ff at h;refine fz.go Tryz.func13 rfl Tryz.ntmps13 Tryz.results13 (by simp) fun Φ hJ A J hd hs=>?_;clear hs;refine af hJ (en hJ fun K a=>?_);try simp (maxSteps:=9^9) only[*,go_sem]
 refine a.go ?_;clear a K;refine af hJ (en hJ fun K a=>?_);revert h;refine bS fun g L h=>?_;try simp (maxSteps:=9^9) only[*,go_sem]
 refine b9 hJ _ (GL L) fun v n M b5 k=>?_;obtain ⟨N,O,P,Q,rfl,f⟩:=k;have R:=f.oc;simp only[bE] at R;replace d:=d.mono M;refine aJ ?_;try simp (maxSteps:=9^9) only[*,go_sem]
 refine az fun S T U=>?_;try simp only[au] at U
 try simp (maxSteps:=9^9) only[*,go_sem]
 refine a.go ?_;clear a K;refine af hJ ?_;refine ay hJ fun V=>?_;refine en hJ fun K a=>?_;revert h;refine bS fun l W h=>?_;try simp (maxSteps:=9^9) only[*,go_sem]
 refine az fun i p q=>?_;have s:=aP.cons q V;try simp only[au] at q
 try simp (maxSteps:=9^9) only[*,go_sem]
 obtain ⟨m,t,u⟩:=fK (b:=i) (o:=(ic 11)) [] ((S,bk g N O P Q)::[]) s p (aF.cons T (aF.nil _));have w:aA rI (bP n i (ic 11)) (.slice (some ⟨i,0,none⟩) 1 1) [11]:=(aA.flat (r:=rI) (e:=3) (cs:=#[.int .i64 11]) (fun x=>[.int .i64 x]) ([11]) (fun _=>rfl) p rfl (by simp))
 generalize bP n i (ic 11)=ca at w t m u;refine gJ hJ u ?_;replace f:=f.mono m;replace d:=d.mono m;simp only[bq] at t;have X:=aP.tl s;refine b9 hJ _ (GK g f ([11]) w 2 W) fun v cb y Y k=>?_;obtain ⟨cd,cf,cl,cy,rfl,j⟩:=k;have Z:=j.oc;simp only[bE] at Z;replace f:=f.mono y;replace d:=d.mono y;simp only[bq] at Y;refine aJ ?_;try simp (maxSteps:=9^9) only[*,go_sem]
 refine az fun cS c0 z=>?_;have ab:=aP.cons z X;try simp only[au] at z
 try simp (maxSteps:=9^9) only[*,go_sem]
 refine a.go ?_;clear a K;refine af hJ (en hJ fun K a=>?_);revert h;refine bS fun ad ae h=>?_;try simp (maxSteps:=9^9) only[*,go_sem]
 refine bh hJ _ (FY (d.mono aQ) g (f.mono aQ) 5 ae) (aJ ?_);try simp (maxSteps:=9^9) only[*,go_sem]
 refine az fun da db B=>?_;have al:=aP.cons B ab;try simp only[au] at B
 try simp (maxSteps:=9^9) only[*,go_sem]
 refine a.go ?_;clear a K;refine af hJ ?_;refine pe hJ mixed 7 3 (by simp (maxSteps:=9^9) only[*,go_sem]) (by kernel_rfl) fun K a=>?_;revert h;refine bS fun ao ar h=>?_;try simp (maxSteps:=9^9) only[*,go_sem]
 refine ⟨_,bC hJ fun F c=>nM 2 11 ar,bY ?_⟩;revert h;refine bS fun a0 a2 h=>?_;try simp (maxSteps:=9^9) only[*,go_sem]
 refine ⟨_,bC hJ fun F c=>FZ (d.mono (b8 c)) g (f.mono (b8 c)) ao a2,bY ?_⟩;try simp (maxSteps:=9^9) only[*,go_sem]
 refine az fun dd df C=>?_;have a3:=aP.cons C al;try simp only[au] at C
 try simp (maxSteps:=9^9) only[*,go_sem]
 refine a.go ?_;clear a K;refine af hJ ?_;refine pe hJ mixed 6 4 (by simp (maxSteps:=9^9) only[*,go_sem]) (by kernel_rfl) fun K a=>?_;revert h;refine bS fun a4 a5 h=>?_;try simp (maxSteps:=9^9) only[*,go_sem]
 refine ⟨_,bC hJ fun F c=>nM 2 10 a5,bY ?_⟩;revert h;refine bS fun a6 a7 h=>?_;try simp (maxSteps:=9^9) only[*,go_sem]
 refine ⟨_,bC hJ fun F c=>F1 (d.mono (b8 c)) g (f.mono (b8 c)) a4 a7,bY ?_⟩;try simp (maxSteps:=9^9) only[*,go_sem]
 refine az fun dk dp D=>?_;have a8:=aP.cons D a3;try simp only[au] at D
 try simp (maxSteps:=9^9) only[*,go_sem]
 refine a.go ?_;clear a K;refine af hJ ?_;refine fL [0,1,2,3,4,5,6,7,8,9] fun dq a9 ba bb=>?_;simp only[*,go_sem] at a9 ba bb;clear J hd;refine pe hJ mixed 7 5 (by simp (maxSteps:=9^9) only[*,go_sem]) (by kernel_rfl) fun K a=>?_;revert h;refine bS fun bc bd h=>?_;try simp (maxSteps:=9^9) only[*,go_sem]
 refine ⟨_,bC hJ fun F c=>nM 2 12 bd,bY ?_⟩;revert h;refine bS fun bj bl h=>?_;try simp (maxSteps:=9^9) only[*,go_sem]
 refine ⟨_,bC hJ fun F c=>F2 (d.mono (b8 c)) l (j.mono (b8 c)) bc bl,bY ?_⟩;try simp (maxSteps:=9^9) only[*,go_sem]
 refine az fun ds dt E=>?_;have bm:=aP.cons E a8;try simp only[au] at E
 try simp (maxSteps:=9^9) only[*,go_sem]
 refine a.go ?_;clear a K;refine af hJ ?_;refine pe hJ mixed 7 6 (by simp (maxSteps:=9^9) only[*,go_sem]) (by kernel_rfl) fun K a=>?_;revert h;refine bS fun bo br h=>?_;try simp (maxSteps:=9^9) only[*,go_sem]
 refine ⟨_,bC hJ fun F c=>nM 2 12 br,bY ?_⟩;revert h;refine bS fun bs bz h=>?_;try simp (maxSteps:=9^9) only[*,go_sem]
 refine ⟨_,bC hJ fun F c=>vq (d.mono (b8 c)) l (j.mono (b8 c)) bo bz,bY ?_⟩;try simp (maxSteps:=9^9) only[*,go_sem]
 refine az fun du dv G=>?_;have b0:=aP.cons G bm;try simp only[au] at G
 try simp (maxSteps:=9^9) only[*,go_sem]
 refine a.go ?_;clear a K;refine af hJ ?_;refine pe hJ mixed 7 7 (by simp (maxSteps:=9^9) only[*,go_sem]) (by kernel_rfl) fun K a=>?_;revert h;refine bS fun b1 b2 h=>?_;try simp (maxSteps:=9^9) only[*,go_sem]
 refine ⟨_,bC hJ fun F c=>nM 2 12 b2,bY ?_⟩;revert h;refine bS fun b3 b4 h=>?_;try simp (maxSteps:=9^9) only[*,go_sem]
 refine ⟨_,bC hJ fun F c=>vq (d.mono (b8 c)) g (f.mono (b8 c)) b1 b4,bY ?_⟩;try simp (maxSteps:=9^9) only[*,go_sem]
 refine az fun dC dE H=>?_;have dT:=aP.cons H b0;try simp only[au] at H
 try simp (maxSteps:=9^9) only[*,go_sem]
 refine a.go ?_;clear a K;show Wp _ _ _ _ _;exact cB hJ (Le.sub (.cons₂ _ (.cons₂ _ (.cons₂ _ (.cons₂ _ (.cons₂ _ (.cons₂ _ (.cons₂ _ (.cons₂ _ (List.Sublist.refl _)))))))))) (Kt hJ g l ad a0 a6 bj bs b3 d j f (by simp (maxSteps:=9^9) only[*,go_sem]) h)
theorem gD {ro:Addr->Option Value}(a:c8 ro){r:Bool}(h:ff=some r):fz Tryz.prog 13 #[] ⟨ro,[]⟩ (fun v _=>v= .bool r):=
 Ku a (Option.some.inj (h.symm.trans ow)) h
theorem Kv {u:ak}(h:mq u=some false):xx u:=by
 unfold mq at h;rcases iL h with ⟨a,h⟩|⟨a,h⟩
 ·cases h
 rcases iL h with ⟨b,h⟩|⟨b,h⟩
 ·cases h
 rcases iL h with ⟨c,h⟩|⟨c,h⟩
 ·cases h
 have d:=Option.some.inj h;simp only[decide_eq_false_iff_not] at a b c d;exact ⟨by omega,by omega,by omega,by omega⟩
theorem Kw (u:ak):∃b,mq u=some b:=by
 unfold mq;cases decide (20<(u.aD.length:Int))<;>cases decide (20<(u.props.length:Int))<;>cases decide (20<(u.aG.length:Int))<;>exact ⟨_,rfl⟩
theorem Kx (u:ak):nO u=some false\/(nO u=some true/\xx u/\fN u=some 0/\Fit u):=by
 unfold nO;obtain ⟨b,hb⟩:=Kw u;rw[hb];cases b with
 |true=>exact .inl rfl
 |false=>
  have L:=Kv hb;obtain ⟨c,a,d⟩:=bars L;simp only[ag,Bool.not_false,cond_true,d];cases f:(c==0) with
  |false=>exact .inl rfl
  |true=>
   have e:c=0:=by simpa using f
   subst e;exact .inr ⟨rfl,L,a,G5 u L.e a⟩
theorem Ky {x:an}(hs:Sm x 1000000000 1048575)(a:∃n d,0<d/\x=bB n d):nP x=some true:=by
 obtain ⟨n,d,hd,e⟩:=a;have c:=hs.num;have b:=hs.den;have k:gw x.num x.den=some x:=by
  have:=nS x.num x.den.toNat (by omega) (by omega) (by omega);rw[show ((x.den.toNat:Nat):Int)=x.den by omega] at this;rw[this,e,Hv n d hd]
 unfold nP;rw[decide_eq_true b.1,decide_eq_true (show x.den<1048576 by omega),eP,xA (by omega) (by omega),k];simp only[cond_true,ag,beq_self_eq_true,Bool.and_self]
theorem Kz {a b:an}{A B C D:Nat}(c:Sm a A B)(hb:Sm b C D):Sm (j7 a b) (A*D+C*B) (B*D)/\∃n d,0<d/\j7 a b=bB n d:=by
 have e:=dy c.num (show b.den.natAbs<=D by have:=hb.den;omega);have f:=dy hb.num (show a.den.natAbs<=B by have:=c.den;omega);have g:=dy (show a.den.natAbs<=B by have:=c.den;omega) (show b.den.natAbs<=D by have:=hb.den;omega);have h:0<a.den*b.den:=Int.mul_pos c.den.1 hb.den.1;have:=iT (a.num*b.den - b.num*a.den) (a.den*b.den).toNat (by omega);refine ⟨?_,_,_,by omega,rfl⟩;unfold j7;exact ⟨Nat.le_trans this.num (by omega),this.den.1,by have:=this.den.2;omega⟩
section
variable {u : ak} {s : aZ} (F : Fit u) (hs : (1 ≤ s.back ∧ s.back ≤ 20) ∧ 0 ≤ s.high ∧ s.high ≤ 60)
include F hs
theorem KA:Sm (eD u s).2 10000 100/\∃n d,0<d/\(eD u s).2=bB n d:=by
 obtain ⟨n,p,e,a,-⟩:=Hu F hs;have b:=F.mD n p a;rw[e];exact ⟨A4 u F s hs n p a,_,_,by omega,rfl⟩
end
abbrev Lw (x:an):Prop:=∃n d,0<d/\x=bB n d
theorem Lw.more {a b:an}(c:Lw a)(hb:Lw b):Lw (cX a b):=by
 unfold cX;cases bM a b;exact c;exact hb
theorem C3:Lw ⟨0,1⟩:=⟨0,1,by decide,by decide⟩
section
variable {u : ak} {s : aZ} (F : Fit u) (hs : (1 ≤ s.back ∧ s.back ≤ 20) ∧ 0 ≤ s.high ∧ s.high ≤ 60)
include F hs
theorem KB:Sm (mG u s) 10000 100:=by
 unfold mG;cases bM (eD u s).2 ⟨u.bO,1⟩
 ·exact (KA F hs).1
 ·exact (xb F hs).mono (by decide) (by decide)
theorem oz:Sm (cZ u s) 300000000 800000/\Lw (cZ u s):=by
 obtain ⟨a,b⟩:=Kz (KB F hs) (Bx F hs);unfold cZ;refine ⟨?_,Lw.more b C3⟩;have z:Sm (⟨0,1⟩:an) 300000000 800000:=⟨by decide,by decide,by decide⟩
 have c:=a.mono (show _<=300000000 by decide) (show _<=800000 by decide);unfold cX;cases bM (j7 (mG u s) (qj u s)) ⟨0,1⟩
 ·exact c
 ·exact z
theorem C4:nP (cZ u s)=some true:=by
 obtain ⟨a,b⟩:=oz F hs;exact Ky (a.mono (by decide) (by decide)) b
end
section
variable {u : ak} (F : Fit u) (h : fN u = some 0) {i : Nat} {e : bZ} (he : u.aG[i]? = some e)
include F h he
theorem C5:e7 u [eJ (i:Int)]=some (u,0):=by
 have hi:i<u.aG.length:=(List.getElem?_eq_some_iff.1 he).1;rw[A0 h (HM u i),(HN F).2 ⟨by omega,by omega⟩];rfl
theorem KC:mg u (i:Int)=some (if (bT u).isEmpty then ([],9) else (c7 u i e,0)):=by
 unfold mg;rw[sO F (C5 F h he)];cases hs:(bT u).isEmpty with
 |true=>rfl
 |false=>
  simp only[ag,Bool.false_eq_true,if_false,bne_self_eq_false,cond_false];rw[B4 F (by intro c;rw[c] at hs;cases hs) he]
omit h in
theorem qv {n:Int}(a:n∈c7 u i e):(1<=e.back/\e.back<=20)/\0<=n/\n<=60:=by
 obtain ⟨c1,c2,c3,c4,b⟩:=F.aV _ _ he;have:=By.1 (List.mem_filter.1 a).1;exact ⟨c1,by omega,by omega⟩
theorem KD:kR u (i:Int)=some (if (bT u).isEmpty then (0,9) else (k3 ((bT u).countP fun l=>cM u (cj u i (l[i]?.getD 0))) (bT u).length,0)):=by
 have c:=(sN F).2;have hi:i<u.aG.length:=(List.getElem?_eq_some_iff.1 he).1;have d:=F.aG;unfold kR;rw[sO F (C5 F h he)];simp only[ag];cases hs:(bT u).isEmpty with
 |true=>rfl
 |false=>
  simp only[Bool.false_eq_true,if_false];rw[show ((0:Int) != 0)=false by decide];simp only[cond_false];have one:∀y,y∈bT u->jm (cH y) ⟨u,(bT u).map cH⟩ (i:Int)=some (cM u (cj u i (y[i]?.getD 0))):=fun y a=>by
   obtain ⟨m,hm,hs,hb⟩:=sP F he a;have hg:aU.get (cH y) (i:Int)=some m:=qg (by omega) (by omega) (by simpa using hm);unfold jm gO;simp only[hg,ag,iq he,(nZ F (s:=⟨e.back,m⟩) hb).1,hs]
  have key:∀x,x∈(bT u).map cH->jm x ⟨u,(bT u).map cH⟩ (i:Int)=some ((jm x ⟨u,(bT u).map cH⟩ (i:Int)).getD false):=fun x b=>by
   rw[List.mem_map] at b;obtain ⟨y,a,rfl⟩:=b;rw[one y a];rfl
  rw[BM (k:=⟨u,(bT u).map cH⟩) (g:=fun x=>(jm x ⟨u,(bT u).map cH⟩ (i:Int)).getD false) (by simp;omega) key];simp only[List.countP_map,List.length_map];have e:(bT u).countP ((fun x=>(jm x ⟨u,(bT u).map cH⟩ (i:Int)).getD false) ∘ cH)=(bT u).countP (fun l=>cM u (cj u i (l[i]?.getD 0))):=List.countP_congr fun y a=>by
   simp only[Function.comp];rw[one y a];rfl
  rw[e]
omit h in
end
theorem C6 {n m:Nat}(hm:0<m):k3 n m=2↔n=0:=by
 unfold k3;by_cases c:n=m
 ·rw[if_pos c];constructor
  ·intro h;exact absurd h (by decide)
  ·intro h;omega
 ·rw[if_neg c];by_cases d:n=0
  ·simp[d]
  ·rw[if_neg d];constructor
   ·intro h;exact absurd h (by decide)
   ·intro h;exact absurd h d
theorem C7 {n m:Nat}:k3 n m=1↔n=m:=by
 unfold k3;by_cases c:n=m
 ·simp[c]
 ·rw[if_neg c];by_cases d:n=0
  ·rw[if_pos d];constructor
   ·intro h;exact absurd h (by decide)
   ·intro h;exact absurd h c
  ·rw[if_neg d];constructor
   ·intro h;exact absurd h (by decide)
   ·intro h;exact absurd h c
theorem C8 (P:Nat->Int->Prop):∀(S:List (List Int)) (k:Nat),(∀i s,S[i]?=some s->∃n,n∈s/\P (k+i) n)->∃h,h∈pL S/\∀i n,h[i]?=some n->P (k+i) n
 |[],k,_=>⟨[],by simp[pL],fun i n h=>by simp at h⟩
 |s::r,k,a=>by
  obtain ⟨n,b,c⟩:=a 0 s rfl
  obtain ⟨h,hm,d⟩:=C8 P r (k+1) fun i t ht=>by
   have:=a (i+1) t (by simpa using ht)
   rwa [show k+1+i=k+(i+1) by omega]
  refine ⟨n::h,?_,fun i m hi=>?_⟩
  ·show n::h∈s.flatMap fun n=>(pL r).map (n::·)
   exact List.mem_flatMap.2 ⟨n,b,List.mem_map.2 ⟨h,hm,rfl⟩⟩
  ·cases i with
   |zero=>
    have:n=m:=by simpa using hi
    rw[<-this];exact c
   |succ i=>
    have:=d i m (by simpa using hi)
    rwa [show k+1+i=k+(i+1) by omega] at this
section
variable {u : ak} (F : Fit u) (h : fN u = some 0) (aE : bT u ≠ [])
include F h aE
omit F h in
theorem yp:(bT u).isEmpty=false:=by
 cases e:bT u with
 |nil=>exact absurd e aE
 |cons a l=>rfl
theorem KE {i:Nat}{e:bZ}(he:u.aG[i]?=some e):∃w,kR u (i:Int)=some (w,0)/\(w=1↔∀n,n∈c7 u i e->cM u (cj u i n)=true)/\(w=2↔∀n,n∈c7 u i e->cM u (cj u i n)=false):=by
 have d:=KD F h he;rw[yp aE] at d;refine ⟨_,d,?_,?_⟩
 ·rw[C7,List.countP_eq_length];constructor
  ·intro a n c;obtain ⟨l,b,hg⟩:=(mL F aE he).1 c;have:=a l b
   rwa [hg] at this
  ·intro a l b;obtain ⟨m,hm,-,-⟩:=(mH b).1.kY i _ he;rw[hm];exact a m ((mL F aE he).2 ⟨l,b,hm⟩)
 ·rw[C6 (List.length_pos_iff.2 aE),List.countP_eq_zero];constructor
  ·intro a n c;obtain ⟨l,b,hg⟩:=(mL F aE he).1 c;have:=a l b;rw[hg] at this;simpa using this
  ·intro a l b;obtain ⟨m,hm,-,-⟩:=(mH b).1.kY i _ he;rw[hm];have:=a m ((mL F aE he).2 ⟨l,b,hm⟩);simp[this]
theorem KF:∃w,jZ u=some (w,0)/\(w=1↔∀i e n,u.aG[i]?=some e->n∈c7 u i e->cM u (cj u i n)=false)/\(w=2↔∃i e,u.aG[i]?=some e/\∀n,n∈c7 u i e->cM u (cj u i n)=true):=by
 have g:=BN F h;rw[yp aE] at g;refine ⟨_,g,?_,?_⟩
 ·rw[C7,List.countP_eq_length];constructor
  ·intro a i e n he f;obtain ⟨l,b,hg⟩:=(mL F aE he).1 f;have:=a l b;unfold kZ at this;rw[List.all_eq_true] at this;have:=this i (by rw[List.mem_range];exact (List.getElem?_eq_some_iff.1 he).1);rw[hg] at this;simpa using this
  ·intro a l b;unfold kZ;rw[List.all_eq_true];intro i hi;have hi:i<u.aG.length:=by simpa using hi
   have he:u.aG[i]?=some u.aG[i]:=List.getElem?_eq_getElem hi;obtain ⟨m,hm,-,-⟩:=(mH b).1.kY i _ he;rw[hm];have:=a i _ m he ((mL F aE he).2 ⟨l,b,hm⟩);simp[this]
 ·rw[C6 (List.length_pos_iff.2 aE),List.countP_eq_zero];constructor
  ·intro a;refine Classical.byContradiction fun c=>?_;obtain ⟨l,b,j⟩:=C8 (fun i n=>cM u (cj u i n)=false) (j9 u) 0 fun i s hs=>by
    have hi:i<u.aG.length:=by rw[<-sR u];exact (List.getElem?_eq_some_iff.1 hs).1
    have he:u.aG[i]?=some u.aG[i]:=List.getElem?_eq_getElem hi;rw[sQ he] at hs;cases hs;refine Classical.byContradiction fun d=>c ⟨i,_,he,fun n f=>?_⟩;cases hb:cM u (cj u i n) with
    |true=>rfl
    |false=>exact absurd ⟨n,f,by rw[Nat.zero_add];exact hb⟩ d
   rw[<-xC F] at b;refine a l b ?_;unfold kZ;rw[List.all_eq_true];intro i hi;have hi:i<u.aG.length:=by simpa using hi
   have he:u.aG[i]?=some u.aG[i]:=List.getElem?_eq_getElem hi;obtain ⟨m,hm,-,-⟩:=(mH b).1.kY i _ he;have:=j i m hm;rw[Nat.zero_add] at this;rw[hm];simp[this]
  ·rintro ⟨i,e,he,a⟩ l b hg;unfold kZ at hg;rw[List.all_eq_true] at hg;have:=hg i (by rw[List.mem_range];exact (List.getElem?_eq_some_iff.1 he).1);obtain ⟨m,hm,-,-⟩:=(mH b).1.kY i _ he;rw[hm] at this;have k:=a m ((mL F aE he).2 ⟨l,b,hm⟩);simp[k] at this
end
abbrev Bd (s:aZ):Prop:=(1<=s.back/\s.back<=20)/\0<=s.high/\s.high<=60
def wG (u:ak)(i:Nat)(n:Int)(st:Int×an):Int×an:=
 cond (cM u (cj u i n)) (cond (bM st.2 (cZ u (cj u i n))) ((i:Int),cZ u (cj u i n)) st) st
def Ws (u:ak)(D:Nat->Int->Prop)(st:Int×an):Prop:=
 (st.1= -1/\st.2=⟨0,1⟩/\∀i n,D i n->cM u (cj u i n)=false)\/
 ∃j n,D j n/\st.1=(j:Nat)/\st.2=cZ u (cj u j n)/\cM u (cj u j n)=true/\
  ∀i m,D i m->cM u (cj u i m)=true->bM st.2 (cZ u (cj u i m))=false/\(i<j->bM (cZ u (cj u i m)) st.2=true)
section
variable {u : ak} (F : Fit u)
include F
theorem oA {s:aZ}(hs:Bd s):0<(cZ u s).den:=(oz F hs).1.den.1
theorem KG {s:aZ}(hs:Bd s)(h:cM u s=true):bM ⟨0,1⟩ (cZ u s)=true:=by
 rw[xy F hs] at h;have:=F.num;have hd:=F.den;have b:=oA F hs;unfold bM at*;simp only[decide_eq_true_eq,Int.zero_mul,Int.mul_one] at*;have c:0<=u.aW.num*(cZ u s).den:=Int.mul_nonneg this.1 (by omega);have a:0<(cZ u s).num*u.aW.den:=by omega
 exact Int.pos_of_mul_pos_left a (by omega)
theorem KH {k:Nat}{n:Int}{D:Nat->Int->Prop}(f:∀i m,D i m->i<=k/\Bd (cj u i m))(hb:Bd (cj u k n)){st:Int×an}(W:Ws u D st):Ws u (fun i m=>D i m\/(i=k/\m=n)) (wG u k n st):=by
 unfold wG;cases hs:cM u (cj u k n) with
 |false=>
  simp only[cond_false];rcases W with ⟨w1,w2,w3⟩|⟨j,m,w1,w2,w3,w4,e⟩
  ·exact .inl ⟨w1,w2,fun i m h=>by rcases h with h|⟨rfl,rfl⟩;exact w3 i m h;exact hs⟩
  ·exact .inr ⟨j,m,.inl w1,w2,w3,w4,fun i d h a=>by
    rcases h with h|⟨rfl,rfl⟩
    ·exact e i d h a
    ·rw[hs] at a;cases a⟩
 |true=>
  simp only[cond_true];have key:bM st.2 (cZ u (cj u k n))=true->(∀i m,D i m->cM u (cj u i m)=true->bM st.2 (cZ u (cj u i m))=false)->0<st.2.den->Ws u (fun i m=>D i m\/(i=k/\m=n)) ((k:Int),cZ u (cj u k n)):=fun b g l=>
   .inr ⟨k,n,.inr ⟨rfl,rfl⟩,rfl,rfl,hs,fun i m h a=>by
    rcases h with h|⟨rfl,rfl⟩
    ·have hi:=f i m h;exact ⟨xe (oA F hi.2) l (oA F hb) (g i m h a) b,fun _=>xo (oA F hi.2) l (oA F hb) (g i m h a) b⟩
    ·exact ⟨nW _,fun c=>absurd c (by omega)⟩⟩
  rcases W with ⟨w1,w2,w3⟩|⟨j,m,w1,w2,w3,w4,e⟩
  ·have b:bM st.2 (cZ u (cj u k n))=true:=by rw[w2];exact KG F hb hs
   rw[b];refine key b (fun i m h a=>?_) (by rw[w2];decide);rw[w3 i m h] at a;cases a
  ·cases b:bM st.2 (cZ u (cj u k n)) with
   |true=>exact key b (fun i d h a=>(e i d h a).1) (by rw[w3];exact oA F (f j m w1).2)
   |false=>
    refine .inr ⟨j,m,.inl w1,w2,w3,w4,fun i d h a=>?_⟩;rcases h with h|⟨rfl,rfl⟩
    ·exact e i d h a
    ·exact ⟨b,fun c=>absurd (f j m w1).1 (by omega)⟩
omit F in
theorem tq {D E:Nat->Int->Prop}{st:Int×an}(h:∀i m,D i m↔E i m)(W:Ws u D st):Ws u E st:=by
 have:D=E:=by funext i m;exact propext (h i m)
 rw[<-this];exact W
omit F in
theorem oB {i:Nat}{e:bZ}(he:u.aG[i]?=some e)(n:Int):cj u i n=⟨e.back,n⟩:=by unfold cj;rw[he];rfl
def lp (u:ak)(k:Nat)(i:Nat)(m:Int):Prop:=i<k/\∃e,u.aG[i]?=some e/\m∈c7 u i e
theorem C9 {st:Int×an}{D:Nat->Int->Prop}(a:∀i m,D i m->Bd (cj u i m))(W:Ws u D st):Sm st.2 300000000 800000/\Lw st.2:=by
 rcases W with ⟨w1,w2,w3⟩|⟨j,m,w1,w2,w3,w4,b⟩
 ·rw[w2];exact ⟨⟨by decide,by decide,by decide⟩,C3⟩
 ·rw[w3];exact oz F (a j m w1)
omit F in
theorem tr {α:Type}{l:List α}{j:Nat}{x y:α}(h:l[j]?=some x):y∈l.take (j+1)↔y∈l.take j\/y=x:=by
 rw[List.take_add_one,h];simp
theorem KI (aE:bT u≠[]){k:Nat}{e:bZ}(he:u.aG[k]?=some e){st:Int×an}(W:Ws u (lp u k) st):
  ∃l,bF (mh (⟨u,(bT u).map cH⟩,0) k) 0 (c7 u k e) (st.1,st.2)=some (.nx l)/\Ws u (lp u (k+1)) l:=by
 have t:∀i m,lp u k i m->Bd (cj u i m):=fun i m h=>by
  obtain ⟨b,o,a,d⟩:=h
  rw[oB a];exact qv F a d
 have key:=j5 (f:=mh (⟨u,(bT u).map cH⟩,0) k) (ρ:=Int×an×Int) (g:=fun _ n st=>wG u k n st) (I:=fun j st=>Ws u (fun i m=>lp u k i m\/(i=k/\m∈(c7 u k e).take j)) st) (c7 u k e) 0 st
  (tq (fun i m=>by simp) W)
  (fun j n st p q=>by
   have hm:=List.mem_of_getElem? p
   have hb:Bd ⟨e.back,n⟩:=qv F he hm
   have v:Bd (cj u k n):=by rw[oB he];exact hb
   have r:∀i m,lp u k i m\/(i=k/\m∈(c7 u k e).take (0+j))->i<=k/\Bd (cj u i m):=fun i m h=>by
    rcases h with h|⟨rfl,h⟩
    ·exact ⟨by have:=h.1;omega,t i m h⟩
    ·exact ⟨Nat.le_refl _,by rw[oB he];exact qv F he (List.mem_of_mem_take h)⟩
   have w:=kW (C9 F (fun i m h=>(r i m h).2) q).1 (oz F (s:=⟨e.back,n⟩) hb).1 (by decide) (by decide)
   refine ⟨?_,tq (fun i m=>?_) (KH F r v q)⟩
   ·unfold mh gO
    simp only[iq he,ag,(nZ F (s:=⟨e.back,n⟩) hb).1,sL F hb,w.2]
    unfold wG
    rw[oB he]
    cases cM u ⟨e.back,n⟩ with
    |false=>rfl
    |true=>
     simp only[cond_true]
     unfold bM
     cases decide (st.2.num*(cZ u ⟨e.back,n⟩).den<(cZ u ⟨e.back,n⟩).num*st.2.den)<;>rfl
   ·rw[Nat.zero_add,tr p]
    constructor
    ·rintro ((h|⟨b,a⟩)|⟨b,a⟩)
     ·exact .inl h
     ·exact .inr ⟨b,.inl a⟩
     ·exact .inr ⟨b,.inr a⟩
    ·rintro (h|⟨b,a|a⟩)
     ·exact .inl (.inl h)
     ·exact .inl (.inr ⟨b,a⟩)
     ·exact .inr ⟨b,a⟩)
 refine ⟨_,key.1,tq (fun i m=>?_) key.2⟩
 rw[Nat.zero_add,List.take_length]
 unfold lp
 constructor
 ·rintro (⟨b,a⟩|⟨rfl,h⟩)
  ·exact ⟨by omega,a⟩
  ·exact ⟨by omega,e,he,h⟩
 ·rintro ⟨b,o,a,d⟩
  by_cases c:i=k
  ·subst c
   rw[he] at a;cases a
   exact .inr ⟨rfl,d⟩
  ·exact .inl ⟨by omega,o,a,d⟩
theorem KJ (h:fN u=some 0):((bT u).isEmpty=true/\kT u=some (0,⟨0,0⟩,9))\/
  ((bT u).isEmpty=false/\∃st,kT u=some (st.1,st.2,0)/\Ws u (fun i m=>∃e,u.aG[i]?=some e/\m∈c7 u i e) st):=by
 unfold kT
 rw[sO F (BH h)]
 cases hs:(bT u).isEmpty with
 |true=>exact .inl ⟨rfl,rfl⟩
 |false=>
  right
  have aE:bT u≠[]:=by intro c;rw[c] at hs;cases hs
  refine ⟨rfl,?_⟩
  simp only[ag,Bool.false_eq_true,if_false,bne_self_eq_false,cond_false]
  have key:=j5 (f:=pX (⟨u,(bT u).map cH⟩,0)) (ρ:=Int×an×Int)
   (g:=fun i e st=>match bF (mh (⟨u,(bT u).map cH⟩,0) i) 0 (c7 u i e) (st.1,st.2) with|some (.nx s)=>s|_=>st)
   (I:=fun i st=>Ws u (lp u i) st) u.aG 0 (-1,⟨0,1⟩) (.inl ⟨rfl,rfl,fun i n b=>absurd b.1 (by omega)⟩)
   (fun j e st he a=>by
    rw[Nat.zero_add] at a ⊢
    obtain ⟨s1,k1,d⟩:=KI F aE he a
    simp only[k1]
    refine ⟨?_,d⟩
    unfold pX
    simp only[B4 F aE he,ag,k1,aB])
  refine ⟨_,?_,tq (fun i m=>?_) key.2⟩
  ·unfold fM
   simp only[key.1,aB]
  ·rw[Nat.zero_add]
   unfold lp
   constructor
   ·exact fun x=>x.2
   ·rintro ⟨e,he,hm⟩
    exact ⟨(List.getElem?_eq_some_iff.1 he).1,e,he,hm⟩
end
def lq (u0:ak)(b:(Int×an×Int))(c:Int)(d:((List Int)×Int))(st:(Bool×Bool×Int)):Option (Fl (Bool×Bool×Int) Bool):=
 cond (decide (st.2.2<(d.1.length:Int))) (ag (bn u0.aG c) fun e=>ag (bn d.1 st.2.2) fun f=>ag (ju e.back f) fun g=>ag (me u0 g) fun a=>ag (cond ((a.2.2 != 0)) (some (.bk true)) (ag (nP a.1) fun h=>cond (!h) (some (.bk true)) (cond (a.2.1) (cond (decide (b.1<0)) (some (.bk true)) (ag (gv b.2.1 a.1) fun i=>cond (i) (some (.bk true)) (cond (decide (c<b.1)) (ag (gv a.1 b.2.1) fun j=>some (.bk (!j))) (some (.bk false))))) (some (.bk false)))):Option (Fl Bool Bool)) fun o=>aB o (fun k=>cond (k) (some (.rt false)) (cond (st.2.1) (some (.nx (st.1,true,(IntKind.i64.wrap (st.2.2+1))))) (cond (a.2.1) (cond ((c==b.1)) (some (.nx (st.1,((a.1.num==b.2.1.num)&&(a.1.den==b.2.1.den)),(IntKind.i64.wrap (st.2.2+1))))) (some (.nx (st.1,false,(IntKind.i64.wrap (st.2.2+1)))))) (some (.nx (st.1,false,(IntKind.i64.wrap (st.2.2+1)))))))) (fun _ _=>none) (fun r=>some (.rt r))) (some (.bk (st.1,st.2.1,st.2.2)))
def tu (b:(Int×an×Int))(a:(Int×Int))(c:Bool)(d:Bool)(e:Bool):Option Bool:=
 cond (((decide (b.1<0))==c)) (cond (decide (0<=b.1)) (cond (decide (b.1<0)) (cond (((a.1==1)==c)) (cond (!d) (cond ((a.1 != 2)) (ag (ff) fun g=>some g) (some false)) (cond ((a.1==2)) (cond ((a.1 != 2)) (ag (ff) fun h=>some h) (ag (ff) fun i=>some i)) (some false))) (some false)) (cond (e) (cond (((a.1==1)==c)) (cond (!d) (cond ((a.1 != 2)) (ag (ff) fun j=>some j) (some false)) (cond ((a.1==2)) (cond ((a.1 != 2)) (ag (ff) fun k=>some k) (ag (ff) fun l=>some l)) (some false))) (some false)) (some false))) (ag (fD 0 1) fun f=>cond (((b.2.1.num==f.num)&&(b.2.1.den==f.den))) (cond (decide (b.1<0)) (cond (((a.1==1)==c)) (cond (!d) (cond ((a.1 != 2)) (ag (ff) fun m=>some m) (some false)) (cond ((a.1==2)) (cond ((a.1 != 2)) (ag (ff) fun n=>some n) (ag (ff) fun o=>some o)) (some false))) (some false)) (cond (e) (cond (((a.1==1)==c)) (cond (!d) (cond ((a.1 != 2)) (ag (ff) fun p=>some p) (some false)) (cond ((a.1==2)) (cond ((a.1 != 2)) (ag (ff) fun q=>some q) (ag (ff) fun r=>some r)) (some false))) (some false)) (some false))) (some false))) (some false)
def mS (u0:ak)(e:(Int×an×Int))(st:(Bool×Bool×Bool×Bool×Int)):Option (Fl (Bool×Bool×Bool×Bool×Int) Bool):=
 cond (decide (st.2.2.2.2<(u0.aG.length:Int))) (ag (kR u0 st.2.2.2.2) fun a=>ag (mg u0 st.2.2.2.2) fun b=>ag (cond ((a.2 != 0)) (some (.bk true)) (some (.bk (b.2 != 0))):Option (Fl Bool Bool)) fun o=>aB o (fun f=>cond (f) (some (.rt false)) (ag (cond (st.2.1) (cond (st.2.2.1) (some (.bk ((a.1==2),true))) (some (.bk ((a.1==2),(a.1==1))))) (cond (st.2.2.1) (some (.bk (false,true))) (some (.bk (false,(a.1==1))))):Option (Fl (Bool×Bool) Bool)) fun o=>aB o (fun c=>ag (aY (lq u0 e st.2.2.2.2 b) fu (st.1,st.2.2.2.1,0)) fun o=>aB o (fun d=>some (.nx (d.1,c.1,c.2,d.2.1,(IntKind.i64.wrap (st.2.2.2.2+1))))) (fun _ _=>none) (fun r=>some (.rt r))) (fun _ _=>none) (fun r=>some (.rt r)))) (fun _ _=>none) (fun r=>some (.rt r))) (some (.bk (st.1,st.2.1,st.2.2.1,st.2.2.2.1,st.2.2.2.2)))
def tv (u0:ak):Option Bool:=
 ag (nO u0) fun d=>cond (!d) (ag (ff) fun e=>some e) (ag (kT u0) fun a=>ag (jZ u0) fun b=>cond ((a.2.2 != b.2)) (some false) (cond ((a.2.2 != 0)) (cond ((a.2.2==9)) (cond ((a.1==0)) (cond (((a.2.1.num==0)&&(a.2.1.den==0))) (cond ((b.1==0)) (ag (ff) fun f=>some f) (some false)) (some false)) (some false)) (some false)) (ag (aY (mS u0 a) fu (false,true,false,false,0)) fun o=>aB o (fun c=>tu a b c.2.1 c.2.2.1 c.2.2.2.1) (fun _ _=>none) (fun r=>some r))))
theorem KL {a b:an}:((a.num==b.num)&&(a.den==b.den))=true↔a=b:=by
 cases a;cases b;simp
def lu (u:ak)(st:Int×an)(i:Nat)(n:Int):Prop:=cM u (cj u i n)=true/\st.1=(i:Int)/\cZ u (cj u i n)=st.2
abbrev yq (u:ak)(i:Nat)(m:Int):Prop:=∃e,u.aG[i]?=some e/\m∈c7 u i e
section
variable {u : ak} (F : Fit u) (h : fN u = some 0) {st : Int × an} (W : Ws u (yq u) st)
include F W
theorem KM {i:Nat}{n:Int}(d:yq u i n)(hs:cM u (cj u i n)=true):decide (st.1<0)=false/\bM st.2 (cZ u (cj u i n))=false/\((i:Int)<st.1->bM (cZ u (cj u i n)) st.2=true):=by
 rcases W with ⟨w1,w2,w3⟩|⟨j,m,w1,w2,w3,w4,e⟩
 ·rw[w3 i n d] at hs;cases hs
 ·obtain ⟨a,b⟩:=e i n d hs;exact ⟨by rw[w2];simp,a,fun c=>b (by omega)⟩
include h
theorem KN {i:Nat}{e:bZ}(he:u.aG[i]?=some e)(D:(c7 u i e).length<=3)(d r0:Bool):
  ∃s:Bool×Bool,aY (lq u (st.1,st.2,0) (i:Int) (c7 u i e,0)) fu (d,r0,0)=some (.nx (s.1,s.2,((c7 u i e).length:Int)))/\(s.2=true↔r0=true\/∃n,n∈c7 u i e/\lu u st i n):=by
 have key:=Bu (f:=lq u (st.1,st.2,0) (i:Int) (c7 u i e,0)) (fun j (s:Bool×Bool)=>(s.2=true↔r0=true\/∃n,n∈(c7 u i e).take j/\lu u st i n)) (fun s k=>(s.1,s.2,k)) (c7 u i e) (by omega)
  (fun j n s g q=>by
   have E:=(List.getElem?_eq_some_iff.1 g).1
   have hm:=List.mem_of_getElem? g
   have hb:Bd ⟨e.back,n⟩:=qv F he hm
   have y:yq u i n:=⟨e,he,hm⟩
   have p:cj u i n=⟨e.back,n⟩:=oB he n
   have r:=xy F hb
   have bd:=(C9 F (fun i m ⟨e,t,z⟩=>by rw[oB t];exact qv F t z) W).1
   have A:gv st.2 (cZ u ⟨e.back,n⟩)=some (bM st.2 (cZ u ⟨e.back,n⟩)):=(kW bd (oz F hb).1 (by decide) (by decide)).1
   have B:gv (cZ u ⟨e.back,n⟩) st.2=some (bM (cZ u ⟨e.back,n⟩) st.2):=(kW (oz F hb).1 bd (by decide) (by decide)).1
   have w1:IntKind.i64.wrap ((j:Int)+1)=((j+1:Nat):Int):=by rw[c6 (by omega)];rfl
   have v:decide (((s.1,s.2,(j:Int)):Bool×Bool×Int).2.2<((((c7 u i e,(0:Int)):List Int×Int).1).length:Int))=true:=by simp;omega
   have w:∀P:Int->Prop,(∃m,m∈(c7 u i e).take (j+1)/\P m)↔(∃m,m∈(c7 u i e).take j/\P m)\/P n:=fun P=>by
    constructor
    ·rintro ⟨m,hm,l⟩
     rcases (tr g).1 hm with c|rfl
     ·exact .inl ⟨m,c,l⟩
     ·exact .inr l
    ·rintro (⟨m,hm,l⟩|l)
     ·exact ⟨m,(tr g).2 (.inl hm),l⟩
     ·exact ⟨n,(tr g).2 (.inr rfl),l⟩
   cases hs:cM u ⟨e.back,n⟩ with
   |false=>
    refine ⟨(s.1,s.2),?_,?_⟩
    ·unfold lq
     rw[v]
     simp only[cond_true,iq he,iq g,ag,show ju e.back n=some ⟨e.back,n⟩ from rfl,BO F h hb,<-r,hs,bne_self_eq_false,cond_false,C4 F hb,Bool.not_true,aB,w1]
     cases s.2<;>rfl
    ·rw[w]
     have:¬lu u st i n:=fun c=>by rw[lu,p,hs] at c;exact absurd c.1 (by simp)
     simp only
     rw[q]
     constructor
     ·rintro (a|a)
      ·exact .inl a
      ·exact .inr (.inl a)
     ·rintro (a|a|a)
      ·exact .inl a
      ·exact .inr a
      ·exact absurd a this
   |true=>
    obtain ⟨k1,o,x⟩:=KM F W y (by rw[p];exact hs)
    rw[p] at o x
    have C:lu u st i n↔((i:Int)==st.1)=true/\(((cZ u ⟨e.back,n⟩).num==st.2.num)&&((cZ u ⟨e.back,n⟩).den==st.2.den))=true:=by
     unfold lu
     rw[p,KL]
     constructor
     ·rintro ⟨-,a,b⟩;exact ⟨by simp[a],b⟩
     ·rintro ⟨a,b⟩;exact ⟨hs,(show (i:Int)=st.1 by simpa using a).symm,b⟩
    refine ⟨(s.1,s.2||(((i:Int)==st.1)&&(((cZ u ⟨e.back,n⟩).num==st.2.num)&&((cZ u ⟨e.back,n⟩).den==st.2.den)))),?_,?_⟩
    ·unfold lq
     rw[v]
     simp only[cond_true,iq he,iq g,ag,show ju e.back n=some ⟨e.back,n⟩ from rfl,BO F h hb,<-r,hs,bne_self_eq_false,cond_false,C4 F hb,Bool.not_true,aB,w1,k1,A,o,B]
     by_cases c:(i:Int)<st.1
     ·simp only[decide_eq_true c,cond_true,x c,Bool.not_true,aB,cond_false]
      have:((i:Int)==st.1)=false:=by rw[beq_eq_false_iff_ne];omega
      rw[this]
      cases s.2<;>rfl
     ·simp only[decide_eq_false c,cond_false,aB]
      cases s.2<;>cases ((i:Int)==st.1)<;>rfl
    ·rw[w]
     simp only[Bool.or_eq_true,Bool.and_eq_true (a:=((i:Int)==st.1))]
     rw[q,<-C]
     constructor
     ·rintro ((a|a)|a)
      ·exact .inl a
      ·exact .inr (.inl a)
      ·exact .inr (.inr a)
     ·rintro (a|a|a)
      ·exact .inl (.inl a)
      ·exact .inl (.inr a)
      ·exact .inr a)
  (fun s=>by
   unfold lq
   simp) (d,r0) (by simp)
 obtain ⟨s,k1,o⟩:=key
 rw[List.take_length] at o
 exact ⟨s,k1,o⟩
theorem KO (aE:bT u≠[]):∃s:Bool×Bool×Bool×Bool,aY (mS u (st.1,st.2,0)) fu (false,true,false,false,0)=some (.nx (s.1,s.2.1,s.2.2.1,s.2.2.2,(u.aG.length:Int)))/\
  (s.2.1=true↔∀i e n,u.aG[i]?=some e->n∈c7 u i e->cM u (cj u i n)=false)/\(s.2.2.1=true↔∃i e,u.aG[i]?=some e/\∀n,n∈c7 u i e->cM u (cj u i n)=true)/\(s.2.2.2=true↔∃i e n,u.aG[i]?=some e/\n∈c7 u i e/\lu u st i n):=by
 have y:=F.aG
 have key:=Bu (f:=mS u (st.1,st.2,0)) (fun j (s:Bool×Bool×Bool×Bool)=>(s.2.1=true↔∀i e n,i<j->u.aG[i]?=some e->n∈c7 u i e->cM u (cj u i n)=false)/\(s.2.2.1=true↔∃i e,i<j/\u.aG[i]?=some e/\∀n,n∈c7 u i e->cM u (cj u i n)=true)/\(s.2.2.2=true↔∃i e n,i<j/\u.aG[i]?=some e/\n∈c7 u i e/\lu u st i n))
  (fun s k=>(s.1,s.2.1,s.2.2.1,s.2.2.2,k)) u.aG (by omega)
  (fun j e s he m=>by
   have z:=(List.getElem?_eq_some_iff.1 he).1
   obtain ⟨w,v1,v2,o⟩:=KE F h aE he
   have v4:=KC F h he
   rw[yp aE,if_neg (by decide)] at v4
   obtain ⟨c,T,-,p,e2⟩:=xD F aE he
   obtain ⟨t,t1,t2⟩:=KN F h W he (by rw[e2,List.length_map];exact (B2 p).2) s.1 s.2.2.2
   have w1:IntKind.i64.wrap ((j:Int)+1)=((j+1:Nat):Int):=by rw[c6 (by omega)];rfl
   have q:decide (((s.1,s.2.1,s.2.2.1,s.2.2.2,(j:Int)):Bool×Bool×Bool×Bool×Int).2.2.2.2<(u.aG.length:Int))=true:=by simp;omega
   refine ⟨(t.1,s.2.1&&(w==2),s.2.2.1||(w==1),t.2),?_,?_,?_,?_⟩
   ·unfold mS
    rw[q]
    simp only[cond_true,v1,v4,ag,bne_self_eq_false,cond_false,aB]
    cases s.2.1<;>cases s.2.2.1<;>simp only[cond_true,cond_false,aB,t1,w1,Bool.true_and,Bool.false_and,Bool.true_or,Bool.false_or]
   ·simp only[Bool.and_eq_true,beq_iff_eq]
    rw[m.1,o]
    constructor
    ·rintro ⟨a,b⟩ i d n hi g l
     by_cases c:i=j
     ·subst c;rw[he] at g;cases g;exact b n l
     ·exact a i d n (by omega) g l
    ·exact fun a=>⟨fun i d n hi=>a i d n (by omega),fun n l=>a j e n (by omega) he l⟩
   ·simp only[Bool.or_eq_true,beq_iff_eq]
    rw[m.2.1,v2]
    constructor
    ·rintro (⟨i,d,hi,a⟩|a)
     ·exact ⟨i,d,by omega,a⟩
     ·exact ⟨j,e,by omega,he,a⟩
    ·rintro ⟨i,d,hi,g,a⟩
     by_cases c:i=j
     ·subst c;rw[he] at g;cases g;exact .inr a
     ·exact .inl ⟨i,d,by omega,g,a⟩
   ·simp only
    rw[t2,m.2.2]
    constructor
    ·rintro (⟨i,d,n,hi,a⟩|⟨n,a,b⟩)
     ·exact ⟨i,d,n,by omega,a⟩
     ·exact ⟨j,e,n,by omega,he,a,b⟩
    ·rintro ⟨i,d,n,hi,g,a,b⟩
     by_cases c:i=j
     ·subst c;rw[he] at g;cases g;exact .inr ⟨n,a,b⟩
     ·exact .inl ⟨i,d,n,by omega,g,a,b⟩)
  (fun s=>by
   unfold mS
   simp) (false,true,false,false) ⟨by simp,by simp,by simp⟩
 obtain ⟨s,k1,r,v,x⟩:=key
 have lt:∀{i:Nat} {e:bZ},u.aG[i]?=some e->i<u.aG.length:=fun he=>(List.getElem?_eq_some_iff.1 he).1
 refine ⟨s,k1,?_,?_,?_⟩
 ·rw[r];exact ⟨fun a i e n he l=>a i e n (lt he) he l,fun a i e n _ he l=>a i e n he l⟩
 ·rw[v];exact ⟨fun ⟨i,e,_,a⟩=>⟨i,e,a⟩,fun ⟨i,e,he,a⟩=>⟨i,e,lt he,he,a⟩⟩
 ·rw[x];exact ⟨fun ⟨i,e,n,_,a⟩=>⟨i,e,n,a⟩,fun ⟨i,e,n,he,a⟩=>⟨i,e,n,lt he,he,a⟩⟩
end
theorem KP (u:ak):tv u=some true:=by
 unfold tv;rcases Kx u with k|⟨k,L,h,F⟩
 ·simp only[k,ag,Bool.not_false,cond_true,ow]
 rcases KJ F h with ⟨hs,f⟩|⟨hs,st,f,W⟩
 ·have hg:=BN F h;rw[hs,if_pos rfl] at hg;simp only[k,ag,Bool.not_true,cond_false,f,hg,ow];rfl
 ·have aE:bT u≠[]:=by intro c;rw[c] at hs;cases hs
  obtain ⟨w,p,g,q⟩:=KF F h aE;obtain ⟨s,k1,l,a,r⟩:=KO F h W aE;rw[<-g] at l;rw[<-q] at a;simp only[k,ag,Bool.not_true,cond_false,f,p,bne_self_eq_false,k1,aB];unfold tu;rcases W with ⟨w1,w2,w3⟩|⟨j,m,w1,w2,w3,w4,t⟩
  ·have hw:w=1:=g.2 fun i e n he b=>w3 i n ⟨e,he,b⟩;subst hw;have o:s.2.1=true:=l.2 rfl;have b2:s.2.2.1=false:=by
    cases c:s.2.2.1 with
    |false=>rfl
    |true=>exact absurd (a.1 c) (by decide)
   simp only[w1,w2,o,b2,ag,show fD 0 1=some ⟨0,1⟩ from rfl,ow];rfl
  ·obtain ⟨e,he,b⟩:=w1;have hw:w≠1:=fun c=>by
    have:=g.1 c j e m he b;rw[w4] at this;cases this
   have o:s.2.1=false:=by
    cases c:s.2.1 with
    |false=>rfl
    |true=>exact absurd (l.1 c) hw
   have b3:s.2.2.2=true:=r.2 ⟨j,e,m,he,b,w4,w2,w3.symm⟩;have c1:decide (st.1<0)=false:=by rw[w2];simp
   have c2:decide (0<=st.1)=true:=by rw[w2];simp
   have c3:(w==1)=false:=by rw[beq_eq_false_iff_ne];exact hw
   simp only[c1,c2,c3,o,b3,beq_self_eq_true,cond_true,cond_false];cases c:s.2.2.1 with
   |false=>
    have:(w != 2)=true:=by
     rw[bne_iff_ne];intro d;rw[a.2 d] at c;cases c
    simp only[this,Bool.not_false,cond_true,ag,ow]
   |true=>
    have:w=2:=a.1 c;subst this;simp only[Bool.not_true,cond_false,ag,ow];rfl
end Go.Proofs.YtpgcmoanfifglaaGreatDoor
end

/- A part of the proof of a row and its tied card: QI9. -/
import Derived.Test.YtpgcmoanfifglaaGreatDoorQI8
import Derived.Conc.AtomicLaws2
import Derived.Conc.WgArith
set_option linter.all false
section
namespace Go.Sep
open Go Go.Conc
open Go.ConcN (sumTo upd upd_ne upd_same)
open Go.ConcM (MuAt muA msA muBlock OsLater)
open Go.ConcR (WgAt wgBlock stA smA)
section
variable {c : Cy} {i : Nat} {ph : Ph} {ops : Array Oper} {j n : Nat} {Q : Act → aa → Ph → Prop} {a : Act} {F : aa} {f fi : FuncId} {d : Option Tmp}
theorem dD {s:Sh}:s.ms<=s.ms/\s.ws<=s.ws:=⟨Int.le_refl _,Int.le_refl _⟩
theorem yG (g:Entry c.P f (fun _=>do mark .disable;pure Extern.Race.none_)){vals:List Value}(l:At ops j a f vals d)(m:ph.gp≠ .gone)(p:ph.gp≠ .new)
  (h:ai (WJ c i) fi ops (j+1) n Q (bg a d (.tuple #[])) F {ph with deaf:=ph.deaf+1}):ai (WJ c i) fi ops j (n+1) Q a F ph:=by
 obtain ⟨o,cz,dh,e,hg,q,_,rfl⟩:=l
 refine fl e m fun w s k φ p0 _ hs hi he r=>.inr ⟨.tuple #[],w,_,s,_,fun b t cs hb=>?_,hs,.refl _ _,r.Di hi he p _,J0,.inr dD,h⟩
 obtain ⟨fn,f1,f2,f3,f4,f5⟩:=g.ex
 exact stepG_mark0 .disable (by simp) e (cg hg) hb.kind q f1 f2 f3 f4 f5
theorem ua (l:Entry c.P f (fun _=>do mark .enable;pure Extern.Race.none_)){vals:List Value}(m:At ops j a f vals d)(p:ph.gp≠ .gone)(q:ph.gp≠ .new){e:Nat}(hd:ph.deaf=e+1)
  (h:ai (WJ c i) fi ops (j+1) n Q (bg a d (.tuple #[])) F {ph with deaf:=e}):ai (WJ c i) fi ops j (n+1) Q a F ph:=by
 obtain ⟨o,cz,dh,g,hg,r,_,rfl⟩:=m
 refine fl g p fun w s k φ p0 _ hs hi he t=>.inr ⟨.tuple #[],w,_,s,_,fun b u cs hb=>?_,hs,.refl _ _,t.Di hi he q _,J1 hd,.inr dD,h⟩
 obtain ⟨fn,f1,f2,f3,f4,f5⟩:=l.ex
 exact stepG_mark0 .enable (by simp) g (cg hg) hb.kind r f1 f2 f3 f4 f5
theorem oM {k:Nat}{φ:Nat->Ph}{p0:P0}{s:Sh}(he:φ i=ph)(a:Inv c.n c.bs k φ p0 s):Inv c.n c.bs k (upd φ i ph) p0 s:=by rw[<-he,yB];exact a
theorem Dj (l:Entry c.P f (Extern.Race.marked .acquire))(m:At ops j a f [.pointer (some (muA c.Mu))] d)(e:ph.gp= .cnt)
  (h:ai (WJ c i) fi ops (j+1) n Q (bg a d (.tuple #[])) F ph):ai (WJ c i) fi ops j (n+1) Q a F ph:=by
 obtain ⟨o,cz,dh,g,hg,p,q,rfl⟩:=m
 obtain ⟨x,rfl,r⟩:=jS q
 refine fl g (by rw[e];simp) fun w s k φ p0 _ hs hi he t=>.inr ⟨.tuple #[],w,_,s,ph,fun b u cs hb=>?_,hs,.refl _ _,oM he t,.word (.acquire (muA c.Mu)) rfl (.inl rfl) rfl ⟨e,e⟩,.inr dD,h⟩
 obtain ⟨fn,f1,f2,f3,f4,f5⟩:=l.ex
 exact stepG_markAt .acquire (by simp) g (cg hg) hb.kind p f1 f2 f3 f4 f5 (by simp[ez,r])
theorem J2 (l:Entry c.P f (Extern.Race.marked .releaseMerge))(m:At ops j a f [.pointer (some (muA c.Mu))] d)(e:ph.gp= .cnt)
  (h:ai (WJ c i) fi ops (j+1) n Q (bg a d (.tuple #[])) F ph):ai (WJ c i) fi ops j (n+1) Q a F ph:=by
 obtain ⟨o,cz,dh,g,hg,p,q,rfl⟩:=m
 obtain ⟨x,rfl,r⟩:=jS q
 refine fl g (by rw[e];simp) fun w s k φ p0 _ hs hi he t=>.inr ⟨.tuple #[],w,_,s,ph,fun b u cs hb=>?_,hs,.refl _ _,oM he t,.word (.releaseMerge (muA c.Mu)) rfl (.inr rfl) rfl ⟨e,e⟩,.inr dD,h⟩
 obtain ⟨fn,f1,f2,f3,f4,f5⟩:=l.ex
 exact stepG_markAt .releaseMerge (by simp) g (cg hg) hb.kind p f1 f2 f3 f4 f5 (by simp[ez,r])
theorem J3 (q:Entry c.P f (Extern.Race.marked .releaseMerge))(r:At ops j a f [.pointer (some (stA c.Wg))] d)(g:ph.gp= .cnt)
  (hd:ph.deaf=0) (t:ph.mp= .idle\/ph.mp= .fin) (u:ph.stored=c.bs i)
  (h:ai (WJ c i) fi ops (j+1) n Q (bg a d (.tuple #[])) F {mp:=.fin,gp:=.rel,stored:=ph.stored,deaf:=0}):ai (WJ c i) fi ops j (n+1) Q a F ph:=by
 obtain ⟨o,cz,dh,p,hg,v,y,rfl⟩:=r
 obtain ⟨x,rfl,z⟩:=jS y
 refine fl p (by rw[g];simp) fun w s k φ p0 _ hs hi he l=>.inr ⟨.tuple #[],w,_,s,{mp:=.fin,gp:=.rel,stored:=ph.stored,deaf:=0},fun b A cs hb=>?_,hs,.refl _ _,?_,.rel rfl ⟨hd,rfl⟩ g,.inr dD,h⟩
 ·obtain ⟨fn,f1,f2,f3,f4,f5⟩:=q.ex
  exact stepG_markAt .releaseMerge (by simp) p (cg hg) hb.kind v f1 f2 f3 f4 f5 (by simp[ez,z])
 ·obtain ⟨C,S,W,L,m,hm⟩:=l.m
  refine l.jP hi he (by rw[g];simp) (by simp) ⟨C,S,W,L,m,m8 hm hi _ ?_⟩ (tP l.w hi _ (.inr ⟨by rw[he];exact g,rfl⟩)) ?_ (fun _=>⟨u,rfl⟩)
  ·rw[he];rcases t with e|e
   ·exact .inr ⟨e,rfl⟩
   ·exact .inl e.symm
  ·have:=l.i.all i hi
   rw[he] at this
   exact (yF this).symm
theorem uf (old nw:Int)(I:Entry c.P f (Extern.Atomic.casT (.int .i32)))(aF:c.Mu≠c.Wg/\c.Mu≠c.Is/\c.Wg≠c.Is)(J:At ops j a f [.pointer (some (muA c.Mu)),.int .i32 old,.int .i32 nw] d)
  (e:ph.gp= .cnt) (B:0<ph.deaf)
  (K:∀φ ms C S W L m,φ i=ph->i<c.n->cn c.n φ old ms C S W L m->∃mp,(∃g h l p q,cn c.n (upd φ i {ph with mp:=mp}) nw ms g h l p q)/\ai (WJ c i) fi ops (j+1) n Q (bg a d (.bool true)) F {ph with mp:=mp})
  (M:∀φ mu ms C S W L m,φ i=ph->i<c.n->cn c.n φ mu ms C S W L m->mu≠old->∃mp,(∃g h l p q,cn c.n (upd φ i {ph with mp:=mp}) mu ms g h l p q)/\ai (WJ c i) fi ops (j+1) n Q (bg a d (.bool false)) F {ph with mp:=mp}):ai (WJ c i) fi ops j (n+1) Q a F ph:=by
 obtain ⟨o,cz,dh,r,hg,D,N,rfl⟩:=J
 obtain ⟨x,y,z,rfl,E,G,H⟩:=qX N
 obtain ⟨fn,f1,f2,f3,f4,f5⟩:=I.ex
 refine fl r (by rw[e];simp) fun w s k φ p0 _ hs hi he t=>.inr ?_
 obtain ⟨C,S,W,L,m,hm⟩:=t.m
 by_cases u:s.mu=old
 ·subst u
  obtain ⟨mp,v,A⟩:=K φ s.ms C S W L m he hi hm
  exact ⟨.bool true,_,_,{s with mu:=nw},{ph with mp:=mp},fun b O cs hb=>stepG_cas_hit r (cg hg) hb.kind D f1 f2 f3 f4 .i32 f5 E G H hs.mu.1 hs.mu.2,hs.Df aF nw,.set _ (.inl rfl),t.mutex hi he e v,yD rfl Iff.rfl B (.inr ⟨rfl,e⟩),.inr dD,A⟩
 ·obtain ⟨mp,v,A⟩:=M φ s.mu s.ms C S W L m he hi hm u
  exact ⟨.bool false,_,_,{s with mu:=s.mu},{ph with mp:=mp},fun b O cs hb=>stepG_cas_miss r (cg hg) hb.kind D f1 f2 f3 f4 .i32 f5 E G H hs.mu.1 hs.mu.2 u,hs,.refl _ _,t.mutex hi he e v,yC false rfl Iff.rfl B (.inr ⟨rfl,e⟩),.inr dD,A⟩
theorem yH (dl:Int)(q:Entry c.P f (Extern.Atomic.update (Op.intArith .add) .i32 true))(aF:c.Mu≠c.Wg/\c.Mu≠c.Is/\c.Wg≠c.Is)(r:At ops j a f [.pointer (some (muA c.Mu)),.int .i32 dl] d)
  (g:ph.gp= .cnt) (t:0<ph.deaf)
  (h:∀φ mu ms C S W L m,φ i=ph->i<c.n->cn c.n φ mu ms C S W L m->∃mp nw,IntKind.i32.wrap (mu+dl)=nw/\(∃u v z A B,cn c.n (upd φ i {ph with mp:=mp}) nw ms u v z A B)/\ai (WJ c i) fi ops (j+1) n Q (bg a d (.int .i32 nw)) F {ph with mp:=mp}):
  ai (WJ c i) fi ops j (n+1) Q a F ph:=by
 obtain ⟨o,cz,dh,l,hg,D,E,rfl⟩:=r
 obtain ⟨x,y,rfl,G,H⟩:=qW E
 obtain ⟨fn,f1,f2,f3,f4,f5⟩:=q.ex
 refine fl l (by rw[g];simp) fun w s k φ p0 _ hs hi he p=>.inr ?_
 obtain ⟨C,S,W,L,m,hm⟩:=p.m
 obtain ⟨mp,nw,e,I,J⟩:=h φ s.mu s.ms C S W L m he hi hm
 exact ⟨.int .i32 nw,_,_,{s with mu:=nw},{ph with mp:=mp},fun b K cs hb=>by rw[<-e];exact stepG_add_atomic l (cg hg) hb.kind D f1 f2 f3 f4 .i32 f5 G H hs.mu.1 hs.mu.2,by rw[<-e];exact hs.Df aF _,.set _ (.inl rfl),p.mutex hi he g I,yD rfl Iff.rfl t (.inr ⟨rfl,g⟩),.inr dD,J⟩
theorem oN {ty:TypeId}(p:(c.P.funcs[fi]?).any (·.norace)=true)(e:c.P.underlying ty=some (.int .i32)){x:Operand}(q:nc ops j a (.load ty x) d)(f:ph.gp= .cnt)(r:ev a x= .pointer (some (muA c.Mu)))
  (h:∀φ mu ms C S W L m,φ i=ph->i<c.n->cn c.n φ mu ms C S W L m->∃mp,(∃t u v y z,cn c.n (upd φ i {ph with mp:=mp}) mu ms t u v y z)/\ai (WJ c i) fi ops (j+1) n Q (bg a d (.int .i32 mu)) F {ph with mp:=mp}):
  ai (WJ c i) fi ops j (n+1) Q a F ph:=by
 obtain ⟨o,g,hg,A,rfl⟩:=q
 refine fl g (by rw[f];simp) fun w s k φ p0 _ hs hi he l=>.inr ?_
 obtain ⟨C,S,W,L,m,hm⟩:=l.m
 obtain ⟨mp,B,D⟩:=h φ s.mu s.ms C S W L m he hi hm
 have e1:execOp a.eval o=(do pure (.value (<-loadVar ty (muA c.Mu))):Sem Next):=by
  unfold execOp
  simp only[A,ez,r]
  rfl
 have E:(execOp a.eval o).run c.P w= .ok (.value (.int .i32 s.mu)) w:=by
  rw[e1]
  have:=hs.mu.1
  simp[loadVar,isAgg,run_underlying e,this]
 have G:(execOp a.eval o).events c.P w #[]=#[⟨.cell (muA c.Mu),false,false⟩]:=by
  rw[e1]
  have:=hs.mu.1
  simp[loadVar,isAgg,run_underlying e,events_load,this]
 have H:seen c.P fi #[⟨.cell (muA c.Mu),false,false⟩]=#[]:=by rw[seen_def];simp[seenStep,p]
 refine ⟨.int .i32 s.mu,w,#[],{s with mu:=s.mu},{ph with mp:=mp},fun b I cs hb=>?_,hs,.refl _ _,l.mutex hi he f B,ng rfl Iff.rfl,.inr dD,D⟩
 rw[stepG_value g (cg hg) hb.kind E]
 unfold listed
 rw[G,hb.fn,H]
end
section
variable {c : Cy} {i : Nat} {ph : Ph} {ops : Array Oper} {j n : Nat} {Q : Act → aa → Ph → Prop} {a : Act} {F : aa} {f fi : FuncId} {d : Option Tmp}
theorem J4 (u v:Value)(A:Entry c.P f Extern.Sync.semacquire)(aF:c.Mu≠c.Wg/\c.Mu≠c.Is/\c.Wg≠c.Is)(B:At ops j a f [.pointer (some (msA c.Mu)),u,v] d)
  (e:ph.gp= .cnt) {G:Nat} (hm:ph.mp= .iC G) (h:ai (WJ c i) fi ops (j+1) n Q (bg a d (.tuple #[])) F {ph with mp:=.jN G}):ai (WJ c i) fi ops j (n+1) Q a F ph:=by
 obtain ⟨o,cz,dh,g,hg,p,D,rfl⟩:=B
 obtain ⟨x,y,z,rfl,q,_,_⟩:=qX D
 obtain ⟨fn,f1,f2,f3,f4,f5⟩:=A.ex
 refine fl g (by rw[e];simp) fun w s k φ p0 _ hs hi he r=>?_
 by_cases l:s.ms=0
 ·refine .inl ⟨by rw[hm];rfl,l,fun b E cs=>stepG_semacquire_wait g (cg hg) p f1 f2 f3 f4 f5 (ad:=msA c.Mu) (by simp[ez,q]) (by rw[hs.ms.1,l])⟩
 ·obtain ⟨C,S,W,L,m,t⟩:=r.m
  have H:=t.cnt
  refine .inr ⟨.tuple #[],_,_,{s with ms:=s.ms - 1},{ph with mp:=.jN G},fun b E cs hb=>stepG_semacquire g (cg hg) hb.kind p f1 f2 f3 f4 f5 (by simp[ez,q]) hs.ms.1 l hs.ms.2,hs.Dg aF _,.set _ (.inl rfl),
   r.mutex hi he e ⟨C,S,W,L,m - 1,Ja t hi _ (by rw[he];exact hm) rfl (by omega)⟩,yE rfl Iff.rfl (.inr ⟨rfl,e⟩),.inr ⟨by simp only;omega,Int.le_refl _⟩,h⟩
theorem Dk (u v:Value)(p:Entry c.P f Extern.Sync.semrelease)(aF:c.Mu≠c.Wg/\c.Mu≠c.Is/\c.Wg≠c.Is)(A:At ops j a f [.pointer (some (msA c.Mu)),u,v] d)
  (g:ph.gp= .cnt) (hm:ph.mp= .oC\/ph.mp= .oD) (h:ai (WJ c i) fi ops (j+1) n Q (bg a d (.tuple #[])) F {ph with mp:=.fin}):ai (WJ c i) fi ops j (n+1) Q a F ph:=by
 obtain ⟨o,cz,dh,q,hg,r,B,rfl⟩:=A
 obtain ⟨x,y,z,rfl,l,_,_⟩:=qX B
 obtain ⟨fn,f1,f2,f3,f4,f5⟩:=p.ex
 refine fl q (by rw[g];simp) fun w s k φ p0 _ hs hi he t=>.inr ?_
 obtain ⟨C,S,W,L,m,e⟩:=t.m
 have E:=e.cnt
 have hb:=e.st.w
 have G:=e.st.s
 have H:m<=1:=by
  rcases Nat.lt_or_ge S 1 with y|y
  ·have:=e.norm (by omega);omega
  ·have:=e.fS (by omega);omega
 have D:IntKind.u32.wrap (s.ms+1)=s.ms+1:=by
  unfold IntKind.wrap
  simp[IntKind.bits,IntKind.signed]
  omega
 refine ⟨.tuple #[],_,_,{s with ms:=s.ms+1},{ph with mp:=.fin},fun b I cs hb=>stepG_semrelease q (cg hg) hb.kind r f1 f2 f3 f4 f5 (by simp[ez,l]) hs.ms.1 hs.ms.2,by rw[D];exact hs.Dg aF _,.set _ (.inl rfl),
  t.mutex hi he g ⟨C,S,W,L,m+1,Jg e hi _ (by rw[he];exact hm) rfl⟩,yE rfl Iff.rfl (.inr ⟨rfl,g⟩),.inl ⟨_,r,fun x l=>?_⟩,h⟩
 cases l
 exact ⟨f,rfl,p.C6⟩
theorem Dl (l:Entry c.P f Extern.OsHooks.nano)(e:(c.P.funcs[f]?).any (·.norace)=true){vals:List Value}(m:At ops j a f vals d)
  (p:ph.gp≠ .gone) (h:∀x:Int,ai (WJ c i) fi ops (j+1) n Q (bg a d (.int .i64 x)) F ph):ai (WJ c i) fi ops j (n+1) Q a F ph:=by
 obtain ⟨o,cz,dh,g,hg,q,_,rfl⟩:=m
 obtain ⟨fn,f1,f2,f3,f4,f5⟩:=l.ex
 refine fl g p fun w s k φ p0 _ hs hi he r=>.inr ⟨_,w.later,#[],s,ph,fun b t cs hb=>stepG_nanotime g (cg hg) hb.kind q f1 f2 f3 f4 f5 (by rw[f1] at e;simpa using e),hs,⟨rfl,rfl,rfl,⟨w.tick,rfl⟩,fun _ _=>rfl⟩,oM he r,ng rfl Iff.rfl,.inr dD,h _⟩
theorem J5 (it:Int)(m:Entry c.P f Extern.Sync.canSpin)(p:At ops j a f [.int .i64 it] d)
  (q:ph.gp≠ .gone) (h:∀t:Bool,(t=true->it<4)->ai (WJ c i) fi ops (j+1) n Q (bg a d (.bool t)) F ph):ai (WJ c i) fi ops j (n+1) Q a F ph:=by
 obtain ⟨o,cz,dh,e,hg,g,r,rfl⟩:=p
 obtain ⟨x,rfl,u⟩:=jS r
 obtain ⟨fn,f1,f2,f3,f4,f5⟩:=m.ex
 have hm:(#[x]:Array Operand).map a.eval=#[.int .i64 it]:=by simp[ez,u]
 refine fl e q fun w s k φ p0 _ hs hi he l=>.inr ?_
 by_cases v:4<=it
 ·exact ⟨_,w,#[],s,ph,fun b y cs hb=>stepG_canSpin_no e (cg hg) hb.kind g f1 f2 f3 f4 f5 hm v,hs,.refl _ _,oM he l,ng rfl Iff.rfl,.inr dD,h false (by simp)⟩
 ·exact ⟨_,w.asked,#[],s,ph,fun b y cs hb=>stepG_canSpin_ask e (cg hg) hb.kind g f1 f2 f3 f4 f5 hm (by omega),hs,⟨rfl,rfl,rfl,.refl _,fun _ _=>rfl⟩,oM he l,ng rfl Iff.rfl,.inr dD,h _ (fun _=>by omega)⟩
end
theorem ai.entry {P:Program}{main:Bool}{S:Type}{JF:S->Goroutine->aa->Prop}{fi f:FuncId}{ops:Array Oper}{j n:Nat}{Q:Act->aa->S->Prop}{a:Act}{F:aa}{ph:S}{d:Option Tmp}(v:Value)(e:dR P main (JF ph))(g:Entry P f (fun _=>pure v))
  {vals:List Value} (i:At ops j a f vals d) (h:ai JF fi ops (j+1) n Q (bg a d v) F ph):ai JF fi ops j (n+1) Q a F ph:=fun b c cs hb k=>by
 obtain ⟨fn,f1,f2,f3,f4,f5⟩:=g.ex
 obtain ⟨o,cz,dh,l,hg,m,_,rfl⟩:=i
 rw[List.range'_succ,eD hb.round]
 refine e.move (fr':=b.at (a.put o.dst v) (.inRegion ops (List.range' (j+1) n)::c)) (fun w=>stepG_entry_pure v l (cg hg) hb.kind m f1 f2 f3 f4 f5) (by rw[<-eD hb.round];exact h b c cs hb k)
section
variable {c : Cy} {i : Nat} {ph : Ph} {ops : Array Oper} {j n : Nat} {Q : Act → aa → Ph → Prop} {a : Act} {F : aa} {f fi : FuncId} {d : Option Tmp}
theorem ug (ad:Addr){src dst t:TypeId}(hs:c.P.underlying src=some (.pointer t))(hd:c.P.underlying dst=some .unsafePointer)(e:(c.P.info? t).map (fun i=>decide (i.size=0))=some false){x:Operand}
  (m:nc ops j a (.convert src dst x) d) (p:ph.gp≠ .gone) (q:ev a x= .pointer (some ad)) (r:∀w s,cx c w s->∃v,w.cell? ad=some v) (h:ai (WJ c i) fi ops (j+1) n Q (bg a d (.pointer (some ad))) F ph):ai (WJ c i) fi ops j (n+1) Q a F ph:=by
 obtain ⟨o,f,hg,u,rfl⟩:=m
 refine fl f p fun w s k φ p0 _ g hi he y=>.inr ⟨_,w,#[],s,ph,fun b B cs hb=>?_,g,.refl _ _,oM he y,ng rfl Iff.rfl,.inr dD,h⟩
 obtain ⟨v,l⟩:=r w s g
 have e1:execOp a.eval o=(do pure (.value (<-convert src dst (.pointer (some ad)))):Sem Next):=by
  unfold execOp
  simp only[u,ez,q]
 have z:(execOp a.eval o).run c.P w= .ok (.value (.pointer (some ad))) w:=by
  rw[e1];simp[run_convert_to_unsafe hs hd e l]
 have A:(execOp a.eval o).events c.P w #[]=#[]:=by
  rw[e1];simp[events_convert_to_unsafe hs hd e l]
 rw[stepG_value f (cg hg) hb.kind z]
 unfold listed
 rw[A,seen_none]
theorem J6 {ty:TypeId}(J:c.P.underlying ty=some .bool)(z:bZ c.P ty=some 1)(A:(c.P.funcs[fi]?).any (·.norace)=false)(aF:c.Mu≠c.Wg/\c.Mu≠c.Is/\c.Wg≠c.Is){x y:Operand}
  (B:nc ops j a (.store ty x y) d) (e:ph.gp= .cnt) (g:ev a x= .pointer (some ⟨c.Is,i,none⟩)) (l:ev a y= .bool true) (h:ai (WJ c i) fi ops (j+1) n Q (bg a d undef) F {ph with stored:=true}):ai (WJ c i) fi ops j (n+1) Q a F ph:=by
 obtain ⟨o,p,hg,q,rfl⟩:=B
 refine fl p (by rw[e];simp) fun w s k φ p0 _ hs hi he f=>.inr ?_
 have hlen:=f.i.len
 have r:w.cell? ⟨c.Is,i,none⟩=some (.bool (s.is[i]'(by omega))):=by
  have:=hs.2.2
  simp[World.cell?,this,hlen,hi]
 have t:w.frozen? ⟨c.Is,i,none⟩=false:=by
  have:=hs.2.2
  simp[World.frozen?,this]
 have u:(sizeOf ty).run c.P w= .ok 1 w:=by
  obtain ⟨inf,e,D⟩:=Option.map_eq_some_iff.1 z
  simp[Go.sizeOf,typeInfo,e,D]
 have v:Instr.sureAddr (.pointer (some ⟨c.Is,i,none⟩))=(Pure.pure ⟨c.Is,i,none⟩:Sem Addr):=rfl
 have E:(execOp a.eval o).run c.P w= .ok .skip (w.setCell ⟨c.Is,i,none⟩ (.bool true)):=by
  unfold execOp
  simp only[q,ez,g,l]
  simp[Instr.storeAt,v,storeVar,u,Value.cells,storeCells,Addr.add,r,t,run_store c.P w ⟨c.Is,i,none⟩ (.bool true) .plain rfl,Result.andThen]
 have G:(execOp a.eval o).events c.P w #[]=#[⟨.cell ⟨c.Is,i,none⟩,true,false⟩]:=by
  unfold execOp
  simp only[q,ez,g,l]
  simp[Instr.storeAt,v,storeVar,u,Value.cells,storeCells,Addr.add,r,t,events_store c.P w _ ⟨c.Is,i,none⟩ (.bool true) .plain rfl,run_store c.P w ⟨c.Is,i,none⟩ (.bool true) .plain rfl,Result.evThen]
 have H:seen c.P fi #[⟨.cell ⟨c.Is,i,none⟩,true,false⟩]=#[⟨.cell ⟨c.Is,i,none⟩,true,false⟩]:=by rw[seen_def];simp[seenStep,A]
 obtain ⟨C,S,W,L,m,hm⟩:=f.m
 refine ⟨undef,_,_,{s with is:=s.is.set i true},{ph with stored:=true},fun b K cs hb=>?_,hs.JZ aF i true,.set _ (.inr (.inr rfl)),?_,.store rfl rfl ⟨e,e⟩,.inr dD,h⟩
 ·rw[stepG_none p (cg hg) hb.kind E]
  unfold listed
  rw[G,hb.fn,H]
 ·exact f.jP hi he (by rw[e];simp) (by simp[e]) ⟨C,S,W,L,m,m8 hm hi _ (.inl (by rw[he]))⟩ (tP f.w hi _ (.inl (by rw[he]))) rfl (fun I=>absurd e I)
end
theorem ai.shr {P:Program}{main:Bool}{S:Type}{JF:S->Goroutine->aa->Prop}{fi:FuncId}{ops:Array Oper}{j n:Nat}{Q:Act->aa->S->Prop}{a:Act}{F:aa}{ph:S}{d:Option Tmp}{t f:TypeId}{k b:IntKind}{u m:Int}(v:Int)(g:dR P main (JF ph)){x y:Operand}
  (i:nc ops j a (.binOp .shr t x y f) d) (l:ev a x= .int k u) (p:ev a y= .int b m) (hm:0<=m) (c:u.fdiv (2 ^ min m.toNat k.bits)=v) (h:ai JF fi ops (j+1) n Q (bg a d (.int k v)) F ph):ai JF fi ops j (n+1) Q a F ph:=by
 obtain ⟨o,q,hg,r,rfl⟩:=i
 have e:¬m<0:=by omega
 have e1:execOp a.eval o=(do eqGuard .shr t x y (.int k u) (.int b m);pure (.value (<-binOp .shr t (.int k u) (.int b m))):Sem Next):=by
  unfold execOp
  simp only[r,ez,l,p]
  simp
 refine ai.plain g (.int k v) q hg (fun w=>?_) (fun w=>?_) h
 ·rw[e1];subst c;simp[eqGuard,binOp,Op.shift,e]
 ·rw[e1];subst c;simp[eqGuard,binOp,Op.shift,e]
theorem ai.nh {P:Program}{main:Bool}{S:Type}{JF:S->Goroutine->aa->Prop}{fi:FuncId}{ops:Array Oper}{j n:Nat}{Q:Act->aa->S->Prop}{a:Act}{F:aa}{ph:S}{d:Option Tmp}{t b:TypeId}(u v:Int)(c:dR P main (JF ph)){x y:Operand}
  (e:nc ops j a (.binOp .shr t x y b) d) (f:ev a x= .int .i32 u) (g:ev a y= .int .u64 3) (i:u.fdiv 8=v) (h:ai JF fi ops (j+1) n Q (bg a d (.int .i32 v)) F ph):ai JF fi ops j (n+1) Q a F ph:=
 ai.shr v c e f g (by decide) i h
end Go.Sep
end
section
namespace Go.Proofs.YtpgcmoanfifglaaGreatDoor
open Go Go.Sep Go.Proofs Go.Conc
open Go.ConcN (upd upd_same)
open Go.ConcM (muA msA)
open Go.ConcR (stA smA)
set_option maxRecDepth 100000
set_option maxHeartbeats 4000000
attribute [local go_sem] Int.reduceBEq Int.reduceBNe muA msA stA smA
section
variable {Mu Wg Is n base T0 i : Nat} {bs : Nat → Bool} {st : Bool} {F : aa}
theorem yI (w:World)(s:Sh)(h:cx (CY Mu Wg Is n bs base T0) w s):∃v,w.cell? ⟨Mu,0,none⟩=some v:=⟨_,h.mu.1⟩
theorem J7 (aF:Mu≠Wg/\Mu≠Is/\Wg≠Is)
  (b:cG Tryz.prog (WJ (CY Mu Wg Is n bs base T0) i) 194 #[.pointer (some (muA Mu))] F ⟨.idle,.cnt,st,1⟩ (fun v F' aK=>v= .tuple #[]/\F'=F/\aK=⟨.held,.cnt,st,0⟩)):
  cG Tryz.prog (WJ (CY Mu Wg Is n bs base T0) i) 165 #[.pointer (some (muA Mu))] F ⟨.idle,.cnt,st,0⟩ (fun v F' aK=>v= .tuple #[]/\F'=F/\aK=⟨.held,.cnt,st,0⟩):=by
 have a:=WJ.ek (CY Mu Wg Is n bs base T0) i
 have hJ:∀ph:Ph,ph.gp= .cnt->Go.Sep.Closed Tryz.prog false (WJ (CY Mu Wg Is n bs base T0) i ph):=fun ph h=>Wk.closed (CY Mu Wg Is n bs base T0) i ph h
 refine cG.go (main:=false) a Tryz.func165 rfl Tryz.ntmps165 (by simp) fun A d hd hs=>?_
 have e:=hs 0
 clear hs
 repeat refine ay (a _) ?_
 refine c5 a ?_
 refine yG qV ⟨_,_,_,rfl,(by first|rfl|simp only[*,go_sem]),rfl,by first|(simp only[*,go_sem];done)|(simp only[*,go_sem];rfl),rfl⟩ (by simp) (by simp) ?_
 refine ai.nil a ?_;try simp only[go_sem]
 repeat refine ay (a _) ?_
 refine c5 a ?_
 refine ai.bA (hJ _ rfl) 3 (n:=1) _ rfl rfl ?_;simp only[*,go_sem]
 refine uf 0 1 tX aF ⟨_,_,_,rfl,(by first|rfl|simp only[*,go_sem]),rfl,by first|(simp only[*,go_sem];done)|(simp only[*,go_sem];rfl),rfl⟩ (by rfl) (by simp) (fun φ ms C S W L m he hi hm=>⟨.held,⟨0,0,0,1,m,I5 hm hi _ (by rw[he]) rfl rfl⟩,?_⟩) (fun φ mu ms C S W L m he hi hm f=>⟨.idle,⟨C,S,W,L,m,m8 hm hi _ (.inl (by rw[he]))⟩,?_⟩)
 ·refine ai.nil a ?_;try simp only[go_sem]
  repeat refine ay (a _) ?_
  refine cZ (a _) (by simp only[*,go_sem]) ?_
  repeat refine ay (a _) ?_
  refine cZ (a _) (by simp only[*,go_sem]) ?_
  repeat refine ay (a _) ?_
  refine c5 a ?_
  refine ua lQ ⟨_,_,_,rfl,(by first|rfl|simp only[*,go_sem]),rfl,by first|(simp only[*,go_sem];done)|(simp only[*,go_sem];rfl),rfl⟩ (by simp) (by simp) rfl ?_
  refine ai.nil a ?_;try simp only[go_sem]
  repeat refine ay (a _) ?_
  refine c5 a ?_
  refine ai.bA (hJ _ rfl) 1 (n:=2) _ rfl rfl ?_;simp only[*,go_sem]
  refine ug ⟨Mu,0,none⟩ yx lR yz ⟨_,rfl,(by first|rfl|simp only[*,go_sem]),rfl,rfl⟩ (by simp) (by simp only[*,go_sem]) yI ?_
  refine Dj tV ⟨_,_,_,rfl,(by first|rfl|simp only[*,go_sem]),rfl,by first|(simp only[*,go_sem];done)|(simp only[*,go_sem];rfl),rfl⟩ (by rfl) ?_
  refine ai.nil a ?_;try simp only[go_sem]
  refine fj ?_;try simp only[go_sem]
  exact oK rfl (by simp only[*,go_sem]) ⟨rfl,rfl,rfl⟩
 ·refine ai.nil a ?_;try simp only[go_sem]
  repeat refine ay (a _) ?_
  refine cD (a _) (by simp only[*,go_sem]) ?_
  refine cH (a _) ?_;try simp only[go_sem]
  repeat refine ay (a _) ?_
  refine c5 a ?_
  refine ai.bA (hJ _ rfl) 1 (n:=1) _ rfl rfl ?_;simp only[*,go_sem]
  refine ai.fV (a _) rfl rfl rfl Fs (by simp only[*,go_sem,muA]) b fun v F' aK c=>?_
  obtain ⟨rfl,rfl,rfl⟩:=c
  refine ai.nil a ?_
  exact lO rfl (by simp only[*,go_sem]) ⟨rfl,rfl,rfl⟩
def jl (C S W:Nat)(nw:Int)(G:Nat):Mp:=if S=1 then .oD else if 0<C/\W=0 then .gr nw G else .fin
def J8 (Mu n:Nat)(st:Bool)(F:aa)(m:Nat)(a:Act)(F':aa)(aK:Ph):Prop:=
 ∃(old:Int) (C S W L G:Nat),F'=F/\slot a 0= .pointer (some ⟨Mu,0,none⟩)/\slot a 4= .int .i32 old/\sz a=43/\a.defers=[]/\Wd old C S W L/\C<=3*n/\G<=m/\
   ((S=0/\L=0/\W=0/\0<C/\aK=⟨.gr old G,.cnt,st,1⟩)\/(¬(S=0/\L=0/\W=0/\0<C)/\aK=⟨.fin,.cnt,st,1⟩))
theorem J9 (aF:Mu≠Wg/\Mu≠Is/\Wg≠Is)(ab:n<67108864){nw:Int}{C S W G:Nat}(hw:Wd nw C S W 0)(hC:C<=3*n):
  cG Tryz.prog (WJ (CY Mu Wg Is n bs base T0) i) 196 #[.pointer (some (muA Mu)),.int .i32 nw] F ⟨jl C S W nw G,.cnt,st,1⟩ (fun v F' aK=>v= .tuple #[]/\F'=F/\aK=⟨.fin,.cnt,st,1⟩):=by
 have a:=WJ.ek (CY Mu Wg Is n bs base T0) i
 have hJ:∀ph:Ph,ph.gp= .cnt->Go.Sep.Closed Tryz.prog false (WJ (CY Mu Wg Is n bs base T0) i ph):=fun ph h=>Wk.closed (CY Mu Wg Is n bs base T0) i ph h
 refine cG.go (main:=false) a Tryz.func196 rfl Tryz.ntmps196 (by simp) fun A u hd hs=>?_
 have y:=hs 0
 have k1:=hs 1
 clear hs
 have z:=hw.st.s
 have hW:=hw.st.w
 have w1:IntKind.i32.wrap (nw+1)=nw+1:=by have e0:=hw.st.eq;exact iE (by omega) (by omega)
 have B:Wd (nw+1) C S W 1:=by have e0:=hw.st.eq;exact wd ⟨by omega,by omega,hW,z⟩ (by omega)
 have K:dQ (nw+1) 1=1:=B.a1
 repeat refine ay (a _) ?_
 refine c5 a ?_
 refine ai.bA (hJ _ rfl) 4 (n:=0) _ rfl rfl ?_;simp only[*,go_sem]
 refine ai.nil a ?_;try simp only[go_sem]
 repeat refine ay (a _) ?_
 refine cD (a _) (by simp only[*,go_sem]) ?_
 refine cH (a _) ?_;try simp only[go_sem]
 rcases (by omega:S=1\/S=0) with rfl|rfl
 ·
  have b4:dQ nw 4=4:=hw.a4
  repeat refine ay (a _) ?_
  refine c5 a ?_
  refine ai.bA (hJ _ rfl) 3 (n:=0) _ rfl rfl ?_;simp only[*,go_sem]
  refine ai.nil a ?_;try simp only[go_sem]
  repeat refine ay (a _) ?_
  refine cD (a _) (by simp only[*,go_sem]) ?_
  repeat refine ay (a _) ?_
  refine c5 a ?_
  refine ai.bA (hJ _ rfl) 3 (n:=1) _ rfl rfl ?_;simp only[*,go_sem]
  refine Dk (.bool true) (.int .i64 2) C8 aF ⟨_,_,_,rfl,(by first|rfl|simp only[*,go_sem]),rfl,by first|(simp only[*,go_sem];done)|(simp only[*,go_sem];rfl),rfl⟩ (by rfl) (by simp[jl]) ?_
  refine ai.nil a ?_;try simp only[go_sem]
  exact lO rfl (by simp only[*,go_sem]) ⟨rfl,rfl,rfl⟩
 ·have b4:dQ nw 4=0:=hw.a4
  repeat refine ay (a _) ?_
  refine c5 a ?_
  refine ai.bA (hJ _ rfl) 3 (n:=0) _ rfl rfl ?_;simp only[*,go_sem]
  refine ai.nil a ?_;try simp only[go_sem]
  repeat refine ay (a _) ?_
  refine cZ (a _) (by simp only[*,go_sem]) ?_
  repeat refine ay (a _) ?_
  refine c5 a ?_
  refine ai.bA (hJ _ rfl) 2 (n:=0) _ rfl rfl ?_;simp only[*,go_sem]
  refine ai.nil a ?_;try simp only[go_sem]
  repeat refine ay (a _) ?_
  refine jQ a ?_
  refine qU a (fun m M F' aK=>J8 Mu n st F m M F' aK) G ?_ ?_
  ·refine ⟨nw,C,0,W,0,G,rfl,by simp only[*,go_sem,muA],by simp only[*,go_sem],by simp only[*,go_sem],by simp only[*,go_sem],hw,hC,Nat.le_refl _,?_⟩
   by_cases f:0<C/\W=0
   ·exact .inl ⟨rfl,rfl,f.2,f.1,by simp[jl,f]⟩
   ·exact .inr ⟨fun x=>f ⟨x.2.2.2,x.2.2.1⟩,by simp[jl,f]⟩
  ·clear hw hC b4 K B w1 z hW y k1 u hd
   rintro m A F' aK ⟨old,C,S,W,L,G,rfl,y,ad,u,hd,hw,hC,ae,N⟩
   repeat refine ay (a _) ?_
   refine jQ a ?_
   have sh:old.fdiv 8=(C:Int):=hw.sh
   rcases N with ⟨rfl,rfl,rfl,j,rfl⟩|⟨al,rfl⟩
   ·
    have O:dQ old 7=0:=hw.a7
    have D:((C:Int)==0)=false:=by simp;omega
    repeat refine ay (a _) ?_
    refine c5 a ?_
    refine ai.bA (hJ _ rfl) 1 (n:=7) _ rfl rfl ?_;simp only[*,go_sem]
    refine ai.nh old (C:Int) (a _) ⟨_,rfl,(by first|rfl|simp only[*,go_sem]),rfl,rfl⟩ (by simp only[*,go_sem]) (by simp only[*,go_sem]) hw.sh ?_
    refine ai.bA (hJ _ rfl) 6 (n:=0) _ rfl rfl ?_;simp only[*,go_sem]
    refine ai.nil a ?_;try simp only[go_sem]
    repeat refine ay (a _) ?_
    refine cD (a _) (by simp only[*,go_sem]) ?_
    refine cH (a _) ?_;try simp only[go_sem]
    have ao:IntKind.i32.wrap (old - 8)=old - 8:=by have e0:=hw.st.eq;exact iE (by omega) (by omega)
    have P:Wd (old - 8) (C - 1) 0 0 0:=by have e0:=hw.st.eq;exact wd ⟨by omega,by omega,by omega,by omega⟩ (by omega)
    have o2:jg (old - 8) 2=old - 8+2:=P.o2
    repeat refine ay (a _) ?_
    refine c5 a ?_
    refine ai.bA (hJ _ rfl) 4 (n:=0) _ rfl rfl ?_;simp only[*,go_sem]
    refine ai.nil a ?_;try simp only[go_sem]
    repeat refine ay (a _) ?_
    refine c5 a ?_
    refine ai.bA (hJ _ rfl) 5 (n:=1) _ rfl rfl ?_;simp only[*,go_sem]
    refine uf old (old - 8+2) tX aF ⟨_,_,_,rfl,(by first|rfl|simp only[*,go_sem]),rfl,by first|(simp only[*,go_sem];done)|(simp only[*,go_sem];rfl),rfl⟩ (by rfl) (by simp) (fun φ ms Q R T U k he hi hm=>?_) (fun φ mu ms Q R T U k he hi hm V=>?_)
    ·obtain ⟨rfl,rfl,rfl,rfl⟩:=hm.st.uniq hw.st
     refine ⟨.oC,⟨_,_,_,_,k,Je hm hi _ (by rw[he]) rfl rfl rfl rfl j⟩,?_⟩
     refine ai.nil a ?_;try simp only[go_sem]
     repeat refine ay (a _) ?_
     refine cZ (a _) (by simp only[*,go_sem]) ?_
     repeat refine ay (a _) ?_
     refine c5 a ?_
     refine ai.bA (hJ _ rfl) 3 (n:=1) _ rfl rfl ?_;simp only[*,go_sem]
     refine Dk (.bool false) (.int .i64 2) C8 aF ⟨_,_,_,rfl,(by first|rfl|simp only[*,go_sem]),rfl,by first|(simp only[*,go_sem];done)|(simp only[*,go_sem];rfl),rfl⟩ (by rfl) (by simp) ?_
     refine ai.nil a ?_;try simp only[go_sem]
     refine fj ?_;try simp only[go_sem]
     exact oK rfl (by simp only[*,go_sem]) ⟨rfl,rfl,rfl⟩
    ·obtain ⟨X,ar,Y⟩:=Jf hm hi {mp:=.gr mu (bP n φ ms),gp:=.cnt,stored:=st,deaf:=1} (by rw[he]) rfl
     have a0:bP n φ ms<G:=Y V
     refine ⟨.gr mu (bP n φ ms),⟨_,_,_,_,k,X⟩,?_⟩
     refine ai.nil a ?_;try simp only[go_sem]
     repeat refine ay (a _) ?_
     refine cD (a _) (by simp only[*,go_sem]) ?_
     refine cH (a _) ?_;try simp only[go_sem]
     repeat refine ay (a _) ?_
     refine c5 a ?_
     refine ai.bA (hJ _ rfl) 3 (n:=2) _ rfl rfl ?_;simp only[*,go_sem]
     refine oN JY oL ⟨_,rfl,(by first|rfl|simp only[*,go_sem]),rfl,rfl⟩ (by rfl) (by simp only[*,go_sem]) (fun c g d l o p q E H I e=>?_)
     have J:=wd e.st (by have:=e.bound;simp only[CY] at this;omega)
     by_cases b:o=0/\q=0/\p=0/\0<l
     ·obtain ⟨r,t,_⟩:=CJ e I {mp:=.gr g (bP n c d),gp:=.cnt,stored:=st,deaf:=1} (by rw[H]) (.inl ⟨b.1,b.2.1,b.2.2.1,b.2.2.2,rfl⟩)
      have Z:bP n c d<=bP n φ ms:=t
      refine ⟨.gr g (bP n c d),⟨_,_,_,_,E,r⟩,?_⟩
      refine ai.bA (hJ _ rfl) 1 (n:=0) _ rfl rfl ?_;simp only[*,go_sem]
      refine ai.nil a ?_;try simp only[go_sem]
      exact ⟨bP n c d,by omega,g,l,o,p,q,bP n c d,rfl,(by simp only[*,go_sem]),(by simp only[*,go_sem]),(by simp only[*,go_sem]),(by simp only[*,go_sem]),J,e.bound,Nat.le_refl _,.inl ⟨b.1,b.2.1,b.2.2.1,b.2.2.2,rfl⟩⟩
     ·obtain ⟨r,t,_⟩:=CJ e I {mp:=.fin,gp:=.cnt,stored:=st,deaf:=1} (by rw[H]) (.inr ⟨b,rfl⟩)
      have Z:bP n c d<=bP n φ ms:=t
      refine ⟨.fin,⟨_,_,_,_,E,r⟩,?_⟩
      refine ai.bA (hJ _ rfl) 1 (n:=0) _ rfl rfl ?_;simp only[*,go_sem]
      refine ai.nil a ?_;try simp only[go_sem]
      exact ⟨bP n c d,by omega,g,l,o,p,q,bP n c d,rfl,(by simp only[*,go_sem]),(by simp only[*,go_sem]),(by simp only[*,go_sem]),(by simp only[*,go_sem]),J,e.bound,Nat.le_refl _,.inr ⟨b,rfl⟩⟩
   ·
    by_cases j:C=0
    ·have D:((C:Int)==0)=true:=by simp[j]
     repeat refine ay (a _) ?_
     refine c5 a ?_
     refine ai.bA (hJ _ rfl) 1 (n:=7) _ rfl rfl ?_;simp only[*,go_sem]
     refine ai.nh old (C:Int) (a _) ⟨_,rfl,(by first|rfl|simp only[*,go_sem]),rfl,rfl⟩ (by simp only[*,go_sem]) (by simp only[*,go_sem]) hw.sh ?_
     refine ai.bA (hJ _ rfl) 6 (n:=0) _ rfl rfl ?_;simp only[*,go_sem]
     refine ai.nil a ?_;try simp only[go_sem]
     repeat refine ay (a _) ?_
     refine cZ (a _) (by simp only[*,go_sem]) ?_
     refine fj ?_;try simp only[go_sem]
     exact oK rfl (by simp only[*,go_sem]) ⟨rfl,rfl,rfl⟩
    ·have D:((C:Int)==0)=false:=by simp;omega
     have O:=hw.a7
     have a2:(((4*S+(2*W+L):Nat):Int) != 0)=true:=by simp;omega
     repeat refine ay (a _) ?_
     refine c5 a ?_
     refine ai.bA (hJ _ rfl) 1 (n:=7) _ rfl rfl ?_;simp only[*,go_sem]
     refine ai.nh old (C:Int) (a _) ⟨_,rfl,(by first|rfl|simp only[*,go_sem]),rfl,rfl⟩ (by simp only[*,go_sem]) (by simp only[*,go_sem]) hw.sh ?_
     refine ai.bA (hJ _ rfl) 6 (n:=0) _ rfl rfl ?_;simp only[*,go_sem]
     refine ai.nil a ?_;try simp only[go_sem]
     repeat refine ay (a _) ?_
     refine cZ (a _) (by simp only[*,go_sem]) ?_
     refine fj ?_;try simp only[go_sem]
     exact oK rfl (by simp only[*,go_sem]) ⟨rfl,rfl,rfl⟩
theorem Ka (aF:Mu≠Wg/\Mu≠Is/\Wg≠Is)(j:n<67108864):
  cG Tryz.prog (WJ (CY Mu Wg Is n bs base T0) i) 166 #[.pointer (some (muA Mu))] F ⟨.held,.cnt,st,0⟩ (fun v F' aK=>v= .tuple #[]/\F'=F/\aK=⟨.fin,.cnt,st,0⟩):=by
 have a:=WJ.ek (CY Mu Wg Is n bs base T0) i
 have hJ:∀ph:Ph,ph.gp= .cnt->Go.Sep.Closed Tryz.prog false (WJ (CY Mu Wg Is n bs base T0) i ph):=fun ph h=>Wk.closed (CY Mu Wg Is n bs base T0) i ph h
 refine cG.go (main:=false) a Tryz.func166 rfl Tryz.ntmps166 (by simp) fun A x hd hs=>?_
 have y:=hs 0
 clear hs
 repeat refine ay (a _) ?_
 refine cZ (a _) (by simp only[*,go_sem]) ?_
 repeat refine ay (a _) ?_
 refine c5 a ?_
 refine ai.bA (hJ _ rfl) 3 (n:=1) _ rfl rfl ?_;simp only[*,go_sem]
 refine oN JX oL ⟨_,rfl,(by first|rfl|simp only[*,go_sem]),rfl,rfl⟩ (by rfl) (by simp only[*,go_sem]) (fun z B D E G H I k l o p=>⟨.held,⟨_,_,_,_,k,m8 p o _ (.inl (by rw[l]))⟩,?_⟩)
 refine ai.nil a ?_;try simp only[go_sem]
 repeat refine ay (a _) ?_
 refine c5 a ?_
 refine ai.bA (hJ _ rfl) 1 (n:=2) _ rfl rfl ?_;simp only[*,go_sem]
 refine ug ⟨Mu,0,none⟩ yx lR yz ⟨_,rfl,(by first|rfl|simp only[*,go_sem]),rfl,rfl⟩ (by simp) (by simp only[*,go_sem]) yI ?_
 refine J2 C7 ⟨_,_,_,rfl,(by first|rfl|simp only[*,go_sem]),rfl,by first|(simp only[*,go_sem];done)|(simp only[*,go_sem];rfl),rfl⟩ (by rfl) ?_
 refine ai.nil a ?_;try simp only[go_sem]
 repeat refine ay (a _) ?_
 refine c5 a ?_
 refine yG qV ⟨_,_,_,rfl,(by first|rfl|simp only[*,go_sem]),rfl,by first|(simp only[*,go_sem];done)|(simp only[*,go_sem];rfl),rfl⟩ (by simp) (by simp) ?_
 refine ai.nil a ?_;try simp only[go_sem]
 repeat refine ay (a _) ?_
 refine c5 a ?_
 refine ai.bA (hJ _ rfl) 3 (n:=2) _ rfl rfl ?_;simp only[*,go_sem]
 refine yH (-1) yu aF ⟨_,_,_,rfl,(by first|rfl|simp only[*,go_sem]),rfl,by first|(simp only[*,go_sem];done)|(simp only[*,go_sem];rfl),rfl⟩ (by rfl) (by simp) (fun φ mu ms C S W L m he hi hm=>?_)
 have q:=CI hm hi (by rw[he])
 subst q
 have hb:C<=3*n:=hm.bound
 have r:=hm.st.s
 have hW:=hm.st.w
 have d:IntKind.i32.wrap (mu+ -1)=mu - 1:=by have e0:=hm.st.eq;exact iE (by omega) (by omega)
 have g:St (mu - 1) C S W 0:=⟨by have e0:=hm.st.eq;omega,by omega,hW,r⟩
 have hw:Wd (mu - 1) C S W 0:=wd g (by omega)
 have e:cn n (upd φ i ⟨jl C S W (mu - 1) (sm n φ Mp.wt+2*m),.cnt,st,1⟩) (mu - 1) ms C S W 0 m:=by
  refine Jd hm hi _ (by rw[he]) ?_
  by_cases b:S=1
  ·exact .inl ⟨b,by simp[jl,b]⟩
  ·by_cases c:0<C/\W=0
   ·exact .inr (.inl ⟨by omega,c.1,c.2,by simp[jl,b,c]⟩)
   ·exact .inr (.inr ⟨by omega,by omega,by simp[jl,b,c]⟩)
 refine ⟨jl C S W (mu - 1) (sm n φ Mp.wt+2*m),mu - 1,d,⟨_,_,_,_,m,e⟩,?_⟩
 refine ai.bA (hJ _ rfl) 1 (n:=0) _ rfl rfl ?_;simp only[*,go_sem]
 refine ai.nil a ?_;try simp only[go_sem]
 by_cases f:mu - 1=0
 ·have e0:=g.eq
  have t:jl C S W (mu - 1) (sm n φ Mp.wt+2*m)= .fin:=by
   have:C=0:=by omega
   have:S=0:=by omega
   simp[jl, *]
  clear hw e d e0
  rw[t]
  rw[f]
  repeat refine ay (a _) ?_
  refine c5 a ?_
  refine ai.bA (hJ _ rfl) 2 (n:=0) _ rfl rfl ?_;simp only[*,go_sem]
  refine ai.nil a ?_;try simp only[go_sem]
  repeat refine ay (a _) ?_
  refine cD (a _) (by simp only[*,go_sem]) ?_
  refine cH (a _) ?_;try simp only[go_sem]
  repeat refine ay (a _) ?_
  refine c5 a ?_
  refine ua lQ ⟨_,_,_,rfl,(by first|rfl|simp only[*,go_sem]),rfl,by first|(simp only[*,go_sem];done)|(simp only[*,go_sem];rfl),rfl⟩ (by simp) (by simp) rfl ?_
  refine ai.nil a ?_;try simp only[go_sem]
  exact lO rfl (by simp only[*,go_sem]) ⟨rfl,rfl,rfl⟩
 ·have J:(mu - 1 != 0)=true:=by simpa using f
  clear e d f
  repeat refine ay (a _) ?_
  refine c5 a ?_
  refine ai.bA (hJ _ rfl) 2 (n:=0) _ rfl rfl ?_;simp only[*,go_sem]
  refine ai.nil a ?_;try simp only[go_sem]
  repeat refine ay (a _) ?_
  refine cZ (a _) (by simp only[*,go_sem]) ?_
  repeat refine ay (a _) ?_
  refine c5 a ?_
  refine ai.bA (hJ _ rfl) 2 (n:=1) _ rfl rfl ?_;simp only[*,go_sem]
  refine ai.fV (a _) rfl rfl rfl Ft (by simp only[*,go_sem,muA]) (J9 aF j hw hb) fun v F' aK u=>?_
  obtain ⟨rfl,rfl,rfl⟩:=u
  refine ai.nil a ?_;try simp only[go_sem]
  repeat refine ay (a _) ?_
  refine c5 a ?_
  refine ua lQ ⟨_,_,_,rfl,(by first|rfl|simp only[*,go_sem]),rfl,by first|(simp only[*,go_sem];done)|(simp only[*,go_sem];rfl),rfl⟩ (by simp) (by simp) rfl ?_
  refine ai.nil a ?_;try simp only[go_sem]
  exact lO rfl (by simp only[*,go_sem]) ⟨rfl,rfl,rfl⟩
end
end Go.Proofs.YtpgcmoanfifglaaGreatDoor
end
section
namespace Go.Sep
open Go Go.Conc
def uh {S:Type}(b:Act->aa->S->Prop)(Q:Ex->Act->aa->S->Prop):Ex->Act->aa->S->Prop
 | .normal,a,F,ph=>b a F ph
 |e,a,F,ph=>Q e a F ph
attribute [go_sem] uh
theorem kO {P:Program}{main:Bool}{S:Type}{JF:S->Goroutine->aa->Prop}{fi:FuncId}{Q:Ex->Act->aa->S->Prop}{a:Act}{F:aa}{ph:S}(c:∀ph,dR P main (JF ph)){x y:Code}(b:Act->aa->S->Prop)
  (d:cO JF fi x (uh b Q) a F ph) (f:∀a F ph,b a F ph->cO JF fi y Q a F ph):cO JF fi (.seq x y) Q a F ph:=
 ay (c _) (d.mono fun e a F ph h=>by
  cases e with
  |normal=>exact f a F ph h
  |exit i=>exact h
  |ret=>exact h)
theorem uj {P:Program}{main:Bool}{S:Type}{JF:S->Goroutine->aa->Prop}{fi:FuncId}{Q:Ex->Act->aa->S->Prop}{a:Act}{F:aa}{ph:S}(f:∀ph,dR P main (JF ph)){x:Code}(b:Act->aa->S->Prop)
  (c:cO JF fi x (uh b Q) a F ph) (d:∀a F ph,b a F ph->Q .normal a F ph):cO JF fi x Q a F ph:=
 c.mono fun e a F ph h=>by
  cases e with
  |normal=>exact d a F ph h
  |exit i=>exact h
  |ret=>exact h
theorem aZ {P:Program}{main:Bool}{S:Type}{JF:S->Goroutine->aa->Prop}{fi:FuncId}{Q:Ex->Act->aa->S->Prop}{a:Act}{F:aa}{ph:S}(b:∀ph,dR P main (JF ph)){id:Nat}{ops:Array Oper}
  (h:∀K:Act->aa->S->Prop,(∀a F ph,Q .normal a F ph->K a F ph)->ai JF fi ops 0 ops.size K a F ph):cO JF fi (.region id ops false) Q a F ph:=c5 b (h _ fun _ _ _ h=>h)
theorem ey {S:Type}{b:Act->aa->S->Prop}{Q:Ex->Act->aa->S->Prop}{a:Act}{F:aa}{ph:S}(h:b a F ph):uh b Q .normal a F ph:=h
theorem ja {S:Type}{I:Nat->Act->aa->S->Prop}{n:Nat}{Q:Ex->Act->aa->S->Prop}{a:Act}{F:aa}{ph:S}(h:∃m,m<n/\I m a F ph):yq I n Q .normal a F ph:=h
theorem Kb {x:Int}(a: -9223372036854775808<=x)(b:x<9223372036854775808):IntKind.i64.wrap x=x:=by
 unfold IntKind.wrap;simp[IntKind.bits,IntKind.signed];omega
end Go.Sep
namespace Go.Proofs.YtpgcmoanfifglaaGreatDoor
open Go Go.Sep Go.Proofs Go.Conc
open Go.ConcN (upd upd_same)
open Go.ConcM (muA msA)
open Go.ConcR (stA smA)
set_option maxRecDepth 100000
set_option maxHeartbeats 8000000
set_option linter.all false
attribute [local go_sem] Int.reduceBEq Int.reduceBNe muA msA stA smA
def uk (Mu n:Nat)(st:Bool)(F:aa)(m:Nat)(a:Act)(F':aa)(ph:Ph):Prop:=
 ∃(wt it old:Int) (sv aw:Bool) (C S W L G:Nat),F'=F/\slot a 0= .pointer (some ⟨Mu,0,none⟩)/\slot a 2= .int .i64 wt/\slot a 3= .bool sv/\slot a 4= .bool aw/\slot a 5= .int .i64 it/\slot a 6= .int .i32 old/\sz a=139/\a.defers=[]/\
  Wd old C S W L/\C<=3*n/\0<=it/\it<=4/\(sv=true->aw=true)/\(aw=true->S=0/\W=1)/\8*G+(5 - it).toNat<=m/\ph=⟨.want aw old G,.cnt,st,1⟩
def um (Mu:Nat)(st:Bool)(F:aa)(a:Act)(F':aa)(ph:Ph):Prop:=F'=F/\slot a 0= .pointer (some ⟨Mu,0,none⟩)/\sz a=139/\a.defers=[]/\ph=⟨.held,.cnt,st,1⟩
def Kc (Mu:Nat)(st:Bool)(F:aa)(wt it:Int)(sv:Bool)(G:Nat)(a:Act)(F':aa)(ph:Ph):Prop:=
 ∃(aw:Bool) (o:Int) (b:Nat),F'=F/\slot a 0= .pointer (some ⟨Mu,0,none⟩)/\slot a 2= .int .i64 wt/\slot a 3= .bool sv/\slot a 4= .bool aw/\slot a 5= .int .i64 it/\sz a=139/\a.defers=[]/\(sv=true->aw=true)/\b<=G/\ph=⟨.want aw o b,.cnt,st,1⟩
def qY (Mu:Nat)(st:Bool)(F:aa)(wt it old:Int)(x:Option Int)(sv aw:Bool)(G:Nat)(a:Act)(F':aa)(ph:Ph):Prop:=
 F'=F/\slot a 0= .pointer (some ⟨Mu,0,none⟩)/\slot a 2= .int .i64 wt/\slot a 3= .bool sv/\slot a 4= .bool aw/\slot a 5= .int .i64 it/\slot a 6= .int .i32 old/\(∀y,x=some y->slot a 7= .int .i32 y)/\sz a=139/\a.defers=[]/\ph=⟨.want aw old G,.cnt,st,1⟩
def Dm (Mu:Nat)(st:Bool)(F:aa)(sv:Bool)(mp:Mp)(a:Act)(F':aa)(ph:Ph):Prop:=
 ∃wt:Int,F'=F/\slot a 0= .pointer (some ⟨Mu,0,none⟩)/\slot a 2= .int .i64 wt/\slot a 3= .bool sv/\sz a=139/\a.defers=[]/\ph=⟨mp,.cnt,st,1⟩
def Dn (Mu:Nat)(st:Bool)(F:aa)(mp:Mp)(a:Act)(F':aa)(ph:Ph):Prop:=
 ∃(wt:Int) (sv:Bool),F'=F/\slot a 0= .pointer (some ⟨Mu,0,none⟩)/\slot a 2= .int .i64 wt/\slot a 3= .bool sv/\sz a=139/\a.defers=[]/\ph=⟨mp,.cnt,st,1⟩
def Ke (Mu:Nat)(st:Bool)(F:aa)(y:Bool)(a:Act)(F':aa)(ph:Ph):Prop:=
 ∃e:Bool,F'=F/\slot a 0= .pointer (some ⟨Mu,0,none⟩)/\slot a 9= .int .i32 (-7)/\slot a 123= .bool e/\sz a=139/\a.defers=[]/\(e=false->y=true)/\ph=⟨.kL y,.cnt,st,1⟩
section
variable {Mu Wg Is n base T0 i : Nat} {bs : Nat → Bool} {st : Bool} {F : aa}
theorem Kf (aF:Mu≠Wg/\Mu≠Is/\Wg≠Is)(eQ:n<67108864):
  cG Tryz.prog (WJ (CY Mu Wg Is n bs base T0) i) 194 #[.pointer (some (muA Mu))] F ⟨.idle,.cnt,st,1⟩ (fun v F' aK=>v= .tuple #[]/\F'=F/\aK=⟨.held,.cnt,st,0⟩):=by
 have a:=WJ.ek (CY Mu Wg Is n bs base T0) i
 have hJ:∀ph:Ph,ph.gp= .cnt->Go.Sep.Closed Tryz.prog false (WJ (CY Mu Wg Is n bs base T0) i ph):=fun ph h=>Wk.closed (CY Mu Wg Is n bs base T0) i ph h
 refine cG.go (main:=false) a Tryz.func194 rfl Tryz.ntmps194 (by simp) fun A d hd hs=>?_
 have f:=hs 0
 clear hs
 repeat refine ay (a _) ?_
 refine aZ a fun K b=>?_
 refine ai.bA (hJ _ rfl) 1 (n:=0) _ rfl rfl ?_;simp only[*,go_sem,-b,-a,-hJ]
 refine ai.nil a (b _ _ _ ?_);clear b K
 repeat refine ay (a _) ?_
 refine aZ a fun K b=>?_
 refine ai.bA (hJ _ rfl) 1 (n:=0) _ rfl rfl ?_;simp only[*,go_sem,-b,-a,-hJ]
 refine ai.nil a (b _ _ _ ?_);clear b K
 repeat refine ay (a _) ?_
 refine aZ a fun K b=>?_
 refine ai.bA (hJ _ rfl) 1 (n:=0) _ rfl rfl ?_;simp only[*,go_sem,-b,-a,-hJ]
 refine ai.nil a (b _ _ _ ?_);clear b K
 repeat refine ay (a _) ?_
 refine aZ a fun K b=>?_
 refine ai.bA (hJ _ rfl) 1 (n:=0) _ rfl rfl ?_;simp only[*,go_sem,-b,-a,-hJ]
 refine ai.nil a (b _ _ _ ?_);clear b K
 repeat refine ay (a _) ?_
 refine aZ a fun K b=>?_
 refine ai.bA (hJ _ rfl) 3 (n:=2) _ rfl rfl ?_;simp only[*,go_sem,-b,-a,-hJ]
 refine oN tY oL ⟨_,rfl,(by first|(simp only[*,go_sem,-b,-a,-hJ];done)|rfl),rfl,rfl⟩ (by rfl) (by simp only[*,go_sem,-b,-a,-hJ]) (fun φ mu ms C S W L m he hi hm=>⟨.want false mu (bP n φ ms),⟨_,_,_,_,m,I6 hm hi _ (by rw[he]) rfl⟩,?_⟩)
 have hw:=wd hm.st (by have:C<=3*n:=hm.bound;omega)
 have hC:C<=3*n:=hm.bound
 refine ai.bA (hJ _ rfl) 1 (n:=0) _ rfl rfl ?_;simp only[*,go_sem,-b,-a,-hJ]
 refine ai.nil a (b _ _ _ ?_);clear b K
 refine kO a (um Mu st F) ?_ ?_
 ·repeat refine ay (a _) ?_
  refine jQ a ?_
  refine qU a (uk Mu n st F) (8*bP n φ ms+5) ?_ ?_
  ·exact ⟨0,0,mu,false,false,C,S,W,L,bP n φ ms,rfl,(by simp only[*,go_sem,-a,-hJ]),(by simp only[*,go_sem,-a,-hJ]),(by simp only[*,go_sem,-a,-hJ]),(by simp only[*,go_sem,-a,-hJ]),(by simp only[*,go_sem,-a,-hJ]),(by simp only[*,go_sem,-a,-hJ]),(by simp only[*,go_sem,-a,-hJ]),(by simp only[*,go_sem,-a,-hJ]),hw,hC,by omega,by omega,by simp,by simp,by simp,rfl⟩
  ·clear hw hC hm hi he d hd f
   rintro m A F' aK ⟨wt,it,old,sv,aw,C,S,W,L,G,rfl,f,k,o,z,D,I,d,hd,hw,hC,eS,e3,V,X,fa,rfl⟩
   have cS:S=0\/S=1:=by have:=hw.st.s;omega
   have a7:L=0\/L=1:=by have:=hw.st.l;omega
   have bd:W=0\/W=1:=by have:=hw.st.w;omega
   repeat refine ay (a _) ?_
   refine jQ a ?_
   refine kO a (qY Mu st F' wt it old none sv aw G) ?_ ?_
   ·
    by_cases Y:S=0/\L=1
    ·obtain ⟨rfl,rfl⟩:=Y
     have b5:dQ old 5=1:=hw.a5
     repeat refine ay (a _) ?_
     refine aZ a fun K b=>?_
     refine ai.bA (hJ _ rfl) 5 (n:=2) _ rfl rfl ?_;simp only[*,go_sem,-b,-a,-hJ]
     refine J5 it JN ⟨_,_,_,rfl,(by first|(simp only[*,go_sem,-b,-a,-hJ];done)|rfl),rfl,by first|(simp only[*,go_sem,-b,-a,-hJ];done)|(simp only[*,go_sem,-b,-a,-hJ];rfl),rfl⟩ (by simp) fun t ht=>?_
     refine ai.bA (hJ _ rfl) 1 (n:=0) _ rfl rfl ?_;simp only[*,go_sem,-b,-a,-hJ]
     refine ai.nil a (b _ _ _ ?_);clear b K
     cases t
     ·repeat refine ay (a _) ?_
      refine cD (a _) (by simp only[*,go_sem,-a,-hJ]) ?_
      refine cH (a _) ?_
      exact ey ⟨rfl,(by simp only[*,go_sem,-a,-hJ]),(by simp only[*,go_sem,-a,-hJ]),(by simp only[*,go_sem,-a,-hJ]),(by simp only[*,go_sem,-a,-hJ]),(by simp only[*,go_sem,-a,-hJ]),(by simp only[*,go_sem,-a,-hJ]),by simp,(by simp only[*,go_sem,-a,-hJ]),(by simp only[*,go_sem,-a,-hJ]),rfl⟩
     ·have fb:=ht rfl
      repeat refine ay (a _) ?_
      refine cZ (a _) (by simp only[*,go_sem,-a,-hJ]) ?_
      refine kO a (Kc Mu st F' wt it sv G) ?_ ?_
      ·cases aw
       ·obtain rfl:sv=false:=by cases sv<;>simp_all
        rcases bd with rfl|rfl
        ·have b2:dQ old 2=0:=hw.a2
         by_cases dC:C=0
         ·have br:((C:Int) != 0)=false:=by simp[dC]
          repeat refine ay (a _) ?_
          refine aZ a fun K b=>?_
          refine ai.bA (hJ _ rfl) 9 (n:=12) _ rfl rfl ?_;simp only[*,go_sem,-b,-a,-hJ]
          refine ai.nh old (C:Int) (a _) ⟨_,rfl,(by first|(simp only[*,go_sem,-b,-a,-hJ];done)|rfl),rfl,rfl⟩ (by simp only[*,go_sem,-b,-a,-hJ]) (by simp only[*,go_sem,-b,-a,-hJ]) hw.sh ?_
          refine ai.bA (hJ _ rfl) 11 (n:=0) _ rfl rfl ?_;simp only[*,go_sem,-b,-a,-hJ]
          refine ai.nil a (b _ _ _ ?_);clear b K
          repeat refine ay (a _) ?_
          refine cD (a _) (by simp only[*,go_sem,-a,-hJ]) ?_
          refine cH (a _) ?_
          exact ey ⟨false,old,G,rfl,(by simp only[*,go_sem,-a,-hJ]),(by simp only[*,go_sem,-a,-hJ]),(by simp only[*,go_sem,-a,-hJ]),(by simp only[*,go_sem,-a,-hJ]),(by simp only[*,go_sem,-a,-hJ]),(by simp only[*,go_sem,-a,-hJ]),(by simp only[*,go_sem,-a,-hJ]),by simp,Nat.le_refl _,rfl⟩
         ·have br:((C:Int) != 0)=true:=by simp;omega
          have o2:jg old 2=old+2:=hw.o2
          repeat refine ay (a _) ?_
          refine aZ a fun K b=>?_
          refine ai.bA (hJ _ rfl) 9 (n:=12) _ rfl rfl ?_;simp only[*,go_sem,-b,-a,-hJ]
          refine ai.nh old (C:Int) (a _) ⟨_,rfl,(by first|(simp only[*,go_sem,-b,-a,-hJ];done)|rfl),rfl,rfl⟩ (by simp only[*,go_sem,-b,-a,-hJ]) (by simp only[*,go_sem,-b,-a,-hJ]) hw.sh ?_
          refine ai.bA (hJ _ rfl) 9 (n:=2) _ rfl rfl ?_;simp only[*,go_sem,-b,-a,-hJ]
          refine uf old (old+2) tX aF ⟨_,_,_,rfl,(by first|(simp only[*,go_sem,-b,-a,-hJ];done)|rfl),rfl,by first|(simp only[*,go_sem,-b,-a,-hJ];done)|(simp only[*,go_sem,-b,-a,-hJ];rfl),rfl⟩ (by rfl) (by simp) (fun φ ms bz ao bS Z p he hi hm=>?_) (fun φ mu ms bz ao bS Z p he hi hm dd=>?_)
          ·obtain ⟨rfl,rfl,rfl,rfl⟩:=hm.st.uniq hw.st
           refine ⟨.want true old G,⟨_,_,_,_,p,I7 hm hi _ (by rw[he]) rfl rfl rfl rfl rfl⟩,?_⟩
           refine ai.bA (hJ _ rfl) 1 (n:=0) _ rfl rfl ?_;simp only[*,go_sem,-b,-a,-hJ]
           refine ai.nil a (b _ _ _ ?_);clear b K
           repeat refine ay (a _) ?_
           refine cZ (a _) (by simp only[*,go_sem,-a,-hJ]) ?_
           repeat refine ay (a _) ?_
           refine aZ a fun K b=>?_
           refine ai.bA (hJ _ rfl) 1 (n:=0) _ rfl rfl ?_;simp only[*,go_sem,-b,-a,-hJ]
           refine ai.nil a (b _ _ _ ?_);clear b K
           exact ey ⟨true,old,G,rfl,(by simp only[*,go_sem,-a,-hJ]),(by simp only[*,go_sem,-a,-hJ]),(by simp only[*,go_sem,-a,-hJ]),(by simp only[*,go_sem,-a,-hJ]),(by simp only[*,go_sem,-a,-hJ]),(by simp only[*,go_sem,-a,-hJ]),(by simp only[*,go_sem,-a,-hJ]),by simp,Nat.le_refl _,rfl⟩
          ·obtain ⟨J,a8,bj⟩:=tN hm hi {mp:=.want false mu (bP n φ ms),gp:=.cnt,stored:=st,deaf:=1} (by rw[he]) rfl
           refine ⟨.want false mu (bP n φ ms),⟨_,_,_,_,p,J⟩,?_⟩
           refine ai.bA (hJ _ rfl) 1 (n:=0) _ rfl rfl ?_;simp only[*,go_sem,-b,-a,-hJ]
           refine ai.nil a (b _ _ _ ?_);clear b K
           repeat refine ay (a _) ?_
           refine cD (a _) (by simp only[*,go_sem,-a,-hJ]) ?_
           refine cH (a _) ?_
           exact ey ⟨false,mu,bP n φ ms,rfl,(by simp only[*,go_sem,-a,-hJ]),(by simp only[*,go_sem,-a,-hJ]),(by simp only[*,go_sem,-a,-hJ]),(by simp only[*,go_sem,-a,-hJ]),(by simp only[*,go_sem,-a,-hJ]),(by simp only[*,go_sem,-a,-hJ]),(by simp only[*,go_sem,-a,-hJ]),by simp,a8,rfl⟩
        ·have b2:dQ old 2=2:=hw.a2
         repeat refine ay (a _) ?_
         refine aZ a fun K b=>?_
         refine ai.bA (hJ _ rfl) 21 (n:=0) _ rfl rfl ?_;simp only[*,go_sem,-b,-a,-hJ]
         refine ai.nil a (b _ _ _ ?_);clear b K
         repeat refine ay (a _) ?_
         refine cD (a _) (by simp only[*,go_sem,-a,-hJ]) ?_
         refine cH (a _) ?_
         exact ey ⟨false,old,G,rfl,(by simp only[*,go_sem,-a,-hJ]),(by simp only[*,go_sem,-a,-hJ]),(by simp only[*,go_sem,-a,-hJ]),(by simp only[*,go_sem,-a,-hJ]),(by simp only[*,go_sem,-a,-hJ]),(by simp only[*,go_sem,-a,-hJ]),(by simp only[*,go_sem,-a,-hJ]),by simp,Nat.le_refl _,rfl⟩
       ·repeat refine ay (a _) ?_
        refine aZ a fun K b=>?_
        refine ai.bA (hJ _ rfl) 21 (n:=0) _ rfl rfl ?_;simp only[*,go_sem,-b,-a,-hJ]
        refine ai.nil a (b _ _ _ ?_);clear b K
        repeat refine ay (a _) ?_
        refine cD (a _) (by simp only[*,go_sem,-a,-hJ]) ?_
        refine cH (a _) ?_
        exact ey ⟨true,old,G,rfl,(by simp only[*,go_sem,-a,-hJ]),(by simp only[*,go_sem,-a,-hJ]),(by simp only[*,go_sem,-a,-hJ]),(by simp only[*,go_sem,-a,-hJ]),(by simp only[*,go_sem,-a,-hJ]),(by simp only[*,go_sem,-a,-hJ]),(by simp only[*,go_sem,-a,-hJ]),by simp,Nat.le_refl _,rfl⟩
      ·clear f k o z D I d hd b5
       rintro A c ab ⟨bk,o2,dE,rfl,f,k,o,z,D,d,hd,dT,fg,rfl⟩
       have fi:IntKind.i64.wrap (it+1)=it+1:=Kb (by omega) (by omega)
       repeat refine ay (a _) ?_
       refine aZ a fun K b=>?_
       refine ai.entry _ (a _) JO ⟨_,_,_,rfl,(by first|(simp only[*,go_sem,-b,-a,-hJ];done)|rfl),rfl,by first|(simp only[*,go_sem,-b,-a,-hJ];done)|(simp only[*,go_sem,-b,-a,-hJ];rfl),rfl⟩ ?_
       refine ai.nil a (b _ _ _ ?_);clear b K
       repeat refine ay (a _) ?_
       refine aZ a fun K b=>?_
       refine ai.bA (hJ _ rfl) 3 (n:=0) _ rfl rfl ?_;simp only[*,go_sem,-b,-a,-hJ]
       refine ai.nil a (b _ _ _ ?_);clear b K
       repeat refine ay (a _) ?_
       refine aZ a fun K b=>?_
       refine ai.bA (hJ _ rfl) 3 (n:=2) _ rfl rfl ?_;simp only[*,go_sem,-b,-a,-hJ]
       refine oN tY oL ⟨_,rfl,(by first|(simp only[*,go_sem,-b,-a,-hJ];done)|rfl),rfl,rfl⟩ (by rfl) (by simp only[*,go_sem,-b,-a,-hJ]) (fun φ mu ms P al bl b0 b1 he hi hm=>?_)
       obtain ⟨J,a8,bj⟩:=tN hm hi {mp:=.want bk mu (bP n φ ms),gp:=.cnt,stored:=st,deaf:=1} (by rw[he]) rfl
       have ad:=wd hm.st (by have:P<=3*n:=hm.bound;omega)
       have a9:P<=3*n:=hm.bound
       have ca:bP n φ ms<=dE:=a8
       have cb:bk=true->al=0/\bl=1:=fun e=>by subst e;exact CG hm hi (by rw[he])
       refine ⟨.want bk mu (bP n φ ms),⟨_,_,_,_,b1,J⟩,?_⟩
       refine ai.bA (hJ _ rfl) 1 (n:=0) _ rfl rfl ?_;simp only[*,go_sem,-b,-a,-hJ]
       refine ai.nil a (b _ _ _ ?_);clear b K
       refine oJ ?_
       change ∃p,p<m/\uk Mu n st c p _ _ _
       exact ⟨8*bP n φ ms+(5 - (it+1)).toNat,by omega,wt,it+1,mu,sv,bk,P,al,bl,b0,bP n φ ms,rfl,(by simp only[*,go_sem,-a,-hJ]),(by simp only[*,go_sem,-a,-hJ]),(by simp only[*,go_sem,-a,-hJ]),(by simp only[*,go_sem,-a,-hJ]),(by simp only[*,go_sem,-a,-hJ]),(by simp only[*,go_sem,-a,-hJ]),(by simp only[*,go_sem,-a,-hJ]),(by simp only[*,go_sem,-a,-hJ]),ad,a9,by omega,by omega,dT,cb,Nat.le_refl _,rfl⟩
    ·have b5:=hw.a5
     have cd:(((4*S+L:Nat):Int)==1)=false:=by simp;omega
     repeat refine ay (a _) ?_
     refine aZ a fun K b=>?_
     refine ai.bA (hJ _ rfl) 7 (n:=0) _ rfl rfl ?_;simp only[*,go_sem,-b,-a,-hJ]
     refine ai.nil a (b _ _ _ ?_);clear b K
     repeat refine ay (a _) ?_
     refine cD (a _) (by simp only[*,go_sem,-a,-hJ]) ?_
     refine cH (a _) ?_
     exact ey ⟨rfl,(by simp only[*,go_sem,-a,-hJ]),(by simp only[*,go_sem,-a,-hJ]),(by simp only[*,go_sem,-a,-hJ]),(by simp only[*,go_sem,-a,-hJ]),(by simp only[*,go_sem,-a,-hJ]),(by simp only[*,go_sem,-a,-hJ]),by simp,(by simp only[*,go_sem,-a,-hJ]),(by simp only[*,go_sem,-a,-hJ]),rfl⟩
   ·clear f k o z D I d hd
    rintro A c ab ⟨rfl,f,k,o,z,D,I,q,d,hd,rfl⟩
    clear q
    repeat refine ay (a _) ?_
    refine aZ a fun K b=>?_
    refine ai.bA (hJ _ rfl) 2 (n:=0) _ rfl rfl ?_;simp only[*,go_sem,-b,-a,-hJ]
    refine ai.nil a (b _ _ _ ?_);clear b K
    obtain ⟨Q,j,r⟩:∃Q:Int,(S=0->Q=old+1 - L)/\(S=1->Q=old):=⟨if S=0 then old+1 - L else old,fun e=>by simp[e],fun e=>by simp[e]⟩
    refine kO a (qY Mu st c wt it old (some Q) sv aw G) ?_ ?_
    ·rcases cS with rfl|rfl
     ·have b4:dQ old 4=0:=hw.a4
      have o1:jg old 1=Q:=by rw[j rfl,hw.o1];omega
      clear j r
      repeat refine ay (a _) ?_
      refine aZ a fun K b=>?_
      refine ai.bA (hJ _ rfl) 3 (n:=0) _ rfl rfl ?_;simp only[*,go_sem,-b,-a,-hJ]
      refine ai.nil a (b _ _ _ ?_);clear b K
      repeat refine ay (a _) ?_
      refine cZ (a _) (by simp only[*,go_sem,-a,-hJ]) ?_
      repeat refine ay (a _) ?_
      refine aZ a fun K b=>?_
      refine ai.bA (hJ _ rfl) 3 (n:=0) _ rfl rfl ?_;simp only[*,go_sem,-b,-a,-hJ]
      refine ai.nil a (b _ _ _ ?_);clear b K
      exact ey ⟨rfl,(by simp only[*,go_sem,-a,-hJ]),(by simp only[*,go_sem,-a,-hJ]),(by simp only[*,go_sem,-a,-hJ]),(by simp only[*,go_sem,-a,-hJ]),(by simp only[*,go_sem,-a,-hJ]),(by simp only[*,go_sem,-a,-hJ]),fun y g=>by cases g;simp only[*,go_sem,-a,-hJ],(by simp only[*,go_sem,-a,-hJ]),(by simp only[*,go_sem,-a,-hJ]),rfl⟩
     ·have b4:dQ old 4=4:=hw.a4
      obtain rfl:=r rfl
      clear j r
      repeat refine ay (a _) ?_
      refine aZ a fun K b=>?_
      refine ai.bA (hJ _ rfl) 3 (n:=0) _ rfl rfl ?_;simp only[*,go_sem,-b,-a,-hJ]
      refine ai.nil a (b _ _ _ ?_);clear b K
      repeat refine ay (a _) ?_
      refine cD (a _) (by simp only[*,go_sem,-a,-hJ]) ?_
      refine cH (a _) ?_
      exact ey ⟨rfl,(by simp only[*,go_sem,-a,-hJ]),(by simp only[*,go_sem,-a,-hJ]),(by simp only[*,go_sem,-a,-hJ]),(by simp only[*,go_sem,-a,-hJ]),(by simp only[*,go_sem,-a,-hJ]),(by simp only[*,go_sem,-a,-hJ]),fun y g=>by cases g;simp only[*,go_sem,-a,-hJ],(by simp only[*,go_sem,-a,-hJ]),(by simp only[*,go_sem,-a,-hJ]),rfl⟩
    clear f k o z D I d hd
    rintro A c ab ⟨rfl,f,k,o,z,D,I,q,d,hd,rfl⟩
    replace q:=q _ rfl
    obtain ⟨R,x,E⟩:∃R:Int,(S=1\/L=1->R=Q+8)/\(S=0->L=0->R=Q):=⟨if S=1\/L=1 then Q+8 else Q,fun e=>by simp[e],fun e cf=>by simp[e,cf]⟩
    refine kO a (qY Mu st c wt it old (some R) sv aw G) ?_ ?_
    ·by_cases Y:S=1\/L=1
     ·have b5:=hw.a5
      have cd:(((4*S+L:Nat):Int) != 0)=true:=by simp;omega
      have fo:IntKind.i32.wrap (Q+8)=R:=by
       have e0:=hw.st.eq
       rw[x Y]
       refine iE ?_ ?_<;>rcases cS with rfl|rfl<;>first|(have:=j rfl;omega)|(have:=r rfl;omega)
      clear j r x E Y
      repeat refine ay (a _) ?_
      refine aZ a fun K b=>?_
      refine ai.bA (hJ _ rfl) 3 (n:=0) _ rfl rfl ?_;simp only[*,go_sem,-b,-a,-hJ]
      refine ai.nil a (b _ _ _ ?_);clear b K
      repeat refine ay (a _) ?_
      refine cZ (a _) (by simp only[*,go_sem,-a,-hJ]) ?_
      repeat refine ay (a _) ?_
      refine aZ a fun K b=>?_
      refine ai.bA (hJ _ rfl) 3 (n:=0) _ rfl rfl ?_;simp only[*,go_sem,-b,-a,-hJ]
      refine ai.nil a (b _ _ _ ?_);clear b K
      exact ey ⟨rfl,(by simp only[*,go_sem,-a,-hJ]),(by simp only[*,go_sem,-a,-hJ]),(by simp only[*,go_sem,-a,-hJ]),(by simp only[*,go_sem,-a,-hJ]),(by simp only[*,go_sem,-a,-hJ]),(by simp only[*,go_sem,-a,-hJ]),fun y g=>by cases g;simp only[*,go_sem,-a,-hJ],(by simp only[*,go_sem,-a,-hJ]),(by simp only[*,go_sem,-a,-hJ]),rfl⟩
     ·obtain rfl:S=0:=by omega
      obtain rfl:L=0:=by omega
      have b5:dQ old 5=0:=hw.a5
      obtain rfl:=E rfl rfl
      clear j r x E Y
      repeat refine ay (a _) ?_
      refine aZ a fun K b=>?_
      refine ai.bA (hJ _ rfl) 3 (n:=0) _ rfl rfl ?_;simp only[*,go_sem,-b,-a,-hJ]
      refine ai.nil a (b _ _ _ ?_);clear b K
      repeat refine ay (a _) ?_
      refine cD (a _) (by simp only[*,go_sem,-a,-hJ]) ?_
      refine cH (a _) ?_
      exact ey ⟨rfl,(by simp only[*,go_sem,-a,-hJ]),(by simp only[*,go_sem,-a,-hJ]),(by simp only[*,go_sem,-a,-hJ]),(by simp only[*,go_sem,-a,-hJ]),(by simp only[*,go_sem,-a,-hJ]),(by simp only[*,go_sem,-a,-hJ]),fun y g=>by cases g;simp only[*,go_sem,-a,-hJ],(by simp only[*,go_sem,-a,-hJ]),(by simp only[*,go_sem,-a,-hJ]),rfl⟩
    clear f k o z D I q d hd
    rintro A c ab ⟨rfl,f,k,o,z,D,I,q,d,hd,rfl⟩
    replace q:=q _ rfl
    obtain ⟨M,N,u⟩:∃M:Int,(sv=true->L=1->M=R+4)/\(¬(sv=true/\L=1)->M=R):=⟨if sv=true/\L=1 then R+4 else R,fun e cf=>by simp[e,cf],fun e=>by simp[e]⟩
    refine kO a (qY Mu st c wt it old (some M) sv aw G) ?_ ?_
    ·cases sv
     ·obtain rfl:=u (by simp)
      clear j r x E N u
      repeat refine ay (a _) ?_
      refine aZ a fun K b=>?_
      refine ai.bA (hJ _ rfl) 6 (n:=0) _ rfl rfl ?_;simp only[*,go_sem,-b,-a,-hJ]
      refine ai.nil a (b _ _ _ ?_);clear b K
      repeat refine ay (a _) ?_
      refine cD (a _) (by simp only[*,go_sem,-a,-hJ]) ?_
      refine cH (a _) ?_
      exact ey ⟨rfl,(by simp only[*,go_sem,-a,-hJ]),(by simp only[*,go_sem,-a,-hJ]),(by simp only[*,go_sem,-a,-hJ]),(by simp only[*,go_sem,-a,-hJ]),(by simp only[*,go_sem,-a,-hJ]),(by simp only[*,go_sem,-a,-hJ]),fun y g=>by cases g;simp only[*,go_sem,-a,-hJ],(by simp only[*,go_sem,-a,-hJ]),(by simp only[*,go_sem,-a,-hJ]),rfl⟩
     ·obtain rfl:aw=true:=V rfl
      rcases a7 with rfl|rfl
      ·have ea:dQ old 1=0:=hw.a1
       obtain rfl:=u (by simp)
       clear j r x E N u
       repeat refine ay (a _) ?_
       refine aZ a fun K b=>?_
       refine ai.bA (hJ _ rfl) 6 (n:=0) _ rfl rfl ?_;simp only[*,go_sem,-b,-a,-hJ]
       refine ai.nil a (b _ _ _ ?_);clear b K
       repeat refine ay (a _) ?_
       refine cD (a _) (by simp only[*,go_sem,-a,-hJ]) ?_
       refine cH (a _) ?_
       exact ey ⟨rfl,(by simp only[*,go_sem,-a,-hJ]),(by simp only[*,go_sem,-a,-hJ]),(by simp only[*,go_sem,-a,-hJ]),(by simp only[*,go_sem,-a,-hJ]),(by simp only[*,go_sem,-a,-hJ]),(by simp only[*,go_sem,-a,-hJ]),fun y g=>by cases g;simp only[*,go_sem,-a,-hJ],(by simp only[*,go_sem,-a,-hJ]),(by simp only[*,go_sem,-a,-hJ]),rfl⟩
      ·have ea:dQ old 1=1:=hw.a1
       have o4:jg R 4=M:=by
        have e0:=hw.st.eq
        obtain ⟨rfl,rfl⟩:=X rfl
        have e1:=j rfl
        have e2:=x (.inr rfl)
        rw[N rfl rfl,(wd (C:=C+1) (S:=0) (W:=1) (L:=1) ⟨by omega,by omega,by omega,by omega⟩ (by omega)).o4]
        omega
       clear j r x E N u
       repeat refine ay (a _) ?_
       refine aZ a fun K b=>?_
       refine ai.bA (hJ _ rfl) 6 (n:=0) _ rfl rfl ?_;simp only[*,go_sem,-b,-a,-hJ]
       refine ai.nil a (b _ _ _ ?_);clear b K
       repeat refine ay (a _) ?_
       refine cZ (a _) (by simp only[*,go_sem,-a,-hJ]) ?_
       repeat refine ay (a _) ?_
       refine aZ a fun K b=>?_
       refine ai.bA (hJ _ rfl) 3 (n:=0) _ rfl rfl ?_;simp only[*,go_sem,-b,-a,-hJ]
       refine ai.nil a (b _ _ _ ?_);clear b K
       exact ey ⟨rfl,(by simp only[*,go_sem,-a,-hJ]),(by simp only[*,go_sem,-a,-hJ]),(by simp only[*,go_sem,-a,-hJ]),(by simp only[*,go_sem,-a,-hJ]),(by simp only[*,go_sem,-a,-hJ]),(by simp only[*,go_sem,-a,-hJ]),fun y g=>by cases g;simp only[*,go_sem,-a,-hJ],(by simp only[*,go_sem,-a,-hJ]),(by simp only[*,go_sem,-a,-hJ]),rfl⟩
    clear f k o z D I q d hd
    rintro A c ab ⟨rfl,f,k,o,z,D,I,q,d,hd,rfl⟩
    replace q:=q _ rfl
    obtain ⟨ae,T,U⟩:∃ae:Int,(aw=true->ae=M - 2)/\(aw=false->ae=M):=⟨if aw then M - 2 else M,fun e=>by simp[e],fun e=>by simp[e]⟩
    refine kO a (qY Mu st c wt it old (some ae) sv aw G) ?_ ?_
    ·cases aw
     ·obtain rfl:=U rfl
      clear j r x E N u T U
      repeat refine ay (a _) ?_
      refine aZ a fun K b=>?_
      refine ai.bA (hJ _ rfl) 1 (n:=0) _ rfl rfl ?_;simp only[*,go_sem,-b,-a,-hJ]
      refine ai.nil a (b _ _ _ ?_);clear b K
      repeat refine ay (a _) ?_
      refine cD (a _) (by simp only[*,go_sem,-a,-hJ]) ?_
      refine cH (a _) ?_
      exact ey ⟨rfl,(by simp only[*,go_sem,-a,-hJ]),(by simp only[*,go_sem,-a,-hJ]),(by simp only[*,go_sem,-a,-hJ]),(by simp only[*,go_sem,-a,-hJ]),(by simp only[*,go_sem,-a,-hJ]),(by simp only[*,go_sem,-a,-hJ]),fun y g=>by cases g;simp only[*,go_sem,-a,-hJ],(by simp only[*,go_sem,-a,-hJ]),(by simp only[*,go_sem,-a,-hJ]),rfl⟩
     ·obtain ⟨rfl,rfl⟩:=X rfl
      have ad:∃P al,Wd M P al 1 1:=by
       have e0:=hw.st.eq
       have e1:=j rfl
       rcases a7 with rfl|rfl
       ·have e2:=E rfl rfl
        have ar:=u (by simp)
        exact ⟨C,0,wd ⟨by omega,by omega,by omega,by omega⟩ (by omega)⟩
       ·have e2:=x (.inr rfl)
        cases sv
        ·have ar:=u (by simp)
         exact ⟨C+1,0,wd ⟨by omega,by omega,by omega,by omega⟩ (by omega)⟩
        ·have ar:=N rfl rfl
         exact ⟨C+1,1,wd ⟨by omega,by omega,by omega,by omega⟩ (by omega)⟩
      obtain ⟨P,al,ad⟩:=ad
      have b2:dQ M 2=2:=ad.a2
      have n2:qT M 2=ae:=by rw[T rfl,ad.n2];rfl
      clear j r x E N u T U
      repeat refine ay (a _) ?_
      refine aZ a fun K b=>?_
      refine ai.bA (hJ _ rfl) 1 (n:=0) _ rfl rfl ?_;simp only[*,go_sem,-b,-a,-hJ]
      refine ai.nil a (b _ _ _ ?_);clear b K
      repeat refine ay (a _) ?_
      refine cZ (a _) (by simp only[*,go_sem,-a,-hJ]) ?_
      repeat refine ay (a _) ?_
      refine aZ a fun K b=>?_
      refine ai.bA (hJ _ rfl) 3 (n:=0) _ rfl rfl ?_;simp only[*,go_sem,-b,-a,-hJ]
      refine ai.nil a (b _ _ _ ?_);clear b K
      repeat refine ay (a _) ?_
      refine cD (a _) (by simp only[*,go_sem,-a,-hJ]) ?_
      refine cH (a _) ?_
      repeat refine ay (a _) ?_
      refine aZ a fun K b=>?_
      refine ai.bA (hJ _ rfl) 3 (n:=0) _ rfl rfl ?_;simp only[*,go_sem,-b,-a,-hJ]
      refine ai.nil a (b _ _ _ ?_);clear b K
      exact ey ⟨rfl,(by simp only[*,go_sem,-a,-hJ]),(by simp only[*,go_sem,-a,-hJ]),(by simp only[*,go_sem,-a,-hJ]),(by simp only[*,go_sem,-a,-hJ]),(by simp only[*,go_sem,-a,-hJ]),(by simp only[*,go_sem,-a,-hJ]),fun y g=>by cases g;simp only[*,go_sem,-a,-hJ],(by simp only[*,go_sem,-a,-hJ]),(by simp only[*,go_sem,-a,-hJ]),rfl⟩
    clear f k o z D I q d hd
    rintro A c ab ⟨rfl,f,k,o,z,D,I,q,d,hd,rfl⟩
    replace q:=q _ rfl
    repeat refine ay (a _) ?_
    refine aZ a fun K b=>?_
    refine ai.bA (hJ _ rfl) 5 (n:=1) _ rfl rfl ?_;simp only[*,go_sem,-b,-a,-hJ]
    refine uf old ae tX aF ⟨_,_,_,rfl,(by first|(simp only[*,go_sem,-b,-a,-hJ];done)|rfl),rfl,by first|(simp only[*,go_sem,-b,-a,-hJ];done)|(simp only[*,go_sem,-b,-a,-hJ];rfl),rfl⟩ (by rfl) (by simp) (fun φ ms bz ao bS Z p he hi hm=>?_) (fun φ mu ms bz ao bS Z p he hi hm dd=>?_)
    ·obtain ⟨rfl,rfl,rfl,rfl⟩:=hm.st.uniq hw.st
     by_cases Y:ao=0/\Z=0
     ·obtain ⟨rfl,rfl⟩:=Y
      have O:ae=old+1 - (if aw then 2 else 0):=by
       have e1:=j rfl
       have e2:=E rfl rfl
       have ar:=u (by simp)
       cases aw
       ·have O:=U rfl
        simp;omega
       ·have O:=T rfl
        simp;omega
      have b5:dQ old 5=0:=hw.a5
      refine ⟨.held,by rw[O];exact ⟨_,_,_,_,p,I8 hm hi _ (by rw[he]) rfl rfl rfl (fun e=>(X e).2)⟩,?_⟩
      clear j r x E N u T U O he hi hm V X cS a7 bd
      refine ai.nil a (b _ _ _ ?_);clear b K
      repeat refine ay (a _) ?_
      refine cZ (a _) (by simp only[*,go_sem,-a,-hJ]) ?_
      repeat refine ay (a _) ?_
      refine aZ a fun K b=>?_
      refine ai.bA (hJ _ rfl) 3 (n:=0) _ rfl rfl ?_;simp only[*,go_sem,-b,-a,-hJ]
      refine ai.nil a (b _ _ _ ?_);clear b K
      repeat refine ay (a _) ?_
      refine cZ (a _) (by simp only[*,go_sem,-a,-hJ]) ?_
      refine oJ ?_
      change um Mu st c _ _ _
      exact ⟨rfl,(by simp only[*,go_sem,-a,-hJ]),(by simp only[*,go_sem,-a,-hJ]),(by simp only[*,go_sem,-a,-hJ]),rfl⟩
     ·have cl:ao=1\/Z=1:=by omega
      have O:ae=old+8+(if sv then 4 else 0) - (if aw then 2 else 0):=by
       have e2:=x cl
       rcases cS with rfl|rfl
       ·have e1:=j rfl
        obtain rfl:Z=1:=by omega
        cases sv
        ·have ar:=u (by simp)
         cases aw
         ·have O:=U rfl
          simp;omega
         ·have O:=T rfl
          simp;omega
        ·obtain rfl:aw=true:=V rfl
         have ar:=N rfl rfl
         have O:=T rfl
         simp;omega
       ·have eb:aw=false:=by
         cases aw
         ·rfl
         ·exact absurd (X rfl).1 (by omega)
        subst eb
        have ec:sv=false:=by
         cases sv
         ·rfl
         ·exact absurd (V rfl) (by simp)
        subst ec
        have e1:=r rfl
        have ar:=u (by simp)
        have O:=U rfl
        simp;omega
      have df:sv=true->aw=true/\Z=1:=fun e=>⟨V e,by have:=X (V e);omega⟩
      have dk:bP n φ ms<=G:=(hm.seen i hi (some old) G (by rw[he];rfl)).1
      have b5:=hw.a5
      have cd:(((4*ao+Z:Nat):Int)==0)=false:=by simp;omega
      refine ⟨.iC (bP n φ ms),by rw[O];exact ⟨_,_,_,_,p,I9 hm hi _ (by rw[he]) rfl cl df⟩,?_⟩
      clear j r x E N u T U O he hi hm V X cS a7 bd Y cl df
      revert dk
      generalize bP n φ ms=B
      intro dk
      refine ai.nil a (b _ _ _ ?_);clear b K
      repeat refine ay (a _) ?_
      refine cZ (a _) (by simp only[*,go_sem,-a,-hJ]) ?_
      repeat refine ay (a _) ?_
      refine aZ a fun K b=>?_
      refine ai.bA (hJ _ rfl) 3 (n:=0) _ rfl rfl ?_;simp only[*,go_sem,-b,-a,-hJ]
      refine ai.nil a (b _ _ _ ?_);clear b K
      repeat refine ay (a _) ?_
      refine cD (a _) (by simp only[*,go_sem,-a,-hJ]) ?_
      refine cH (a _) ?_
      repeat refine ay (a _) ?_
      refine aZ a fun K b=>?_
      refine ai.bA (hJ _ rfl) 3 (n:=0) _ rfl rfl ?_;simp only[*,go_sem,-b,-a,-hJ]
      refine ai.nil a (b _ _ _ ?_);clear b K
      repeat refine ay (a _) ?_
      refine aZ a fun K b=>?_
      refine ai.bA (hJ _ rfl) 2 (n:=0) _ rfl rfl ?_;simp only[*,go_sem,-b,-a,-hJ]
      refine ai.nil a (b _ _ _ ?_);clear b K
      first|refine kO a (Dm Mu st c sv (.iC B)) ?_ ?_|refine uj a (Dm Mu st c sv (.iC B)) ?_ ?_
      ·cases fp:(wt==0)
       ·repeat refine ay (a _) ?_
        refine cD (a _) (by simp only[*,go_sem,-a,-hJ]) ?_
        refine cH (a _) ?_
        exact ey ⟨wt,rfl,(by simp only[*,go_sem,-a,-hJ]),(by simp only[*,go_sem,-a,-hJ]),(by simp only[*,go_sem,-a,-hJ]),(by simp only[*,go_sem,-a,-hJ]),(by simp only[*,go_sem,-a,-hJ]),rfl⟩
       ·repeat refine ay (a _) ?_
        refine cZ (a _) (by simp only[*,go_sem,-a,-hJ]) ?_
        repeat refine ay (a _) ?_
        refine aZ a fun K b=>?_
        refine Dl C9 De ⟨_,_,_,rfl,(by first|(simp only[*,go_sem,-b,-a,-hJ];done)|rfl),rfl,by first|(simp only[*,go_sem,-b,-a,-hJ];done)|(simp only[*,go_sem,-b,-a,-hJ];rfl),rfl⟩ (by simp) fun t=>?_
        refine ai.bA (hJ _ rfl) 1 (n:=0) _ rfl rfl ?_;simp only[*,go_sem,-b,-a,-hJ]
        refine ai.nil a (b _ _ _ ?_);clear b K
        exact ey ⟨t,rfl,(by simp only[*,go_sem,-a,-hJ]),(by simp only[*,go_sem,-a,-hJ]),(by simp only[*,go_sem,-a,-hJ]),(by simp only[*,go_sem,-a,-hJ]),(by simp only[*,go_sem,-a,-hJ]),rfl⟩
      clear f k o z D I q d hd b5 cd
      rintro A c ab ⟨dp,rfl,f,k,o,d,hd,rfl⟩
      repeat refine ay (a _) ?_
      refine aZ a fun K b=>?_
      refine ai.bA (hJ _ rfl) 4 (n:=1) _ rfl rfl ?_;simp only[*,go_sem,-b,-a,-hJ]
      refine J4 (slot A 8) (.int .i64 2) JM aF ⟨_,_,_,rfl,(by first|(simp only[*,go_sem,-b,-a,-hJ];done)|rfl),rfl,by first|(simp only[*,go_sem,-b,-a,-hJ];done)|(simp only[*,go_sem,-b,-a,-hJ];rfl),rfl⟩ (by rfl) rfl ?_
      refine ai.nil a (b _ _ _ ?_);clear b K
      first|refine kO a (Dn Mu st c (.jN B)) ?_ ?_|refine uj a (Dn Mu st c (.jN B)) ?_ ?_
      ·cases sv
       ·repeat refine ay (a _) ?_
        refine aZ a fun K b=>?_
        refine ai.bA (hJ _ rfl) 2 (n:=6) _ rfl rfl ?_;simp only[*,go_sem,-b,-a,-hJ]
        refine Dl C9 De ⟨_,_,_,rfl,(by first|(simp only[*,go_sem,-b,-a,-hJ];done)|rfl),rfl,by first|(simp only[*,go_sem,-b,-a,-hJ];done)|(simp only[*,go_sem,-b,-a,-hJ];rfl),rfl⟩ (by simp) fun t=>?_
        refine ai.bA (hJ _ rfl) 5 (n:=0) _ rfl rfl ?_;simp only[*,go_sem,-b,-a,-hJ]
        refine ai.nil a (b _ _ _ ?_);clear b K
        exact ey ⟨dp,_,rfl,(by simp only[*,go_sem,-a,-hJ]),(by simp only[*,go_sem,-a,-hJ]),(by simp only[*,go_sem,-a,-hJ];rfl),(by simp only[*,go_sem,-a,-hJ]),(by simp only[*,go_sem,-a,-hJ]),rfl⟩
       ·repeat refine ay (a _) ?_
        refine aZ a fun K b=>?_
        refine ai.bA (hJ _ rfl) 8 (n:=0) _ rfl rfl ?_;simp only[*,go_sem,-b,-a,-hJ]
        refine ai.nil a (b _ _ _ ?_);clear b K
        exact ey ⟨dp,true,rfl,(by simp only[*,go_sem,-a,-hJ]),(by simp only[*,go_sem,-a,-hJ]),(by simp only[*,go_sem,-a,-hJ]),(by simp only[*,go_sem,-a,-hJ]),(by simp only[*,go_sem,-a,-hJ]),rfl⟩
      clear f k o d hd
      rintro A c ab ⟨ed,dq,rfl,f,k,o,d,hd,rfl⟩
      repeat refine ay (a _) ?_
      refine aZ a fun K b=>?_
      refine ai.bA (hJ _ rfl) 3 (n:=2) _ rfl rfl ?_;simp only[*,go_sem,-b,-a,-hJ]
      refine oN tY oL ⟨_,rfl,(by first|(simp only[*,go_sem,-b,-a,-hJ];done)|rfl),rfl,rfl⟩ (by rfl) (by simp only[*,go_sem,-b,-a,-hJ]) (fun φ mu ms H ba cu cy bm he hi hm=>?_)
      have ds:H<=3*n:=hm.bound
      have a0:=wd hm.st (by omega)
      rcases (by have:=hm.st.s;omega:ba=0\/ba=1) with rfl|rfl
      ·obtain ⟨J,rfl,c0⟩:=Jb hm hi {mp:=.want true mu (bP n φ ms),gp:=.cnt,stored:=st,deaf:=1} (by rw[he]) rfl rfl
       have fr:bP n φ ms<B:=c0
       refine ⟨.want true mu (bP n φ ms),⟨_,_,_,_,bm,J⟩,?_⟩
       have b4:dQ mu 4=0:=a0.a4
       clear J c0
       refine ai.bA (hJ _ rfl) 1 (n:=0) _ rfl rfl ?_;simp only[*,go_sem,-b,-a,-hJ]
       refine ai.nil a (b _ _ _ ?_);clear b K
       repeat refine ay (a _) ?_
       refine aZ a fun K b=>?_
       refine ai.bA (hJ _ rfl) 3 (n:=0) _ rfl rfl ?_;simp only[*,go_sem,-b,-a,-hJ]
       refine ai.nil a (b _ _ _ ?_);clear b K
       repeat refine ay (a _) ?_
       refine cD (a _) (by simp only[*,go_sem,-a,-hJ]) ?_
       refine cH (a _) ?_
       repeat refine ay (a _) ?_
       refine aZ a fun K b=>?_
       refine ai.bA (hJ _ rfl) 1 (n:=0) _ rfl rfl ?_;simp only[*,go_sem,-b,-a,-hJ]
       refine ai.nil a (b _ _ _ ?_);clear b K
       repeat refine ay (a _) ?_
       refine aZ a fun K b=>?_
       refine ai.bA (hJ _ rfl) 1 (n:=0) _ rfl rfl ?_;simp only[*,go_sem,-b,-a,-hJ]
       refine ai.nil a (b _ _ _ ?_);clear b K
       change ∃p,p<m/\uk Mu n st c p _ _ _
       exact ⟨8*bP n φ ms+5,by omega,ed,0,mu,dq,true,H,0,1,cy,bP n φ ms,rfl,(by simp only[*,go_sem,-a,-hJ]),(by simp only[*,go_sem,-a,-hJ]),(by simp only[*,go_sem,-a,-hJ]),(by simp only[*,go_sem,-a,-hJ]),(by simp only[*,go_sem,-a,-hJ]),(by simp only[*,go_sem,-a,-hJ]),(by simp only[*,go_sem,-a,-hJ]),(by simp only[*,go_sem,-a,-hJ]),a0,ds,by omega,by omega,fun _=>rfl,fun _=>⟨rfl,rfl⟩,by simp,rfl⟩
      ·obtain ⟨J,rfl,rfl,eh⟩:=Jc hm hi {mp:=.kL (decide (2<=H)),gp:=.cnt,stored:=st,deaf:=1} (by rw[he]) rfl rfl
       refine ⟨.kL (decide (2<=H)),⟨_,_,_,_,bm,J⟩,?_⟩
       have b4:dQ mu 4=4:=a0.a4
       have b3:dQ mu 3=0:=a0.a3
       have br:((H:Int)==0)=false:=by simp;omega
       have da:=a0.sh
       obtain ⟨y,g⟩:∃y,decide (2<=H)=y:=⟨_,rfl⟩
       have a6:((H:Int)==1)=false->y=true:=fun e=>by rw[<-g];simp at e ⊢;omega
       rw[g]
       clear J he hi hm a0 ds eh g
       refine ai.bA (hJ _ rfl) 1 (n:=0) _ rfl rfl ?_;simp only[*,go_sem,-b,-a,-hJ]
       refine ai.nil a (b _ _ _ ?_);clear b K
       repeat refine ay (a _) ?_
       refine aZ a fun K b=>?_
       refine ai.bA (hJ _ rfl) 3 (n:=0) _ rfl rfl ?_;simp only[*,go_sem,-b,-a,-hJ]
       refine ai.nil a (b _ _ _ ?_);clear b K
       repeat refine ay (a _) ?_
       refine cZ (a _) (by simp only[*,go_sem,-a,-hJ]) ?_
       repeat refine ay (a _) ?_
       refine aZ a fun K b=>?_
       refine ai.bA (hJ _ rfl) 5 (n:=3) _ rfl rfl ?_;simp only[*,go_sem,-b,-a,-hJ]
       refine ai.nh mu (H:Int) (a _) ⟨_,rfl,(by first|(simp only[*,go_sem,-b,-a,-hJ];done)|rfl),rfl,rfl⟩ (by simp only[*,go_sem,-b,-a,-hJ]) (by simp only[*,go_sem,-b,-a,-hJ]) da ?_
       refine ai.bA (hJ _ rfl) 2 (n:=0) _ rfl rfl ?_;simp only[*,go_sem,-b,-a,-hJ]
       refine ai.nil a (b _ _ _ ?_);clear b K
       repeat refine ay (a _) ?_
       refine cD (a _) (by simp only[*,go_sem,-a,-hJ]) ?_
       refine cH (a _) ?_
       repeat refine ay (a _) ?_
       refine aZ a fun K b=>?_
       refine ai.bA (hJ _ rfl) 1 (n:=0) _ rfl rfl ?_;simp only[*,go_sem,-b,-a,-hJ]
       refine ai.nil a (b _ _ _ ?_);clear b K
       repeat refine ay (a _) ?_
       refine uj a (Ke Mu st c y) ?_ ?_
       ·cases dq
        ·repeat refine ay (a _) ?_
         refine aZ a fun K b=>?_
         refine ai.bA (hJ _ rfl) 7 (n:=0) _ rfl rfl ?_;simp only[*,go_sem,-b,-a,-hJ]
         refine ai.nil a (b _ _ _ ?_);clear b K
         exact ey ⟨true,rfl,(by simp only[*,go_sem,-a,-hJ]),(by simp only[*,go_sem,-a,-hJ]),(by simp only[*,go_sem,-a,-hJ]),(by simp only[*,go_sem,-a,-hJ]),(by simp only[*,go_sem,-a,-hJ]),by simp,rfl⟩
        ·repeat refine ay (a _) ?_
         refine aZ a fun K b=>?_
         refine ai.bA (hJ _ rfl) 4 (n:=3) _ rfl rfl ?_;simp only[*,go_sem,-b,-a,-hJ]
         refine ai.nh mu (H:Int) (a _) ⟨_,rfl,(by first|(simp only[*,go_sem,-b,-a,-hJ];done)|rfl),rfl,rfl⟩ (by simp only[*,go_sem,-b,-a,-hJ]) (by simp only[*,go_sem,-b,-a,-hJ]) da ?_
         refine ai.bA (hJ _ rfl) 2 (n:=0) _ rfl rfl ?_;simp only[*,go_sem,-b,-a,-hJ]
         refine ai.nil a (b _ _ _ ?_);clear b K
         exact ey ⟨(H:Int)==1,rfl,(by simp only[*,go_sem,-a,-hJ]),(by simp only[*,go_sem,-a,-hJ]),(by simp only[*,go_sem,-a,-hJ]),(by simp only[*,go_sem,-a,-hJ]),(by simp only[*,go_sem,-a,-hJ]),a6,rfl⟩
       clear f k o d hd b4 b3 br da a6
       rintro A c ab ⟨e,rfl,f,fs,ft,d,hd,a6,rfl⟩
       cases e
       ·obtain rfl:=a6 rfl
        clear a6
        repeat refine ay (a _) ?_
        refine cD (a _) (by simp only[*,go_sem,-a,-hJ]) ?_
        refine cH (a _) ?_
        repeat refine ay (a _) ?_
        refine aZ a fun K b=>?_
        refine ai.bA (hJ _ rfl) 4 (n:=1) _ rfl rfl ?_;simp only[*,go_sem,-b,-a,-hJ]
        refine yH (-7) yu aF ⟨_,_,_,rfl,(by first|(simp only[*,go_sem,-b,-a,-hJ];done)|rfl),rfl,by first|(simp only[*,go_sem,-b,-a,-hJ];done)|(simp only[*,go_sem,-b,-a,-hJ];rfl),rfl⟩ (by rfl) (by simp) (fun φ mu ms P al bl b0 b1 he hi hm=>⟨.held,_,?_,⟨_,_,_,_,_,CH hm hi {mp:=.held,gp:=.cnt,stored:=st,deaf:=1} false (by rw[he]) rfl (fun _=>rfl)⟩,?_⟩)
        ·have e0:=hm.st.eq
         have a9:P<=3*n:=hm.bound
         have et:=hm.st.s
         have eu:=hm.st.w
         have ev:=hm.st.l
         rw[iE (by omega) (by omega)]
         simp;omega
        refine ai.nil a (b _ _ _ ?_);clear b K
        refine oJ ?_
        change um Mu st c _ _ _
        exact ⟨rfl,(by simp only[*,go_sem,-a,-hJ]),(by simp only[*,go_sem,-a,-hJ]),(by simp only[*,go_sem,-a,-hJ]),rfl⟩
       ·clear a6
        repeat refine ay (a _) ?_
        refine cZ (a _) (by simp only[*,go_sem,-a,-hJ]) ?_
        repeat refine ay (a _) ?_
        refine aZ a fun K b=>?_
        refine ai.bA (hJ _ rfl) 3 (n:=0) _ rfl rfl ?_;simp only[*,go_sem,-b,-a,-hJ]
        refine ai.nil a (b _ _ _ ?_);clear b K
        repeat refine ay (a _) ?_
        refine aZ a fun K b=>?_
        refine ai.bA (hJ _ rfl) 4 (n:=1) _ rfl rfl ?_;simp only[*,go_sem,-b,-a,-hJ]
        refine yH (-11) yu aF ⟨_,_,_,rfl,(by first|(simp only[*,go_sem,-b,-a,-hJ];done)|rfl),rfl,by first|(simp only[*,go_sem,-b,-a,-hJ];done)|(simp only[*,go_sem,-b,-a,-hJ];rfl),rfl⟩ (by rfl) (by simp) (fun φ mu ms P al bl b0 b1 he hi hm=>⟨.held,_,?_,⟨_,_,_,_,_,CH hm hi {mp:=.held,gp:=.cnt,stored:=st,deaf:=1} true (by rw[he]) rfl (by simp)⟩,?_⟩)
        ·have e0:=hm.st.eq
         have a9:P<=3*n:=hm.bound
         have et:=hm.st.s
         have eu:=hm.st.w
         have ev:=hm.st.l
         rw[iE (by omega) (by omega)]
         simp;omega
        refine ai.nil a (b _ _ _ ?_);clear b K
        refine oJ ?_
        change um Mu st c _ _ _
        exact ⟨rfl,(by simp only[*,go_sem,-a,-hJ]),(by simp only[*,go_sem,-a,-hJ]),(by simp only[*,go_sem,-a,-hJ]),rfl⟩
    ·obtain ⟨J,a8,bj⟩:=tN hm hi {mp:=.want aw mu (bP n φ ms),gp:=.cnt,stored:=st,deaf:=1} (by rw[he]) rfl
     have c0:bP n φ ms<G:=bj dd
     refine ⟨.want aw mu (bP n φ ms),⟨_,_,_,_,p,J⟩,?_⟩
     clear j r x E N u T U J a8 bj he hi hm X cS a7 bd
     refine ai.nil a (b _ _ _ ?_);clear b K
     repeat refine ay (a _) ?_
     refine cD (a _) (by simp only[*,go_sem,-a,-hJ]) ?_
     repeat refine ay (a _) ?_
     refine aZ a fun K b=>?_
     refine ai.bA (hJ _ rfl) 3 (n:=2) _ rfl rfl ?_;simp only[*,go_sem,-b,-a,-hJ]
     refine oN tY oL ⟨_,rfl,(by first|(simp only[*,go_sem,-b,-a,-hJ];done)|rfl),rfl,rfl⟩ (by rfl) (by simp only[*,go_sem,-b,-a,-hJ]) (fun bb db bc H ba cu cy bm dt du bo=>?_)
     obtain ⟨ca,dv,_⟩:=tN bo du {mp:=.want aw db (bP n bb bc),gp:=.cnt,stored:=st,deaf:=1} (by rw[dt]) rfl
     have fu:bP n bb bc<=bP n φ ms:=dv
     have a9:H<=3*n:=bo.bound
     have ad:=wd bo.st (by omega)
     have cb:aw=true->ba=0/\cu=1:=fun e=>by subst e;exact CG bo du (by rw[dt])
     refine ⟨.want aw db (bP n bb bc),⟨_,_,_,_,bm,ca⟩,?_⟩
     clear ca dv
     refine ai.bA (hJ _ rfl) 1 (n:=0) _ rfl rfl ?_;simp only[*,go_sem,-b,-a,-hJ]
     refine ai.nil a (b _ _ _ ?_);clear b K
     change ∃p,p<m/\uk Mu n st c p _ _ _
     exact ⟨8*bP n bb bc+(5 - it).toNat,by omega,wt,it,db,sv,aw,H,ba,cu,cy,bP n bb bc,rfl,(by simp only[*,go_sem,-a,-hJ]),(by simp only[*,go_sem,-a,-hJ]),(by simp only[*,go_sem,-a,-hJ]),(by simp only[*,go_sem,-a,-hJ]),(by simp only[*,go_sem,-a,-hJ]),(by simp only[*,go_sem,-a,-hJ]),(by simp only[*,go_sem,-a,-hJ]),(by simp only[*,go_sem,-a,-hJ]),ad,a9,by omega,by omega,V,cb,Nat.le_refl _,rfl⟩
 ·rintro A F' aK ⟨rfl,f,d,hd,rfl⟩
  repeat refine ay (a _) ?_
  refine cZ (a _) (by simp only[*,go_sem,-a,-hJ]) ?_
  repeat refine ay (a _) ?_
  refine aZ a fun K b=>?_
  refine ua lQ ⟨_,_,_,rfl,(by first|(simp only[*,go_sem,-b,-a,-hJ];done)|rfl),rfl,by first|(simp only[*,go_sem,-b,-a,-hJ];done)|(simp only[*,go_sem,-b,-a,-hJ];rfl),rfl⟩ (by simp) (by simp) rfl ?_
  refine ai.nil a (b _ _ _ ?_);clear b K
  repeat refine ay (a _) ?_
  refine aZ a fun K b=>?_
  refine ai.bA (hJ _ rfl) 1 (n:=2) _ rfl rfl ?_;simp only[*,go_sem,-b,-a,-hJ]
  refine ug ⟨Mu,0,none⟩ yx lR yz ⟨_,rfl,(by first|(simp only[*,go_sem,-b,-a,-hJ];done)|rfl),rfl,rfl⟩ (by simp) (by simp only[*,go_sem,-b,-a,-hJ]) yI ?_
  refine Dj tV ⟨_,_,_,rfl,(by first|(simp only[*,go_sem,-b,-a,-hJ];done)|rfl),rfl,by first|(simp only[*,go_sem,-b,-a,-hJ];done)|(simp only[*,go_sem,-b,-a,-hJ];rfl),rfl⟩ (by rfl) ?_
  refine ai.nil a (b _ _ _ ?_);clear b K
  exact lO rfl (by simp only[*,go_sem,-a,-hJ]) ⟨rfl,rfl,rfl⟩
end
end Go.Proofs.YtpgcmoanfifglaaGreatDoor
end
section
namespace Go.Proofs.YtpgcmoanfifglaaGreatDoor
open Go Go.Sep Go.Proofs Go.Conc
open Go.ConcN (upd upd_same)
open Go.ConcM (muA msA)
open Go.ConcR (stA smA)
set_option maxRecDepth 100000
set_option maxHeartbeats 4000000
attribute [local go_sem] Int.reduceBEq Int.reduceBNe muA msA stA smA
section
variable {Mu Wg Is n base T0 i : Nat} {bs : Nat → Bool} {st : Bool} {F : aa}
theorem Kg (aF:Mu≠Wg/\Mu≠Is/\Wg≠Is)(b:n<67108864):
  cG Tryz.prog (WJ (CY Mu Wg Is n bs base T0) i) 137 #[.pointer (some (muA Mu))] F ⟨.idle,.cnt,st,0⟩ (fun v F' aK=>v= .tuple #[]/\F'=F/\aK=⟨.held,.cnt,st,0⟩):=by
 have a:=WJ.ek (CY Mu Wg Is n bs base T0) i
 have hJ:∀ph:Ph,ph.gp= .cnt->Go.Sep.Closed Tryz.prog false (WJ (CY Mu Wg Is n bs base T0) i ph):=fun ph h=>Wk.closed (CY Mu Wg Is n bs base T0) i ph h
 refine cG.go (main:=false) a Tryz.func137 rfl Tryz.ntmps137 (by simp) fun A d hd hs=>?_
 have e:=hs 0
 clear hs
 repeat refine ay (a _) ?_
 refine c5 a ?_
 refine ai.bA (hJ _ rfl) 3 (n:=1) _ rfl rfl ?_;simp only[*,go_sem]
 refine ai.fV (a _) rfl rfl rfl Fo (by simp only[*,go_sem,muA]) (J7 aF (Kf aF b)) fun v F' aK c=>?_
 obtain ⟨rfl,rfl,rfl⟩:=c
 refine ai.nil a ?_
 exact lO rfl (by simp only[*,go_sem]) ⟨rfl,rfl,rfl⟩
theorem Kh (aF:Mu≠Wg/\Mu≠Is/\Wg≠Is)(b:n<67108864):
  cG Tryz.prog (WJ (CY Mu Wg Is n bs base T0) i) 138 #[.pointer (some (muA Mu))] F ⟨.held,.cnt,st,0⟩ (fun v F' aK=>v= .tuple #[]/\F'=F/\aK=⟨.fin,.cnt,st,0⟩):=by
 have a:=WJ.ek (CY Mu Wg Is n bs base T0) i
 have hJ:∀ph:Ph,ph.gp= .cnt->Go.Sep.Closed Tryz.prog false (WJ (CY Mu Wg Is n bs base T0) i ph):=fun ph h=>Wk.closed (CY Mu Wg Is n bs base T0) i ph h
 refine cG.go (main:=false) a Tryz.func138 rfl Tryz.ntmps138 (by simp) fun A d hd hs=>?_
 have e:=hs 0
 clear hs
 repeat refine ay (a _) ?_
 refine c5 a ?_
 refine ai.bA (hJ _ rfl) 3 (n:=1) _ rfl rfl ?_;simp only[*,go_sem]
 refine ai.fV (a _) rfl rfl rfl Fp (by simp only[*,go_sem,muA]) (Ka aF b) fun v F' aK c=>?_
 obtain ⟨rfl,rfl,rfl⟩:=c
 refine ai.nil a ?_
 exact lO rfl (by simp only[*,go_sem]) ⟨rfl,rfl,rfl⟩
end
end Go.Proofs.YtpgcmoanfifglaaGreatDoor
end
section
namespace Go.Sep
open Go Go.Conc
def uo (op:BinOp)(u v:Value):Option Value:=match op with
 | .shl=>match u,v with
  | .int k a,.int _ b=>if b<0 then none else some (.int k (k.wrap (a*2 ^ min b.toNat k.bits)))
  |_,_=>none
 | .shr=>match u,v with
  | .int k a,.int _ b=>if b<0 then none else some (.int k (a.fdiv (2 ^ min b.toNat k.bits)))
  |_,_=>none
 |_=>nu op u v
def oO (P:Program)(op:Op)(a:Act):Option Value:=match op with
 | .move x| .assign x=>some (ev a x)
 | .nilCheck x=>match ev a x with
  | .pointer (some ad)=>some (.pointer (some ad))
  |_=>none
 | .pick c x y=>match ev a c with
  | .bool b=>some (if b then ev a x else ev a y)
  |_=>none
 | .binOp op t x y _=>uo op (ev a x) (ev a y)
 | .unOp op _ x=>l6 op (ev a x)
 | .convert src dst x=>l8 P src dst (ev a x)
 | .fieldAddr s x n=>match ev a x with
  | .pointer (some ad)=>match cQ P s n with
   |some k=>some (.pointer (some (ad.add k)))
   |none=>none
  |_=>none
 |_=>none
theorem Ki {P:Program}{op:BinOp}{t:TypeId}{x y:Operand}{u v r:Value}(h:uo op u v=some r)(w:World):
  (do eqGuard op t x y u v;pure (.value (<-binOp op t u v)):Sem Next).run P w= .ok (.value r) w/\(do eqGuard op t x y u v;pure (.value (<-binOp op t u v)):Sem Next).events P w #[]=#[]:=by
 unfold uo at h
 split at h
 ·split at h
  case h_2=>cases h
  split at h
  ·cases h
  ·rename_i hb;cases h;simp[eqGuard,binOp,Op.shift,hb]
 ·split at h
  case h_2=>cases h
  split at h
  ·cases h
  ·rename_i hb;cases h;simp[eqGuard,binOp,Op.shift,hb]
 ·rename_i n1 n2
  unfold nu at h
  split at h
  case h_2=>cases h
  rename_i k a d b
  split at h
  case isFalse=>cases h
  rename_i c
  subst c
  cases op<;>simp only[binOp,ne_eq,not_true_eq_false,if_false,Op.intArith,Op.intDiv,Op.intCmp,Op.intBits,Op.shift,eqGuard] at h ⊢<;>first
   |(cases h;done)
   |(exact absurd rfl n1)
   |(exact absurd rfl n2)
   |(cases h;simp;done)
   |(split at h
     ·cases h
     ·rename_i hb;cases h;simp[hb])
theorem Dp {P:Program}{o:Oper}{a:Act}{v:Value}(h:oO P o.op a=some v)(w:World):(execOp a.eval o).run P w= .ok (.value v) w/\(execOp a.eval o).events P w #[]=#[]:=by
 obtain ⟨dst,op,type,pos,after,guard⟩:=o;unfold execOp;simp only[ez] at h ⊢;unfold oO at h;cases op<;>simp only[reduceCtorEq] at h ⊢
 case move x=>cases h;simp
 case assign x=>cases h;simp
 case nilCheck x=>
  split at h
  ·rename_i ad e;cases h;simp[e]
  ·cases h
 case pick c x y=>
  split at h
  ·rename_i b hb;cases h;simp[hb,asBool]
  ·cases h
 case binOp op t x y r=>have:=Ki (P:=P) (t:=t) (x:=x) (y:=y) h w;simpa using this
 case unOp op t x=>
  revert h;cases ev a x<;>cases op<;>simp only[l6,reduceCtorEq,false_implies,Option.some.injEq]<;>intro h<;>subst h<;>simp[Op.unary,Op.intArith]
 case convert src dst x=>
  revert h;cases e:ev a x<;>simp only[l8,reduceCtorEq,false_implies];intro h;split at h
  ·rename_i k1 A i j;cases h;simp[convert,run_underlying i,run_underlying j,Conv.intToInt]
  ·cases h
 case fieldAddr s x n=>
  split at h
  case h_2=>cases h
  rename_i ad l;split at h
  case h_2=>cases h
  rename_i k d;cases h;unfold cQ at d;split at d
  case h_2=>cases d
  rename_i B g;split at d
  case h_2=>cases d
  rename_i f p;split at d
  case h_2=>cases d
  rename_i m hm;cases d;obtain ⟨inf,q,u⟩:=Option.map_eq_some_iff.1 hm;have z:Instr.sureAddr (.pointer (some ad))=(Pure.pure ad:Sem Addr):=rfl;simp[Instr.fieldAt,run_underlying g,g,p,l,z,fieldPlace,Go.sizeOf,typeInfo,q,u,Result.andThen,Result.evThen]
def iI (P:Program)(ops:Array Oper)(K:Act->Prop):List Oper->Act->Prop
 |[],a=>K a
 |o::rest,a=>match cB ops o a with
  |some true=>match oO P o.op a with
   |some v=>iI P ops K rest (bg a o.dst v)
   |none=>False
  |some false=>iI P ops K rest (bg a o.dst undef)
  |none=>False
theorem Kj {P:Program}{ops:Array Oper}{K:Act->Prop}{a:Act}:iI P ops K [] a=K a:=(Eq.refl _).trans (Eq.refl _)
theorem Kk {P:Program}{ops:Array Oper}{K:Act->Prop}{o:Oper}{rest:List Oper}{a:Act}:iI P ops K (o::rest) a=match cB ops o a with
  |some true=>match oO P o.op a with
   |some v=>iI P ops K rest (bg a o.dst v)
   |none=>False
  |some false=>iI P ops K rest (bg a o.dst undef)
  |none=>False:=(Eq.refl _).trans (Eq.refl _)
attribute [go_sem] Kj Kk oO uo
section
variable {P : Program} {main : Bool} {S : Type} {JF : S → Goroutine → aa → Prop} {fi : FuncId} {ops : Array Oper} {F : aa} {ph : S} {Q : Act → aa → S → Prop}
theorem yJ (d:dR P main (JF ph)):∀(l:List Oper) (i n:Nat) (a:Act),(∀j o,l[j]?=some o->ops[i+j]?=some o)->iI P ops (fun b=>ai JF fi ops (i+l.length) n Q b F ph) l a->ai JF fi ops i (l.length+n) Q a F ph
 |[],i,n,a,_,h=>by rw[List.length_nil,Nat.zero_add];exact h
 |o::rest,i,n,a,k,h=>by
  have m:ops[i]?=some o:=k 0 o rfl
  have p:∀j x,rest[j]?=some x->ops[i+1+j]?=some x:=fun j x q=>by rw[Nat.add_assoc,Nat.add_comm 1 j];exact k (j+1) x q
  have e:(o::rest).length+n=(rest.length+n)+1:=by rw[List.length_cons];omega
  have e2:∀b,ai JF fi ops (i+(o::rest).length) n Q b F ph->ai JF fi ops (i+1+rest.length) n Q b F ph:=fun b x=>by
   rw[show i+1+rest.length=i+(o::rest).length by rw[List.length_cons];omega];exact x
  rw[e]
  have mono:∀(l:List Oper) (a:Act) {K f:Act->Prop},(∀a,K a->f a)->iI P ops K l a->iI P ops f l a:=by
   intro l
   induction l with
   |nil=>intro a K f g h;exact g a h
   |cons o l ih=>
    intro a K f g h
    unfold iI at h ⊢
    cases hg:cB ops o a with
    |none=>rw[hg] at h;exact h.elim
    |some t=>
     rw[hg] at h
     cases t with
     |false=>exact ih _ g h
     |true=>
      simp only at h ⊢
      cases c:oO P o.op a with
      |none=>rw[c] at h;exact h.elim
      |some v=>rw[c] at h;exact ih _ g h
  unfold iI at h
  split at h
  ·rename_i hg
   split at h
   ·rename_i v c
    exact ai.plain d v m hg (fun w=>(Dp c w).1) (fun w=>(Dp c w).2) (yJ d rest (i+1) n _ p (mono _ _ e2 h))
   ·exact h.elim
  ·rename_i hg
   exact ai.skip d m hg (yJ d rest (i+1) n _ p (mono _ _ e2 h))
  ·exact h.elim
theorem ai.pure (d:dR P main (JF ph))(m:Nat){i n:Nat}{a:Act}(l:List Oper)(c:(ops.toList.drop i).take m=l)(hm:l.length=m)(h:iI P ops (fun e=>ai JF fi ops (i+m) n Q e F ph) l a):ai JF fi ops i (m+n) Q a F ph:=by
 subst hm;refine yJ d l i n a (fun j o b=>?_) h;rw[<-c] at b;have f:j<l.length:=by
  rcases Nat.lt_or_ge j l.length with x|x
  ·exact x
  ·rw[c,List.getElem?_eq_none x] at b;cases b
 rw[List.getElem?_take,if_pos f,List.getElem?_drop] at b;simpa using b
end
end Go.Sep
end
section
namespace Go.Sep
open Go Go.Conc
open Go.ConcN (sumTo upd upd_ne upd_same)
open Go.ConcM (MuAt muA msA muBlock OsLater)
open Go.ConcR (WgAt wgBlock stA smA)
section
variable {c : Cy} {i : Nat} {ph : Ph} {ops : Array Oper} {j n : Nat} {Q : Act → aa → Ph → Prop} {a : Act} {F : aa} {f fi : FuncId} {d : Option Tmp}
theorem Inv.group {k:Nat}{φ:Nat->Ph}{p0:P0}{s:Sh}(h:Inv c.n c.bs k φ p0 s)(hi:i<c.n)(he:φ i=ph)(a:ph.gp≠ .new)(b:ph.gp≠ .cnt){gp:Gp}(d:gp≠ .new){wg ws:Int}
  (hw:dz c.n (upd φ i {ph with gp:=gp}) p0 wg ws):Inv c.n c.bs k (upd φ i {ph with gp:=gp}) p0 {s with wg:=wg,ws:=ws}:=by
 obtain ⟨C,S,W,L,m,hm⟩:=h.m
 refine h.jP hi he a d ⟨C,S,W,L,m,m8 hm hi _ (.inl (by rw[he]))⟩ hw ?_ (fun _=>?_)
 ·have:=h.i.all i hi
  rw[he] at this
  exact (yF this).symm
 ·have:=h.i.done i hi (by rw[he];exact b) (by rw[he];exact a)
  rw[he] at this
  exact this
theorem Kl (m:Entry c.P f (Extern.Atomic.update (Op.intArith .add) .u64 true))(aF:c.Mu≠c.Wg/\c.Mu≠c.Is/\c.Wg≠c.Is)(H:c.n<67108864)(p:At ops j a f [.pointer (some (stA c.Wg)),.int .u64 18446744069414584320] d)
  (e:ph.gp= .rel) (q:0<ph.deaf)
  (h:∀v t:Nat,v<=c.n->t<=1->ai (WJ c i) fi ops (j+1) n Q (bg a d (.int .u64 ((v:Int)*4294967296+t))) F {ph with gp:=if v=0/\t=1 then .ld else .gone}):
  ai (WJ c i) fi ops j (n+1) Q a F ph:=by
 obtain ⟨o,cz,dh,l,hg,r,u,rfl⟩:=p
 obtain ⟨x,y,rfl,z,A⟩:=qW u
 obtain ⟨fn,f1,f2,f3,f4,f5⟩:=m.ex
 refine fl l (by rw[e];simp) fun w s k φ p0 _ hs hi he g=>.inr ?_
 obtain ⟨v,t,e1,ht,B,_⟩:=CK g.w hi ph (by rw[he];exact e)
 obtain ⟨C,D,E,I,_,hw⟩:=CK g.w hi {ph with gp:=if v=0/\t=1 then .ld else .gone} (by rw[he];exact e)
 obtain ⟨rfl,rfl⟩:v=C/\t=D:=by simp only[cX] at e1 E;omega
 have e2:IntKind.u64.wrap (s.wg+18446744069414584320)=(v:Int)*4294967296+t:=by
  rw[e1]
  unfold IntKind.wrap
  simp only[IntKind.bits,IntKind.signed,cX]
  simp
  omega
 have G:s.wg - cX=(v:Int)*4294967296+t:=by rw[e1];simp only[cX];omega
 refine ⟨.int .u64 ((v:Int)*4294967296+t),_,_,{s with wg:=(v:Int)*4294967296+t},{ph with gp:=if v=0/\t=1 then .ld else .gone},fun b J cs hb=>by rw[<-e2];exact stepG_add_atomic l (cg hg) hb.kind r f1 f2 f3 f4 .u64 f5 z A hs.wg.1 hs.wg.2,by rw[<-e2];exact hs.tZ aF _,.set _ (.inr (.inl rfl)),?_,yD rfl ?_ q (.inl rfl),.inr dD,h v t B ht⟩
 ·refine g.group hi he (by rw[e];simp) (by rw[e];simp) (by split<;>simp) ?_
  rw[<-G]
  exact hw rfl
 ·simp only[e];split<;>simp
theorem Km (m:Entry c.P f (Extern.Atomic.loadT (.int .u64)))(p:At ops j a f [.pointer (some (stA c.Wg))] d)(e:ph.gp= .ld)(q:0<ph.deaf)
  (h:ai (WJ c i) fi ops (j+1) n Q (bg a d (.int .u64 1)) F {ph with gp:=.st}):ai (WJ c i) fi ops j (n+1) Q a F ph:=by
 obtain ⟨o,cz,dh,g,hg,r,t,rfl⟩:=p
 obtain ⟨x,rfl,u⟩:=jS t
 obtain ⟨fn,f1,f2,f3,f4,f5⟩:=m.ex
 refine fl g (by rw[e];simp) fun w s k φ p0 _ hs hi he l=>.inr ?_
 obtain ⟨e1,hw⟩:=Ji l.w hi {ph with gp:=.st} (by rw[he];exact e) rfl
 exact ⟨.int .u64 1,_,_,s,{ph with gp:=.st},fun b v cs hb=>by rw[<-e1];exact stepG_load_atomic g (cg hg) hb.kind r f1 f2 f3 f4 .u64 f5 u hs.wg.1,hs,.refl _ _,l.group hi he (by rw[e];simp) (by rw[e];simp) (by simp) hw,yC false rfl (by simp[e]) q (.inl rfl),.inr dD,h⟩
theorem Kn (m:Entry c.P f Extern.Atomic.storeT)(aF:c.Mu≠c.Wg/\c.Mu≠c.Is/\c.Wg≠c.Is)(p:At ops j a f [.pointer (some (stA c.Wg)),.int .u64 0] d)(e:ph.gp= .st)(q:0<ph.deaf)
  (h:ai (WJ c i) fi ops (j+1) n Q (bg a d (.tuple #[])) F {ph with gp:=.sm}):ai (WJ c i) fi ops j (n+1) Q a F ph:=by
 obtain ⟨o,cz,dh,g,hg,r,t,rfl⟩:=p
 obtain ⟨x,y,rfl,u,v⟩:=qW t
 obtain ⟨fn,f1,f2,f3,f4,f5⟩:=m.ex
 refine fl g (by rw[e];simp) fun w s k φ p0 _ hs hi he l=>.inr ?_
 obtain ⟨e1,hw⟩:=Jj l.w hi {ph with gp:=.sm} (by rw[he];exact e) rfl
 exact ⟨.tuple #[],_,_,{s with wg:=0},{ph with gp:=.sm},fun b z cs hb=>stepG_store_atomic g (cg hg) hb.kind r f1 f2 f3 f4 f5 u v hs.wg.1 hs.wg.2,hs.tZ aF _,.set _ (.inr (.inl rfl)),l.group hi he (by rw[e];simp) (by rw[e];simp) (by simp) hw,yC true rfl (by simp[e]) q (.inl rfl),.inr dD,h⟩
theorem Ko (r t:Value)(l:Entry c.P f Extern.Sync.semrelease)(aF:c.Mu≠c.Wg/\c.Mu≠c.Is/\c.Wg≠c.Is)(u:At ops j a f [.pointer (some (smA c.Wg)),r,t] d)(e:ph.gp= .sm)
  (h:ai (WJ c i) fi ops (j+1) n Q (bg a d (.tuple #[])) F {ph with gp:=.gone}):ai (WJ c i) fi ops j (n+1) Q a F ph:=by
 obtain ⟨o,cz,dh,m,hg,p,v,rfl⟩:=u
 obtain ⟨x,y,z,rfl,g,_,_⟩:=qX v
 obtain ⟨fn,f1,f2,f3,f4,f5⟩:=l.ex
 refine fl m (by rw[e];simp) fun w s k φ p0 _ hs hi he q=>.inr ?_
 obtain ⟨e1,hw⟩:=Jk q.w hi {ph with gp:=.gone} (by rw[he];exact e) rfl
 have A:IntKind.u32.wrap (s.ws+1)=s.ws+1:=by rw[e1];decide
 refine ⟨.tuple #[],_,_,{s with ws:=s.ws+1},{ph with gp:=.gone},fun b B cs hb=>stepG_semrelease m (cg hg) hb.kind p f1 f2 f3 f4 f5 (by simp[ez,g]) hs.ws.1 hs.ws.2,by rw[A];exact hs.Dh aF _,.set _ (.inr (.inl rfl)),
  q.group hi he (by rw[e];simp) (by rw[e];simp) (by simp) hw,yE rfl (by simp[e]) (.inl rfl),.inl ⟨_,p,fun x g=>?_⟩,h⟩
 cases g
 exact ⟨f,rfl,l.C6⟩
end
end Go.Sep
end
section
namespace Go.Sep
open Go Go.Conc
open Go.ConcN (sumTo upd upd_ne upd_same)
theorem ai.defer {P:Program}{main:Bool}{S:Type}{JF:S->Goroutine->aa->Prop}{fi f:FuncId}{ops:Array Oper}{j n:Nat}{Q:Act->aa->S->Prop}{a:Act}{F:aa}{ph:S}(e:dR P main (JF ph)){o:Oper}{cz:Array Operand}{dh:Array TypeId}{vals:Array Value}
  (g:ops[j]?=some o) (hg:cB ops o a=some true) (k:o.op= .defer {callee:=.value (.func f),args:=cz,argTypes:=dh}) (hd:o.dst=none) (l:cz.map a.eval=vals)
  (h:∀c:Act,(∀i,slot c i=slot a i)->sz c=sz a->c.defers=dcall f vals::a.defers->ai JF fi ops (j+1) n Q c F ph):ai JF fi ops j (n+1) Q a F ph:=fun b d cs hb m=>by
 rw[List.range'_succ,eD hb.round]
 refine e.move (fr':=b.at (Act.put ⟨a.tmps,dcall f (cz.map a.eval)::a.defers⟩ o.dst undef) (.inRegion ops (List.range' (j+1) n)::d)) (fun w=>stepG_defer g (cg hg) hb.kind k) ?_
 rw[<-eD hb.round,hd,l]
 exact h ⟨a.tmps,dcall f vals::a.defers⟩ (fun _=>rfl) rfl rfl b d cs hb m
section
variable {c : Cy} {i : Nat} {ph : Ph} {F : aa} {f : FuncId}
theorem Kp (g:Entry c.P f (fun _=>do mark .enable;pure Extern.Race.none_))(hg:ph.gp= .gone){d:Nat}(hd:ph.deaf=d+1){b:Frame}{a:Act}{todo:List Item}{cs:List Frame}{e:List Deferred}(j:a.defers=dcall f #[]::e)
  (h:WJ c i {ph with deaf:=d} (G {b.at ⟨a.tmps,e⟩ todo with mode:=.returning} cs) F):WJ c i ph (G {b.at a todo with mode:=.returning} cs) F:=by
 obtain ⟨F0,r,hle,hW⟩:=h
 obtain ⟨q,_,k⟩:=hW.left hg
 obtain ⟨fn,f1,f2,f3,f4,f5⟩:=g.ex
 refine Wk.gone (q:=q+1) hg (QuitsD.unwind_mark .enable rfl (by simp) j f1 f2 f3 f4 f5 ?_)
 rw[hd]
 exact k
def kP (f:FuncId)(R:Value->aa->Ph->Prop):Ex->Act->aa->Ph->Prop
 | .exit _,_,_,_=>False
 |_,a,F,ph=>a.defers=[dcall f #[]]/\ph.gp= .gone/\∃b,ph.deaf=b+1/\R (.tuple #[]) F {ph with deaf:=b}
theorem cG.Kq {f0:FuncId}(p:Entry c.P f (fun _=>do mark .enable;pure Extern.Race.none_)){fn:Func}{cd:Code}{n:Nat}{args:Array Value}{R:Value->aa->Ph->Prop}(l:c.P.funcs[f0]?=some fn)(hb:fn.body=some cd)(m:fn.results=#[])(o:fn.ntmps=n)(v:args.size<=n)
  (h:∀A:Act,sz A=n->A.defers=[]->(∀i,slot A i=args.getD i undef)->cO (WJ c i) f0 cd (kP f R) A F ph):cG c.P (WJ c i) f0 args F ph R:=by
 intro d cs q
 let b:Frame:={(default:Frame) with fn:=f0,kind:=.normal}
 have r:b.roundOf=none:=rfl
 have s:Frame.enter c.P f0 args .normal=on b {tmps:=args++Array.replicate (fn.ntmps - args.size) undef,defers:=[]} [.code cd]:=by
  simp[Frame.enter,on,l,hb,b]
  rfl
 rw[s]
 have g:=WJ.ek c i
 have leave:∀(a:Act) (todo:List Item) F' (aK:Ph),(a.defers=[dcall f #[]]/\aK.gp= .gone/\∃j,aK.deaf=j+1/\R (.tuple #[]) F' {aK with deaf:=j})->WJ c i aK (G {on b a todo with mode:=.returning} (d::cs)) F':=by
  intro a todo F' aK ⟨hd,hg,j,t,u⟩
  rw[eD r]
  refine Kp p hg t hd ((g _).move (fr':=d.finish (.tuple #[])) (cs':=cs) (fun w=>?_) (q _ F' _ u))
  exact stepG_leave rfl rfl l (results_none m _ c.P w) (events_results_none m _ _)
 refine h _ (by simp[sz,o];omega) rfl (fun i=>?_) b [] (d::cs) ⟨by simp[b],rfl,rfl⟩ fun e a F' aK k=>?_
 ·simp only[slot,o,Array.getD_eq_getD_getElem?]
  rcases Nat.lt_or_ge i args.size with hi|hi
  ·rw[Array.getElem?_append_left hi]
  ·rw[Array.getElem?_append_right hi,Array.getElem?_replicate,Array.getElem?_eq_none hi]
   split<;>rfl
 ·cases e with
  |normal=>exact (g aK).move (fun _=>lW rfl) (leave a _ F' aK k)
  |exit i=>exact k.elim
  |ret=>exact fun x=>(g aK).move (fun _=>stepG_ret' rfl) (leave a _ F' aK k)
def yK (R:aa->Ph->Prop):Ex->Act->aa->Ph->Prop
 | .exit _,_,_,_=>False
 |_,a,F,ph=>a.defers=[]/\R F ph
theorem Kr {f0:FuncId}{fn:Func}{cd:Code}{n:Nat}{args:Array Value}{R:aa->Ph->Prop}(k:c.P.funcs[f0]?=some fn)(p:(fn.name== "runtime.NumGoroutine")=false)(hb:fn.body=some cd)(l:fn.results=#[])(m:fn.ntmps=n)(t:args.size<=n)
  {b:Frame} {a:Act} {todo:List Item} {cs:List Frame} {f:List Deferred} (q:a.defers=dcall f0 args::f)
  (h:∀A:Act,sz A=n->A.defers=[]->(∀i,slot A i=args.getD i undef)->cO (WJ c i) f0 cd (yK R) A F ph)
  (r:∀F' aK,R F' aK->WJ c i aK (G {b.at ⟨a.tmps,f⟩ todo with mode:=.returning} cs) F'):WJ c i ph (G {b.at a todo with mode:=.returning} cs) F:=by
 have g:=WJ.ek c i
 refine (g ph).move (fun w=>stepG_unwind_enter q k p hb) ?_
 have leave:∀(d:Act) (o:List Item) F' (aK:Ph),(d.defers=[]/\R F' aK)->WJ c i aK (G {(baseD f0).at d o with mode:=.returning} ({b.at ⟨a.tmps,f⟩ todo with mode:=.returning}::cs)) F':=by
  intro d o F' aK ⟨hd,s⟩
  exact (g _).move (fun w=>stepG_leave_deferred rfl hd k (results_none l _ c.P w) (events_results_none l _ _) rfl) (r F' aK s)
 have:=h {tmps:=args++Array.replicate (fn.ntmps - args.size) undef,defers:=[]} (by simp[sz,m];omega) rfl (fun i=>?_) (baseD f0) [] ({b.at ⟨a.tmps,f⟩ todo with mode:=.returning}::cs) ⟨by simp[baseD],rfl,rfl⟩ fun e d F' aK j=>?_
 ·rw[eD rfl] at this;exact this
 ·simp only[slot,m,Array.getD_eq_getD_getElem?]
  rcases Nat.lt_or_ge i args.size with hi|hi
  ·rw[Array.getElem?_append_left hi]
  ·rw[Array.getElem?_append_right hi,Array.getElem?_replicate,Array.getElem?_eq_none hi]
   split<;>rfl
 ·cases e with
  |normal=>exact (g aK).move (fun _=>lW rfl) (leave d _ F' aK j)
  |exit i=>exact j.elim
  |ret=>exact fun u=>(g aK).move (fun _=>stepG_ret' rfl) (leave d _ F' aK j)
end
attribute [go_sem] kP yK
end Go.Sep
end
section
namespace Go.Sep
open Go
def kQ (x y:Int):Int:=IntKind.u64.wrap ((BitVec.ofInt 64 x&&& BitVec.ofInt 64 y).toNat:Int)
@[go_sem] theorem RV (x y:Int):IntKind.u64.wrap ((@HAnd.hAnd (BitVec 64) (BitVec 64) (BitVec 64) (@instHAndOfAndOp (BitVec IntKind.u64.bits) (@BitVec.instAndOp IntKind.u64.bits)) (BitVec.ofInt 64 x) (BitVec.ofInt 64 y)).toNat:Int)=kQ x y:=rfl
theorem yL (v t:Nat)(a:v<2147483648)(ht:t<=1):kQ ((v:Int)*4294967296+(t:Int)) 2147483648=0:=Go.ConcN.st_flag v t a ht
theorem yM (v t:Nat)(a:v<2147483648)(ht:t<=1):kQ ((v:Int)*4294967296+(t:Int)) 2147483647=(t:Int):=Go.ConcN.st_waiters v t a ht
theorem yN (v t:Nat)(ht:t<=1):((v:Int)*4294967296+(t:Int)).fdiv 4294967296=v:=by
 rw[Int.fdiv_eq_ediv_of_nonneg _ (by decide)];omega
end Go.Sep
namespace Go.Proofs.YtpgcmoanfifglaaGreatDoor
open Go Go.Sep Go.Proofs Go.Conc
open Go.ConcN (upd upd_same)
open Go.ConcM (muA msA)
open Go.ConcR (stA smA)
set_option maxRecDepth 100000
set_option maxHeartbeats 4000000
set_option linter.all false
attribute [local go_sem] Int.reduceBEq Int.reduceBNe muA msA stA smA
section
variable {Mu Wg Is n base T0 i : Nat} {bs : Nat → Bool} {st : Bool} {F : aa}
theorem Ks (w:World)(s:Sh)(h:cx (CY Mu Wg Is n bs base T0) w s):∃v,w.cell? ⟨Wg,0,none⟩=some v:=⟨_,h.wg.1⟩
theorem Kt (aF:Mu≠Wg/\Mu≠Is/\Wg≠Is)(b:n<67108864){mp:Mp}:
  cG Tryz.prog (WJ (CY Mu Wg Is n bs base T0) i) 158 #[.pointer (some (stA Wg)),.int .u64 18446744069414584320] F ⟨mp,.rel,st,1⟩
   (fun r F' aK=>F'=F/\∃v t:Nat,v<=n/\t<=1/\r= .int .u64 ((v:Int)*4294967296+(t:Int))/\aK=⟨mp,if v=0/\t=1 then .ld else .gone,st,1⟩):=by
 have a:=WJ.ek (CY Mu Wg Is n bs base T0) i
 refine cG.go (main:=false) a Tryz.func158 rfl Tryz.ntmps158 (by simp) fun A d hd hs=>?_
 have e:=hs 0
 have k1:=hs 1
 clear hs
 repeat refine ay (a _) ?_
 refine c5 a ?_
 refine ai.pure (a _) 1 (n:=0) _ rfl rfl ?_;simp only[*,go_sem]
 refine ai.nil a ?_;try simp only[go_sem]
 repeat refine ay (a _) ?_
 refine c5 a ?_
 refine ai.pure (a _) 4 (n:=2) _ rfl rfl ?_;simp only[*,go_sem]
 refine Kl Da aF b ⟨_,_,_,rfl,(by first|rfl|simp only[*,go_sem]),rfl,by first|(simp only[*,go_sem];done)|(simp only[*,go_sem];rfl),rfl⟩ (by rfl) (by simp) fun v t c ht=>?_
 refine ai.pure (a _) 1 (n:=0) _ rfl rfl ?_;simp only[*,go_sem]
 refine ai.nil a ?_;try simp only[go_sem]
 refine fj ?_;try simp only[go_sem]
 exact (lP rfl (by simp only[*,go_sem]) (by simp only[*,go_sem]) ⟨rfl,v,t,c,ht,rfl,rfl⟩).2
theorem Ku {mp:Mp}:
  cG Tryz.prog (WJ (CY Mu Wg Is n bs base T0) i) 160 #[.pointer (some (stA Wg))] F ⟨mp,.ld,st,1⟩
   (fun r F' aK=>F'=F/\r= .int .u64 1/\aK=⟨mp,.st,st,1⟩):=by
 have a:=WJ.ek (CY Mu Wg Is n bs base T0) i
 refine cG.go (main:=false) a Tryz.func160 rfl Tryz.ntmps160 (by simp) fun A b hd hs=>?_
 have c:=hs 0
 clear hs
 repeat refine ay (a _) ?_
 refine c5 a ?_
 refine ai.pure (a _) 1 (n:=0) _ rfl rfl ?_;simp only[*,go_sem]
 refine ai.nil a ?_;try simp only[go_sem]
 repeat refine ay (a _) ?_
 refine c5 a ?_
 refine ai.pure (a _) 3 (n:=2) _ rfl rfl ?_;simp only[*,go_sem]
 refine Km yw ⟨_,_,_,rfl,(by first|rfl|simp only[*,go_sem]),rfl,by first|(simp only[*,go_sem];done)|(simp only[*,go_sem];rfl),rfl⟩ (by rfl) (by simp) ?_
 refine ai.pure (a _) 1 (n:=0) _ rfl rfl ?_;simp only[*,go_sem]
 refine ai.nil a ?_;try simp only[go_sem]
 refine fj ?_;try simp only[go_sem]
 exact (lP rfl (by simp only[*,go_sem]) (by simp only[*,go_sem]) ⟨rfl,rfl,rfl⟩).2
theorem Kv (aF:Mu≠Wg/\Mu≠Is/\Wg≠Is){mp:Mp}:
  cG Tryz.prog (WJ (CY Mu Wg Is n bs base T0) i) 161 #[.pointer (some (stA Wg)),.int .u64 0] F ⟨mp,.st,st,1⟩
   (fun r F' aK=>F'=F/\r= .tuple #[]/\aK=⟨mp,.sm,st,1⟩):=by
 have a:=WJ.ek (CY Mu Wg Is n bs base T0) i
 refine cG.go (main:=false) a Tryz.func161 rfl Tryz.ntmps161 (by simp) fun A b hd hs=>?_
 have c:=hs 0
 have k1:=hs 1
 clear hs
 repeat refine ay (a _) ?_
 refine c5 a ?_
 refine ai.pure (a _) 4 (n:=1) _ rfl rfl ?_;simp only[*,go_sem]
 refine Kn JQ aF ⟨_,_,_,rfl,(by first|rfl|simp only[*,go_sem]),rfl,by first|(simp only[*,go_sem];done)|(simp only[*,go_sem];rfl),rfl⟩ (by rfl) (by simp) ?_
 refine ai.nil a ?_;try simp only[go_sem]
 exact lO rfl (by simp only[*,go_sem]) ⟨rfl,rfl,rfl⟩
end
end Go.Proofs.YtpgcmoanfifglaaGreatDoor
end
section
namespace Go.Sep
open Go Go.Conc
open Go.ConcN (sumTo upd upd_ne upd_same)
open Go.ConcM (MuAt muA msA muBlock OsLater)
open Go.ConcR (WgAt wgBlock stA smA)
structure X where
 Mu:Nat
 Wg:Nat
 Is:Nat
 n:Nat
 bs:Nat->Bool
 base:Nat
 T0:Nat
 B0:Nat
inductive Z where
 |free
 |co (x:X) (k:Nat) (p:P0) (d:Nat)
structure PT where
 P:Program
 tM:TypeId
 tW:TypeId
 tI:TypeId
abbrev X.cy (x:X)(T:PT):Cy:=⟨T.P,x.Mu,x.Wg,x.Is,T.tM,T.tW,T.tI,x.n,x.bs,x.base,x.T0⟩
def ZJ (T:PT)(Φ:Goroutine->aa->Prop):Z->Goroutine->aa->Prop
 | .free=>iH T.P Φ
 | .co x k p d=>fun g F=>(p= .reg->k=x.n)/\ej (x.cy T) x.B0 (iH T.P Φ) k p d g F
section
variable {T : PT} {Φ : Goroutine → aa → Prop} {x : X} {k d : Nat} {p : P0} {ops : Array Oper} {j n : Nat} {Q : Act → aa → Z → Prop} {a : Act} {F : aa} {o : Oper} {f fi : FuncId} {dt : Option Tmp}
theorem Dq {c:Cy}:Ev0 c d d #[]:=⟨by simp,rfl⟩
theorem Kw {c:Cy}:Ev0 c d (d+1) #[cK .disable]:=⟨fun e he=>by simp at he;exact .inl he,rfl⟩
theorem Dr {c:Cy}:Ev0 c (d+1) d #[cK .enable]:=⟨fun e he=>by simp at he;exact .inr (.inl he),rfl⟩
theorem yO {c:Cy}{ad:Addr}(y:Bool)(h:ad.block=c.Wg):Ev0 c d d #[⟨.cell ad,y,true⟩]:=⟨fun e he=>by simp at he;exact .inr (.inr ⟨ad,h,.inl ⟨y,he⟩⟩),by simp[deafBehind]⟩
theorem Ds {c:Cy}{ad:Addr}(h:ad.block=c.Wg):Ev0 c d d #[⟨.cell ad,false,true⟩,⟨.cell ad,true,true⟩]:=
 ⟨fun e he=>by simp at he;rcases he with he|he<;>exact .inr (.inr ⟨ad,h,.inl ⟨_,he⟩⟩),by simp[deafBehind]⟩
theorem Kx {c:Cy}{ad:Addr}(h:ad.block=c.Wg):Ev0 c d d #[cK (.read ad)]:=⟨fun e he=>by simp at he;exact .inr (.inr ⟨ad,h,.inr (.inl he)⟩),by simp[deafBehind,cK]⟩
theorem Ky {c:Cy}{ad:Addr}(h:ad.block=c.Wg):Ev0 c d d #[cK (.write ad)]:=⟨fun e he=>by simp at he;exact .inr (.inr ⟨ad,h,.inr (.inr he)⟩),by simp[deafBehind,cK]⟩
theorem Kz {c:Cy}{ad:Addr}(h:ad.block=c.Wg):Ev0 c d d (semEvents ad):=by
 refine ⟨fun e he=>?_,by simp[deafBehind,semEvents]⟩;simp[semEvents] at he;rcases he with rfl|rfl|rfl|rfl
 ·exact .inl rfl
 ·exact .inr (.inr ⟨ad,h,.inl ⟨_,rfl⟩⟩)
 ·exact .inr (.inr ⟨ad,h,.inl ⟨_,rfl⟩⟩)
 ·exact .inr (.inl rfl)
theorem ZJ.ek (T:PT)(Φ:Goroutine->aa->Prop)(z:Z):dR T.P true (ZJ T Φ z):=by
 cases z with
 |free=>exact Closed.ek (C0 T.P Φ)
 |co x k p d=>
  refine ⟨fun {fr fr' cs cs' F} hs h=>⟨h.1,ej.yo (c:=x.cy T) rfl rfl h.1 fun w s φ e a b=>?_⟩⟩;exact ⟨_,w,#[],s,p,d,hs w,a,.refl _ _,b,Dq,.inr dD,h.2⟩
theorem ZJ.closed (T:PT)(Φ:Goroutine->aa->Prop){z:Z}(b:∀x k d,z≠ .co x k .reg d):Closed T.P true (ZJ T Φ z):=by
 cases z with
 |free=>exact C0 T.P Φ
 |co x k p d=>
  have a:p≠ .reg:=fun e=>b x k d (by rw[e]);have hC:=ej.closed (x.cy T) x.B0 (iH T.P Φ) k p d a
  exact ⟨fun hle h=>⟨h.1,hC.mono hle h.2⟩,fun {fr cs F} h=>⟨fun e=>absurd e a,hC.step fun w hw=>by
   obtain ⟨g',w',es,F',k1,c,f,g,i⟩:=h w hw
   exact ⟨g',w',es,F',k1,c,f,g,i.2⟩⟩⟩
theorem kR (A:ops[j]?=some o)(i:p= .reg->k=x.n)
  (h:∀(w:World) (s:Sh) (φ:Nat->Ph),Has F w->cx (x.cy T) w s->Inv x.n x.bs k φ p s->
   ∃(v:Value) (w':World) (es:Array Event) (s':Sh) (f:P0) (g:Nat),(∀(b:Frame) (e:List Item) (cs:List Frame),BF fi b->
    stepG T.P true (G (b.at a (.inRegion ops (j::List.range' (j+1) n)::e)) cs) w= .go (G (b.at (a.put o.dst v) (.inRegion ops (List.range' (j+1) n)::e)) cs) w' es)/\cx (x.cy T) w' s'/\hO (x.cy T) w w'/\Inv x.n x.bs k φ f s'/\Ev0 (x.cy T) d g es/\
    (s'.ms<=s.ms/\s'.ws<=s.ws)/\ai (ZJ T Φ) fi ops (j+1) n Q (a.put o.dst v) F (.co x k f g)):ai (ZJ T Φ) fi ops j (n+1) Q a F (.co x k p d):=fun b e cs hb l=>by
 rw[List.range'_succ,eD hb.round]
 refine ⟨i,ej.yo (c:=x.cy T) rfl rfl i fun w s φ e1 e2 m=>?_⟩
 obtain ⟨v,w',es,s',f,g,k1,q,r,t,u,y,z⟩:=h w s φ e1 e2 m
 have:=z b e cs hb l
 rw[eD hb.round] at this
 exact ⟨_,w',es,s',f,g,k1 b e cs hb,q,r,t,u,.inr y,this.2⟩
theorem oP {k:Nat}{φ:Nat->Ph}{p a:P0}{s:Sh}(h:Inv x.n x.bs k φ p s){wg ws:Int}(hw:dz x.n φ a wg ws):Inv x.n x.bs k φ a {s with wg:=wg,ws:=ws}:=⟨h.m,hw,h.i⟩
theorem Dt (i:Entry T.P f (fun _=>do mark .disable;pure Extern.Race.none_)){vals:List Value}(l:At ops j a f vals dt)(m:p= .reg->k=x.n)(c:P0)(q:∀φ wg ws,dz x.n φ p wg ws->dz x.n φ c wg ws)
  (h:ai (ZJ T Φ) fi ops (j+1) n Q (bg a dt (.tuple #[])) F (.co x k c (d+1))):ai (ZJ T Φ) fi ops j (n+1) Q a F (.co x k p d):=by
 obtain ⟨o,cz,dh,e,hg,r,_,rfl⟩:=l
 obtain ⟨fn,f1,f2,f3,f4,f5⟩:=i.ex
 exact kR e m fun w s φ _ hs g=>⟨.tuple #[],w,_,s,c,d+1,fun b t cs hb=>stepG_mark0 .disable (by simp) e (cg hg) hb.kind r f1 f2 f3 f4 f5,hs,.refl _ _,oP g (q _ _ _ g.w),Kw,dD,h⟩
theorem Du (e:Entry T.P f (fun _=>do mark .enable;pure Extern.Race.none_)){vals:List Value}(g:At ops j a f vals dt)(i:p= .reg->k=x.n)
  (h:ai (ZJ T Φ) fi ops (j+1) n Q (bg a dt (.tuple #[])) F (.co x k p d)):ai (ZJ T Φ) fi ops j (n+1) Q a F (.co x k p (d+1)):=by
 obtain ⟨o,cz,dh,c,hg,l,_,rfl⟩:=g
 obtain ⟨fn,f1,f2,f3,f4,f5⟩:=e.ex
 exact kR c i fun w s φ _ hs m=>⟨.tuple #[],w,_,s,p,d,fun b q cs hb=>stepG_mark0 .enable (by simp) c (cg hg) hb.kind l f1 f2 f3 f4 f5,hs,.refl _ _,m,Dr,dD,h⟩
theorem KA (e:Entry T.P f (Extern.Race.marked .read))(g:At ops j a f [.pointer (some (smA x.Wg))] dt)(i:p= .reg->k=x.n)
  (h:ai (ZJ T Φ) fi ops (j+1) n Q (bg a dt (.tuple #[])) F (.co x k p d)):ai (ZJ T Φ) fi ops j (n+1) Q a F (.co x k p d):=by
 obtain ⟨o,cz,dh,c,hg,l,m,rfl⟩:=g
 obtain ⟨y,rfl,q⟩:=jS m
 obtain ⟨fn,f1,f2,f3,f4,f5⟩:=e.ex
 exact kR c i fun w s φ _ hs r=>⟨.tuple #[],w,_,s,p,d,fun b t cs hb=>stepG_markAt .read (by simp) c (cg hg) hb.kind l f1 f2 f3 f4 f5 (by simp[ez,q]),hs,.refl _ _,r,Kx (ad:=smA x.Wg) rfl,dD,h⟩
theorem KB (e:Entry T.P f (Extern.Race.marked .write))(g:At ops j a f [.pointer (some (smA x.Wg))] dt)(i:p= .reg->k=x.n)
  (h:ai (ZJ T Φ) fi ops (j+1) n Q (bg a dt (.tuple #[])) F (.co x k p d)):ai (ZJ T Φ) fi ops j (n+1) Q a F (.co x k p d):=by
 obtain ⟨o,cz,dh,c,hg,l,m,rfl⟩:=g
 obtain ⟨y,rfl,q⟩:=jS m
 obtain ⟨fn,f1,f2,f3,f4,f5⟩:=e.ex
 exact kR c i fun w s φ _ hs r=>⟨.tuple #[],w,_,s,p,d,fun b t cs hb=>stepG_markAt .write (by simp) c (cg hg) hb.kind l f1 f2 f3 f4 f5 (by simp[ez,q]),hs,.refl _ _,r,Ky (ad:=smA x.Wg) rfl,dD,h⟩
theorem uq (ad:Addr){src dst t:TypeId}(hs:T.P.underlying src=some (.pointer t))(hd:T.P.underlying dst=some .unsafePointer)(c:(T.P.info? t).map (fun i=>decide (i.size=0))=some false){y:Operand}
  (l:nc ops j a (.convert src dst y) dt) (m:p= .reg->k=x.n) (q:ev a y= .pointer (some ad)) (r:∀w s,cx (x.cy T) w s->∃v,w.cell? ad=some v) (h:ai (ZJ T Φ) fi ops (j+1) n Q (bg a dt (.pointer (some ad))) F (.co x k p d)):ai (ZJ T Φ) fi ops j (n+1) Q a F (.co x k p d):=by
 obtain ⟨o,e,hg,u,rfl⟩:=l
 refine kR e m fun w s φ _ f z=>⟨_,w,#[],s,p,d,fun b C cs hb=>?_,f,.refl _ _,z,Dq,dD,h⟩
 obtain ⟨v,g⟩:=r w s f
 have e1:execOp a.eval o=(do pure (.value (<-convert src dst (.pointer (some ad)))):Sem Next):=by
  unfold execOp
  simp only[u,ez,q]
 have A:(execOp a.eval o).run T.P w= .ok (.value (.pointer (some ad))) w:=by
  rw[e1];simp[run_convert_to_unsafe hs hd c g]
 have B:(execOp a.eval o).events T.P w #[]=#[]:=by
  rw[e1];simp[events_convert_to_unsafe hs hd c g]
 rw[stepG_value e (cg hg) hb.kind A]
 unfold listed
 rw[B,seen_none]
theorem KC (i:Entry T.P f (Extern.Atomic.update (Op.intArith .add) .u64 true))(aF:x.Mu≠x.Wg/\x.Mu≠x.Is/\x.Wg≠x.Is)(A:x.n<67108864)(l:At ops j a f [.pointer (some (stA x.Wg)),.int .u64 4294967296] dt)
  (h:∀v:Nat,v<=x.n->ai (ZJ T Φ) fi ops (j+1) n Q (bg a dt (.int .u64 (((v+1:Nat):Int)*4294967296+((0:Nat):Int)))) F (.co x k (.opn 1) d)):ai (ZJ T Φ) fi ops j (n+1) Q a F (.co x k (.opn 0) d):=by
 obtain ⟨o,cz,dh,c,hg,m,p,rfl⟩:=l
 obtain ⟨y,z,rfl,q,r⟩:=qW p
 obtain ⟨fn,f1,f2,f3,f4,f5⟩:=i.ex
 refine kR c (fun e=>by cases e) fun w s φ _ hs g=>?_
 obtain ⟨v,e1,t,hw⟩:=Jl g.w
 have e2:IntKind.u64.wrap (s.wg+4294967296)=((v+1:Nat):Int)*4294967296+((0:Nat):Int):=by
  rw[e1]
  unfold IntKind.wrap
  simp only[IntKind.bits,IntKind.signed,cX]
  simp
  omega
 have u:s.wg+cX=((v+1:Nat):Int)*4294967296+((0:Nat):Int):=by rw[e1];simp only[cX];omega
 rw[u] at hw
 exact ⟨_,_,_,{s with wg:=((v+1:Nat):Int)*4294967296+((0:Nat):Int)},.opn 1,d,fun b B cs hb=>by rw[<-e2];exact stepG_add_atomic c (cg hg) hb.kind m f1 f2 f3 f4 .u64 f5 q r hs.wg.1 hs.wg.2,by rw[<-e2];exact hs.tZ aF _,.set _ (.inr (.inl rfl)),oP g hw,Ds rfl,dD,h v t⟩
theorem KD (i:Entry T.P f (Extern.Atomic.loadT (.int .u64)))(l:At ops j a f [.pointer (some (stA x.Wg))] dt){u:Nat}
  (h:∀v:Nat,v<=u->ai (ZJ T Φ) fi ops (j+1) n Q (bg a dt (.int .u64 ((v:Int)*4294967296+((0:Nat):Int)))) F (.co x k (if v=0 then .eR else .look v) d)):ai (ZJ T Φ) fi ops j (n+1) Q a F (.co x k (.look u) d):=by
 obtain ⟨o,cz,dh,c,hg,m,p,rfl⟩:=l
 obtain ⟨y,rfl,q⟩:=jS p
 obtain ⟨fn,f1,f2,f3,f4,f5⟩:=i.ex
 refine kR c (fun e=>by cases e) fun w s φ _ hs g=>?_
 obtain ⟨v,e1,r,hw⟩:=Jo g.w
 have e2:s.wg=(v:Int)*4294967296+((0:Nat):Int):=by rw[e1];simp only[cX];omega
 exact ⟨_,_,_,s,_,d,fun b t cs hb=>by rw[<-e2];exact stepG_load_atomic c (cg hg) hb.kind m f1 f2 f3 f4 .u64 f5 q hs.wg.1,hs,.refl _ _,oP g hw,yO false rfl,dD,h v r⟩
theorem KE (i:Entry T.P f (Extern.Atomic.loadT (.int .u64)))(l:At ops j a f [.pointer (some (stA x.Wg))] dt)
  (h:ai (ZJ T Φ) fi ops (j+1) n Q (bg a dt (.int .u64 0)) F (.co x k .eR d)):ai (ZJ T Φ) fi ops j (n+1) Q a F (.co x k .eR d):=by
 obtain ⟨o,cz,dh,c,hg,m,p,rfl⟩:=l
 obtain ⟨y,rfl,q⟩:=jS p
 obtain ⟨fn,f1,f2,f3,f4,f5⟩:=i.ex
 refine kR c (fun e=>by cases e) fun w s φ _ hs g=>?_
 have e2:s.wg=0:=(CL g.w).1
 exact ⟨_,_,_,s,_,d,fun b r cs hb=>by rw[<-e2];exact stepG_load_atomic c (cg hg) hb.kind m f1 f2 f3 f4 .u64 f5 q hs.wg.1,hs,.refl _ _,g,yO false rfl,dD,h⟩
theorem KF (q:Entry T.P f (Extern.Atomic.casT (.int .u64)))(aF:x.Mu≠x.Wg/\x.Mu≠x.Is/\x.Wg≠x.Is){v:Nat}(r:0<v)(G:k=x.n)(t:At ops j a f [.pointer (some (stA x.Wg)),.int .u64 ((v:Int)*4294967296+((0:Nat):Int)),.int .u64 ((v:Int)*4294967296+((0:Nat):Int)+1)] dt)
  (u:ai (ZJ T Φ) fi ops (j+1) n Q (bg a dt (.bool true)) F (.co x k .reg d)) (A:ai (ZJ T Φ) fi ops (j+1) n Q (bg a dt (.bool false)) F (.co x k (.look (v - 1)) d)):ai (ZJ T Φ) fi ops j (n+1) Q a F (.co x k (.look v) d):=by
 obtain ⟨o,cz,dh,g,hg,h,B,rfl⟩:=t
 obtain ⟨y,z,H,rfl,i,l,m⟩:=qX B
 obtain ⟨fn,f1,f2,f3,f4,f5⟩:=q.ex
 refine kR g (fun e=>by cases e) fun w s φ _ hs c=>?_
 by_cases e:s.wg=(v:Int)*4294967296+((0:Nat):Int)
 ·have e1:s.wg=(v:Int)*cX:=by rw[e];simp only[cX];omega
  have hw:=c.w
  rw[e1] at hw
  have p:=Jp hw r
  have C:(v:Int)*cX+1=(v:Int)*4294967296+((0:Nat):Int)+1:=by simp only[cX];omega
  rw[C] at p
  exact ⟨.bool true,_,_,{s with wg:=(v:Int)*4294967296+((0:Nat):Int)+1},.reg,d,fun b D cs hb=>stepG_cas_hit g (cg hg) hb.kind h f1 f2 f3 f4 .u64 f5 i l m (by rw[<-e];exact hs.wg.1) hs.wg.2,hs.tZ aF _,.set _ (.inr (.inl rfl)),oP c p,Ds rfl,dD,u⟩
 ·have e1:s.wg≠(v:Int)*cX:=fun E=>e (by rw[E];simp only[cX];omega)
  exact ⟨.bool false,_,_,s,.look (v - 1),d,fun b D cs hb=>stepG_cas_miss g (cg hg) hb.kind h f1 f2 f3 f4 .u64 f5 i l m hs.wg.1 hs.wg.2 e,hs,.refl _ _,oP c (Jq c.w e1).2,yO false rfl,dD,A⟩
theorem KG (q:Value)(r:Entry T.P f Extern.Sync.semacquire)(aF:x.Mu≠x.Wg/\x.Mu≠x.Is/\x.Wg≠x.Is)(g:k=x.n)(t:At ops j a f [.pointer (some (smA x.Wg)),q] dt)
  (h:ai (ZJ T Φ) fi ops (j+1) n Q (bg a dt (.tuple #[])) F (.co x k .eR d)):ai (ZJ T Φ) fi ops j (n+1) Q a F (.co x k .reg d):=fun b u cs hb v=>by
 obtain ⟨o,cz,dh,i,hg,l,A,rfl⟩:=t
 obtain ⟨y,z,rfl,m,_⟩:=qW A
 obtain ⟨fn,f1,f2,f3,f4,f5⟩:=r.ex
 rw[List.range'_succ,eD hb.round]
 refine ⟨fun _=>g,ej.act (c:=x.cy T) rfl rfl (fun _=>⟨g,fun w s hs e=>?_⟩) fun w s φ e1 hs p B=>?_⟩
 ·exact stepG_semacquire_wait i (cg hg) l f1 f2 f3 f4 f5 (ad:=smA x.Wg) (by simp[ez,m]) (by rw[hs.ws.1,e])
 ·have e:=B rfl
  obtain ⟨C,D,hw⟩:=Jr p.w e
  have:=h b u cs hb v
  rw[eD hb.round] at this
  exact ⟨_,_,_,{s with ws:=s.ws - 1},.eR,d,stepG_semacquire i (cg hg) hb.kind l f1 f2 f3 f4 f5 (by simp[ez,m]) hs.ws.1 e hs.ws.2,hs.Dh aF _,.set _ (.inr (.inl rfl)),oP p hw,Kz rfl,.inr ⟨Int.le_refl _,by simp only;omega⟩,this.2⟩
theorem Dv (d:Entry T.P f (Extern.Race.marked .acquire))(e:k=x.n)(g:At ops j a f [.pointer (some (stA x.Wg))] dt)
  (h:ai (ZJ T Φ) fi ops (j+1) n Q (bg a dt (.tuple #[])) ⟨F.ro,(x.Is,(x.cy T).fin)::F.own⟩ .free):ai (ZJ T Φ) fi ops j (n+1) Q a F (.co x k .eR 0):=fun b i cs hb l=>by
 obtain ⟨o,cz,dh,m,hg,p,q,rfl⟩:=g
 obtain ⟨y,rfl,r⟩:=jS q
 obtain ⟨fn,f1,f2,f3,f4,f5⟩:=d.ex
 rw[List.range'_succ,eD hb.round]
 subst e
 have:=h b i cs hb l
 rw[eD hb.round] at this
 exact ⟨fun _=>rfl,ej.join (c:=x.cy T) rfl rfl fun w hw=>⟨_,stepG_markAt .acquire (by simp) m (cg hg) hb.kind p f1 f2 f3 f4 f5 (by simp[ez,r]),rfl,this⟩⟩
theorem KH (i:k<x.n){d:Deferred}{fv:Operand}{g:Fn}{caps:Array Value}(l:ops[j]?=some o)(hg:cB ops o a=some true)(f:∀w,(execOp a.eval o).run T.P w= .ok (.spawn d) w/\(execOp a.eval o).events T.P w #[]=#[])(hd:d.target= .fn g caps)
  (hW:Wk (x.cy T) k ⟨.idle,.cnt,false,0⟩ (born T.P d) ⟨F.ro,[]⟩) (h:ai (ZJ T Φ) fi ops (j+1) n Q (bg a o.dst undef) F (.co x (k+1) (.opn 0) 0)):ai (ZJ T Φ) fi ops j (n+1) Q a F (.co x k (.opn 1) 0):=fun b m cs hb p=>by
 rw[List.range'_succ,eD hb.round]
 have:=h b m cs hb p
 rw[eD hb.round] at this
 refine ⟨fun e=>(by cases e),ej.spawn (c:=x.cy T) rfl rfl i fun w hw=>⟨_,_,?_,hW,rfl,rfl,this.2⟩⟩
 rw[stepG_spawn l (cg hg) hb.kind (f w).1 hd]
 unfold listed
 rw[(f w).2,seen_none]
 rfl
end
section
variable {T : PT} {Φ : Goroutine → aa → Prop} {fi f : FuncId}
theorem KI {cd:Code}{Q:Ex->Act->aa->Z->Prop}{a:Act}{F:aa}(c:aa)(Mu Wg Is n:Nat)(bs:Nat->Bool)
  (hle:Le ⟨c.ro,(Mu,muBlock T.tM 0 0)::(Wg,wgBlock T.tW 0 0)::(Is,.cells (List.replicate n (Value.bool false)).toArray T.tI)::c.own⟩ F)
  (h:∀base B0 T0,0<base->(Mu≠Wg/\Mu≠Is/\Wg≠Is)->cO (ZJ T Φ) fi cd Q a c (.co ⟨Mu,Wg,Is,n,bs,base,T0,B0⟩ 0 (.opn 0) 0)):cO (ZJ T Φ) fi cd Q a F .free:=fun b k cs hb d=>
 iH.found bs rfl rfl hle fun base B0 T0 e aF=>(h base B0 T0 e aF b k cs hb d).2
theorem KJ (l:Entry T.P f (fun _=>do mark .enable;pure Extern.Race.none_)){x:X}{k d:Nat}{p:P0}{F:aa}(e:p= .reg->k=x.n){b:Frame}{a:Act}{todo:List Item}{cs:List Frame}{i:List Deferred}(m:a.defers=dcall f #[]::i)
  (h:ZJ T Φ (.co x k p d) (G {b.at ⟨a.tmps,i⟩ todo with mode:=.returning} cs) F):ZJ T Φ (.co x k p (d+1)) (G {b.at a todo with mode:=.returning} cs) F:=by
 obtain ⟨fn,f1,f2,f3,f4,f5⟩:=l.ex
 refine ⟨e,ej.yo (c:=x.cy T) rfl rfl e fun w s φ e1 hs o=>⟨_,w,#[cK .enable],s,p,d,?_,hs,.refl _ _,o,Dr,.inr dD,h.2⟩⟩
 exact stepG_unwind_entry (v:=.tuple #[]) m f1 f2 f3 f4 f5 (by simp[Extern.Race.none_]) (by simp[cK]) (by
  intro y j
  simp[cK] at j
  subst j
  exact ⟨rfl,fun g h=>by cases h⟩)
def yP (f:FuncId)(R:Value->aa->Z->Prop):Ex->Act->aa->Z->Prop
 | .exit _,_,_,_=>False
 |_,a,F,z=>a.defers=[dcall f #[]]/\∃x k p d,(p= .reg->k=x.n)/\z= .co x k p (d+1)/\R (.tuple #[]) F (.co x k p d)
theorem cG.KL {f0:FuncId}(r:Entry T.P f (fun _=>do mark .enable;pure Extern.Race.none_)){fn:Func}{cd:Code}{n:Nat}{args:Array Value}{R:Value->aa->Z->Prop}{F:aa}{z:Z}(m:T.P.funcs[f0]?=some fn)(hb:fn.body=some cd)(o:fn.results=#[])(q:fn.ntmps=n)(C:args.size<=n)
  (h:∀A:Act,sz A=n->A.defers=[]->(∀i,slot A i=args.getD i undef)->cO (ZJ T Φ) f0 cd (yP f R) A F z):cG T.P (ZJ T Φ) f0 args F z R:=by
 intro g cs s
 let b:Frame:={(default:Frame) with fn:=f0,kind:=.normal}
 have t:b.roundOf=none:=rfl
 have u:Frame.enter T.P f0 args .normal=on b {tmps:=args++Array.replicate (fn.ntmps - args.size) undef,defers:=[]} [.code cd]:=by
  simp[Frame.enter,on,m,hb,b]
  rfl
 rw[u]
 have j:=ZJ.ek T Φ
 have leave:∀(c:Act) (todo:List Item) F' (a:Z),(c.defers=[dcall f #[]]/\∃x k p d,(p= .reg->k=x.n)/\a= .co x k p (d+1)/\R (.tuple #[]) F' (.co x k p d))->ZJ T Φ a (G {on b c todo with mode:=.returning} (g::cs)) F':=by
  intro c todo F' a ⟨hd,x,k,p,d,v,y,B⟩
  subst y
  rw[eD t]
  refine KJ r v hd ((j _).move (fr':=g.finish (.tuple #[])) (cs':=cs) (fun w=>?_) (s _ F' _ B))
  exact stepG_leave rfl rfl m (results_none o _ T.P w) (events_results_none o _ _)
 refine h _ (by simp[sz,q];omega) rfl (fun i=>?_) b [] (g::cs) ⟨by simp[b],rfl,rfl⟩ fun e c F' a l=>?_
 ·simp only[slot,q,Array.getD_eq_getD_getElem?]
  rcases Nat.lt_or_ge i args.size with hi|hi
  ·rw[Array.getElem?_append_left hi]
  ·rw[Array.getElem?_append_right hi,Array.getElem?_replicate,Array.getElem?_eq_none hi]
   split<;>rfl
 ·cases e with
  |normal=>exact (j a).move (fun _=>lW rfl) (leave c _ F' a l)
  |exit i=>exact l.elim
  |ret=>exact fun D=>(j a).move (fun _=>stepG_ret' rfl) (leave c _ F' a l)
theorem fD.KM {args:Array Value}{ro:Addr->Option Value}{R:Value->aa->Prop}(h:∀Φ,cG T.P (ZJ T Φ) f args ⟨ro,[]⟩ .free (fun v F' z=>z= .free/\R v F')):fD T.P f args ⟨ro,[]⟩ R:=
 fD.JL fun Φ c cs a=>h Φ c cs fun v F' z ⟨b,d⟩=>by subst b;exact a v F' d
end
end Go.Sep
end
section
namespace Go.Proofs.YtpgcmoanfifglaaGreatDoor
open Go Go.Sep Go.Proofs Go.Conc
open Go.ConcN (upd upd_same)
open Go.ConcM (muA msA)
open Go.ConcR (stA smA)
set_option maxRecDepth 100000
set_option maxHeartbeats 4000000
attribute [local go_sem] Int.reduceBEq Int.reduceBNe muA msA stA smA
noncomputable abbrev TT:PT:=⟨Tryz.prog,184,191,4⟩
theorem KN {f:FuncId}{R:Value->aa->Z->Prop}{a:Act}{F:aa}{x:X}{k d:Nat}{p:P0}(hd:a.defers=[dcall f #[]])(b:p= .reg->k=x.n)(c:R (.tuple #[]) F (.co x k p d)):yP f R .ret a F (.co x k p (d+1)):=⟨hd,x,k,p,d,b,rfl,c⟩
section
variable {Φ : Goroutine → aa → Prop} {x : X} {F : aa} {k : Nat}
theorem Dw (w:World)(s:Sh)(h:cx (x.cy TT) w s):∃v,w.cell? ⟨x.Wg,0,none⟩=some v:=⟨_,h.wg.1⟩
theorem Dx (w:World)(s:Sh)(h:cx (x.cy TT) w s):∃v,w.cell? ⟨x.Wg,1,none⟩=some v:=⟨_,h.ws.1⟩
theorem KO (aF:x.Mu≠x.Wg/\x.Mu≠x.Is/\x.Wg≠x.Is)(c:x.n<67108864):
  cG Tryz.prog (ZJ TT Φ) 158 #[.pointer (some (stA x.Wg)),.int .u64 4294967296] F (.co x k (.opn 0) 1)
   (fun r F' d=>F'=F/\∃v:Nat,v<=x.n/\r= .int .u64 (((v+1:Nat):Int)*4294967296+((0:Nat):Int))/\d= .co x k (.opn 1) 1):=by
 have a:=ZJ.ek TT Φ
 have hJ:True:=trivial
 refine cG.go (main:=true) a Tryz.func158 rfl Tryz.ntmps158 (by simp) fun A f hd hs=>?_
 have g:=hs 0
 have k1:=hs 1
 clear hs
 repeat refine ay (a _) ?_
 refine aZ a fun K b=>?_
 refine ai.pure (a _) 1 (n:=0) _ rfl rfl ?_;simp only[*,go_sem,-b,-a]
 refine ai.nil a (b _ _ _ ?_);clear b K
 repeat refine ay (a _) ?_
 refine aZ a fun K b=>?_
 refine ai.pure (a _) 4 (n:=2) _ rfl rfl ?_;simp only[*,go_sem,-b,-a]
 refine KC Da aF c ⟨_,_,_,rfl,(by first|(simp only[*,go_sem,-b,-a,-hJ];done)|rfl),rfl,by first|(simp only[*,go_sem,-b,-a,-hJ];done)|(simp only[*,go_sem,-b,-a,-hJ];rfl),rfl⟩ fun v e=>?_
 refine ai.pure (a _) 1 (n:=0) _ rfl rfl ?_;simp only[*,go_sem,-b,-a]
 refine ai.nil a (b _ _ _ ?_);clear b K
 exact fj (lP rfl (by simp only[*,go_sem,-a,-hJ]) (by simp only[*,go_sem,-a,-hJ]) ⟨rfl,v,e,rfl,rfl⟩).2
theorem KP {u:Nat}:
  cG Tryz.prog (ZJ TT Φ) 160 #[.pointer (some (stA x.Wg))] F (.co x k (.look u) 1)
   (fun r F' c=>F'=F/\∃v:Nat,v<=u/\r= .int .u64 ((v:Int)*4294967296+((0:Nat):Int))/\c= .co x k (if v=0 then .eR else .look v) 1):=by
 have a:=ZJ.ek TT Φ
 have hJ:True:=trivial
 refine cG.go (main:=true) a Tryz.func160 rfl Tryz.ntmps160 (by simp) fun A e hd hs=>?_
 have f:=hs 0
 clear hs
 repeat refine ay (a _) ?_
 refine aZ a fun K b=>?_
 refine ai.pure (a _) 1 (n:=0) _ rfl rfl ?_;simp only[*,go_sem,-b,-a]
 refine ai.nil a (b _ _ _ ?_);clear b K
 repeat refine ay (a _) ?_
 refine aZ a fun K b=>?_
 refine ai.pure (a _) 3 (n:=2) _ rfl rfl ?_;simp only[*,go_sem,-b,-a]
 refine KD yw ⟨_,_,_,rfl,(by first|(simp only[*,go_sem,-b,-a,-hJ];done)|rfl),rfl,by first|(simp only[*,go_sem,-b,-a,-hJ];done)|(simp only[*,go_sem,-b,-a,-hJ];rfl),rfl⟩ fun v d=>?_
 refine ai.pure (a _) 1 (n:=0) _ rfl rfl ?_;simp only[*,go_sem,-b,-a]
 refine ai.nil a (b _ _ _ ?_);clear b K
 exact fj (lP rfl (by simp only[*,go_sem,-a,-hJ]) (by simp only[*,go_sem,-a,-hJ]) ⟨rfl,v,d,rfl,rfl⟩).2
theorem KQ:
  cG Tryz.prog (ZJ TT Φ) 160 #[.pointer (some (stA x.Wg))] F (.co x k .eR 1)
   (fun r F' c=>F'=F/\r= .int .u64 0/\c= .co x k .eR 1):=by
 have a:=ZJ.ek TT Φ
 have hJ:True:=trivial
 refine cG.go (main:=true) a Tryz.func160 rfl Tryz.ntmps160 (by simp) fun A d hd hs=>?_
 have e:=hs 0
 clear hs
 repeat refine ay (a _) ?_
 refine aZ a fun K b=>?_
 refine ai.pure (a _) 1 (n:=0) _ rfl rfl ?_;simp only[*,go_sem,-b,-a]
 refine ai.nil a (b _ _ _ ?_);clear b K
 repeat refine ay (a _) ?_
 refine aZ a fun K b=>?_
 refine ai.pure (a _) 3 (n:=2) _ rfl rfl ?_;simp only[*,go_sem,-b,-a]
 refine KE yw ⟨_,_,_,rfl,(by first|(simp only[*,go_sem,-b,-a,-hJ];done)|rfl),rfl,by first|(simp only[*,go_sem,-b,-a,-hJ];done)|(simp only[*,go_sem,-b,-a,-hJ];rfl),rfl⟩ ?_
 refine ai.pure (a _) 1 (n:=0) _ rfl rfl ?_;simp only[*,go_sem,-b,-a]
 refine ai.nil a (b _ _ _ ?_);clear b K
 exact fj (lP rfl (by simp only[*,go_sem,-a,-hJ]) (by simp only[*,go_sem,-a,-hJ]) ⟨rfl,rfl,rfl⟩).2
theorem KR (aF:x.Mu≠x.Wg/\x.Mu≠x.Is/\x.Wg≠x.Is){v:Nat}(d:0<v):
  cG Tryz.prog (ZJ TT Φ) 169 #[.pointer (some (stA x.Wg)),.int .u64 ((v:Int)*4294967296+((0:Nat):Int)),.int .u64 ((v:Int)*4294967296+((0:Nat):Int)+1)] F (.co x x.n (.look v) 1)
   (fun r F' c=>F'=F/\((r= .bool true/\c= .co x x.n .reg 1)\/(r= .bool false/\c= .co x x.n (.look (v - 1)) 1))):=by
 have a:=ZJ.ek TT Φ
 have hJ:True:=trivial
 refine cG.go (main:=true) a Tryz.func169 rfl Tryz.ntmps169 (by simp) fun A e hd hs=>?_
 have f:=hs 0
 have k1:=hs 1
 have g:=hs 2
 clear hs
 repeat refine ay (a _) ?_
 refine aZ a fun K b=>?_
 refine ai.pure (a _) 1 (n:=0) _ rfl rfl ?_;simp only[*,go_sem,-b,-a]
 refine ai.nil a (b _ _ _ ?_);clear b K
 repeat refine ay (a _) ?_
 refine aZ a fun K b=>?_
 refine ai.pure (a _) 5 (n:=2) _ rfl rfl ?_;simp only[*,go_sem,-b,-a]
 refine KF JP aF d rfl ⟨_,_,_,rfl,(by first|(simp only[*,go_sem,-b,-a,-hJ];done)|rfl),rfl,by first|(simp only[*,go_sem,-b,-a,-hJ];done)|(simp only[*,go_sem,-b,-a,-hJ];rfl),rfl⟩ ?_ ?_
 ·refine ai.pure (a _) 1 (n:=0) _ rfl rfl ?_;simp only[*,go_sem,-b,-a]
  refine ai.nil a (b _ _ _ ?_);clear b K
  exact fj (lP rfl (by simp only[*,go_sem,-a,-hJ]) (by simp only[*,go_sem,-a,-hJ]) ⟨rfl,.inl ⟨rfl,rfl⟩⟩).2
 ·refine ai.pure (a _) 1 (n:=0) _ rfl rfl ?_;simp only[*,go_sem,-b,-a]
  refine ai.nil a (b _ _ _ ?_);clear b K
  exact fj (lP rfl (by simp only[*,go_sem,-a,-hJ]) (by simp only[*,go_sem,-a,-hJ]) ⟨rfl,.inr ⟨rfl,rfl⟩⟩).2
end
attribute [local go_sem] Int.reduceBEq Int.reduceBNe muA msA stA smA
def KS (Wg:Nat)(F:aa)(z:Z)(v:Int)(a:Act)(F':aa)(b:Z):Prop:=
 F'=F/\slot a 1= .int .i64 1/\slot a 7= .int .i32 v/\slot a 8= .int .u32 0/\sz a=117/\a.defers=[dcall 153 #[]]/\b=z
section
variable {Φ : Goroutine → aa → Prop} {x : X} {F : aa} {k : Nat}
theorem KT (aF:x.Mu≠x.Wg/\x.Mu≠x.Is/\x.Wg≠x.Is)(o:x.n<67108864):
  cG Tryz.prog (ZJ TT Φ) 132 #[.pointer (some (stA x.Wg)),.int .i64 1] F (.co x k (.opn 0) 0)
   (fun r F' g=>r= .tuple #[]/\F'=F/\g= .co x k (.opn 1) 0):=by
 have a:=ZJ.ek TT Φ
 have hJ:True:=trivial
 refine cG.KL lQ Tryz.func132 rfl rfl Tryz.ntmps132 (by simp) fun A i hd hs=>?_
 have p:=hs 0
 have k1:=hs 1
 clear hs
 have c1:decide ((1:Int)<0)=false:=by decide
 have c2:decide ((1:Int)>0)=true:=by decide
 repeat refine ay (a _) ?_
 refine cZ (a _) (by simp only[*,go_sem,-a,-hJ]) ?_
 repeat refine ay (a _) ?_
 refine aZ a fun K b=>?_
 refine ai.pure (a _) 2 (n:=0) _ rfl rfl ?_;simp only[*,go_sem,-b,-a]
 refine ai.nil a (b _ _ _ ?_);clear b K
 repeat refine ay (a _) ?_
 refine cD (a _) (by simp only[*,go_sem,-a,-hJ]) ?_
 refine cH (a _) ?_
 repeat refine ay (a _) ?_
 refine aZ a fun K b=>?_
 refine Dt qV ⟨_,_,_,rfl,(by first|(simp only[*,go_sem,-b,-a,-hJ];done)|rfl),rfl,by first|(simp only[*,go_sem,-b,-a,-hJ];done)|(simp only[*,go_sem,-b,-a,-hJ];rfl),rfl⟩ (fun e=>by cases e) (.opn 0) (fun _ _ _ h=>h) ?_
 refine ai.nil a (b _ _ _ ?_);clear b K
 repeat refine ay (a _) ?_
 refine aZ a fun K b=>?_
 refine ai.defer (a _) rfl (by first|(simp only[*,go_sem,-b,-a,-hJ];done)|rfl) rfl rfl (by simp;rfl) fun d e1 e2 j=>?_
 have l0:slot d 0= .pointer (some ⟨x.Wg,0,none⟩):=(e1 0).trans (by simp only[*,go_sem,-a,-hJ])
 have l:slot d 1= .int .i64 1:=(e1 1).trans (by simp only[*,go_sem,-a,-hJ])
 replace i:sz d=117:=e2.trans (by simp only[*,go_sem,-a,-hJ])
 replace hd:d.defers=[dcall 153 #[]]:=j.trans (by simp only[*,go_sem,-a,-hJ])
 clear e1 e2 j p k1
 refine ai.nil a (b _ _ _ ?_);clear b K
 repeat refine ay (a _) ?_
 refine aZ a fun K b=>?_
 refine ai.pure (a _) 1 (n:=0) _ rfl rfl ?_;simp only[*,go_sem,-b,-a]
 refine ai.nil a (b _ _ _ ?_);clear b K
 repeat refine ay (a _) ?_
 refine aZ a fun K b=>?_
 refine ai.entry (.bool false) (a _) Db ⟨_,_,_,rfl,(by first|(simp only[*,go_sem,-b,-a,-hJ];done)|rfl),rfl,by first|(simp only[*,go_sem,-b,-a,-hJ];done)|(simp only[*,go_sem,-b,-a,-hJ];rfl),rfl⟩ ?_
 refine ai.nil a (b _ _ _ ?_);clear b K
 repeat refine ay (a _) ?_
 refine cD (a _) (by simp only[*,go_sem,-a,-hJ]) ?_
 refine cH (a _) ?_
 have w1:IntKind.u64.wrap 1=1:=by decide
 have w2:IntKind.u64.wrap (1*2 ^ min 32 64)=4294967296:=by decide
 repeat refine ay (a _) ?_
 refine aZ a fun K b=>?_
 refine ai.pure (a _) 6 (n:=2) _ rfl rfl ?_;simp only[*,go_sem,-b,-a]
 refine ai.fV (a _) rfl (by first|(simp only[*,go_sem,-b,-a,-hJ];done)|rfl) rfl Ah (by simp only[*,go_sem,-b,-a,-hJ]) (KO aF o) fun r F' aK q=>?_
 obtain ⟨rfl,v,s,rfl,rfl⟩:=q
 obtain ⟨y,c⟩:∃y:Int,y=((v+1:Nat):Int)*4294967296+((0:Nat):Int):=⟨_,rfl⟩
 rw[<-c]
 have a1:ig y 2147483648=0:=by show kQ y 2147483648=0;rw[c];exact yL (v+1) 0 (by omega) (by omega)
 have a2:ig y 2147483647=0:=by show kQ y 2147483647=0;rw[c];exact yM (v+1) 0 (by omega) (by omega)
 obtain ⟨V,m⟩:∃V:Int,V=((v+1:Nat):Int):=⟨_,rfl⟩
 have a3:y.fdiv (2 ^ min 32 64)=V:=by rw[c,m];exact yN (v+1) 0 (by omega)
 have a4:IntKind.i32.wrap V=V:=iE (by omega) (by omega)
 have a5:IntKind.u32.wrap 0=0:=by decide
 have w:IntKind.i32.wrap 1=1:=by decide
 have c3:decide (V<0)=false:=by simp;omega
 have c4:decide (V>0)=true:=by simp;omega
 have f:(V==1)=true\/(V==1)=false:=by cases (V==1)<;>simp
 clear c m s
 refine ai.pure (a _) 1 (n:=0) _ rfl rfl ?_;simp only[*,go_sem,-b,-a]
 refine ai.nil a (b _ _ _ ?_);clear b K
 repeat refine ay (a _) ?_
 refine aZ a fun K b=>?_
 refine ai.pure (a _) 7 (n:=0) _ rfl rfl ?_;simp only[*,go_sem,-b,-a]
 refine ai.nil a (b _ _ _ ?_);clear b K
 repeat refine ay (a _) ?_
 refine cD (a _) (by simp only[*,go_sem,-a,-hJ]) ?_
 refine cH (a _) ?_
 repeat refine ay (a _) ?_
 refine aZ a fun K b=>?_
 refine ai.pure (a _) 4 (n:=0) _ rfl rfl ?_;simp only[*,go_sem,-b,-a]
 refine ai.nil a (b _ _ _ ?_);clear b K
 repeat refine ay (a _) ?_
 refine aZ a fun K b=>?_
 refine ai.pure (a _) 4 (n:=0) _ rfl rfl ?_;simp only[*,go_sem,-b,-a]
 refine ai.nil a (b _ _ _ ?_);clear b K
 repeat refine ay (a _) ?_
 refine aZ a fun K b=>?_
 refine ai.pure (a _) 10 (n:=0) _ rfl rfl ?_;simp only[*,go_sem,-b,-a]
 refine ai.nil a (b _ _ _ ?_);clear b K
 repeat refine ay (a _) ?_
 refine uj a (KS x.Wg F' (.co x k (.opn 1) 1) V) ?_ ?_
 ·rcases f with f|f
  ·repeat refine ay (a _) ?_
   refine cZ (a _) (by simp only[*,go_sem,-a,-hJ]) ?_
   repeat refine ay (a _) ?_
   refine aZ a fun K b=>?_
   refine ai.pure (a _) 3 (n:=2) _ rfl rfl ?_;simp only[*,go_sem,-b,-a]
   refine uq ⟨x.Wg,1,none⟩ Dc lR Dd ⟨_,rfl,(by first|(simp only[*,go_sem,-b,-a,-hJ];done)|rfl),rfl,rfl⟩ (fun e=>by cases e) (by simp only[*,go_sem,-b,-a,-hJ]) Dx ?_
   refine KA JR ⟨_,_,_,rfl,(by first|(simp only[*,go_sem,-b,-a,-hJ];done)|rfl),rfl,by first|(simp only[*,go_sem,-b,-a,-hJ];done)|(simp only[*,go_sem,-b,-a,-hJ];rfl),rfl⟩ (fun e=>by cases e) ?_
   refine ai.nil a (b _ _ _ ?_);clear b K
   exact ey ⟨rfl,(by simp only[*,go_sem,-a,-hJ]),(by simp only[*,go_sem,-a,-hJ]),(by simp only[*,go_sem,-a,-hJ]),(by simp only[*,go_sem,-a,-hJ]),(by simp only[*,go_sem,-a,-hJ]),rfl⟩
  ·repeat refine ay (a _) ?_
   refine cD (a _) (by simp only[*,go_sem,-a,-hJ]) ?_
   refine cH (a _) ?_
   exact ey ⟨rfl,(by simp only[*,go_sem,-a,-hJ]),(by simp only[*,go_sem,-a,-hJ]),(by simp only[*,go_sem,-a,-hJ]),(by simp only[*,go_sem,-a,-hJ]),(by simp only[*,go_sem,-a,-hJ]),rfl⟩
 clear f l0 l i hd a1 a2 a3
 rintro A t z ⟨rfl,l,B,C,i,hd,rfl⟩
 repeat refine ay (a _) ?_
 refine aZ a fun K b=>?_
 refine ai.pure (a _) 2 (n:=0) _ rfl rfl ?_;simp only[*,go_sem,-b,-a]
 refine ai.nil a (b _ _ _ ?_);clear b K
 repeat refine ay (a _) ?_
 refine cD (a _) (by simp only[*,go_sem,-a,-hJ]) ?_
 refine cH (a _) ?_
 repeat refine ay (a _) ?_
 refine aZ a fun K b=>?_
 refine ai.pure (a _) 12 (n:=0) _ rfl rfl ?_;simp only[*,go_sem,-b,-a]
 refine ai.nil a (b _ _ _ ?_);clear b K
 repeat refine ay (a _) ?_
 refine cD (a _) (by simp only[*,go_sem,-a,-hJ]) ?_
 refine cH (a _) ?_
 repeat refine ay (a _) ?_
 refine aZ a fun K b=>?_
 refine ai.pure (a _) 6 (n:=0) _ rfl rfl ?_;simp only[*,go_sem,-b,-a]
 refine ai.nil a (b _ _ _ ?_);clear b K
 repeat refine ay (a _) ?_
 refine cZ (a _) (by simp only[*,go_sem,-a,-hJ]) ?_
 exact fj (show yP 153 (fun r u g=>r= .tuple #[]/\u=t/\g= .co x k (.opn 1) 0) .ret _ _ _ from KN (by simp only[*,go_sem,-a,-hJ]) (fun e=>by cases e) ⟨rfl,rfl,rfl⟩)
end
attribute [local go_sem] Int.reduceBEq Int.reduceBNe muA msA stA smA
def Dy (x:X)(F:aa)(m:Nat)(a:Act)(F':aa)(z:Z):Prop:=
 ∃u:Nat,u<=m/\u<=x.n/\F'=F/\slot a 0= .pointer (some ⟨x.Wg,0,none⟩)/\sz a=84/\a.defers=[]/\z= .co x x.n (.look u) 1
section
variable {Φ : Goroutine → aa → Prop} {x : X} {F : aa} {k : Nat}
theorem KU (aF:x.Mu≠x.Wg/\x.Mu≠x.Is/\x.Wg≠x.Is)(z:x.n<67108864):
  cG Tryz.prog (ZJ TT Φ) 139 #[.pointer (some (stA x.Wg))] F (.co x x.n (.opn 0) 0)
   (fun r F' d=>r= .tuple #[]/\F'=⟨F.ro,(x.Is,(x.cy TT).fin)::F.own⟩/\d= .free):=by
 have a:=ZJ.ek TT Φ
 have hJ:True:=trivial
 refine cG.go (main:=true) a Tryz.func139 rfl Tryz.ntmps139 (by simp) fun A o hd hs=>?_
 have p:=hs 0
 clear hs
 repeat refine ay (a _) ?_
 refine cZ (a _) (by simp only[*,go_sem,-a,-hJ]) ?_
 repeat refine ay (a _) ?_
 refine aZ a fun K b=>?_
 refine Dt qV ⟨_,_,_,rfl,(by first|(simp only[*,go_sem,-b,-a,-hJ];done)|rfl),rfl,by first|(simp only[*,go_sem,-b,-a,-hJ];done)|(simp only[*,go_sem,-b,-a,-hJ];rfl),rfl⟩ (fun e=>by cases e) (.look x.n) (fun _ _ _ h=>Jn h) ?_
 refine ai.nil a (b _ _ _ ?_);clear b K
 repeat refine ay (a _) ?_
 refine jQ a ?_
 refine qU a (Dy x F) x.n ?_ ?_
 ·exact ⟨x.n,Nat.le_refl _,Nat.le_refl _,rfl,(by simp only[*,go_sem,-a,-hJ]),(by simp only[*,go_sem,-a,-hJ]),(by simp only[*,go_sem,-a,-hJ]),rfl⟩
 ·clear o hd p
  rintro m A F' d ⟨u,B,C,rfl,p,o,hd,rfl⟩
  repeat refine ay (a _) ?_
  refine jQ a ?_
  repeat refine ay (a _) ?_
  refine aZ a fun K b=>?_
  refine ai.pure (a _) 3 (n:=2) _ rfl rfl ?_;simp only[*,go_sem,-b,-a]
  refine ai.fV (a _) rfl (by first|(simp only[*,go_sem,-b,-a,-hJ];done)|rfl) rfl vz (by simp only[*,go_sem,-b,-a,-hJ]) KP fun r k D f=>?_
  obtain ⟨rfl,v,t,rfl,rfl⟩:=f
  obtain ⟨y,c⟩:∃y:Int,y=(v:Int)*4294967296+((0:Nat):Int):=⟨_,rfl⟩
  rw[<-c]
  have a1:ig y 2147483648=0:=by show kQ y 2147483648=0;rw[c];exact yL v 0 (by omega) (by omega)
  have a2:ig y 2147483647=0:=by show kQ y 2147483647=0;rw[c];exact yM v 0 (by omega) (by omega)
  obtain ⟨V,i⟩:∃V:Int,V=(v:Int):=⟨_,rfl⟩
  have a3:y.fdiv (2 ^ min 32 64)=V:=by rw[c,i];exact yN v 0 (by omega)
  have a4:IntKind.i32.wrap V=V:=iE (by omega) (by omega)
  have a5:IntKind.u32.wrap 0=0:=by decide
  have E:IntKind.u64.wrap (y+1)=y+1:=by
   unfold IntKind.wrap
   simp only[IntKind.bits,IntKind.signed]
   simp
   omega
  by_cases j:v=0
  ·
   have c1:(V==0)=true:=by rw[i,j];rfl
   have g:(if v=0 then P0.eR else .look v)= .eR:=if_pos j
   rw[g]
   clear g c i t j
   refine ai.pure (a _) 1 (n:=0) _ rfl rfl ?_;simp only[*,go_sem,-b,-a]
   refine ai.nil a (b _ _ _ ?_);clear b K
   repeat refine ay (a _) ?_
   refine aZ a fun K b=>?_
   refine ai.pure (a _) 4 (n:=0) _ rfl rfl ?_;simp only[*,go_sem,-b,-a]
   refine ai.nil a (b _ _ _ ?_);clear b K
   repeat refine ay (a _) ?_
   refine aZ a fun K b=>?_
   refine ai.pure (a _) 4 (n:=0) _ rfl rfl ?_;simp only[*,go_sem,-b,-a]
   refine ai.nil a (b _ _ _ ?_);clear b K
   repeat refine ay (a _) ?_
   refine aZ a fun K b=>?_
   refine ai.pure (a _) 2 (n:=0) _ rfl rfl ?_;simp only[*,go_sem,-b,-a]
   refine ai.nil a (b _ _ _ ?_);clear b K
   repeat refine ay (a _) ?_
   refine cZ (a _) (by simp only[*,go_sem,-a,-hJ]) ?_
   repeat refine ay (a _) ?_
   refine cZ (a _) (by simp only[*,go_sem,-a,-hJ]) ?_
   repeat refine ay (a _) ?_
   refine aZ a fun K b=>?_
   refine Du lQ ⟨_,_,_,rfl,(by first|(simp only[*,go_sem,-b,-a,-hJ];done)|rfl),rfl,by first|(simp only[*,go_sem,-b,-a,-hJ];done)|(simp only[*,go_sem,-b,-a,-hJ];rfl),rfl⟩ (fun e=>by cases e) ?_
   refine ai.nil a (b _ _ _ ?_);clear b K
   repeat refine ay (a _) ?_
   refine aZ a fun K b=>?_
   refine ai.pure (a _) 1 (n:=2) _ rfl rfl ?_;simp only[*,go_sem,-b,-a]
   refine uq ⟨x.Wg,0,none⟩ yy lR yA ⟨_,rfl,(by first|(simp only[*,go_sem,-b,-a,-hJ];done)|rfl),rfl,rfl⟩ (fun e=>by cases e) (by simp only[*,go_sem,-b,-a,-hJ]) Dw ?_
   refine Dv tV rfl ⟨_,_,_,rfl,(by first|(simp only[*,go_sem,-b,-a,-hJ];done)|rfl),rfl,by first|(simp only[*,go_sem,-b,-a,-hJ];done)|(simp only[*,go_sem,-b,-a,-hJ];rfl),rfl⟩ ?_
   refine ai.nil a (b _ _ _ ?_);clear b K
   repeat refine ay (a _) ?_
   refine aZ a fun K b=>?_
   refine ai.pure (a _) 11 (n:=0) _ rfl rfl ?_;simp only[*,go_sem,-b,-a]
   refine ai.nil a (b _ _ _ ?_);clear b K
   repeat refine ay (a _) ?_
   refine cD (a _) (by simp only[*,go_sem,-a,-hJ]) ?_
   refine cH (a _) ?_
   exact fj (show jR Tryz.prog Tryz.f139 (fun (r:Value) (F':aa) (d:Z)=>r= .tuple #[]/\F'=⟨k.ro,(x.Is,(x.cy TT).fin)::k.own⟩/\d=Z.free) .ret _ _ _ from oK rfl (by simp only[*,go_sem,-a,-hJ]) ⟨rfl,rfl,rfl⟩)
  ·have c1:(V==0)=false:=by simp;omega
   have g:(if v=0 then P0.eR else .look v)= .look v:=if_neg j
   rw[g]
   have l:=KR (Φ:=Φ) (F:=k) aF (v:=v) (by omega)
   rw[<-c] at l
   clear g c i
   refine ai.pure (a _) 1 (n:=0) _ rfl rfl ?_;simp only[*,go_sem,-b,-a]
   refine ai.nil a (b _ _ _ ?_);clear b K
   repeat refine ay (a _) ?_
   refine aZ a fun K b=>?_
   refine ai.pure (a _) 4 (n:=0) _ rfl rfl ?_;simp only[*,go_sem,-b,-a]
   refine ai.nil a (b _ _ _ ?_);clear b K
   repeat refine ay (a _) ?_
   refine aZ a fun K b=>?_
   refine ai.pure (a _) 4 (n:=0) _ rfl rfl ?_;simp only[*,go_sem,-b,-a]
   refine ai.nil a (b _ _ _ ?_);clear b K
   repeat refine ay (a _) ?_
   refine aZ a fun K b=>?_
   refine ai.pure (a _) 2 (n:=0) _ rfl rfl ?_;simp only[*,go_sem,-b,-a]
   refine ai.nil a (b _ _ _ ?_);clear b K
   repeat refine ay (a _) ?_
   refine cD (a _) (by simp only[*,go_sem,-a,-hJ]) ?_
   refine cH (a _) ?_
   repeat refine ay (a _) ?_
   refine aZ a fun K b=>?_
   refine ai.pure (a _) 6 (n:=1) _ rfl rfl ?_;simp only[*,go_sem,-b,-a]
   refine ai.fV (a _) rfl (by first|(simp only[*,go_sem,-b,-a,-hJ];done)|rfl) rfl Fq (by simp only[*,go_sem,-b,-a,-hJ]) l fun r w G f=>?_
   clear l
   obtain ⟨rfl,⟨rfl,rfl⟩|⟨rfl,rfl⟩⟩:=f
   ·
    refine ai.nil a (b _ _ _ ?_);clear b K
    repeat refine ay (a _) ?_
    refine cZ (a _) (by simp only[*,go_sem,-a,-hJ]) ?_
    repeat refine ay (a _) ?_
    refine aZ a fun K b=>?_
    refine ai.pure (a _) 4 (n:=0) _ rfl rfl ?_;simp only[*,go_sem,-b,-a]
    refine ai.nil a (b _ _ _ ?_);clear b K
    repeat refine ay (a _) ?_
    refine cZ (a _) (by simp only[*,go_sem,-a,-hJ]) ?_
    repeat refine ay (a _) ?_
    refine aZ a fun K b=>?_
    refine ai.pure (a _) 3 (n:=2) _ rfl rfl ?_;simp only[*,go_sem,-b,-a]
    refine uq ⟨x.Wg,1,none⟩ Dc lR Dd ⟨_,rfl,(by first|(simp only[*,go_sem,-b,-a,-hJ];done)|rfl),rfl,rfl⟩ (fun _=>rfl) (by simp only[*,go_sem,-b,-a,-hJ]) Dx ?_
    refine KB JS ⟨_,_,_,rfl,(by first|(simp only[*,go_sem,-b,-a,-hJ];done)|rfl),rfl,by first|(simp only[*,go_sem,-b,-a,-hJ];done)|(simp only[*,go_sem,-b,-a,-hJ];rfl),rfl⟩ (fun _=>rfl) ?_
    refine ai.nil a (b _ _ _ ?_);clear b K
    repeat refine ay (a _) ?_
    refine aZ a fun K b=>?_
    refine ai.pure (a _) 1 (n:=0) _ rfl rfl ?_;simp only[*,go_sem,-b,-a]
    refine ai.nil a (b _ _ _ ?_);clear b K
    repeat refine ay (a _) ?_
    refine aZ a fun K b=>?_
    refine ai.pure (a _) 6 (n:=0) _ rfl rfl ?_;simp only[*,go_sem,-b,-a]
    refine ai.nil a (b _ _ _ ?_);clear b K
    repeat refine ay (a _) ?_
    refine cD (a _) (by simp only[*,go_sem,-a,-hJ]) ?_
    refine cH (a _) ?_
    repeat refine ay (a _) ?_
    refine aZ a fun K b=>?_
    refine ai.pure (a _) 4 (n:=1) _ rfl rfl ?_;simp only[*,go_sem,-b,-a]
    refine KG (.bool false) JU aF rfl ⟨_,_,_,rfl,(by first|(simp only[*,go_sem,-b,-a,-hJ];done)|rfl),rfl,by first|(simp only[*,go_sem,-b,-a,-hJ];done)|(simp only[*,go_sem,-b,-a,-hJ];rfl),rfl⟩ ?_
    refine ai.nil a (b _ _ _ ?_);clear b K
    repeat refine ay (a _) ?_
    refine aZ a fun K b=>?_
    refine ai.pure (a _) 3 (n:=3) _ rfl rfl ?_;simp only[*,go_sem,-b,-a]
    refine ai.fV (a _) rfl (by first|(simp only[*,go_sem,-b,-a,-hJ];done)|rfl) rfl vz (by simp only[*,go_sem,-b,-a,-hJ]) KQ fun r q H f=>?_
    obtain ⟨rfl,rfl,rfl⟩:=f
    refine ai.pure (a _) 2 (n:=0) _ rfl rfl ?_;simp only[*,go_sem,-b,-a]
    refine ai.nil a (b _ _ _ ?_);clear b K
    repeat refine ay (a _) ?_
    refine cZ (a _) (by simp only[*,go_sem,-a,-hJ]) ?_
    repeat refine ay (a _) ?_
    refine aZ a fun K b=>?_
    refine Du lQ ⟨_,_,_,rfl,(by first|(simp only[*,go_sem,-b,-a,-hJ];done)|rfl),rfl,by first|(simp only[*,go_sem,-b,-a,-hJ];done)|(simp only[*,go_sem,-b,-a,-hJ];rfl),rfl⟩ (fun e=>by cases e) ?_
    refine ai.nil a (b _ _ _ ?_);clear b K
    repeat refine ay (a _) ?_
    refine aZ a fun K b=>?_
    refine ai.pure (a _) 1 (n:=2) _ rfl rfl ?_;simp only[*,go_sem,-b,-a]
    refine uq ⟨x.Wg,0,none⟩ yy lR yA ⟨_,rfl,(by first|(simp only[*,go_sem,-b,-a,-hJ];done)|rfl),rfl,rfl⟩ (fun e=>by cases e) (by simp only[*,go_sem,-b,-a,-hJ]) Dw ?_
    refine Dv tV rfl ⟨_,_,_,rfl,(by first|(simp only[*,go_sem,-b,-a,-hJ];done)|rfl),rfl,by first|(simp only[*,go_sem,-b,-a,-hJ];done)|(simp only[*,go_sem,-b,-a,-hJ];rfl),rfl⟩ ?_
    refine ai.nil a (b _ _ _ ?_);clear b K
    repeat refine ay (a _) ?_
    refine aZ a fun K b=>?_
    refine ai.pure (a _) 1 (n:=0) _ rfl rfl ?_;simp only[*,go_sem,-b,-a]
    refine ai.nil a (b _ _ _ ?_);clear b K
    repeat refine ay (a _) ?_
    refine cD (a _) (by simp only[*,go_sem,-a,-hJ]) ?_
    refine cH (a _) ?_
    exact fj (show jR Tryz.prog Tryz.f139 (fun (r:Value) (F':aa) (d:Z)=>r= .tuple #[]/\F'=⟨q.ro,(x.Is,(x.cy TT).fin)::q.own⟩/\d=Z.free) .ret _ _ _ from oK rfl (by simp only[*,go_sem,-a,-hJ]) ⟨rfl,rfl,rfl⟩)
   ·
    refine ai.nil a (b _ _ _ ?_);clear b K
    repeat refine ay (a _) ?_
    refine cD (a _) (by simp only[*,go_sem,-a,-hJ]) ?_
    refine cH (a _) ?_
    change ∃s,s<m/\Dy x w s _ _ _
    exact ⟨v - 1,by omega,v - 1,Nat.le_refl _,by omega,rfl,(by simp only[*,go_sem,-a,-hJ]),(by simp only[*,go_sem,-a,-hJ]),(by simp only[*,go_sem,-a,-hJ]),rfl⟩
end
end Go.Proofs.YtpgcmoanfifglaaGreatDoor
end
section
namespace Go.Sep
open Go Go.Conc
variable {P : Program}
theorem KV {t e:TypeId}{i:TypeInfo}{n:Nat}{R:Value->aa->Prop}{F:aa}(hu:P.underlying t=some (.slice e))(hi:P.info? e=some i)(hb:i.bytes=1)(hs:bZ P e=some 1)(d:zeroOf P e=some (.bool false))(g:n<1048576)
  (h:∀b,dP F b->R (.slice (some ⟨b,0,none⟩) n n) (F.push b (.cells (List.replicate n (Value.bool false)).toArray e))):eU P (Instr.makeSlice t (.int .i64 n) (.int .i64 n)) R F:=by
 unfold eU
 have hw:IntKind.i64.wrap (n:Int)=(n:Int):=by
  unfold IntKind.wrap
  simp[IntKind.bits,IntKind.signed]
  omega
 have e1:¬((n:Int)<0\/(1:Int)*(n:Int)>2 ^ 48):=by
  have:((2:Int) ^ 48)=281474976710656:=by decide
  omega
 simp only[Instr.makeSlice,bu,dn,hu,zG,oX,hi,hb,hw]
 have e2:(((n:Int)<0||decide (((1:Nat):Int)*(n:Int)>2 ^ 48))||decide ((n:Int)<0)||decide ((n:Int)>(n:Int)))=false:=by
  have:((2:Int) ^ 48)=281474976710656:=by decide
  simp only[Bool.or_eq_false_iff,decide_eq_false_iff_not]
  omega
 rw[if_neg (by rw[e2];simp)]
 simp only[bu]
 refine vc _ ?_
 simp only[bu,eK,hs,Int.toNat_natCast,Nat.mul_one]
 have fin:∀zero:Array Value,(n≠0->zero=#[.bool false])->aW P (newRow e ((Array.range n).map (fun j=>zero[j % zero.size]!))) (fun a G=>aW P (Pure.pure (Value.slice (some a) n n)) R G) F:=fun zero hzero=>by
  simp only[newRow,bu,oW,bF]
  have f:((Array.range n).map (fun j=>zero[j % zero.size]!))=(List.replicate n (Value.bool false)).toArray:=by
   rcases Nat.eq_zero_or_pos n with rfl|k
   ·simp
   ·rw[hzero (by omega)]
    rw[<-Array.toList_inj]
    simp only[Array.toList_map,Array.toList_range]
    apply List.ext_getElem
    ·simp
    ·intro i l m
     simp[Nat.mod_one]
  rw[f]
  exact ⟨rfl,h⟩
 by_cases c:n=0
 ·rw[if_pos c]
  exact fin #[] (fun x=>absurd c x)
 ·rw[if_neg c]
  rw[bu,lY,d]
  exact fin #[.bool false] (fun _=>rfl)
section
variable {T : PT} {Φ : Goroutine → aa → Prop} {fi : FuncId}
def yQ:Z->Bool| .co _ _ .reg _=>false|_=>true
theorem ZJ.KW (T:PT)(Φ:Goroutine->aa->Prop)(z:Z)(h:yQ z=true):Closed T.P true (ZJ T Φ z):=ZJ.closed T Φ fun x k d e=>by subst e;simp[yQ] at h
theorem Dz {P:Program}{main:Bool}{S:Type}{JF:S->Goroutine->aa->Prop}{ph:S}(hJ:Closed P main (JF ph)){c:Code}{Q:Ex->Act->aa->S->Prop}{a:Act}{F F':aa}(hle:Le F F')(h:cO JF fi c Q a F ph):cO JF fi c Q a F' ph:=
 fun b k cs hb d=>hJ.mono hle (h b k cs hb d)
theorem yR {P:Program}{main:Bool}{S:Type}{JF:S->Goroutine->aa->Prop}{ph:S}(hJ:Closed P main (JF ph)){c:Code}{Q:Ex->Act->aa->S->Prop}{a:Act}{F:aa}(h:aP (keys F.own)->aG F.ro F.own->cO JF fi c Q a F ph):cO JF fi c Q a F ph:=by
 intro b k cs hb d;by_cases hw:∃w,Has F w
 ·obtain ⟨w,hw⟩:=hw;refine h ⟨hw.nodup⟩ (fun b hb off sp=>?_) b k cs hb d;cases e:F.ro ⟨b,off,sp⟩ with
  |none=>rfl
  |some v=>exact absurd hb (hw.apart _ v e)
 ·exact hJ.step fun w f=>absurd ⟨w,f⟩ hw
end
theorem ni {ro:Addr->Option Value}{b a off:Nat}{sp:Option Nat}{o:Obj}(h:ro ⟨a,off,sp⟩=none)(aF:a≠b):bU ro b o ⟨a,off,sp⟩=none:=by simp[bU,h,aF]
theorem KX {ro:Addr->Option Value}{b3 b4 b a I M W:Nat}{i o4 g c d e f:Obj}(p:aP (keys [(W,f),(M,e),(a,c),(I,d),(b,g),(b4,o4),(b3,i)]))(l:aG ro [(W,f),(M,e),(a,c),(I,d),(b,g),(b4,o4),(b3,i)]):
  ∃j,Ext ro j/\Le ⟨j,[(M,e),(W,f),(I,d)]⟩ ⟨ro,[(W,f),(M,e),(a,c),(I,d),(b,g),(b4,o4),(b3,i)]⟩/\
   (∀off v,cellOf i off=some v->j ⟨b3,off,none⟩=some v)/\(∀off v,cellOf o4 off=some v->j ⟨b4,off,none⟩=some v)/\(∀off v,cellOf g off=some v->j ⟨b,off,none⟩=some v)/\(∀off v,cellOf c off=some v->j ⟨a,off,none⟩=some v):=by
 have hd:=p.1
 simp only[keys,List.map_cons,List.map_nil,List.nodup_cons,List.mem_cons,List.not_mem_nil,not_or] at hd
 obtain ⟨⟨-,a1,-,a2,a3,a4,-⟩,⟨G,-,H,J,K,-⟩,⟨c1,c2,c3,c4,-⟩,⟨i1,i2,i3,-⟩,⟨e1,e2,-⟩,⟨r,-⟩,-⟩:=hd
 have r3:∀off sp,ro ⟨b3,off,sp⟩=none:=l b3 (by simp[keys])
 have s:∀off sp,ro ⟨b4,off,sp⟩=none:=l b4 (by simp[keys])
 have t:∀off sp,ro ⟨b,off,sp⟩=none:=l b (by simp[keys])
 have u:∀off sp,ro ⟨a,off,sp⟩=none:=l a (by simp[keys])
 clear l p
 have w:b4≠b3:=r
 have x:b≠b3:=e2
 have y:b≠b4:=e1
 have z:a≠b3:=c4
 have A:a≠b4:=c3
 have B:a≠b:=c2
 let s1:=bU ro b3 i
 let s2:=bU s1 b4 o4
 let k:=bU s2 b g
 let n:=bU k a c
 have C:Ext ro s1:=ga _ _ _
 have q:Ext s1 s2:=ga _ _ _
 have o:Ext s2 k:=ga _ _ _
 have m:Ext k n:=ga _ _ _
 have t4:∀off sp,s1 ⟨b4,off,sp⟩=none:=fun off sp=>ni (s off sp) w
 have t7:∀off sp,s2 ⟨b,off,sp⟩=none:=fun off sp=>ni (ni (t off sp) x) y
 have t8:∀off sp,k ⟨a,off,sp⟩=none:=fun off sp=>ni (ni (ni (u off sp) z) A) B
 have k1:Le ⟨s1,[(W,f),(M,e),(a,c),(I,d),(b,g),(b4,o4)]⟩ ⟨ro,[(W,f),(M,e),(a,c),(I,d),(b,g),(b4,o4),(b3,i)]⟩:=
  j0 (by simp[lk, *]) (by simp) (by simp[au,Ne.symm, *])
 have D:Le ⟨s2,[(W,f),(M,e),(a,c),(I,d),(b,g)]⟩ ⟨s1,[(W,f),(M,e),(a,c),(I,d),(b,g),(b4,o4)]⟩:=
  j0 (by simp[lk, *]) (by simp) (by simp[au,Ne.symm, *])
 have E:Le ⟨k,[(W,f),(M,e),(a,c),(I,d)]⟩ ⟨s2,[(W,f),(M,e),(a,c),(I,d),(b,g)]⟩:=
  j0 (by simp[lk, *]) (by simp) (by simp[au,Ne.symm, *])
 have F:Le ⟨n,[(W,f),(M,e),(I,d)]⟩ ⟨k,[(W,f),(M,e),(a,c),(I,d)]⟩:=
  j0 (by simp[lk, *]) (by simp) (by simp[au,Ne.symm, *])
 refine ⟨n,((C.trans q).trans o).trans m,Aj.trans (((F.trans E).trans D).trans k1),fun off v h=>?_,fun off v h=>?_,fun off v h=>?_,fun off v h=>?_⟩
 ·exact m _ _ (o _ _ (q _ _ ((iR r3).trans h)))
 ·exact m _ _ (o _ _ ((iR t4).trans h))
 ·exact m _ _ ((iR t7).trans h)
 ·exact (iR t8).trans h
theorem KY {ro:Addr->Option Value}{a b2:Nat}{o1 o2:Obj}(d:aP (keys [(b2,o2),(a,o1)]))(c:aG ro [(b2,o2),(a,o1)]):
  ∃b,Ext ro b/\Le ⟨b,[]⟩ ⟨ro,[(b2,o2),(a,o1)]⟩/\(∀off v,cellOf o1 off=some v->b ⟨a,off,none⟩=some v)/\(∀off v,cellOf o2 off=some v->b ⟨b2,off,none⟩=some v):=by
 have hd:=d.1
 simp only[keys,List.map_cons,List.map_nil,List.nodup_cons,List.mem_cons,List.not_mem_nil,not_or] at hd
 have r1:∀off sp,ro ⟨a,off,sp⟩=none:=c a (by simp[keys])
 have r2:∀off sp,ro ⟨b2,off,sp⟩=none:=c b2 (by simp[keys])
 have e:b2≠a:=by obtain ⟨⟨z,-⟩,-⟩:=hd;exact z
 have t2:∀off sp,bU ro a o1 ⟨b2,off,sp⟩=none:=fun off sp=>ni (r2 off sp) e
 have k1:Le ⟨bU ro a o1,[(b2,o2)]⟩ ⟨ro,[(b2,o2),(a,o1)]⟩:=j0 (by simp[lk, *]) (by simp) (by simp[au,Ne.symm, *])
 have f:Le ⟨bU (bU ro a o1) b2 o2,[]⟩ ⟨bU ro a o1,[(b2,o2)]⟩:=j0 (by simp only[lk];simp) (by simp) trivial
 exact ⟨_,(ga _ _ _).trans (ga _ _ _),f.trans k1,fun off v h=>ga _ _ _ _ _ ((iR r1).trans h),fun off v h=>(iR t2).trans h⟩
theorem KZ {T:PT}{Φ:Goroutine->aa->Prop}{x:X}{k:Nat}{ops:Array Oper}{j n:Nat}{Q:Act->aa->Z->Prop}{a:Act}{F:aa}{fi:FuncId}(b:k<x.n){y:Operand}{f0:FuncId}{dh:Array TypeId}{caps:Array Value}(c:nc ops j a (.go {callee:=.value y,args:=#[],argTypes:=dh}) none)(d:ev a y= .func (.func f0) #[] caps)
  (hW:Wk (x.cy T) k ⟨.idle,.cnt,false,0⟩ (born T.P {target:=.fn (.func f0) caps,args:=#[]}) ⟨F.ro,[]⟩) (h:ai (ZJ T Φ) fi ops (j+1) n Q (bg a none undef) F (.co x (k+1) (.opn 0) 0)):ai (ZJ T Φ) fi ops j (n+1) Q a F (.co x k (.opn 1) 0):=by
 obtain ⟨o,e,hg,f,hd⟩:=c
 have e1:execOp a.eval o=(pure (.spawn {target:=.fn (.func f0) caps,args:=#[]}):Sem Next):=by
  unfold execOp
  have e0:(#[]:Array Value)++Array.map (ev a) #[]=#[]:=by simp
  simp only[f,resolve,ez,d,Deferred.ofValue,e0]
  rfl
 refine KH (fv:=y) b e hg (fun w=>?_) rfl hW (by rw[hd];exact h)
 rw[e1]
 exact ⟨rfl,rfl⟩
end Go.Sep
end
section
namespace Go.Proofs.YtpgcmoanfifglaaGreatDoor
open Go Go.Sep Go.Proofs Go.Conc
open Go.ConcN (upd upd_same)
open Go.ConcM (muA msA)
open Go.ConcR (stA smA)
set_option maxRecDepth 100000
set_option maxHeartbeats 4000000
attribute [local go_sem] Int.reduceBEq Int.reduceBNe muA msA stA smA
def K0 (Wg:Nat)(st:Bool)(F:aa)(m:Nat)(a:Act)(F':aa)(ph:Ph):Prop:=
 ∃t8:Int,F'=F/\slot a 0= .pointer (some ⟨Wg,0,none⟩)/\slot a 8= .int .u32 t8/\sz a=117/\a.defers=[dcall 153 #[]]/\((m=1/\t8=1/\ph=⟨.fin,.sm,st,1⟩)\/(m=0/\t8=0/\ph=⟨.fin,.gone,st,1⟩))
theorem K1 {f:FuncId}{R:Value->aa->Ph->Prop}{a:Act}{F:aa}{ph:Ph}{b:Nat}(hd:a.defers=[dcall f #[]])(hg:ph.gp= .gone)(h:ph.deaf=b+1)(c:R (.tuple #[]) F {ph with deaf:=b}):kP f R .normal a F ph:=⟨hd,hg,b,h,c⟩
theorem uu {f:FuncId}{R:Value->aa->Ph->Prop}{a:Act}{F:aa}{ph:Ph}{b:Nat}(hd:a.defers=[dcall f #[]])(hg:ph.gp= .gone)(h:ph.deaf=b+1)(c:R (.tuple #[]) F {ph with deaf:=b}):kP f R .ret a F ph:=⟨hd,hg,b,h,c⟩
section
variable {Mu Wg Is n base T0 i : Nat} {bs : Nat → Bool} {st : Bool} {F : aa}
theorem K2 (aF:Mu≠Wg/\Mu≠Is/\Wg≠Is)(s:n<67108864){mp:Mp}(u:mp= .idle\/mp= .fin)(w:st=bs i):
  cG Tryz.prog (WJ (CY Mu Wg Is n bs base T0) i) 132 #[.pointer (some (stA Wg)),.int .i64 (-1)] F ⟨mp,.cnt,st,0⟩
   (fun r F' aK=>r= .tuple #[]/\F'=F/\aK=⟨.fin,.gone,st,0⟩):=by
 have a:=WJ.ek (CY Mu Wg Is n bs base T0) i
 refine cG.Kq lQ Tryz.func132 rfl rfl Tryz.ntmps132 (by simp) fun A h hd hs=>?_
 have hJ:True:=trivial
 have y:=hs 0
 have k1:=hs 1
 clear hs
 subst w
 have c1:decide ((-1:Int)<0)=true:=by decide
 have c2:decide ((-1:Int)>0)=false:=by decide
 repeat refine ay (a _) ?_
 refine cZ (a _) (by simp only[*,go_sem,-a,-hJ]) ?_
 repeat refine ay (a _) ?_
 refine aZ a fun K b=>?_
 refine ai.pure (a _) 2 (n:=0) _ rfl rfl ?_;simp only[*,go_sem,-b,-a]
 refine ai.nil a (b _ _ _ ?_);clear b K
 repeat refine ay (a _) ?_
 refine cZ (a _) (by simp only[*,go_sem,-a,-hJ]) ?_
 repeat refine ay (a _) ?_
 refine aZ a fun K b=>?_
 refine ai.pure (a _) 1 (n:=2) _ rfl rfl ?_;simp only[*,go_sem,-b,-a]
 refine ug ⟨Wg,0,none⟩ yy lR yA ⟨_,rfl,(by first|(simp only[*,go_sem,-b,-a,-hJ];done)|rfl),rfl,rfl⟩ (by simp) (by simp only[*,go_sem,-b,-a,-hJ]) Ks ?_
 refine J3 C7 ⟨_,_,_,rfl,(by first|(simp only[*,go_sem,-b,-a,-hJ];done)|rfl),rfl,by first|(simp only[*,go_sem,-b,-a,-hJ];done)|(simp only[*,go_sem,-b,-a,-hJ];rfl),rfl⟩ rfl rfl u rfl ?_
 refine ai.nil a (b _ _ _ ?_);clear b K
 repeat refine ay (a _) ?_
 refine aZ a fun K b=>?_
 refine yG qV ⟨_,_,_,rfl,(by first|(simp only[*,go_sem,-b,-a,-hJ];done)|rfl),rfl,by first|(simp only[*,go_sem,-b,-a,-hJ];done)|(simp only[*,go_sem,-b,-a,-hJ];rfl),rfl⟩ (by simp) (by simp) ?_
 refine ai.nil a (b _ _ _ ?_);clear b K
 repeat refine ay (a _) ?_
 refine aZ a fun K b=>?_
 refine ai.defer (a _) rfl (by first|(simp only[*,go_sem,-b,-a,-hJ];done)|rfl) rfl rfl (by simp;rfl) fun g e1 e2 l=>?_
 have l0:slot g 0= .pointer (some ⟨Wg,0,none⟩):=(e1 0).trans (by simp only[*,go_sem,-a,-hJ])
 have z:slot g 1= .int .i64 (-1):=(e1 1).trans (by simp only[*,go_sem,-a,-hJ])
 replace h:sz g=117:=e2.trans (by simp only[*,go_sem,-a,-hJ])
 replace hd:g.defers=[dcall 153 #[]]:=l.trans (by simp only[*,go_sem,-a,-hJ])
 clear e1 e2 l y k1
 refine ai.nil a (b _ _ _ ?_);clear b K
 repeat refine ay (a _) ?_
 refine aZ a fun K b=>?_
 refine ai.pure (a _) 1 (n:=0) _ rfl rfl ?_;simp only[*,go_sem,-b,-a]
 refine ai.nil a (b _ _ _ ?_);clear b K
 repeat refine ay (a _) ?_
 refine aZ a fun K b=>?_
 refine ai.entry (.bool false) (a _) Db ⟨_,_,_,rfl,(by first|(simp only[*,go_sem,-b,-a,-hJ];done)|rfl),rfl,by first|(simp only[*,go_sem,-b,-a,-hJ];done)|(simp only[*,go_sem,-b,-a,-hJ];rfl),rfl⟩ ?_
 refine ai.nil a (b _ _ _ ?_);clear b K
 repeat refine ay (a _) ?_
 refine cD (a _) (by simp only[*,go_sem,-a,-hJ]) ?_
 refine cH (a _) ?_
 have w1:IntKind.u64.wrap (-1)=18446744073709551615:=by decide
 have w2:IntKind.u64.wrap (18446744073709551615*2 ^ min 32 64)=18446744069414584320:=by decide
 repeat refine ay (a _) ?_
 refine aZ a fun K b=>?_
 refine ai.pure (a _) 6 (n:=2) _ rfl rfl ?_;simp only[*,go_sem,-b,-a]
 refine ai.fV (a _) rfl (by first|(simp only[*,go_sem,-b,-a,-hJ];done)|rfl) rfl Ah (by simp only[*,go_sem,-b,-a,-hJ]) (Kt aF s) fun r F' aK f=>?_
 obtain ⟨rfl,v,t,o,ht,rfl,rfl⟩:=f
 obtain ⟨x,d⟩:∃x:Int,x=(v:Int)*4294967296+(t:Int):=⟨_,rfl⟩
 rw[<-d]
 have a1:ig x 2147483648=0:=by show kQ x 2147483648=0;rw[d];exact yL v t (by omega) ht
 have a2:ig x 2147483647=(t:Int):=by show kQ x 2147483647=(t:Int);rw[d];exact yM v t (by omega) ht
 have a3:x.fdiv (2 ^ min 32 64)=(v:Int):=by rw[d];exact yN v t ht
 have a4:IntKind.i32.wrap (v:Int)=(v:Int):=iE (by omega) (by omega)
 have a5:IntKind.u32.wrap (t:Int)=(t:Int):=by
  unfold IntKind.wrap
  simp[IntKind.bits,IntKind.signed]
  omega
 have j:v=0->t=1->((1:Int) != x)=false:=fun e B=>by rw[d,e,B];rfl
 clear d
 refine ai.pure (a _) 1 (n:=0) _ rfl rfl ?_;simp only[*,go_sem,-b,-a]
 refine ai.nil a (b _ _ _ ?_);clear b K
 repeat refine ay (a _) ?_
 refine aZ a fun K b=>?_
 refine ai.pure (a _) 7 (n:=0) _ rfl rfl ?_;simp only[*,go_sem,-b,-a]
 refine ai.nil a (b _ _ _ ?_);clear b K
 repeat refine ay (a _) ?_
 refine cD (a _) (by simp only[*,go_sem,-a,-hJ]) ?_
 refine cH (a _) ?_
 repeat refine ay (a _) ?_
 refine aZ a fun K b=>?_
 refine ai.pure (a _) 4 (n:=0) _ rfl rfl ?_;simp only[*,go_sem,-b,-a]
 refine ai.nil a (b _ _ _ ?_);clear b K
 repeat refine ay (a _) ?_
 refine aZ a fun K b=>?_
 refine ai.pure (a _) 4 (n:=0) _ rfl rfl ?_;simp only[*,go_sem,-b,-a]
 refine ai.nil a (b _ _ _ ?_);clear b K
 repeat refine ay (a _) ?_
 refine aZ a fun K b=>?_
 refine ai.pure (a _) 10 (n:=0) _ rfl rfl ?_;simp only[*,go_sem,-b,-a]
 refine ai.nil a (b _ _ _ ?_);clear b K
 repeat refine ay (a _) ?_
 refine cD (a _) (by simp only[*,go_sem,-a,-hJ]) ?_
 refine cH (a _) ?_
 have c3:decide ((v:Int)<0)=false:=by simp
 repeat refine ay (a _) ?_
 refine aZ a fun K b=>?_
 refine ai.pure (a _) 2 (n:=0) _ rfl rfl ?_;simp only[*,go_sem,-b,-a]
 refine ai.nil a (b _ _ _ ?_);clear b K
 repeat refine ay (a _) ?_
 refine cD (a _) (by simp only[*,go_sem,-a,-hJ]) ?_
 refine cH (a _) ?_
 have p:t=0\/t=1:=by omega
 by_cases hC:v=0/\t=1
 ·
  obtain ⟨rfl,rfl⟩:=hC
  have C:((1:Int) != x)=false:=j rfl rfl
  have hg:(if (0:Nat)=0/\(1:Nat)=1 then Gp.ld else Gp.gone)= .ld:=rfl
  rw[hg]
  have D:((1:Nat):Int)=1:=rfl
  clear hg j p o ht
  repeat refine ay (a _) ?_
  refine aZ a fun K b=>?_
  refine ai.pure (a _) 12 (n:=0) _ rfl rfl ?_;simp only[*,go_sem,-b,-a]
  refine ai.nil a (b _ _ _ ?_);clear b K
  repeat refine ay (a _) ?_
  refine cD (a _) (by simp only[*,go_sem,-a,-hJ]) ?_
  refine cH (a _) ?_
  repeat refine ay (a _) ?_
  refine aZ a fun K b=>?_
  refine ai.pure (a _) 6 (n:=0) _ rfl rfl ?_;simp only[*,go_sem,-b,-a]
  refine ai.nil a (b _ _ _ ?_);clear b K
  repeat refine ay (a _) ?_
  refine cD (a _) (by simp only[*,go_sem,-a,-hJ]) ?_
  refine cH (a _) ?_
  repeat refine ay (a _) ?_
  refine aZ a fun K b=>?_
  refine ai.pure (a _) 3 (n:=3) _ rfl rfl ?_;simp only[*,go_sem,-b,-a]
  refine ai.fV (a _) rfl (by first|(simp only[*,go_sem,-b,-a,-hJ];done)|rfl) rfl vz (by simp only[*,go_sem,-b,-a,-hJ]) Ku fun r F' aK f=>?_
  obtain ⟨rfl,rfl,rfl⟩:=f
  refine ai.pure (a _) 2 (n:=0) _ rfl rfl ?_;simp only[*,go_sem,-b,-a]
  refine ai.nil a (b _ _ _ ?_);clear b K
  repeat refine ay (a _) ?_
  refine cD (a _) (by simp only[*,go_sem,-a,-hJ]) ?_
  refine cH (a _) ?_
  repeat refine ay (a _) ?_
  refine aZ a fun K b=>?_
  refine ai.pure (a _) 3 (n:=1) _ rfl rfl ?_;simp only[*,go_sem,-b,-a]
  refine ai.fV (a _) rfl (by first|(simp only[*,go_sem,-b,-a,-hJ];done)|rfl) rfl Fj (by simp only[*,go_sem,-b,-a,-hJ]) (Kv aF) fun r F' aK f=>?_
  obtain ⟨rfl,rfl,rfl⟩:=f
  refine ai.nil a (b _ _ _ ?_);clear b K
  repeat refine ay (a _) ?_
  refine aZ a fun K b=>?_
  refine ai.pure (a _) 1 (n:=0) _ rfl rfl ?_;simp only[*,go_sem,-b,-a]
  refine ai.nil a (b _ _ _ ?_);clear b K
  repeat refine ay (a _) ?_
  refine cD (a _) (by simp only[*,go_sem,-a,-hJ]) ?_
  refine cH (a _) ?_
  repeat refine ay (a _) ?_
  refine jQ a ?_
  refine qU a (K0 Wg (bs i) F') 1 ?_ ?_
  ·exact ⟨1,rfl,(by simp only[*,go_sem,-a,-hJ]),(by simp only[*,go_sem,-a,-hJ]),(by simp only[*,go_sem,-a,-hJ]),(by simp only[*,go_sem,-a,-hJ]),.inl ⟨rfl,rfl,rfl⟩⟩
  ·clear l0 z h hd c1 c2 c3 C a1 a2 a3 a4 a5 w1 w2 D
   rintro m A E H ⟨t8,rfl,l0,I,h,hd,⟨rfl,rfl,rfl⟩|⟨rfl,rfl,rfl⟩⟩
   ·have G:((1:Int) != 0)=true:=rfl
    have w3:IntKind.u32.wrap (1 - 1)=0:=by decide
    repeat refine ay (a _) ?_
    refine aZ a fun K b=>?_
    refine ai.pure (a _) 2 (n:=0) _ rfl rfl ?_;simp only[*,go_sem,-b,-a]
    refine ai.nil a (b _ _ _ ?_);clear b K
    repeat refine ay (a _) ?_
    refine cZ (a _) (by simp only[*,go_sem,-a,-hJ]) ?_
    refine cH (a _) ?_
    repeat refine ay (a _) ?_
    refine jQ a ?_
    repeat refine ay (a _) ?_
    refine aZ a fun K b=>?_
    refine ai.pure (a _) 3 (n:=1) _ rfl rfl ?_;simp only[*,go_sem,-b,-a]
    refine Ko (.bool false) (.int .i64 0) JV aF ⟨_,_,_,rfl,(by first|(simp only[*,go_sem,-b,-a,-hJ];done)|rfl),rfl,by first|(simp only[*,go_sem,-b,-a,-hJ];done)|(simp only[*,go_sem,-b,-a,-hJ];rfl),rfl⟩ (by rfl) ?_
    refine ai.nil a (b _ _ _ ?_);clear b K
    repeat refine ay (a _) ?_
    refine aZ a fun K b=>?_
    refine ai.pure (a _) 3 (n:=0) _ rfl rfl ?_;simp only[*,go_sem,-b,-a]
    refine ai.nil a (b _ _ _ ?_);clear b K
    exact ⟨0,by omega,0,rfl,(by simp only[*,go_sem,-a,-hJ]),(by simp only[*,go_sem,-a,-hJ]),(by simp only[*,go_sem,-a,-hJ]),(by simp only[*,go_sem,-a,-hJ]),.inr ⟨rfl,rfl,rfl⟩⟩
   ·have G:((0:Int) != 0)=false:=rfl
    repeat refine ay (a _) ?_
    refine aZ a fun K b=>?_
    refine ai.pure (a _) 2 (n:=0) _ rfl rfl ?_;simp only[*,go_sem,-b,-a]
    refine ai.nil a (b _ _ _ ?_);clear b K
    repeat refine ay (a _) ?_
    refine cD (a _) (by simp only[*,go_sem,-a,-hJ]) ?_
    exact oJ (show kP 153 (fun r c aK=>r= .tuple #[]/\c=E/\aK=⟨.fin,.gone,bs i,0⟩) .normal _ _ _ from K1 (by simp only[*,go_sem,-a,-hJ]) rfl rfl ⟨rfl,rfl,rfl⟩)
 ·
  rw[if_neg hC]
  have q:(0<v/\decide ((v:Int)>0)=true)\/(v=0/\decide ((v:Int)>0)=false/\((t:Int)==0)=true):=by
   rcases Nat.eq_zero_or_pos v with e|e
   ·refine .inr ⟨e,by simp[e],?_⟩
    obtain rfl:t=0:=by omega
    rfl
   ·exact .inl ⟨e,by simp;omega⟩
  have a7:((t:Int) != 0)=false\/((t:Int) != 0)=true:=by cases ((t:Int) != 0)<;>simp
  clear j hC o ht p
  rcases a7 with a7|a7
  ·repeat refine ay (a _) ?_
   refine aZ a fun K b=>?_
   refine ai.pure (a _) 12 (n:=0) _ rfl rfl ?_;simp only[*,go_sem,-b,-a]
   refine ai.nil a (b _ _ _ ?_);clear b K
   repeat refine ay (a _) ?_
   refine cD (a _) (by simp only[*,go_sem,-a,-hJ]) ?_
   refine cH (a _) ?_
   rcases q with ⟨_,k⟩|⟨_,k,b2⟩
   ·repeat refine ay (a _) ?_
    refine aZ a fun K b=>?_
    refine ai.pure (a _) 6 (n:=0) _ rfl rfl ?_;simp only[*,go_sem,-b,-a]
    refine ai.nil a (b _ _ _ ?_);clear b K
    repeat refine ay (a _) ?_
    refine cZ (a _) (by simp only[*,go_sem,-a,-hJ]) ?_
    exact fj (show kP 153 (fun r c aK=>r= .tuple #[]/\c=F'/\aK=⟨.fin,.gone,bs i,0⟩) .ret _ _ _ from uu (by simp only[*,go_sem,-a,-hJ]) rfl rfl ⟨rfl,rfl,rfl⟩)
   ·repeat refine ay (a _) ?_
    refine aZ a fun K b=>?_
    refine ai.pure (a _) 6 (n:=0) _ rfl rfl ?_;simp only[*,go_sem,-b,-a]
    refine ai.nil a (b _ _ _ ?_);clear b K
    repeat refine ay (a _) ?_
    refine cZ (a _) (by simp only[*,go_sem,-a,-hJ]) ?_
    exact fj (show kP 153 (fun r c aK=>r= .tuple #[]/\c=F'/\aK=⟨.fin,.gone,bs i,0⟩) .ret _ _ _ from uu (by simp only[*,go_sem,-a,-hJ]) rfl rfl ⟨rfl,rfl,rfl⟩)
  ·repeat refine ay (a _) ?_
   refine aZ a fun K b=>?_
   refine ai.pure (a _) 12 (n:=0) _ rfl rfl ?_;simp only[*,go_sem,-b,-a]
   refine ai.nil a (b _ _ _ ?_);clear b K
   repeat refine ay (a _) ?_
   refine cD (a _) (by simp only[*,go_sem,-a,-hJ]) ?_
   refine cH (a _) ?_
   rcases q with ⟨_,k⟩|⟨_,k,b2⟩
   ·repeat refine ay (a _) ?_
    refine aZ a fun K b=>?_
    refine ai.pure (a _) 6 (n:=0) _ rfl rfl ?_;simp only[*,go_sem,-b,-a]
    refine ai.nil a (b _ _ _ ?_);clear b K
    repeat refine ay (a _) ?_
    refine cZ (a _) (by simp only[*,go_sem,-a,-hJ]) ?_
    exact fj (show kP 153 (fun r c aK=>r= .tuple #[]/\c=F'/\aK=⟨.fin,.gone,bs i,0⟩) .ret _ _ _ from uu (by simp only[*,go_sem,-a,-hJ]) rfl rfl ⟨rfl,rfl,rfl⟩)
   ·repeat refine ay (a _) ?_
    refine aZ a fun K b=>?_
    refine ai.pure (a _) 6 (n:=0) _ rfl rfl ?_;simp only[*,go_sem,-b,-a]
    refine ai.nil a (b _ _ _ ?_);clear b K
    repeat refine ay (a _) ?_
    refine cZ (a _) (by simp only[*,go_sem,-a,-hJ]) ?_
    exact fj (show kP 153 (fun r c aK=>r= .tuple #[]/\c=F'/\aK=⟨.fin,.gone,bs i,0⟩) .ret _ _ _ from uu (by simp only[*,go_sem,-a,-hJ]) rfl rfl ⟨rfl,rfl,rfl⟩)
end
end Go.Proofs.YtpgcmoanfifglaaGreatDoor
end
section
namespace Go.Sep
open Go Go.Conc
open Go.ConcN (sumTo upd upd_ne upd_same)
def jm (P:Program):Frame:={(default:Frame) with fn:=P.funcs.size,defers:=[],mode:=.panicking [goexitEntry]}
section
variable {P : Program} {f : FuncId} {fn : Func} {cd : Code} {w : World} {caps args : Array Value}
theorem K3 (a:P.funcs[f]?=some fn)(b:(fn.name== "runtime.NumGoroutine")=false)(hb:fn.body=some cd):
  stepG P false (born P {target:=.fn (.func f) caps,args:=args}) w= .go (G ((baseD f).at {tmps:=args++caps++Array.replicate (fn.ntmps - (args++caps).size) undef,defers:=[]} [.code cd]) [jm P]) w #[]:=by
 have c:¬fn.name= "runtime.NumGoroutine":=by simpa using b
 rw[<-enter_atD (args++caps) a hb]
 simp[born,G,stepG,unwind,callDeferred,invoke,callFunc,a,c,hb,GStep.after,seen_none,jm]
theorem K4 {b:Frame}{a:Act}{todo:List Item}(d:b.kind= .deferred)(hd:a.defers=[])(e:P.funcs[b.fn]?=some fn)(c:fn.results=#[]):
  stepG P false (G {b.at a todo with mode:=.returning} [jm P]) w= .go (G (jm P) []) w #[]:=by
 have he:(results fn a.tmps).events P w #[]=#[]:=events_results_none c _ _
 have f:(results fn a.tmps).run P w= .ok (.tuple #[]) w:=results_none c _ P w
 simp[G,stepG,unwind,doReturn,Frame.at,d,hd,e,f,he,jm,goexitEntry,seen_none,GStep.after]
theorem K5:stepG P false (G (jm P) []) w= .go {frame:=jm P,callers:=[],status:=.finished,dying:=none} w #[]:=by
 have e:(default:Frame).todo=[]:=rfl;simp[G,stepG,unwind,jm,goexitEntry,Frame.catches,e]
end
section
variable {c : Cy} {i : Nat} {F : aa} {f fd : FuncId}
def yS (c:Cy)(i:Nat)(fd:FuncId)(v:Value):Ex->Act->aa->Ph->Prop
 | .exit _,_,_,_=>False
 |_,a,_,ph=>a.defers=[dcall fd #[v]]/\(ph.mp= .idle\/ph.mp= .fin)/\ph.gp= .cnt/\ph.stored=c.bs i/\ph.deaf=0
theorem worker {fn b:Func}{cd l:Code}{n nd:Nat}{v:Value}(m:c.P.funcs[f]?=some fn)(z:(fn.name== "runtime.NumGoroutine")=false)(hb:fn.body=some cd)(B:fn.results=#[])(o:fn.ntmps=n){caps:Array Value}(R:caps.size<=n)
  (C:c.P.funcs[fd]?=some b) (D:(b.name== "runtime.NumGoroutine")=false) (E:b.body=some l) (H:b.results=#[]) (I:b.ntmps=nd) (J:1<=nd)
  (hd:∀(mp:Mp) (F:aa),mp= .idle\/mp= .fin->∀A:Act,sz A=nd->A.defers=[]->(∀j,slot A j=(#[v]:Array Value).getD j undef)->cO (WJ c i) fd l (yK fun F' aK=>aK=⟨.fin,.gone,c.bs i,0⟩) A F ⟨mp,.cnt,c.bs i,0⟩)
  (h:∀A:Act,sz A=n->A.defers=[]->(∀j,slot A j=caps.getD j undef)->cO (WJ c i) f cd (yS c i fd v) A F ⟨.idle,.cnt,false,0⟩):
  Wk c i ⟨.idle,.cnt,false,0⟩ (born c.P {target:=.fn (.func f) caps,args:=#[]}) F:=by
 have p:=WJ.ek c i
 have e0:∀w,stepG c.P false (born c.P {target:=.fn (.func f) caps,args:=#[]}) w= .go (G ((baseD f).at {tmps:=caps++Array.replicate (fn.ntmps - caps.size) undef,defers:=[]} [.code cd]) [jm c.P]) w #[]:=fun w=>by
  have:=K3 (P:=c.P) (w:=w) (caps:=caps) (args:=#[]) m z hb
  simpa using this
 refine Wk.act (c:=c) (i:=i) rfl rfl (by simp) fun w s k φ p0 e1 e2 S K L=>.inr ⟨_,w,#[],s,⟨.idle,.cnt,false,0⟩,e0 w,e2,.refl _ _,?_,ng rfl Iff.rfl,.inr dD,?_⟩
 ·rw[<-K,yB];exact L
 have out:∀(a:Act) (r:List Item) F' (aK:Ph),(a.defers=[dcall fd #[v]]/\(aK.mp= .idle\/aK.mp= .fin)/\aK.gp= .cnt/\aK.stored=c.bs i/\aK.deaf=0)->WJ c i aK (G {(baseD f).at a r with mode:=.returning} [jm c.P]) F':=by
  intro a r F' aK ⟨k1,t,u,x,y⟩
  obtain ⟨mp,gp,st,T⟩:=aK
  simp only at t u x y
  subst u x y
  refine Kr C D E H I (by simpa using J) k1 (fun A M N O=>hd mp F' t A M N O) fun U V Q=>?_
  subst Q
  refine Wk.gone (q:=2) rfl (QuitsD.ctl rfl (fun w=>K4 rfl rfl m B) (QuitsD.ctl rfl (fun w=>K5) ⟨rfl,rfl⟩))
 have:=h {tmps:=caps++Array.replicate (fn.ntmps - caps.size) undef,defers:=[]} (by simp[sz,o];omega) rfl (fun j=>?_) (baseD f) [] [jm c.P] ⟨by simp[baseD],rfl,rfl⟩ fun e a F' aK g=>?_
 ·rw[eD rfl] at this;exact this
 ·simp only[slot,o,Array.getD_eq_getD_getElem?]
  rcases Nat.lt_or_ge j caps.size with d|d
  ·rw[Array.getElem?_append_left d]
  ·rw[Array.getElem?_append_right d,Array.getElem?_replicate,Array.getElem?_eq_none d]
   split<;>rfl
 ·cases e with
  |normal=>exact (p aK).move (fun _=>lW rfl) (out a _ F' aK g)
  |exit i=>exact g.elim
  |ret=>exact fun W=>(p aK).move (fun _=>stepG_ret' rfl) (out a _ F' aK g)
end
attribute [go_sem] yS
end Go.Sep
end
section
namespace Go.Proofs.YtpgcmoanfifglaaGreatDoor
open Go Go.Sep Go.Proofs Go.Conc
open Go.ConcN (upd upd_same)
open Go.ConcM (muA msA)
open Go.ConcR (stA smA)
set_option maxRecDepth 100000
set_option maxHeartbeats 4000000
attribute [local go_sem] Int.reduceBEq Int.reduceBNe muA msA stA smA
theorem K6:(Tryz.prog.funcs[133]?).any (·.norace)=false:=by kernel_rfl
section
variable {Mu Wg Is n base T0 i : Nat} {bs : Nat → Bool}
theorem K7 (aF:Mu≠Wg/\Mu≠Is/\Wg≠Is)(x:n<67108864)(a5:i<n){ro:Addr->Option Value}(u0:cR){s1:Value}(o:aC e5 ro s1 u0.book.ax){K:Value}(q:aC eA ro K u0.book.props){L:Value}(r:aC eV ro L u0.book.av){M:Value}(s:aC dg ro M u0.book.told)
  (z:Int) (B:List Int) {N:Value} (u:aC rI ro N B) (C:List bf) {O:Value} (g:aC iV ro O C) {f b2 b3 b4 P Q:Nat}
  (g0:ro ⟨f,0,none⟩=some (.int .i64 u0.book.bH)) (R:ro ⟨f,1,none⟩=some (.int .i64 u0.book.bK)) (S:ro ⟨f,2,none⟩=some (.int .i64 u0.book.aS.num)) (T:ro ⟨f,3,none⟩=some (.int .i64 u0.book.aS.den)) (U:ro ⟨f,4,none⟩=some s1) (V:ro ⟨f,5,none⟩=some K) (W:ro ⟨f,6,none⟩=some L) (X:ro ⟨f,7,none⟩=some M)
  (Y:ro ⟨b2,0,none⟩=some (.int .i64 z)) (Z:ro ⟨b3,0,none⟩=some N) (ab:ro ⟨b4,0,none⟩=some O) (D:ro ⟨P,0,none⟩=some (.slice (some ⟨Is,0,none⟩) n n)) (E:ro ⟨Q,0,none⟩=some (.int .i64 i))
  (h:ag (sM u0.book z B) (fun b=>sD b C)=some (bs i)):
  Wk (CY Mu Wg Is n bs base T0) i ⟨.idle,.cnt,false,0⟩ (born Tryz.prog {target:=.fn (.func 133) #[.pointer (some ⟨Wg,0,none⟩),.pointer (some ⟨f,0,none⟩),.pointer (some ⟨b2,0,none⟩),.pointer (some ⟨b3,0,none⟩),.pointer (some ⟨b4,0,none⟩),.pointer (some ⟨Mu,0,none⟩),.pointer (some ⟨P,0,none⟩),.pointer (some ⟨Q,0,none⟩)],args:=#[]}) ⟨ro,[]⟩:=by
 have d:=WJ.ek (CY Mu Wg Is n bs base T0) i
 have hJ:∀ph:Ph,ph.gp= .cnt->Go.Sep.Closed Tryz.prog false (WJ (CY Mu Wg Is n bs base T0) i ph):=fun ph h=>Wk.closed (CY Mu Wg Is n bs base T0) i ph h
 refine worker (c:=CY Mu Wg Is n bs base T0) (i:=i) (fd:=134) (v:=.pointer (some ⟨Wg,0,none⟩)) Tryz.func133 rfl rfl rfl Tryz.ntmps133 (by simp) Tryz.func134 rfl rfl rfl Tryz.ntmps134 (by simp) ?_ ?_
 ·intro mp F a6 A G hd hs
  have w:=hs 0
  clear hs h g0 R S T U V W X Y Z ab D E o q r s u g hJ a5
  repeat refine ay (d _) ?_
  refine c5 d ?_
  refine ai.pure (d _) 1 (n:=1) _ rfl rfl ?_;simp only[*,go_sem]
  refine ai.fV (d _) rfl rfl rfl Af (by simp only[*,go_sem,stA]) (K2 aF x a6 rfl) fun v F' aK j=>?_
  obtain ⟨rfl,rfl,rfl⟩:=j
  refine ai.nil d ?_
  exact ⟨(by simp only[*,go_sem]),rfl⟩
 ·intro ad G hd hs
  have w:=hs 0
  have k1:=hs 1
  have ae:=hs 2
  have al:=hs 3
  have ao:=hs 4
  have ar:=hs 5
  have a0:=hs 6
  have a2:=hs 7
  clear hs
  repeat refine ay (d _) ?_
  refine c5 d ?_
  refine ai.defer (d _) (vals:=#[.pointer (some ⟨Wg,0,none⟩)]) rfl (by rfl) rfl rfl (by simp only[List.map_toArray,List.map_cons,List.map_nil];rw[show ad.eval (.tmp 0)=slot ad 0 from rfl,w];rfl) fun A e1 e2 H=>?_
  replace w:=(e1 0).trans w
  replace k1:=(e1 1).trans k1
  replace ae:=(e1 2).trans ae
  replace al:=(e1 3).trans al
  replace ao:=(e1 4).trans ao
  replace ar:=(e1 5).trans ar
  replace a0:=(e1 6).trans a0
  replace a2:=(e1 7).trans a2
  replace G:sz A=20:=e2.trans G
  rw[hd] at H
  replace hd:=H
  clear e1 e2 H
  refine ai.nil d ?_;try simp only[go_sem]
  obtain ⟨d3,c4,rfl,a7,a8,a9⟩:=id o
  obtain ⟨d10,dp,rfl,ba,bb,bc⟩:=id q
  obtain ⟨d17,dq,rfl,bd,bj,bk⟩:=id r
  obtain ⟨d24,ds,rfl,bl,bm,bo⟩:=id s
  obtain ⟨d38,dt,rfl,br,bz,bS⟩:=id u
  obtain ⟨d45,du,rfl,b0,b1,I⟩:=id g
  repeat refine ay (d _) ?_
  have l:=hJ ⟨.idle,.cnt,false,0⟩ rfl
  refine cO.of l ?_
  refine Fv l mixed [0,1,2,3,5] [4,6] ⟨ro,[]⟩ (by simp only[*,go_sem,-h]) (by kernel_rfl) ?_
  have b5:=fJ h;clear h;obtain ⟨ca,a3,h⟩:=b5
  simp only[*,go_sem,-h,-hJ,-d]
  refine vo l _ (GU u0.book ⟨o,q,r,s⟩ z B u a3) fun v dv m cb j=>?_
  obtain ⟨dC,dE,dT,ea,rfl,k⟩:=j
  replace g:=g.mono m;clear I;obtain ⟨_,_,I⟩:=g.op
  obtain ⟨d63,eb,rfl,cd,cf,cl⟩:=id k.e
  obtain ⟨d68,ec,rfl,cu,cy,cS⟩:=id k.p
  obtain ⟨d73,ed,rfl,c0,da,db⟩:=id k.y
  obtain ⟨d78,eh,rfl,dd,df,dk⟩:=id k.t
  replace D:=m _ _ D
  replace E:=m _ _ E
  clear g0 R S T U V W X Y Z ab
  refine ⟨⟨m,fun a J=>by simp[keys] at J,trivial⟩,mg ?_⟩
  simp only[*,go_sem,-h,-hJ,-d]
  refine bn l _ (GH ca (k.mono aR) C (g.mono aR) h) ?_
  refine ⟨⟨m,fun a J=>by simp[keys] at J,trivial⟩,?_⟩
  clear o q r s u g k a9 bc bk bo bS I cl cS db dk h a3 a7 ba bd bl br b0 cd cu c0 dd a8 bb bj bm bz b1 cf cy da df l cb
  have i0:(0:Int)<=(i:Int):=by omega
  have i1:(i:Int)<(n:Int):=by omega
  cases a4:bs i
  ·repeat refine ay (d _) ?_
   refine cD (d _) (by simp only[*,go_sem]) ?_
   refine cH (d _) ?_
   exact ⟨(by simp only[*,go_sem]),.inl rfl,rfl,a4.symm,rfl⟩
  ·repeat refine ay (d _) ?_
   refine cZ (d _) (by simp only[*,go_sem]) ?_
   repeat refine ay (d _) ?_
   refine c5 d ?_
   refine ai.fV (d _) rfl (by rfl) rfl Fg (by simp only[*,go_sem]) (Kg aF x) fun v F' aK j=>?_
   obtain ⟨rfl,rfl,rfl⟩:=j
   refine ai.nil d ?_;try simp only[go_sem]
   repeat refine ay (d _) ?_
   refine c5 d ?_
   refine ai.bA (hJ _ rfl) 3 (n:=1) _ rfl rfl ?_;simp only[*,go_sem]
   refine J6 JW z7 K6 aF ⟨_,rfl,(by first|rfl|simp only[*,go_sem]),rfl,rfl⟩ (by rfl) (by simp only[*,go_sem]) (by simp only[*,go_sem]) ?_
   refine ai.nil d ?_;try simp only[go_sem]
   repeat refine ay (d _) ?_
   refine c5 d ?_
   refine ai.fV (d _) rfl (by rfl) rfl Fh (by simp only[*,go_sem]) (Kh aF x) fun v F' aK j=>?_
   obtain ⟨rfl,rfl,rfl⟩:=j
   refine ai.nil d ?_
   exact (show yS _ _ _ _ .normal _ _ _ from ⟨(by simp only[*,go_sem]),.inr rfl,rfl,a4.symm,rfl⟩)
end
end Go.Proofs.YtpgcmoanfifglaaGreatDoor
end
section
namespace Go.Proofs.YtpgcmoanfifglaaGreatDoor
open Go Go.Sep Go.Proofs Go.Conc
open Go.ConcN (upd upd_same)
open Go.ConcM (muA msA muBlock)
open Go.ConcR (stA smA wgBlock)
set_option maxRecDepth 100000
set_option maxHeartbeats 4000000
attribute [local go_sem] Int.reduceBEq Int.reduceBNe muA msA stA smA
def K8 (u0:cR)(a:Int)(c:List bf)(d:List Int):Option Bool:=ag (sM u0.book a d) fun b=>sD b c
def qZ (f:List Int->Option Bool):List (List Int)->Option (List Bool)
 |[]=>some []
 |x::l=>ag (f x) fun b=>ag (qZ f l) fun r=>some (b::r)
def yT (a:List Bool)(i23:Nat)(b:List Int)(st:List (List Int)):Option (Fl (List (List Int)) (List (List Int))):=
 ag (aY a (i23:Int)) fun c=>cond (c) (ag (c8 st ([b])) fun d=>some (.nx d)) (some (.nx st))
def uv (u0:cR)(b:Int)(a:List (List Int)):Option (List (List Int)):=
 cond (decide (a.length<1048576)) (ag (s3 u0) fun c=>ag (qZ (K8 u0 b c) a) fun bl=>ag (bJ (yT bl) 0 a ([]:List (List Int))) fun o=>aD o (fun d=>some d) (fun _ _=>none) (fun r=>some r)) none
theorem DC {f:List Int->Option Bool}:∀{l:List (List Int)} {bl:List Bool},qZ f l=some bl->bl.length=l.length/\∀(i:Nat) (a:List Int),l[i]?=some a->f a=some (bl[i]?.getD false)
 |[],bl,h=>by
  simp[qZ] at h;subst h
  exact ⟨rfl,fun i a hi=>by simp at hi⟩
 |x::l,bl,h=>by
  unfold qZ at h
  obtain ⟨b,hb,h⟩:=fJ h
  obtain ⟨r,c,h⟩:=fJ h
  have h:=Option.some.inj h
  subst h
  obtain ⟨e1,e2⟩:=DC c
  refine ⟨by simp[e1],fun i a hi=>?_⟩
  cases i with
  |zero=>simp at hi;subst hi;simpa using hb
  |succ i=>simp at hi;simpa using e2 i a hi
def DD (x:X)(d:Addr->Option Value)(b3 b4 e f:Nat)(b:Value)(m:Nat)(a:Act)(F:aa)(z:Z):Prop:=
 ∃(i:Nat) (c:Addr->Option Value),m=x.n - i/\i<=x.n/\F=⟨c,[]⟩/\Ext d c/\slot a 2=b/\slot a 3= .pointer (some ⟨b3,0,none⟩)/\slot a 4= .pointer (some ⟨b4,0,none⟩)/\slot a 6= .slice none 0 0/\slot a 7= .pointer (some ⟨e,0,none⟩)/\slot a 8= .pointer (some ⟨f,0,none⟩)/\slot a 9= .pointer (some ⟨x.Mu,0,none⟩)/\slot a 10= .pointer (some ⟨x.Wg,0,none⟩)/\slot a 21=b/\slot a 22= .int .i64 x.n/\slot a 23= .int .i64 i/\sz a=49/\a.defers=[]/\z= .co x i (.opn 0) 0
theorem K9 (l:List Bool):(l.map fun b=>[Value.bool b]).flatten=l.map Value.bool:=by
 induction l with
 |nil=>rfl
 |cons b l ih=>simp only[List.map_cons,List.flatten_cons,ih];rfl
theorem La:Tryz.prog.underlying 177=some (.slice 4):=by kernel_rfl
theorem Lb:Tryz.prog.info? 4=some ((Tryz.prog.info? 4).getD default):=by kernel_rfl
theorem DF {ro:Addr->Option Value}(u0:cR){s1:Value}(q:aC e5 ro s1 u0.book.ax){bo:Value}(s:aC eA ro bo u0.book.props){br:Value}(u:aC eV ro br u0.book.av){bs:Value}(w:aC dg ro bs u0.book.told){bz:Value}(a4:aC gS ro bz u0.all)(ae:Int)(d:List (List Int)){bS:Value}(o:aC (rL rI) ro bS d){r:List (List Int)}(h:uv u0 ae d=some r):
  pI Tryz.prog 99 #[.agg #[.int .i64 u0.book.bH,.int .i64 u0.book.bK,.int .i64 u0.book.aS.num,.int .i64 u0.book.aS.den,s1,bo,br,bs,bz],.int .i64 ae,bS] ro (fun v aM=>∃b0,v=b0/\aC (rL rI) aM b0 r):=by
 refine fD.KM (T:=TT) fun Φ=>?_
 obtain ⟨d3,c4,rfl,fu,fv,fw⟩:=id q
 obtain ⟨d10,fx,rfl,gg,gl,R⟩:=id s
 obtain ⟨d17,I,rfl,gn,gp,gB⟩:=id u
 obtain ⟨d24,gC,rfl,gM,gT,gV⟩:=id w
 obtain ⟨d31,im,rfl,g0,g1,g2⟩:=id a4
 obtain ⟨d38,b1,rfl,iv,b2,C⟩:=id o
 unfold uv at h
 have hlen:d.length<1048576:=by
  rcases Nat.lt_or_ge d.length 1048576 with y|y
  ·exact y
  ·rw[show decide (d.length<1048576)=false by simp;omega] at h;cases h
 rw[show decide (d.length<1048576)=true by simp;omega] at h
 simp only[cond_true] at h
 obtain ⟨b5,ca,h⟩:=fJ h
 obtain ⟨bl,cb,h⟩:=fJ h
 obtain ⟨cd,cf⟩:=DC cb
 have a:=ZJ.ek TT Φ
 have hJ:=fun (z:Z) (S:yQ z=true)=>ZJ.KW TT Φ z S
 refine cG.go (main:=true) a Tryz.func99 rfl Tryz.ntmps99 (by simp) fun A S hd hs=>?_
 have g3:=hs 0
 have k1:=hs 1
 have cl:=hs 2
 clear hs cb
 repeat refine ay (a _) ?_
 refine aZ a fun K c=>?_
 refine ai.bA (hJ _ rfl) 3 (n:=0) _ rfl rfl ?_;simp only[*,go_sem,-c,-a,-hJ]
 intro b3 f3;have r3:=eE f3;have n3:=fB f3
 try simp only[au] at n3
 intro b4 f4;have g4:=eE f4;have cu:=fB f4
 try simp only[au] at cu
 try simp only[*,go_sem,-c,-a,-hJ,-h]
 refine ai.nil a (c _ _ _ ?_);clear c K
 have p:=hJ .free rfl
 repeat refine ay (a _) ?_
 refine aZ a fun K c=>?_
 refine ai.bA (hJ _ rfl) 4 (n:=0) _ rfl rfl ?_;simp only[*,go_sem,-c,-a,-hJ]
 refine vo p _ (Ba u0 ⟨q,s,u,w⟩ a4 ca) fun v ix J ha U=>?_
 obtain ⟨jC,rfl,L⟩:=U
 replace q:=q.mono J
 replace s:=s.mono J
 replace u:=u.mono J
 replace w:=w.mono J
 replace o:=o.mono J
 obtain ⟨d45,hc,rfl,hf,hg,hh⟩:=id L
 clear fw R gB gV g2 C hh r3 g4
 refine aJ ?_
 try simp only[*,go_sem,-c,-a,-hJ,-h,-p]
 intro a5 f7;have hj:=eE f7;have cS:=fB f7
 try simp only[au] at cS
 try simp only[*,go_sem,-c,-a,-hJ,-h,-p]
 refine ai.nil a (c _ _ _ ?_);clear c K
 repeat refine ay (a _) ?_
 refine aZ a fun K c=>?_
 refine ai.bA (hJ _ rfl) 5 (n:=0) _ rfl rfl ?_;simp only[*,go_sem,-c,-a,-hJ]
 refine KV La Lb rfl z7 E1 hlen fun k a6=>?_
 have rI:=eE a6;have nI:=fB a6
 try simp only[au] at nI
 refine aJ ?_
 try simp only[*,go_sem,-c,-a,-hJ,-h,-p]
 intro V f8;have hk:=eE f8;have c0:=fB f8
 try simp only[au] at c0
 try simp only[*,go_sem,-c,-a,-hJ,-h,-p]
 refine ai.nil a (c _ _ _ ?_);clear c K
 repeat refine ay (a _) ?_
 refine aZ a fun K c=>?_
 refine ai.bA (hJ _ rfl) 1 (n:=0) _ rfl rfl ?_;simp only[*,go_sem,-c,-a,-hJ]
 intro M f9;have hl:=eE f9;have da:=fB f9
 try simp only[au] at da
 try simp only[*,go_sem,-c,-a,-hJ,-h,-p]
 refine ai.nil a (c _ _ _ ?_);clear c K
 repeat refine ay (a _) ?_
 refine aZ a fun K c=>?_
 refine ai.bA (hJ _ rfl) 1 (n:=0) _ rfl rfl ?_;simp only[*,go_sem,-c,-a,-hJ]
 intro N f10;have hn:=eE f10;have db:=fB f10
 try simp only[au] at db
 try simp only[*,go_sem,-c,-a,-hJ,-h,-p]
 refine ai.nil a (c _ _ _ ?_);clear c K
 repeat refine ay (a _) ?_
 refine aZ a fun K c=>?_
 refine ai.bA (hJ _ rfl) 3 (n:=0) _ rfl rfl ?_;simp only[*,go_sem,-c,-a,-hJ]
 refine ai.nil a (c _ _ _ ?_);clear c K
 refine yR p fun nd no=>?_
 obtain ⟨al,D,hle,B,dd,df,dk⟩:=KX nd no
 clear nd no
 refine KI (T:=TT) (Φ:=Φ) ⟨al,[]⟩ M N k d.length (fun i=>bl[i]?.getD false) hle ?_
 intro base B0 T0 ho aF
 clear hle
 have ao:d.length<67108864:=by omega
 replace q:=q.mono D
 replace s:=s.mono D
 replace u:=u.mono D
 replace w:=w.mono D
 replace o:=o.mono D
 replace L:=L.mono D
 have dp:=B 0 (.int .i64 u0.book.bH) rfl
 have dq:=B 1 (.int .i64 u0.book.bK) rfl
 have ds:=B 2 (.int .i64 u0.book.aS.num) rfl
 have dt:=B 3 (.int .i64 u0.book.aS.den) rfl
 have du:=B 4 (.slice d3 u0.book.ax.length c4) rfl
 have dv:=B 5 (.slice d10 u0.book.props.length fx) rfl
 have dC:=B 6 (.slice d17 u0.book.av.length I) rfl
 have dE:=B 7 (.slice d24 u0.book.told.length gC) rfl
 have dT:=dd 0 (.int .i64 ae) rfl
 have ea:=df 0 (.slice d45 b5.length hc) rfl
 have a7:=dk 0 (.slice (some ⟨k,0,none⟩) d.length d.length) rfl
 clear B dd df dk f3 f4 f7 f8 f9 f10 a6 n3 cu cS c0 da db nI hj hk hl hn rI ha
 repeat refine ay (a _) ?_
 refine jQ a ?_
 refine qU a (DD (⟨M,N,k,d.length,(fun i=>bl[i]?.getD false),base,T0,B0⟩:X) al b3 b4 a5 V (.slice d38 d.length b1)) d.length ?_ ?_
 ·exact ⟨0,al,rfl,Nat.zero_le _,rfl,Ext.refl _,(by simp only[*,go_sem,-a,-hJ]),(by simp only[*,go_sem,-a,-hJ]),(by simp only[*,go_sem,-a,-hJ]),(by simp only[*,go_sem,-a,-hJ]),(by simp only[*,go_sem,-a,-hJ]),(by simp only[*,go_sem,-a,-hJ]),(by simp only[*,go_sem,-a,-hJ]),(by simp only[*,go_sem,-a,-hJ]),(by simp only[*,go_sem,-a,-hJ]),(by simp only[*,go_sem,-a,-hJ]),(by simp only[*,go_sem,-a,-hJ]),(by simp only[*,go_sem,-a,-hJ]),(by simp only[*,go_sem,-a,-hJ]),rfl⟩
 clear g3 k1 cl S hd
 rintro m A F' eb ⟨i,P,rfl,hi,rfl,e,cl,hp,hq,j1,hr,j2,ht,hv,hx,hy,hz,S,hd,rfl⟩
 have hi:i<=d.length:=hi
 replace q:=q.mono e
 replace s:=s.mono e
 replace u:=u.mono e
 replace w:=w.mono e
 replace o:=o.mono e
 replace L:=L.mono e
 rcases Nat.lt_or_ge i d.length with ar|hA
 ·have c1:decide ((i:Int)<(d.length:Int))=true:=by simp;omega
  have i0:(0:Int)<=(i:Int):=by omega
  have i1:(i:Int)<(d.length:Int):=by omega
  obtain ⟨a8,ec⟩:∃x,d[i]?=some x:=⟨_,List.getElem?_eq_getElem ar⟩
  obtain ⟨_,_,C⟩:=o.op
  obtain ⟨hB,ed,a9,ba,W⟩:=C _ _ ec
  obtain ⟨hD,rfl,Y⟩:=ba
  obtain ⟨d32,ab,rfl,hE,hF,-⟩:=id Y
  cases a9
  have hG:=W 0 _ rfl
  simp only[go_sem] at hG
  clear W C
  have eh:=cq (n:=i) (by omega)
  repeat refine ay (a _) ?_
  refine aZ a fun K c=>?_
  refine ai.bA (hJ _ rfl) 1 (n:=0) _ rfl rfl ?_;simp only[*,go_sem,-c,-a,-hJ]
  refine ai.nil a (c _ _ _ ?_);clear c K
  repeat refine ay (a _) ?_
  refine cZ (a _) (by simp only[*,go_sem,-a,-hJ]) ?_
  refine cH (a _) ?_
  repeat refine ay (a _) ?_
  refine jQ a ?_
  repeat refine ay (a _) ?_
  refine aZ a fun K c=>?_
  refine ai.bA (hJ _ rfl) 7 (n:=0) _ rfl rfl ?_;simp only[*,go_sem,-c,-a,-hJ]
  intro hI f11;have hK:=eE f11;have et:=fB f11
  try simp only[au] at et
  try simp only[*,go_sem,-c,-a,-hJ,-h,-p]
  intro hL f12;have hM:=eE f12;have eu:=fB f12
  try simp only[au] at eu
  try simp only[*,go_sem,-c,-a,-hJ,-h,-p]
  refine ai.nil a (c _ _ _ ?_);clear c K
  refine yR (hJ _ rfl) fun nd no=>?_
  obtain ⟨hN,f,hle,ev,eQ⟩:=KY nd no
  clear nd no f11 f12 hK hM et eu
  refine Dz (hJ _ rfl) hle ?_
  clear hle
  have hP:=ev 0 (.int .i64 i) rfl
  have hQ:=eQ 0 (.slice d32 a8.length ab) rfl
  clear ev eQ
  repeat refine ay (a _) ?_
  refine aZ a fun K c=>?_
  refine ai.fV (a _) rfl (by first|(simp only[*,go_sem,-c,-a,-hJ];done)|rfl) rfl Af (by simp only[*,go_sem,-c,-a,-hJ]) (KT aF ao) fun v F' eb U=>?_
  obtain ⟨rfl,rfl,rfl⟩:=U
  refine ai.nil a (c _ _ _ ?_);clear c K
  repeat refine ay (a _) ?_
  refine aZ a fun K c=>?_
  refine ai.bA (hJ _ rfl) 1 (n:=1) _ rfl rfl ?_;simp only[*,go_sem,-c,-a,-hJ]
  refine KZ (caps:=#[.pointer (some ⟨N,0,none⟩),.pointer (some ⟨b3,0,none⟩),.pointer (some ⟨b4,0,none⟩),.pointer (some ⟨hL,0,none⟩),.pointer (some ⟨a5,0,none⟩),.pointer (some ⟨M,0,none⟩),.pointer (some ⟨V,0,none⟩),.pointer (some ⟨hI,0,none⟩)]) (f0:=133) ar ⟨_,rfl,(by first|(simp only[*,go_sem,-c,-a,-hJ];done)|rfl),rfl,rfl⟩ (by simp only[*,go_sem,-c,-a,-hJ]) ?_ ?_
  ·exact K7 aF ao ar u0 (q.mono f) (s.mono f) (u.mono f) (w.mono f) ae a8 (Y.mono f) b5 (L.mono f) (f _ _ (e _ _ dp)) (f _ _ (e _ _ dq)) (f _ _ (e _ _ ds)) (f _ _ (e _ _ dt)) (f _ _ (e _ _ du)) (f _ _ (e _ _ dv)) (f _ _ (e _ _ dC)) (f _ _ (e _ _ dE)) (f _ _ (e _ _ dT)) hQ (f _ _ (e _ _ ea)) (f _ _ (e _ _ a7)) hP (cf i a8 ec)
  refine ai.nil a (c _ _ _ ?_);clear c K
  repeat refine ay (a _) ?_
  refine aZ a fun K c=>?_
  refine ai.bA (hJ _ rfl) 2 (n:=0) _ rfl rfl ?_;simp only[*,go_sem,-c,-a,-hJ]
  refine ai.nil a (c _ _ _ ?_);clear c K
  change ∃eS,eS<d.length - i/\DD _ al b3 b4 a5 V _ eS _ _ _
  exact ⟨d.length - (i+1),by omega,i+1,hN,rfl,ar,rfl,e.trans f,(by simp only[*,go_sem,-a,-hJ]),(by simp only[*,go_sem,-a,-hJ]),(by simp only[*,go_sem,-a,-hJ]),(by simp only[*,go_sem,-a,-hJ]),(by simp only[*,go_sem,-a,-hJ]),(by simp only[*,go_sem,-a,-hJ]),(by simp only[*,go_sem,-a,-hJ]),(by simp only[*,go_sem,-a,-hJ]),(by simp only[*,go_sem,-a,-hJ]),(by simp only[*,go_sem,-a,-hJ]),(by simp only[*,go_sem,-a,-hJ]),(by simp only[*,go_sem,-a,-hJ]),(by simp only[*,go_sem,-a,-hJ]),rfl⟩
 ·have c1:decide ((i:Int)<(d.length:Int))=false:=by simp;omega
  obtain rfl:i=d.length:=by omega
  repeat refine ay (a _) ?_
  refine aZ a fun K c=>?_
  refine ai.bA (hJ _ rfl) 1 (n:=0) _ rfl rfl ?_;simp only[*,go_sem,-c,-a,-hJ]
  refine ai.nil a (c _ _ _ ?_);clear c K
  repeat refine ay (a _) ?_
  refine cD (a _) (by simp only[*,go_sem,-a,-hJ]) ?_
  refine oJ ?_
  simp only[go_sem]
  repeat refine ay (a _) ?_
  refine aZ a fun K c=>?_
  refine ai.fV (a _) rfl (by first|(simp only[*,go_sem,-c,-a,-hJ];done)|rfl) rfl Fi (by simp only[*,go_sem,-c,-a,-hJ]) (KU aF ao) fun v F' eb U=>?_
  obtain ⟨rfl,rfl,rfl⟩:=U
  refine ai.nil a (c _ _ _ ?_);clear c K
  refine yR p fun nd no=>?_
  have rI:∀off sp,P ⟨k,off,sp⟩=none:=fun off sp=>no k (by simp[keys]) off sp
  have hle:Le ⟨bU P k (X.cy (⟨M,N,k,d.length,(fun i=>bl[i]?.getD false),base,T0,B0⟩:X) TT).fin,[]⟩ ⟨P,[(k,(X.cy (⟨M,N,k,d.length,(fun i=>bl[i]?.getD false),base,T0,B0⟩:X) TT).fin)]⟩:=j0 (by simp[lk]) (by simp) trivial
  have ad:aC rB (bU P k (X.cy (⟨M,N,k,d.length,(fun i=>bl[i]?.getD false),base,T0,B0⟩:X) TT).fin) (.slice (some ⟨k,0,none⟩) bl.length bl.length) bl:=aC.flat (fun b=>[.bool b]) bl (fun _=>rfl) rI (by
   show (((List.range d.length).map fun i=>Value.bool (bl[i]?.getD false)).toArray).toList=_
   rw[<-cd]
   apply List.ext_getElem?
   intro j
   rw[K9 bl]
   simp only[List.getElem?_map]
   rcases Nat.lt_or_ge j bl.length with y|y
   ·simp[y]
   ·simp[y]) (by omega)
  obtain ⟨E,bb⟩:∃E,E=bU P k (X.cy (⟨M,N,k,d.length,(fun i=>bl[i]?.getD false),base,T0,B0⟩:X) TT).fin:=⟨_,rfl⟩
  have a0:Ext P E:=by rw[bb];exact ga _ _ _
  have hR:Ext ro E:=J.trans (D.trans (e.trans a0))
  rw[<-bb] at hle ad
  refine Dz p hle ?_
  replace o:=o.mono a0
  have a7:E ⟨V,0,none⟩=some (.slice (some ⟨k,0,none⟩) bl.length bl.length):=by rw[cd];exact a0 _ _ (e _ _ a7)
  clear hle nd no bb rI dp dq ds dt du dv dC dE dT ea a hJ aF ao ho q s u w L ca cf c1 hlen hA hi a0 J D e hp hq hr ht hv hx hy hz fu fv gg gl gn gp gM gT a4 g0 g1 hf hg
  obtain ⟨_,_,C⟩:=o.op
  obtain ⟨_,_,R⟩:=ad.op
  have hJ:=p
  clear p
  refine cO.of hJ ?_
  repeat refine af hJ ?_
  refine ak hJ ?_
  simp only[*,go_sem,-h]
  repeat refine af hJ ?_
  refine ak hJ ?_
  simp only[*,go_sem,-h]
  repeat refine af hJ ?_
  refine aN hJ ?_
  have g:=fJ h;clear h;obtain ⟨hS,G,hT⟩:=g;have h:=True.intro
  refine bT hJ [13,14,15,34,35,36,37,38,39,40,41,42,43,44,45,46,47] (fun m e0 F'=>∃(i23:Nat) (d17:Option Addr) (I:Nat) (a2:List (Nat×Obj)) (H:(List (List Int))),m=d.length - i23/\i23<=d.length/\bJ (yT bl) i23 (d.drop i23) H=some hS/\F'=⟨E,a2⟩/\aO (rL rI) E 35 (.slice d17 H.length I) H a2/\H.length<=I/\slot e0 34= .int .i64 (i23:Int)/\slot e0 13= .slice d17 H.length I) d.length ?_ ?_
  ·refine ⟨0,none,0,[],([]:List (List Int)),(Nat.sub_zero _).symm,Nat.zero_le _,G,rfl,aO.nil _ _ _,Nat.le_refl _,?_⟩
   simp only[*,go_sem,-h]
  ·rintro kh Q F' O ⟨i23,d17,I,a2,H,rfl,kj,G,rfl,bc,hV,kk,kl⟩
   have h:=True.intro
   have km:sz Q=49:=by rw[O.size];simp only[*,go_sem,-h]
   have kn:Q.defers=[]:=by rw[O.defers];simp only[*,go_sem,-h]
   have kp:slot Q 6= .slice none 0 0:=by rw[O.dS 6 (by decide)];simp only[*,go_sem,-h]
   have ks:slot Q 8= .pointer (some ⟨V,0,none⟩):=by rw[O.dS 8 (by decide)];simp only[*,go_sem,-h]
   have kt:slot Q 32= .slice d38 d.length b1:=by rw[O.dS 32 (by decide)];simp only[*,go_sem,-h]
   have kv:slot Q 33= .int .i64 (d.length:Int):=by rw[O.dS 33 (by decide)];simp only[*,go_sem,-h]
   clear O S hd
   repeat refine af hJ ?_
   refine ak hJ ?_
   simp only[*,go_sem,-h]
   repeat refine af hJ ?_
   rcases Nat.lt_or_ge i23 d.length with hX|e1
   ·refine bE hJ (by simp only[*,go_sem,-h]) ?_
    refine aH hJ ?_
    obtain ⟨a3,bd⟩:∃x,d[i23]?=some x:=⟨_,List.getElem?_eq_getElem hX⟩
    rw[dc bd] at G
    have g:=fJ G;clear G h;obtain ⟨kx,h,e3⟩:=g
    unfold yT at h
    try dsimp only at h
    obtain ⟨ky,k0,hY,hZ,fa⟩:=C _ _ bd
    obtain ⟨hD,rfl,Y⟩:=hZ;obtain ⟨d32,ab,rfl,hE,hF,k2⟩:=id Y
    cases hY
    have h0:=fa 0 _ rfl;simp only[go_sem] at h0
    clear fa bd
    repeat refine af hJ ?_
    refine aN hJ ?_
    repeat refine af hJ ?_
    refine aB hJ fun lb=>?_
    refine ak hJ ?_
    simp only[*,go_sem,-h]
    repeat refine af hJ ?_
    refine aB hJ fun lh=>?_
    refine ak hJ ?_
    have g:=fJ h;clear h;obtain ⟨h1,h2,h⟩:=g
    obtain ⟨lj,ll,fb⟩:=cE h2
    obtain ⟨hB,ed,a9,ba,W⟩:=R _ _ fb
    obtain rfl:ed=[.bool h1]:=ba
    cases a9
    have h3:=W 0 _ rfl;simp only[go_sem] at h3
    clear W fb
    try simp only[*,go_sem,-h]
    have g:=iS h;clear h;rcases g with ⟨bj,h⟩|⟨bj,h⟩
    ·try simp only[Int.ofNat_lt] at bj
     refine bE hJ (by simp only[*,go_sem,-h]) ?_
     refine aB hJ fun h4=>?_
     refine ak hJ ?_
     have g:=fJ h;clear h;obtain ⟨h5,h6,h⟩:=g
     obtain ⟨h7,fg⟩:=dr h6
     simp only[*,go_sem,-h]
     intro fi f45;have h8:=eE f45;have fo:=fB f45
     have h9:=aP.cons fo h4
     try simp only[au] at fo
     try simp only[*,go_sem,-h]
     refine Ay (r:=(rL rI)) (l:=H) (x:=a3) (cs:=#[.slice d32 a3.length ab]) (e2:=35) [(fi,.cells #[.slice d32 a3.length ab] 35)] [] (by first|rfl|simp only[aX]|(simp only[aX];rfl)) bc h9 h7 ⟨_,rfl,Y⟩ (by simp only[*,go_sem,-h]) h8 rfl rfl k5 k5 rQ rS rfl rR (by decide) (by decide) (fun ln fp bk ib ic lo=>?_)
     simp only[aX] at ic
     subst ib
     rw[<-fg] at bk;clear fg
     obtain ⟨d53,ih,rfl,ik⟩:=bk.len
     refine ⟨⟨E,(fi,.cells #[.slice d32 a3.length ab] 35)::fp⟩,Le.refl _,?_⟩
     refine aJ ?_
     try simp only[*,go_sem,-h]
     have g:=Option.some.inj h;clear h;subst g
     have h:=True.intro
     have eh:=cq (n:=i23) (by have:=b2;omega)
     refine ak hJ ?_
     simp only[*,go_sem,-h]
     refine ⟨d.length - (i23+1),by omega,_,Le.sub (List.Sublist.cons _ (List.Sublist.refl _)),i23+1,d53,ih,fp,h5,rfl,by omega,e3,rfl,bk,ik,?_⟩
     simp only[*,go_sem,-h]
    ·try simp only[Int.ofNat_lt] at bj
     refine bD hJ (by simp only[*,go_sem,-h]) ?_
     refine aH hJ ?_
     have g:=Option.some.inj h;clear h;subst g
     have h:=True.intro
     have eh:=cq (n:=i23) (by have:=b2;omega)
     refine ak hJ ?_
     simp only[*,go_sem,-h]
     refine ⟨d.length - (i23+1),by omega,_,Le.sub (List.Sublist.refl _),i23+1,d17,I,a2,H,rfl,by omega,e3,rfl,bc,hV,?_⟩
     simp only[*,go_sem,-h]
   ·have lr:=Nat.not_lt.2 e1
    refine bD hJ (by simp only[*,go_sem,-h]) ?_
    rw[List.drop_eq_nil_of_le e1] at G
    have g:=Option.some.inj G;clear G h;subst g
    have h:=hT
    dsimp only[aD] at h
    refine bN ?_
    simp only[go_sem]
    repeat refine af hJ ?_
    refine aB hJ fun lv=>?_
    refine ak hJ ?_
    simp only[*,go_sem,-h]
    have g:=Option.some.inj h;clear h;subst g
    refine aB hJ fun fr=>?_
    obtain ⟨fs,bm,lx,ft,il⟩:=bc.k7 (([]:List (Nat×Obj))) [] [] (by first|rfl|simp only[aX]|(simp only[aX];rfl)) (by first|rfl|simp only[aX]|(simp only[aX];rfl)) fr (aG.nil _)
    clear fr
    refine cp (F:=⟨fs,([]:List (Nat×Obj))⟩) hJ il ?_
    obtain ⟨ly,lL,l1⟩:=ft.op
    replace o:=o.mono bm;clear C;obtain ⟨_,_,C⟩:=o.op
    replace ad:=ad.mono bm;clear R;obtain ⟨_,_,R⟩:=ad.op
    refine az ?_
    exact (lP (t:=6) rfl (by simp only[*,go_sem]) (by simp only[*,go_sem]) ⟨rfl,fs,hR.trans bm,Le.refl _,_,rfl,ft⟩).2
end Go.Proofs.YtpgcmoanfifglaaGreatDoor
end
section
namespace Go.Proofs.YtpgcmoanfifglaaGreatDoor
open Go Go.Sep Go.Proofs
set_option maxRecDepth 100000
set_option maxHeartbeats 4000000
def yU (u0:aj)(b:Int):Option ((List Int)×Int):=
 ag (fP u0 ([(gW b),n9])) fun a=>cond ((a.2 != 0)) (some (([]:(List Int)),a.2)) (ag (sN a.1.book ([([]:(List Int))])) fun c=>ag (uv a.1 b c) fun d=>ag (xg d) fun e=>some (e,0))
theorem Lc {ro:Addr->Option Value}(L:c9 ro)(u0:aj){s1 g i j:Value}(D:bL ro u0 s1 g i j)(a:Int){r:((List Int)×Int)}(h:yU u0 a=some r):pI Tryz.prog 43 #[bv u0 s1 g i j,.int .i64 a] ro (fun v aM=>∃W,v= .tuple #[W,.int .i64 r.2]/\aC rI aM W r.1):=by
 unfold yU at h;have ba:=D.oc;simp only[bG] at ba;refine fD.go Tryz.func43 rfl Tryz.ntmps43 Tryz.results43 (by simp) fun Φ hJ A b5 hd hs=>?_;have ca:=hs 0;have k1:=hs 1;clear hs;refine ah hJ ?_;simp only[*,go_sem];refine aA fun w c bb=>?_;try simp only[au] at bb
 try simp only[*,go_sem]
 refine af hJ ?_;refine aB hJ fun bc=>?_;refine ak hJ ?_;revert h;refine bS fun n bd h=>?_;simp only[*,go_sem];refine aA fun z X Y=>?_;have Z:=aP.cons Y bc;try simp only[au] at Y
 try simp only[*,go_sem]
 obtain ⟨B,M,ab⟩:=fM (b:=z) (o:=(.cells #[.func (.func 96) #[.int .i64 a] #[],.func (.func 97) #[] #[]] 127)) [] ((w,bk u0 s1 g i j)::[]) Z X (aG.cons c (aG.nil _));have ad:aC (c6) (bU ro z (.cells #[.func (.func 96) #[.int .i64 a] #[],.func (.func 97) #[] #[]] 127)) (.slice (some ⟨z,0,none⟩) 2 2) [(gW a),n9]:=(aC.two (r:=(c6)) (e:=127) (v:=.func (.func 96) #[.int .i64 a] #[]) (u:=.func (.func 97) #[] #[]) (x:=(gW a)) (y:=n9) (own:=[(z,.cells #[.func (.func 96) #[.int .i64 a] #[],.func (.func 97) #[] #[]] 127)]) X (by simp[lk]) rfl ⟨96,#[.int .i64 a],#[],rfl,⟨by simp only[go_sem],fun bj bl N _ _ _ _ _ O P Q R h=>by simp only[go_sem];exact vQ a N ⟨O,P,Q,R⟩ h⟩⟩ ⟨97,#[],#[],rfl,⟨by simp only[go_sem],fun bj bl N _ _ _ _ _ O P Q R h=>by simp only[go_sem];exact Hr N ⟨O,P,Q,R⟩ h⟩⟩)
 generalize bU ro z (.cells #[.func (.func 96) #[.int .i64 a] #[],.func (.func 97) #[] #[]] 127)=cb at ad M B ab;refine gR hJ ab ?_;replace D:=D.mono B;replace c:=M.hd;replace L:=L.mono B;simp only[bq] at M;have bm:=aP.tl Z;refine b6 hJ _ (jF L u0 D ([(gW a),n9]) ad bd) fun v ae al ao k=>?_;obtain ⟨E,F,G,H,I,rfl,d,q⟩:=k;have bo:=d.oc;simp only[bG] at bo;have br:=q.oc;simp only[bG] at br;replace c:=ao.hd;simp only[bq] at ao;refine aJ ?_;try simp only[*,go_sem]
 refine aA fun J f ar=>?_;have cd:=aP.cons ar bm;try simp only[au] at ar
 try simp only[*,go_sem]
 refine af hJ (ah hJ ?_);simp only[*,go_sem];revert h;refine jC hJ (by simp only[*,go_sem]) (fun bs h=>?_) fun bs h=>?_
 ·obtain rfl:=sI h;refine ah hJ ?_;simp only[*,go_sem];refine az ?_;simp only[*,go_sem];exact ⟨_,(B).trans al,Le.sub (List.nil_sublist _),_,rfl,aC.nil _ _⟩
 refine aH hJ (af hJ ?_);refine aB hJ fun bz=>?_;refine cP hJ mixed 4 2 (by simp only[*,go_sem]) (by kernel_rfl) ?_;revert h;refine bS fun b0 b1 h=>?_;simp only[*,go_sem];refine aA fun C a0 a2=>?_;have a3:=aP.cons a2 bz;try simp only[au] at a2
 try simp only[*,go_sem]
 obtain ⟨m,K,a4⟩:=fM (b:=C) (o:=(.cells #[.slice none 0 0] 35)) [] ((J,kn n.1 E F G H I)::(w,bk u0 s1 g i j)::[]) a3 a0 (aG.cons f (aG.cons c (aG.nil _)));have a5:aC (rL rI) (bU ae C (.cells #[.slice none 0 0] 35)) (.slice (some ⟨C,0,none⟩) 1 1) [([]:(List Int))]:=(aC.one (r:=(rL rI)) (e:=35) (cs:=#[.slice none 0 0]) (x:=([]:(List Int))) (own:=[(C,.cells #[.slice none 0 0] 35)]) a0 (by simp[lk]) ⟨_,rfl,aC.nil _ _⟩)
 generalize bU ae C (.cells #[.slice none 0 0] 35)=cf at a5 K m a4;refine gR hJ a4 ?_;replace d:=d.mono m;replace q:=q.mono m;replace f:=K.hd;replace c:=K.tl.hd;simp only[bq] at K;have cl:=aP.tl a3;refine b6 hJ _ (A4 n.1.book d ([([]:(List Int))]) a5 b1) fun v cu s S k=>?_;obtain ⟨cy,rfl,a6⟩:=k;replace d:=d.mono s;replace q:=q.mono s;replace f:=S.hd;replace c:=S.tl.hd;simp only[bq] at S;obtain ⟨d92,cS,rfl,c0,da,-⟩:=id a6;have db:=eH (l:=[(J,kn n.1 E F G H I),(w,bk u0 s1 g i j)]) (m.trans s) (aG.cons f (aG.cons c (aG.nil _)));refine ⟨by simp only[*,go_sem],?_⟩;refine mg ?_;revert h;refine bS fun b2 b3 h=>?_;try simp only[*,go_sem]
 refine r7 _ (DF n.1 d.e d.p d.y d.t q a b0 a6 b3) fun v dd T U k=>?_;obtain ⟨df,rfl,a7⟩:=k;replace f:=U.hd;replace c:=U.tl.hd;simp only[bq] at U;obtain ⟨d111,dk,rfl,dp,dq,-⟩:=id a7;have ds:=eH (l:=[(J,kn n.1 E F G H I),(w,bk u0 s1 g i j)]) ((m.trans s).trans T) (aG.cons f (aG.cons c (aG.nil _)));refine ⟨by simp only[*,go_sem],?_⟩;refine mg ?_;revert h;refine bS fun dt b4 h=>?_;obtain rfl:=sI h;try simp only[*,go_sem]
 refine b6 hJ _ (Ht b2 a7 b4) fun v du a8 V k=>?_;obtain ⟨dv,rfl,a9⟩:=k;replace f:=V.hd;replace c:=V.tl.hd;simp only[bq] at V;obtain ⟨d124,dC,rfl,dE,dT,-⟩:=id a9;have ea:=eH (l:=[(J,kn n.1 E F G H I),(w,bk u0 s1 g i j)]) (((m.trans s).trans T).trans a8) (aG.cons f (aG.cons c (aG.nil _)));refine ⟨by simp only[*,go_sem],?_⟩;refine mg ?_;try simp only[*,go_sem]
 refine az ?_;simp only[*,go_sem];exact ⟨_,(((((B).trans al).trans m).trans s).trans T).trans a8,Le.sub (List.nil_sublist _),_,rfl,a9⟩
def yV (u0:aj)(c:Int)(a:(cR×Int))(st:(Bool×Int×(List (List Int))×Int)):Option (Fl (Bool×Int×(List (List Int))×Int) ((List Int)×Bool×Int)):=
 cond (decide (st.2.2.2<(IntKind.i64.wrap ((IntKind.i64.wrap (3 - (u0.props.length:Int)))+1)))) (ag (uv a.1 c st.2.2.1) fun b=>cond (decide (0<(b.length:Int))) (ag (aY b 0) fun d=>some (.rt (d,true,0))) (ag (sN a.1.book st.2.2.1) fun e=>some (.nx (st.1,st.2.1,e,(IntKind.i64.wrap (st.2.2.2+1)))))) (some (.bk (st.1,st.2.1,st.2.2.1,st.2.2.2)))
def yW (u0:aj)(b:Int):Option ((List Int)×Bool×Int):=
 ag (fP u0 ([(gW b)])) fun a=>cond ((a.2 != 0)) (some (([]:(List Int)),false,a.2)) (ag (aU (yV u0 b a) fu (false,a.2,([([]:(List Int))]),0)) fun o=>aD o (fun c=>some (([]:(List Int)),false,0)) (fun _ _=>none) (fun r=>some r))
theorem Ld {ro:Addr->Option Value}(K:c9 ro)(u0:aj){s1 S k l:Value}(n:bL ro u0 s1 S k l)(a:Int){r:((List Int)×Bool×Int)}(h:yW u0 a=some r):pI Tryz.prog 47 #[bv u0 s1 S k l,.int .i64 a] ro (fun v aM=>∃T,v= .tuple #[T,.bool r.2.1,.int .i64 r.2.2]/\aC rI aM T r.1):=by
 obtain ⟨d10,L,rfl,ec,ed,-⟩:=id n.p;unfold yW at h;have bm:=n.oc;simp only[bG] at bm;refine fD.go Tryz.func47 rfl Tryz.ntmps47 Tryz.results47 (by simp) fun Φ hJ A bo hd hs=>?_;have br:=hs 0;have k1:=hs 1;clear hs;refine ah hJ ?_;simp only[*,go_sem];refine aA fun M C bs=>?_;try simp only[au] at bs
 try simp only[*,go_sem]
 refine af hJ ?_;refine aB hJ fun bz=>?_;refine ak hJ ?_;revert h;refine bS fun f b0 h=>?_;simp only[*,go_sem];refine aA fun q U V=>?_;have W:=aP.cons V bz;try simp only[au] at V
 try simp only[*,go_sem]
 obtain ⟨g,N,X⟩:=fM (b:=q) (o:=(.cells #[.func (.func 96) #[.int .i64 a] #[]] 127)) [] ((M,bk u0 s1 (sl d10 u0.props L) k l)::[]) W U (aG.cons C (aG.nil _));have Y:aC (c6) (bU ro q (.cells #[.func (.func 96) #[.int .i64 a] #[]] 127)) (.slice (some ⟨q,0,none⟩) 1 1) [(gW a)]:=(aC.one (r:=(c6)) (e:=127) (cs:=#[.func (.func 96) #[.int .i64 a] #[]]) (x:=(gW a)) (own:=[(q,.cells #[.func (.func 96) #[.int .i64 a] #[]] 127)]) U (by simp[lk]) ⟨96,#[.int .i64 a],#[],rfl,⟨by simp only[go_sem],fun eh et b1 _ _ _ _ _ b2 b3 b4 b5 h=>by simp only[go_sem];exact vQ a b1 ⟨b2,b3,b4,b5⟩ h⟩⟩)
 generalize bU ro q (.cells #[.func (.func 96) #[.int .i64 a] #[]] 127)=eu at Y N g X;refine gR hJ X ?_;replace n:=n.mono g;replace C:=N.hd;replace K:=K.mono g;simp only[bq] at N;have ca:=aP.tl W;refine b6 hJ _ (jF K u0 n ([(gW a)]) Y b0) fun v Z O ab s=>?_;obtain ⟨ad,ae,al,ao,ar,rfl,c,i⟩:=s;have cb:=c.oc;simp only[bG] at cb;have cd:=i.oc;simp only[bG] at cd;replace C:=ab.hd;simp only[bq] at ab;refine aJ ?_;try simp only[*,go_sem]
 refine aA fun a0 cf a2=>?_;have ev:=aP.cons a2 ca;try simp only[au] at a2
 try simp only[*,go_sem]
 refine af hJ (ah hJ ?_);simp only[*,go_sem];revert h;refine jC hJ (by simp only[*,go_sem]) (fun cl h=>?_) fun cl h=>?_
 ·obtain rfl:=sI h;refine ah hJ ?_;simp only[*,go_sem];refine az ?_;simp only[*,go_sem];exact ⟨_,(g).trans O,Le.sub (List.nil_sublist _),_,rfl,aC.nil _ _⟩
 refine aH hJ (af hJ ?_);refine aB hJ fun cu=>?_;refine ak hJ ?_;simp only[*,go_sem];refine aA fun j a3 a4=>?_;have eQ:=aP.cons a4 cu;try simp only[au] at a4
 try simp only[*,go_sem]
 refine af hJ (ah hJ ?_);simp only[*,go_sem];refine aB hJ fun a5=>?_;obtain ⟨u,a6,a7⟩:=fM (b:=j) (o:=(.cells #[.slice none 0 0] 35)) [] ((a0,kn f.1 ad ae al ao ar)::(M,bk u0 s1 (sl d10 u0.props L) k l)::[]) a5 a3 (aG.cons cf (aG.cons C (aG.nil _)));clear a5;have P:aC (rL rI) (bU Z j (.cells #[.slice none 0 0] 35)) (.slice (some ⟨j,0,none⟩) 1 1) [([]:(List Int))]:=(aC.one (r:=(rL rI)) (e:=35) (cs:=#[.slice none 0 0]) (x:=([]:(List Int))) (own:=[(j,.cells #[.slice none 0 0] 35)]) a3 (by simp[lk]) ⟨_,rfl,aC.nil _ _⟩)
 generalize bU Z j (.cells #[.slice none 0 0] 35)=a8 at u a6 a7 P;refine cp hJ a7 ?_;obtain ⟨eS,e0,-⟩:=P.op;replace c:=c.mono u;replace i:=i.mono u;simp only[bq] at a6;refine aN hJ ?_;revert h;refine bS fun cy D a9=>?_;refine bT hJ [4,5,6,8,9,27,28,29,30,31,32,33,34,35,36,37,38,39,40,41,42,43] (fun m E F'=>∃(F:Addr->Option Value) (d98:Option Addr) (Q:Nat) (G:Bool) (H:Int) (d:(List (List Int))) (I:Int),aU (yV u0 a f) m (G,H,d,I)=some cy/\F'=⟨F,(a0,kn f.1 ad ae al ao ar)::(M,bk u0 s1 (sl d10 u0.props L) k l)::[]⟩/\Ext a8 F/\aC (rL rI) F (.slice d98 d.length Q) d/\slot E 5= .bool G/\slot E 6= .int .i64 H/\slot E 8= .slice d98 d.length Q/\slot E 27= .int .i64 I) fu ?_ ?_
 ·refine ⟨a8,(some ⟨j,0,none⟩),1,false,f.2,([([]:(List Int))]),0,D,rfl,Ext.refl _,P,?_⟩;simp only[*,go_sem]
 rintro R e1 F' ba ⟨F,d98,Q,G,H,d,I,D,rfl,w,z,e2,e3,fa,fb⟩;refine fe hJ fun _ cS=>?_;replace c:=c.mono w;replace i:=i.mono w;simp only[bq] at cS;obtain ⟨fg,fi,-⟩:=z.op;obtain ⟨c0,da,db⟩:=ba.pick [1,7,26] (by decide);simp only[*,go_sem] at c0 da db;clear ba bo hd br k1;obtain _|R:=R
 ·exact absurd D (by simp only[aU,reduceCtorEq,not_false_eq_true])
 revert D;refine bS fun fo h B=>?_;unfold yV at h;try dsimp only at h
 refine ah hJ ?_;simp only[*,go_sem];refine af hJ ?_;revert h;refine jC hJ (by simp only[*,go_sem]) (fun dd h=>?_) fun dd h=>?_
 ·refine aH hJ (af hJ ?_);refine aN hJ (af hJ ?_);refine ah hJ ?_;revert h;refine bS fun fp df h=>?_;simp only[*,go_sem];refine r7 _ (DF f.1 c.e c.p c.y c.t i a d z df) fun v fr J dk s=>?_;obtain ⟨fs,rfl,bb⟩:=s;replace z:=z.mono J;replace c:=c.mono J;simp only[bq] at dk;obtain ⟨d121,ft,rfl,fv,fw,-⟩:=id bb;refine aJ ?_;try simp only[*,go_sem]
  refine ah hJ ?_;simp only[*,go_sem];revert h;refine jC hJ (by simp only[*,go_sem]) (fun dp h=>?_) fun dp h=>?_
  ·refine ah hJ ?_;revert h;refine bS fun fx dq h=>?_;obtain rfl:=sI h;obtain ⟨gg,gl,bc⟩:=cE dq;obtain ⟨gn,gp,ds,dt,bd⟩:=bb.el _ _ bc;obtain ⟨gB,rfl,bj⟩:=dt;obtain ⟨d130,gC,rfl,gM,gT,gV⟩:=id bj;cases ds;have du:=bd 0 _ rfl;simp only[go_sem] at du;clear bd bc;(try simp only[*,go_sem]);obtain rfl:=sI B;clear B;have h:=a9;dsimp only[aD] at h;obtain rfl:=sI h;refine az ?_;simp only[*,go_sem];exact ⟨_,((((g).trans O).trans u).trans w).trans J,Le.sub (List.nil_sublist _),_,rfl,bj⟩
  refine aH hJ (ak hJ ?_);revert h;refine bS fun dv dC h=>?_;obtain rfl:=sI h;simp only[*,go_sem];refine b6 hJ _ (A4 f.1.book c d z dC) fun v dE dT ea s=>?_;obtain ⟨g0,rfl,bl⟩:=s;simp only[bq] at ea;obtain ⟨d144,eb,rfl,g1,g2,-⟩:=id bl;refine aJ ?_;try simp only[*,go_sem]
  refine ak hJ ?_;simp only[*,go_sem];refine ⟨R,Nat.lt_succ_self _,_,Le.sub (List.Sublist.refl _),dE,d144,eb,G,H,dv,(IntKind.i64.wrap (I+1)),B,rfl,(w.trans (J.trans dT)),bl,?_⟩;simp only[*,go_sem]
 obtain rfl:=sI h;refine bN ?_;simp only[go_sem];obtain rfl:=sI B;clear B;have h:=a9;dsimp only[aD] at h;obtain rfl:=sI h;refine ah hJ ?_;simp only[*,go_sem];refine az ?_;simp only[*,go_sem];exact ⟨_,(((g).trans O).trans u).trans w,Le.sub (List.nil_sublist _),_,rfl,aC.nil _ _⟩
def yX (a:(Int×Int×Int))(e:(aj×Int))(b:((List Int)×Int))(f:(aj×Int))(g:(aj×Int))(c:(Int×Int))(d:((List Int)×Int)):Option Bool:=
 cond ((a.2.2==0)) (cond ((e.2==0)) (cond ((b.2==0)) (cond ((f.2==9)) (cond ((g.2==0)) (cond ((c.2==0)) (cond ((d.2==0)) (cond ((a.1==0)) (cond ((a.2.1==2)) (ag (mL b.1 ([11,12])) fun h=>cond (h) (cond ((c.1==2)) (ag (mL d.1 ([1])) fun i=>some i) (some false)) (some false)) (some false)) (some false)) (some false)) (some false)) (some false)) (some false)) (some false)) (some false)) (some false)
def yY (a:aj):Option Bool:=
 ag (xd a) fun d=>ag (mV 0 true) fun e=>ag (sX a e) fun b=>ag (jI b.1 0) fun f=>ag (mV 1 true) fun g=>ag (sX a g) fun h=>ag (mT 12 12) fun i=>ag (lB a 0 i) fun c=>ag (kz c.1) fun j=>ag (mV 0 true) fun k=>ag (qj a k) fun l=>ag (mV 1 true) fun m=>ag (qj l m) fun n=>ag (mV 0 false) fun o=>ag (qj n o) fun p=>ag (xm p) fun q=>yX d b f h c j q
def yZ (d:aj)(f:(Int×Int))(g:(Int×Int))(h:(Int×Int))(i:(Int×Int))(b:(Int×an×Int))(c:(Int×an×Int))(a:(an×an×Bool×Int)):Option Bool:=
 ag (yU d 2) fun j=>ag (yW d 2) fun e=>cond ((f.2 != 0)) (some false) (cond ((g.2 != 0)) (some false) (cond ((h.2 != 0)) (some false) (cond ((i.2 != 0)) (some false) (cond ((b.2.2 != 0)) (some false) (cond ((c.2.2 != 0)) (some false) (cond ((a.2.2.2 != 0)) (some false) (cond ((j.2 != 0)) (some false) (cond ((e.2.2 != 0)) (some false) (cond ((f.1 != 0)) (some false) (cond ((g.1 != 2)) (some false) (cond ((h.1 != 0)) (some false) (cond ((i.1 != 1)) (some false) (cond ((b.1 != 0)) (some false) (ag (gk 1 1) fun k=>cond (!((b.2.1.num==k.num)&&(b.2.1.den==k.den))) (some false) (cond ((c.1 != (-1))) (some false) (ag (gk 0 1) fun l=>cond (!((c.2.1.num==l.num)&&(c.2.1.den==l.den))) (some false) (cond (!a.2.2.1) (some false) (ag (gk 3 2) fun m=>cond (!((a.1.num==m.num)&&(a.1.den==m.den))) (some false) (ag (gk 3 2) fun n=>cond (!((a.2.1.num==n.num)&&(a.2.1.den==n.den))) (some false) (ag (mL j.1 ([11,12,13,14])) fun o=>cond (!o) (some false) (cond (!e.2.1) (some false) (ag (mL e.1 ([11])) fun p=>cond (!p) (some false) (yY d)))))))))))))))))))))))
def y2 (a:aj)(b:aj):Option Bool:=
 ag (lA a 0) fun c=>ag (lA a 1) fun d=>ag (kz a) fun e=>ag (kz b) fun f=>ag (s4 a) fun g=>ag (s4 b) fun h=>ag (xp a) fun i=>yZ a c d e f g h i
def y3 (b:aj)(s:aj)(g:(an×Int))(c:(Int×an×Int))(h:(an×Int))(d:(an×Bool×Int))(e:(an×Bool×Int))(f:(an×Bool×Int)):Option Bool:=
 ag (oe b) fun i=>ag (jI b 0) fun j=>ag (mO b 0) fun a=>cond ((g.2 != 0)) (some false) (cond ((c.2.2 != 0)) (some false) (cond ((h.2 != 0)) (some false) (cond ((d.2.2 != 0)) (some false) (cond ((e.2.2 != 0)) (some false) (cond ((f.2.2 != 0)) (some false) (cond ((i.2 != 0)) (some false) (cond ((j.2 != 0)) (some false) (cond ((a.2.2 != 0)) (some false) (ag (gk 13 4) fun k=>cond (!((g.1.num==k.num)&&(g.1.den==k.den))) (some false) (cond ((c.1 != 2)) (some false) (ag (gk 11 8) fun l=>cond (!((c.2.1.num==l.num)&&(c.2.1.den==l.den))) (some false) (ag (gk 1 4) fun m=>cond (!((h.1.num==m.num)&&(h.1.den==m.den))) (some false) (ag (gk 24 13) fun n=>cond (!((d.1.num==n.num)&&(d.1.den==n.den))) (some false) (cond (!d.2.1) (some false) (ag (gk 2 13) fun o=>cond (!((e.1.num==o.num)&&(e.1.den==o.den))) (some false) (cond (e.2.1) (some false) (ag (gk 1 1) fun p=>cond (!((f.1.num==p.num)&&(f.1.den==p.den))) (some false) (cond (!f.2.1) (some false) (cond ((i.1 != 3)) (some false) (ag (mL j.1 ([10,11,12])) fun t=>cond (!t) (some false) (ag (gk 1 4) fun q=>cond (!((a.1.num==q.num)&&(a.1.den==q.den))) (some false) (ag (gk 1 1) fun r=>cond (!((a.2.1.num==r.num)&&(a.2.1.den==r.den))) (some false) (y2 b s)))))))))))))))))))))))
def lS :Option Bool:=
 ag (xD) fun a=>ag (xB a ([11]) 2) fun b=>ag (v9 a 5) fun c=>ag (jK 2 11) fun d=>ag (we a d) fun e=>ag (jK 2 10) fun f=>ag (n5 a f) fun g=>ag (jK 2 12) fun h=>ag (wh b h) fun i=>ag (jK 2 12) fun j=>ag (mN b j) fun k=>ag (jK 2 12) fun l=>ag (mN a l) fun m=>y3 a b c e g i k m
theorem q2:lS=some true:=by decide+kernel
set_option maxHeartbeats 40000000 in
theorem DG {Φ:Goroutine->aa->Prop}(hJ:Closed Tryz.prog true (dF Tryz.prog Φ)){A:Act}{ro:Addr->Option Value}(a:(Int×Int×Int))(f:(aj×Int))(b:((List Int)×Int))(g:(aj×Int))(i:(aj×Int))(d:(Int×Int))(c:((List Int)×Int))(Q:c9 ro){j:Value}(k:aC rI ro j b.1){l:Value}(m:aC rI ro l c.1)(q:sz A=439/\A.defers=[]/\slot A 0= .bool false/\slot A 4= .int .i64 a.2.2/\slot A 7= .int .i64 f.2/\slot A 9= .int .i64 b.2/\slot A 12= .int .i64 g.2/\slot A 15= .int .i64 i.2/\slot A 18= .int .i64 d.2/\slot A 20= .int .i64 c.2/\slot A 21=j/\slot A 28= .int .i64 d.1/\slot A 40= .int .i64 a.1/\slot A 41= .int .i64 a.2.1/\slot A 43=l)(h:yX a f b g i d c=some true):Wp (dF Tryz.prog Φ) (bp (bp (bp (bp (bp (bp (bp (bp (bp (bp (bp (bp (bp (bp (bp (bp (bp (bp (bp (bp (bp (bp (bp (bp (bp (bp (bp (bp (bp (bp (bp (bp (Tryz.f13.body.getD .skip))))))))))))))))))))))))))))))))) (gO Tryz.prog [.tmp 0] (fun v _=>v= .bool true)) A ⟨ro,[]⟩:=by
 obtain ⟨R,hd,S,T,U,V,W,X,Y,Z,ab,ad,ae,al,ao⟩:=q;obtain ⟨ar,a0,rfl,a2,a3,-⟩:=id k;obtain ⟨a4,a5,rfl,a6,a7,-⟩:=id m;unfold yX at h;refine fe hJ fun s t=>?_;have u:=s.nd;try simp only[keys,List.map_cons,List.map_nil,List.map_append,List.cons_append,List.nil_append,List.nodup_cons,List.mem_cons,List.mem_append,List.not_mem_nil,or_false,not_or] at u
 simp only[bq] at t;refine af hJ ?_;refine aB hJ fun w=>?_;refine eo hJ fun K n=>?_;revert h;refine cS (fun y h=>?_) fun y h=>?_
 ·revert h;refine cS (fun z h=>?_) fun z h=>?_
  ·revert h;refine cS (fun B h=>?_) fun B h=>?_
   ·revert h;refine cS (fun C h=>?_) fun C h=>?_
    ·revert h;refine cS (fun D h=>?_) fun D h=>?_
     ·revert h;refine cS (fun E h=>?_) fun E h=>?_
      ·revert h;refine cS (fun F h=>?_) fun F h=>?_
       ·revert h;refine cS (fun G h=>?_) fun G h=>?_
        ·revert h;refine cS (fun H h=>?_) fun H h=>?_
         ·revert h;refine bS fun a8 I h=>?_;(try simp (maxSteps:=9^9) only[*,go_sem]);refine aA fun a9 J o=>?_;have L:=aP.cons o w;try simp only[au] at o
          (try simp (maxSteps:=9^9) only[*,go_sem]);refine bn hJ _ (p7 b.1 (k.mono aR) ([11,12]) ((aC.flat (r:=rI) (e:=3) (cs:=#[.int .i64 11,.int .i64 12]) (fun x=>[.int .i64 x]) ([11,12]) (fun _=>rfl) J rfl (by simp)).mono (j4 (by simp (maxSteps:=9^9) only[*,go_sem]))) I) (aJ ?_);revert h;refine cS (fun M h=>?_) fun M h=>?_
          ·revert h;refine cS (fun N h=>?_) fun N h=>?_
           ·revert h;refine bS fun ba O h=>?_;obtain rfl:=sI h;(try simp (maxSteps:=9^9) only[*,go_sem]);refine aA fun bb P p=>?_;have bc:=aP.cons p L;try simp only[au] at p
            (try simp (maxSteps:=9^9) only[*,go_sem]);refine bn hJ _ (p7 c.1 (m.mono aR) ([1]) ((aC.flat (r:=rI) (e:=3) (cs:=#[.int .i64 1]) (fun x=>[.int .i64 x]) ([1]) (fun _=>rfl) P rfl (by simp)).mono (j4 (by simp (maxSteps:=9^9) only[*,go_sem]))) O) (aJ ?_);(try simp (maxSteps:=9^9) only[*,go_sem]);refine n.go ?_;clear n K;refine az ?_;try simp only[*,go_sem]
           cases h
          cases h
         cases h
        cases h
       cases h
      cases h
     cases h
    cases h
   cases h
  cases h
 cases h
set_option maxHeartbeats 40000000 in
theorem Lf {Φ:Goroutine->aa->Prop}(hJ:Closed Tryz.prog true (dF Tryz.prog Φ)){A:Act}{ro:Addr->Option Value}(d:aj)(eu:((List Int)×Int))(ev:(Int×Int))(eQ:(Int×Int))(b0:(Int×Int))(eS:(Int×Int))(e0:(Int×an×Int))(e1:(Int×an×Int))(e2:(an×an×Bool×Int)){i:Nat}(a:c9 ro){b1:Value}(e3:aC rI ro b1 eu.1){j k m n:Value}(c:bL ro d j k m n)(fa:sz A=439/\A.defers=[]/\slot A 0= .bool false/\slot A 1= .pointer (some ⟨i,0,none⟩)/\slot A 4= .int .i64 ev.2/\slot A 7= .int .i64 eQ.2/\slot A 9= .int .i64 b0.2/\slot A 12= .int .i64 eS.2/\slot A 15= .int .i64 e0.2.2/\slot A 18= .int .i64 e1.2.2/\slot A 20= .int .i64 e2.2.2.2/\slot A 21=b1/\slot A 28= .int .i64 b0.1)(h:yY d=some true):Wp (dF Tryz.prog Φ) (bp (bp (bp (bp (bp (bp (bp (bp (bp (bp (bp (bp (bp (bp (bp (bp (bp (bp (bp (bp (bp (bp (bp (bp (bp (Tryz.f13.body.getD .skip)))))))))))))))))))))))))) (gO Tryz.prog [.tmp 0] (fun v _=>v= .bool true)) A ⟨ro,(i,bk d j k m n)::[]⟩:=by
 obtain ⟨b2,hd,b3,k1,b4,b5,ca,cb,cd,cf,cl,cu,cy⟩:=fa;obtain ⟨d125,iv,rfl,ix,jC,-⟩:=id e3;unfold yY at h;have fb:=c.oc;simp only[bG] at fb;refine fe hJ fun a2 cS=>?_;have fg:=a2.nd;try simp only[keys,List.map_cons,List.map_nil,List.map_append,List.cons_append,List.nil_append,List.nodup_cons,List.mem_cons,List.mem_append,List.not_mem_nil,or_false,not_or] at fg
 replace g:=cS.hd;simp only[bq] at cS;refine af hJ (eo hJ fun K b=>?_);revert h;refine bS fun c0 fi h=>?_;try simp (maxSteps:=9^9) only[*,go_sem]
 refine bn hJ _ (Hq (a.mono aR) d (c.mono aR) fi) (aJ ?_);try simp (maxSteps:=9^9) only[*,go_sem]
 refine b.go ?_;clear b K;refine af hJ ?_;refine j9 hJ mixed [] (.rd 0 (.rd 1 (.two 2 (.pure 3 (.pure 4 (.pure 5 (.one 6 (.one 7 (.pure 8 .done)))))) 6 (.one 2 (.pure 3 (.pure 4 (.pure 5 (.one 7 (.pure 8 .done))))))))) ⟨ro,[(i,bk d j k m n)]⟩ (by simp (maxSteps:=9^9) only[*,go_sem]) (by kernel_rfl) fun K b=>?_;revert h;refine bS fun da fo h=>?_;try simp (maxSteps:=9^9) only[*,go_sem]
 refine ⟨_,bC hJ fun F u=>kB 0 true fo,bW ?_⟩;try simp (maxSteps:=9^9) only[*,go_sem]
 refine jx ?_ ?_
 ·revert h;refine bS fun Z fp h=>?_;try simp (maxSteps:=9^9) only[*,go_sem]
  refine b6 hJ _ (sY a d c da fp) fun v j1 a3 db f=>?_;obtain ⟨dd,df,dk,dp,rfl,dq⟩:=f;have fr:=dq.oc;simp only[bG] at fr;replace c:=c.mono a3;replace g:=db.hd;replace a:=a.mono a3;simp only[bq] at db;have j2:=eH (l:=[(i,bk d j k m n)]) a3 (aG.cons g (aG.nil _));refine ⟨by simp (maxSteps:=9^9) only[*,go_sem],?_⟩;refine bW ?_;try simp (maxSteps:=9^9) only[*,go_sem]
  refine aA fun w s ds=>?_;have kh:=aP.cons ds a2;try simp only[au] at ds
  try simp (maxSteps:=9^9) only[*,go_sem]
  refine b.go ?_;clear b K;refine af hJ (eo hJ fun K b=>?_);revert h;refine bS fun fs ft h=>?_;try simp (maxSteps:=9^9) only[*,go_sem]
  refine b6 hJ _ (qh a Z.1 dq 0 ft) fun v fu dt a4 f=>?_;obtain ⟨kj,rfl,o⟩:=f;have fv:=o.oc;simp only[bG] at fv;replace c:=c.mono dt;replace s:=a4.hd;replace g:=a4.tl.hd;replace a:=a.mono dt;simp only[bq] at a4;refine aJ ?_;try simp (maxSteps:=9^9) only[*,go_sem]
  refine b.go ?_;clear b K;refine af hJ ?_;refine j9 hJ mixed [] (.rd 0 (.rd 1 (.one 2 (.pure 3 (.pure 4 (.pure 5 (.pure 6 .done))))))) ⟨fu,[(w,bk Z.1 dd df dk dp),(i,bk d j k m n)]⟩ (by simp (maxSteps:=9^9) only[*,go_sem]) (by kernel_rfl) fun K b=>?_;revert h;refine bS fun fw fx h=>?_;try simp (maxSteps:=9^9) only[*,go_sem]
  refine ⟨_,bC hJ fun F u=>kB 1 true fx,bW ?_⟩;revert h;refine bS fun gg gl h=>?_;try simp (maxSteps:=9^9) only[*,go_sem]
  refine b6 hJ _ (sY a d c fw gl) fun v gn ab a5 f=>?_;obtain ⟨kk,kl,km,kn,rfl,N⟩:=f;have gp:=N.oc;simp only[bG] at gp;replace o:=o.mono ab;replace c:=c.mono ab;replace s:=a5.hd;replace g:=a5.tl.hd;replace a:=a.mono ab;simp only[bq] at a5;obtain ⟨kp,ks,rfl,kt,kv,-⟩:=id N.e;obtain ⟨kx,ky,rfl,k0,k2,-⟩:=id N.p;obtain ⟨lb,lh,rfl,lj,lk,-⟩:=id N.y;obtain ⟨ll,ln,rfl,lo,lr,-⟩:=id N.t;have lv:=eH (l:=[(w,bk Z.1 dd df dk dp),(i,bk d j k m n)]) ab (aG.cons s (aG.cons g (aG.nil _)));refine ⟨by simp (maxSteps:=9^9) only[*,go_sem],?_⟩;refine bW ?_;try simp (maxSteps:=9^9) only[*,go_sem]
  refine b.go ?_;clear b K;refine af hJ ?_;refine fN [0,1,4,7,9,12,15,18,20,21,28,40,41,42] fun lx gB gC gM=>?_;simp only[*,go_sem] at gB gC gM;clear b2 hd b3 k1 b4 b5 ca cb cd cf cl cu cy;refine j9 hJ mixed [] (.rd 0 (.rd 1 (.one 2 (.pure 3 (.pure 4 (.pure 5 (.one 6 (.pure 7 .done)))))))) ⟨gn,[(i,bk d j k m n)]⟩ (by simp (maxSteps:=9^9) only[*,go_sem]) (by kernel_rfl) fun K b=>?_;revert h;refine bS fun gT gV h=>?_;try simp (maxSteps:=9^9) only[*,go_sem]
  refine ⟨_,bC hJ fun F u=>qi 12 12 gV,bW ?_⟩;revert h;refine bS fun x g0 h=>?_;try simp (maxSteps:=9^9) only[*,go_sem]
  refine b6 hJ _ (sZ a d c 0 gT g0) fun v g1 ad a6 f=>?_;obtain ⟨O,P,Q,R,rfl,du⟩:=f;have g2:=du.oc;simp only[bG] at g2;replace o:=o.mono ad;replace c:=c.mono ad;replace s:=a6.hd;replace g:=a6.tl.hd;replace a:=a.mono ad;simp only[bq] at a6;have ly:=eH (l:=[(i,bk d j k m n)]) ad (aG.cons g (aG.nil _));refine ⟨by simp (maxSteps:=9^9) only[*,go_sem],?_⟩;refine bW ?_;try simp (maxSteps:=9^9) only[*,go_sem]
  refine b.go ?_;clear b K;refine af hJ (eo hJ fun K b=>?_);revert h;refine bS fun g3 g4 h=>?_;try simp (maxSteps:=9^9) only[*,go_sem]
  refine bn hJ _ (sW (a.mono aR) x.1 (du.mono aR) g4) (aJ ?_);try simp (maxSteps:=9^9) only[*,go_sem]
  refine b.go ?_;clear b K;refine af hJ ?_;refine j9 hJ mixed [] (.rd 0 (.rd 1 (.one 2 (.rd 3 (.one 4 (.rd 5 (.one 6 (.one 7 (.pure 8 (.pure 9 (.pure 10 (.pure 11 (.pure 12 .done))))))))))))) ⟨g1,[(w,bk x.1 O P Q R),(i,bk d j k m n)]⟩ (by simp (maxSteps:=9^9) only[*,go_sem]) (by kernel_rfl) fun K b=>?_;revert h;refine bS fun ha hc h=>?_;try simp (maxSteps:=9^9) only[*,go_sem]
  refine ⟨_,bC hJ fun F u=>kB 0 true hc,bW ?_⟩;revert h;refine bS fun hf hg h=>?_;try simp (maxSteps:=9^9) only[*,go_sem]
  refine b6 hJ _ (oh d c ha hg) fun v lL z a7 f=>?_;obtain ⟨l1,l2,l3,l4,rfl,D⟩:=f;have hh:=D.oc;simp only[bG] at hh;replace o:=o.mono z;replace c:=c.mono z;replace s:=a7.hd;replace g:=a7.tl.hd;replace a:=a.mono z;simp only[bq] at a7;obtain ⟨ma,mb,rfl,mf,mi,-⟩:=id D.e;obtain ⟨ml,mn,rfl,mr,mx,-⟩:=id D.p;obtain ⟨my,m1,rfl,m2,na,-⟩:=id D.y;obtain ⟨nb,nf,rfl,nm,nn,-⟩:=id D.t;have np:=eH (l:=[(w,bk x.1 O P Q R),(i,bk d j k m n)]) z (aG.cons s (aG.cons g (aG.nil _)));refine ⟨by simp (maxSteps:=9^9) only[*,go_sem],?_⟩;refine bW ?_;revert h;refine bS fun hi hj h=>?_;try simp (maxSteps:=9^9) only[*,go_sem]
  refine ⟨_,bC hJ fun F u=>kB 1 true hj,bW ?_⟩;revert h;refine bS fun hk hl h=>?_;try simp (maxSteps:=9^9) only[*,go_sem]
  refine b6 hJ _ (oh hf D hi hl) fun v ns E a8 f=>?_;obtain ⟨nx,nz,nA,nH,rfl,G⟩:=f;have hn:=G.oc;simp only[bG] at hn;replace o:=o.mono E;replace c:=c.mono E;replace s:=a8.hd;replace g:=a8.tl.hd;replace a:=a.mono E;simp only[bq] at a8;obtain ⟨nI,nK,rfl,nQ,nR,-⟩:=id G.e;obtain ⟨nT,nV,rfl,nX,nY,-⟩:=id G.p;obtain ⟨n0,n1,rfl,n2,n3,-⟩:=id G.y;obtain ⟨oi,oj,rfl,ox,oy,-⟩:=id G.t;have o0:=eH (l:=[(w,bk x.1 O P Q R),(i,bk d j k m n)]) (z.trans E) (aG.cons s (aG.cons g (aG.nil _)));refine ⟨by simp (maxSteps:=9^9) only[*,go_sem],?_⟩;refine bW ?_;revert h;refine bS fun ho hp h=>?_;try simp (maxSteps:=9^9) only[*,go_sem]
  refine ⟨_,bC hJ fun F u=>kB 0 false hp,bW ?_⟩;revert h;refine bS fun hq hr h=>?_;try simp (maxSteps:=9^9) only[*,go_sem]
  refine b6 hJ _ (oh hk G ho hr) fun v o1 S a9 f=>?_;obtain ⟨o2,o4,pa,pb,rfl,H⟩:=f;have hs:=H.oc;simp only[bG] at hs;replace o:=o.mono S;replace c:=c.mono S;replace s:=a9.hd;replace g:=a9.tl.hd;replace a:=a.mono S;simp only[bq] at a9;obtain ⟨pd,pf,rfl,ph,pj,-⟩:=id H.e;obtain ⟨pk,po,rfl,pr,ps,-⟩:=id H.p;obtain ⟨pt,pv,rfl,pw,px,-⟩:=id H.y;obtain ⟨py,pA,rfl,pB,pC,-⟩:=id H.t;have pD:=eH (l:=[(w,bk x.1 O P Q R),(i,bk d j k m n)]) ((z.trans E).trans S) (aG.cons s (aG.cons g (aG.nil _)));refine ⟨by simp (maxSteps:=9^9) only[*,go_sem],?_⟩;refine bW ?_;revert h;refine bS fun ht hv h=>?_;try simp (maxSteps:=9^9) only[*,go_sem]
  refine b6 hJ _ (Bb a hq H hv) fun v pL ae ba f=>?_;obtain ⟨pT,rfl,dv⟩:=f;replace o:=o.mono ae;replace c:=c.mono ae;replace s:=ba.hd;replace g:=ba.tl.hd;replace a:=a.mono ae;simp only[bq] at ba;obtain ⟨p0,p1,rfl,q0,q1,-⟩:=id dv;have ra:=eH (l:=[(w,bk x.1 O P Q R),(i,bk d j k m n)]) (((z.trans E).trans S).trans ae) (aG.cons s (aG.cons g (aG.nil _)));refine ⟨by simp (maxSteps:=9^9) only[*,go_sem],?_⟩;refine bW ?_;try simp (maxSteps:=9^9) only[*,go_sem]
  refine b.go ?_;clear b K;show Wp _ _ _ _ _;exact cp hJ (Le.sub (.cons _ (.cons _ (List.Sublist.refl _)))) (DG hJ c0 Z fs gg x g3 ht a o dv (by simp (maxSteps:=9^9) only[*,go_sem]) h)
 revert h;refine bS fun al hx h=>?_;try simp (maxSteps:=9^9) only[*,go_sem]
 refine aA fun B r dC=>?_;have rb:=aP.cons dC a2;try simp only[au] at dC
 try simp (maxSteps:=9^9) only[*,go_sem]
 refine b6 hJ _ (sY a d c da hx) fun v re bb bc f=>?_;obtain ⟨dE,dT,ea,eb,rfl,ec⟩:=f;have hy:=ec.oc;simp only[bG] at hy;replace c:=c.mono bb;replace r:=bc.hd;replace g:=bc.tl.hd;replace a:=a.mono bb;simp only[bq] at bc;have rh:=eH (l:=[(i,bk d j k m n)]) bb (aG.cons g (aG.nil _));refine ⟨by simp (maxSteps:=9^9) only[*,go_sem],?_⟩;refine bW ?_;try simp (maxSteps:=9^9) only[*,go_sem]
 refine b.go ?_;clear b K;refine af hJ (eo hJ fun K b=>?_);revert h;refine bS fun hz hA h=>?_;try simp (maxSteps:=9^9) only[*,go_sem]
 refine b6 hJ _ (qh a al.1 ec 0 hA) fun v hB ed bd f=>?_;obtain ⟨rk,rfl,q⟩:=f;have hD:=q.oc;simp only[bG] at hD;replace c:=c.mono ed;replace r:=bd.hd;replace g:=bd.tl.hd;replace a:=a.mono ed;simp only[bq] at bd;refine aJ ?_;try simp (maxSteps:=9^9) only[*,go_sem]
 refine b.go ?_;clear b K;refine af hJ ?_;refine j9 hJ mixed [] (.rd 0 (.rd 1 (.one 2 (.pure 3 (.pure 4 (.pure 5 (.pure 6 .done))))))) ⟨hB,[(B,bk al.1 dE dT ea eb),(i,bk d j k m n)]⟩ (by simp (maxSteps:=9^9) only[*,go_sem]) (by kernel_rfl) fun K b=>?_;revert h;refine bS fun hE hF h=>?_;try simp (maxSteps:=9^9) only[*,go_sem]
 refine ⟨_,bC hJ fun F u=>kB 1 true hF,bW ?_⟩;revert h;refine bS fun hG hI h=>?_;try simp (maxSteps:=9^9) only[*,go_sem]
 refine b6 hJ _ (sY a d c hE hI) fun v hK ao bj f=>?_;obtain ⟨rl,rn,rp,rr,rfl,T⟩:=f;have hL:=T.oc;simp only[bG] at hL;replace q:=q.mono ao;replace c:=c.mono ao;replace r:=bj.hd;replace g:=bj.tl.hd;replace a:=a.mono ao;simp only[bq] at bj;obtain ⟨rv,rB,rfl,rL,sa,-⟩:=id T.e;obtain ⟨sb,sc,rfl,sf,sg,-⟩:=id T.p;obtain ⟨sh,sl,rfl,sm,ss,-⟩:=id T.y;obtain ⟨sy,sI,rfl,sT,tb,-⟩:=id T.t;have te:=eH (l:=[(B,bk al.1 dE dT ea eb),(i,bk d j k m n)]) ao (aG.cons r (aG.cons g (aG.nil _)));refine ⟨by simp (maxSteps:=9^9) only[*,go_sem],?_⟩;refine bW ?_;try simp (maxSteps:=9^9) only[*,go_sem]
 refine b.go ?_;clear b K;refine af hJ ?_;refine fN [0,1,4,7,9,12,15,18,20,21,28,40,41,42] fun ti hM hN hP=>?_;simp only[*,go_sem] at hM hN hP;clear b2 hd b3 k1 b4 b5 ca cb cd cf cl cu cy;refine j9 hJ mixed [] (.rd 0 (.rd 1 (.one 2 (.pure 3 (.pure 4 (.pure 5 (.one 6 (.pure 7 .done)))))))) ⟨hK,[(i,bk d j k m n)]⟩ (by simp (maxSteps:=9^9) only[*,go_sem]) (by kernel_rfl) fun K b=>?_;revert h;refine bS fun hQ hR h=>?_;try simp (maxSteps:=9^9) only[*,go_sem]
 refine ⟨_,bC hJ fun F u=>qi 12 12 hR,bW ?_⟩;revert h;refine bS fun C hS h=>?_;try simp (maxSteps:=9^9) only[*,go_sem]
 refine b6 hJ _ (sZ a d c 0 hQ hS) fun v hT ar bl f=>?_;obtain ⟨U,V,W,X,rfl,eh⟩:=f;have hV:=eh.oc;simp only[bG] at hV;replace q:=q.mono ar;replace c:=c.mono ar;replace r:=bl.hd;replace g:=bl.tl.hd;replace a:=a.mono ar;simp only[bq] at bl;have tk:=eH (l:=[(i,bk d j k m n)]) ar (aG.cons g (aG.nil _));refine ⟨by simp (maxSteps:=9^9) only[*,go_sem],?_⟩;refine bW ?_;try simp (maxSteps:=9^9) only[*,go_sem]
 refine b.go ?_;clear b K;refine af hJ (eo hJ fun K b=>?_);revert h;refine bS fun hX hY h=>?_;try simp (maxSteps:=9^9) only[*,go_sem]
 refine bn hJ _ (sW (a.mono aR) C.1 (eh.mono aR) hY) (aJ ?_);try simp (maxSteps:=9^9) only[*,go_sem]
 refine b.go ?_;clear b K;refine af hJ ?_;refine j9 hJ mixed [] (.rd 0 (.rd 1 (.one 2 (.rd 3 (.one 4 (.rd 5 (.one 6 (.one 7 (.pure 8 (.pure 9 (.pure 10 (.pure 11 (.pure 12 .done))))))))))))) ⟨hT,[(B,bk C.1 U V W X),(i,bk d j k m n)]⟩ (by simp (maxSteps:=9^9) only[*,go_sem]) (by kernel_rfl) fun K b=>?_;revert h;refine bS fun hZ h0 h=>?_;try simp (maxSteps:=9^9) only[*,go_sem]
 refine ⟨_,bC hJ fun F u=>kB 0 true h0,bW ?_⟩;revert h;refine bS fun h1 h2 h=>?_;try simp (maxSteps:=9^9) only[*,go_sem]
 refine b6 hJ _ (oh d c hZ h2) fun v tm I bm f=>?_;obtain ⟨tp,ts,tt,tx,rfl,J⟩:=f;have h3:=J.oc;simp only[bG] at h3;replace q:=q.mono I;replace r:=bm.hd;replace g:=bm.tl.hd;replace a:=a.mono I;simp only[bq] at bm;obtain ⟨tz,tI,rfl,tM,tW,-⟩:=id J.e;obtain ⟨ub,ui,rfl,u1,u2,-⟩:=id J.p;obtain ⟨u3,u4,rfl,va,vd,-⟩:=id J.y;obtain ⟨vs,vx,rfl,vy,v3,-⟩:=id J.t;have wa:=eH (l:=[(B,bk C.1 U V W X),(i,bk d j k m n)]) I (aG.cons r (aG.cons g (aG.nil _)));refine ⟨by simp (maxSteps:=9^9) only[*,go_sem],?_⟩;refine bW ?_;revert h;refine bS fun h4 h5 h=>?_;try simp (maxSteps:=9^9) only[*,go_sem]
 refine ⟨_,bC hJ fun F u=>kB 1 true h5,bW ?_⟩;revert h;refine bS fun h6 h7 h=>?_;try simp (maxSteps:=9^9) only[*,go_sem]
 refine b6 hJ _ (oh h1 J h4 h7) fun v wb Y bo f=>?_;obtain ⟨wc,wi,wx,wy,rfl,L⟩:=f;have h8:=L.oc;simp only[bG] at h8;replace q:=q.mono Y;replace r:=bo.hd;replace g:=bo.tl.hd;replace a:=a.mono Y;simp only[bq] at bo;obtain ⟨w0,xa,rfl,xc,xf,-⟩:=id L.e;obtain ⟨xi,xn,rfl,xr,xt,-⟩:=id L.p;obtain ⟨xv,x0,rfl,x1,yi,-⟩:=id L.y;obtain ⟨yk,yn,rfl,yr,ys,-⟩:=id L.t;have yv:=eH (l:=[(B,bk C.1 U V W X),(i,bk d j k m n)]) (I.trans Y) (aG.cons r (aG.cons g (aG.nil _)));refine ⟨by simp (maxSteps:=9^9) only[*,go_sem],?_⟩;refine bW ?_;revert h;refine bS fun h9 ib h=>?_;try simp (maxSteps:=9^9) only[*,go_sem]
 refine ⟨_,bC hJ fun F u=>kB 0 false ib,bW ?_⟩;revert h;refine bS fun ic ih h=>?_;try simp (maxSteps:=9^9) only[*,go_sem]
 refine b6 hJ _ (oh h6 L h9 ih) fun v y0 a0 br f=>?_;obtain ⟨y1,zc,zr,zs,rfl,M⟩:=f;have ik:=M.oc;simp only[bG] at ik;replace q:=q.mono a0;replace r:=br.hd;replace g:=br.tl.hd;replace a:=a.mono a0;simp only[bq] at br;obtain ⟨zt,Ag,rfl,At,Bd,-⟩:=id M.e;obtain ⟨BF,B0,rfl,Cy,CY,-⟩:=id M.p;obtain ⟨Ex,Fl,rfl,F0,Gp,-⟩:=id M.y;obtain ⟨Gr,Ha,rfl,Hb,Hc,-⟩:=id M.t;have Hd:=eH (l:=[(B,bk C.1 U V W X),(i,bk d j k m n)]) ((I.trans Y).trans a0) (aG.cons r (aG.cons g (aG.nil _)));refine ⟨by simp (maxSteps:=9^9) only[*,go_sem],?_⟩;refine bW ?_;revert h;refine bS fun il im h=>?_;try simp (maxSteps:=9^9) only[*,go_sem]
 refine b6 hJ _ (Bb a ic M im) fun v Hk bs bz f=>?_;obtain ⟨Hm,rfl,et⟩:=f;replace q:=q.mono bs;replace r:=bz.hd;replace g:=bz.tl.hd;replace a:=a.mono bs;simp only[bq] at bz;obtain ⟨Hn,H0,rfl,H2,H3,-⟩:=id et;have H4:=eH (l:=[(B,bk C.1 U V W X),(i,bk d j k m n)]) (((I.trans Y).trans a0).trans bs) (aG.cons r (aG.cons g (aG.nil _)));refine ⟨by simp (maxSteps:=9^9) only[*,go_sem],?_⟩;refine bW ?_;try simp (maxSteps:=9^9) only[*,go_sem]
 refine b.go ?_;clear b K;show Wp _ _ _ _ _;exact cp hJ (Le.sub (.cons _ (.cons _ (List.Sublist.refl _)))) (DG hJ c0 al hz hG C hX il a q et (by simp (maxSteps:=9^9) only[*,go_sem]) h)
set_option maxHeartbeats 40000000 in
theorem Lg {Φ:Goroutine->aa->Prop}(hJ:Closed Tryz.prog true (dF Tryz.prog Φ)){A:Act}{ro:Addr->Option Value}(g:aj)(q:((List Int)×Int))(N:(an×an×Int))(k:(Int×Int))(l:(Int×Int))(m:(Int×Int))(n:(Int×Int))(c:(Int×an×Int))(d:(Int×an×Int))(a:(an×an×Bool×Int)){s t u w y:Nat}(i:c9 ro){I:Value}(j:aC rI ro I q.1){z B C D:Value}(f:bL ro g z B C D)(O:sz A=439/\A.defers=[]/\slot A 0= .bool false/\slot A 1= .pointer (some ⟨y,0,none⟩)/\slot A 4= .int .i64 k.2/\slot A 7= .int .i64 l.2/\slot A 9= .int .i64 m.2/\slot A 12= .int .i64 n.2/\slot A 15= .int .i64 c.2.2/\slot A 18= .int .i64 d.2.2/\slot A 20= .int .i64 a.2.2.2/\slot A 21=I/\slot A 22= .int .i64 q.2/\slot A 25= .int .i64 N.2.2/\slot A 26= .int .i64 k.1/\slot A 27= .int .i64 l.1/\slot A 28= .int .i64 m.1/\slot A 29= .int .i64 n.1/\slot A 30= .int .i64 c.1/\slot A 31= .pointer (some ⟨w,0,none⟩)/\slot A 32= .int .i64 d.1/\slot A 33= .pointer (some ⟨u,0,none⟩)/\slot A 34= .pointer (some ⟨t,0,none⟩)/\slot A 35= .pointer (some ⟨s,0,none⟩)/\slot A 36= .bool a.2.2.1)(h:yZ g k l m n c d a=some true):Wp (dF Tryz.prog Φ) (bp (bp (bp (bp (bp (bp (bp (bp (bp (bp (bp (bp (bp (bp (bp (bp (bp (bp (bp (bp (bp (Tryz.f13.body.getD .skip)))))))))))))))))))))) (gO Tryz.prog [.tmp 0] (fun v _=>v= .bool true)) A ⟨ro,(s,rt a.2.1.num a.2.1.den)::(t,rt a.1.num a.1.den)::(u,rt d.2.1.num d.2.1.den)::(w,rt c.2.1.num c.2.1.den)::(y,bk g z B C D)::[]⟩:=by
 obtain ⟨P,hd,Q,k1,R,S,T,U,V,W,X,Y,Z,ab,ad,ae,al,ao,ar,a0,a2,a3,a4,a5,a6⟩:=O;unfold yZ at h;have a7:=f.oc;simp only[bG] at a7;have a8:=j.oc;simp only[bG] at a8;refine fe hJ fun a9 ba=>?_;have bb:=a9.nd;try simp only[keys,List.map_cons,List.map_nil,List.map_append,List.cons_append,List.nil_append,List.nodup_cons,List.mem_cons,List.mem_append,List.not_mem_nil,or_false,not_or] at bb
 simp only[bq] at ba;refine af hJ (eo hJ fun K b=>?_);revert h;refine bS fun bc bd h=>?_;try simp (maxSteps:=9^9) only[*,go_sem]
 refine r7 _ (Lc i g f 2 bd) fun v eQ E bj G=>?_;obtain ⟨eS,rfl,o⟩:=G;have bl:=o.oc;simp only[bG] at bl;replace j:=j.mono E;replace f:=f.mono E;replace i:=i.mono E;simp only[bq] at bj;refine aJ ?_;try simp (maxSteps:=9^9) only[*,go_sem]
 refine b.go ?_;clear b K;refine af hJ (eo hJ fun K b=>?_);revert h;refine bS fun bm bo h=>?_;try simp (maxSteps:=9^9) only[*,go_sem]
 refine r7 _ (Ld i g f 2 bo) fun v br p bs G=>?_;obtain ⟨e0,rfl,J⟩:=G;have bz:=J.oc;simp only[bG] at bz;replace j:=j.mono p;replace f:=f.mono p;replace o:=o.mono p;replace i:=i.mono p;simp only[bq] at bs;refine aJ ?_;try simp (maxSteps:=9^9) only[*,go_sem]
 refine b.go ?_;clear b K;refine af hJ (af hJ (eo hJ fun K b=>?_));revert h;refine cS (fun b0 h=>?_) fun b0 h=>?_
 ·cases h
 revert h;refine cS (fun b1 h=>?_) fun b1 h=>?_
 ·cases h
 revert h;refine cS (fun b2 h=>?_) fun b2 h=>?_
 ·cases h
 revert h;refine cS (fun b3 h=>?_) fun b3 h=>?_
 ·cases h
 revert h;refine cS (fun b4 h=>?_) fun b4 h=>?_
 ·cases h
 revert h;refine cS (fun b5 h=>?_) fun b5 h=>?_
 ·cases h
 revert h;refine cS (fun ca h=>?_) fun ca h=>?_
 ·cases h
 revert h;refine cS (fun cb h=>?_) fun cb h=>?_
 ·cases h
 try simp (maxSteps:=9^9) only[*,go_sem]
 revert h;refine cS (fun cd h=>?_) fun cd h=>?_
 ·cases h
 refine b.go ?_;clear b K;refine bD hJ (by simp (maxSteps:=9^9) only[*,go_sem]) ?_;refine aH hJ (af hJ ?_);refine af hJ ?_;refine fN [0,1,4,7,9,12,15,18,20,21,26,27,28,29,30,31,32,33,34,35,36,37,38,39] fun e1 cf cl cu=>?_;simp only[*,go_sem] at cf cl cu;clear P hd Q k1 R S T U V W X Y Z ab ad ae al ao ar a0 a2 a3 a4 a5 a6;refine aB hJ fun cy=>?_;refine j9 hJ mixed [] (.pure 0 (.pure 1 (.pure 2 (.pure 3 (.pure 4 (.pure 5 (.pure 6 (.pure 7 (.pure 8 (.pure 9 (.pure 10 (.pure 11 (.pure 12 (.pure 13 (.pure 14 (.pure 15 (.pure 16 (.pure 17 (.pure 18 (.rd 19 (.rd 20 (.pure 21 (.pure 22 (.pure 23 (.pure 24 (.pure 25 (.pure 26 (.pure 27 (.rd 28 (.rd 29 (.pure 30 (.pure 31 (.pure 32 (.pure 33 (.pure 34 (.pure 35 (.pure 36 (.rd 37 (.rd 38 (.pure 39 (.pure 40 (.pure 41 (.rd 42 (.rd 43 (.pure 44 (.pure 45 (.pure 46 (.pure 47 (.one 48 (.one 49 (.pure 50 (.pure 51 (.pure 52 (.pure 53 (.pure 54 (.pure 55 (.pure 56 (.pure 57 (.one 58 (.one 59 (.pure 60 (.pure 61 .done)))))))))))))))))))))))))))))))))))))))))))))))))))))))))))))) ⟨br,[(s,rt a.2.1.num a.2.1.den),(t,rt a.1.num a.1.den),(u,rt d.2.1.num d.2.1.den),(w,rt c.2.1.num c.2.1.den),(y,bk g z B C D)]⟩ (by simp (maxSteps:=9^9) only[*,go_sem]) (by kernel_rfl) fun K b=>?_;revert h;refine cS (fun c0 h=>?_) fun c0 h=>?_
 ·cases h
 revert h;refine cS (fun da h=>?_) fun da h=>?_
 ·cases h
 revert h;refine cS (fun db h=>?_) fun db h=>?_
 ·cases h
 revert h;refine cS (fun dd h=>?_) fun dd h=>?_
 ·cases h
 revert h;refine cS (fun df h=>?_) fun df h=>?_
 ·cases h
 revert h;refine bS fun e2 dk h=>?_;try simp (maxSteps:=9^9) only[*,go_sem]
 refine ⟨_,bC hJ fun F H=>gZ 1 1 dk,bW ?_⟩;revert h;refine cS (fun dp h=>?_) fun dp h=>?_
 ·cases h
 revert h;refine cS (fun dq h=>?_) fun dq h=>?_
 ·cases h
 revert h;refine bS fun e3 ds h=>?_;try simp (maxSteps:=9^9) only[*,go_sem]
 refine ⟨_,bC hJ fun F H=>gZ 0 1 ds,bW ?_⟩;revert h;refine cS (fun dt h=>?_) fun dt h=>?_
 ·cases h
 revert h;refine cS (fun du h=>?_) fun du h=>?_
 ·cases h
 revert h;refine bS fun fa dv h=>?_;try simp (maxSteps:=9^9) only[*,go_sem]
 refine ⟨_,bC hJ fun F H=>gZ 3 2 dv,bW ?_⟩;revert h;refine cS (fun dC h=>?_) fun dC h=>?_
 ·cases h
 revert h;refine bS fun fb dE h=>?_;try simp (maxSteps:=9^9) only[*,go_sem]
 refine ⟨_,bC hJ fun F H=>gZ 3 2 dE,bW ?_⟩;revert h;refine cS (fun dT h=>?_) fun dT h=>?_
 ·cases h
 revert h;refine bS fun fg ea h=>?_;try simp (maxSteps:=9^9) only[*,go_sem]
 refine aA fun fi eb L=>?_;have ec:=aP.cons L cy;try simp only[au] at L
 try simp (maxSteps:=9^9) only[*,go_sem]
 refine bn hJ _ (p7 bc.1 (o.mono aR) ([11,12,13,14]) ((aC.flat (r:=rI) (e:=3) (cs:=#[.int .i64 11,.int .i64 12,.int .i64 13,.int .i64 14]) (fun x=>[.int .i64 x]) ([11,12,13,14]) (fun _=>rfl) eb rfl (by simp)).mono (j4 (by simp (maxSteps:=9^9) only[*,go_sem]))) ea) ⟨by simp (maxSteps:=9^9) only[*,go_sem],bW ?_⟩;revert h;refine cS (fun ed h=>?_) fun ed h=>?_
 ·cases h
 revert h;refine cS (fun eh h=>?_) fun eh h=>?_
 ·cases h
 revert h;refine bS fun fo et h=>?_;try simp (maxSteps:=9^9) only[*,go_sem]
 refine aA fun fp eu M=>?_;have fr:=aP.cons M ec;try simp only[au] at M
 try simp (maxSteps:=9^9) only[*,go_sem]
 refine bn hJ _ (p7 bm.1 (J.mono aR) ([11]) ((aC.flat (r:=rI) (e:=3) (cs:=#[.int .i64 11]) (fun x=>[.int .i64 x]) ([11]) (fun _=>rfl) eu rfl (by simp)).mono (j4 (by simp (maxSteps:=9^9) only[*,go_sem]))) et) ⟨by simp (maxSteps:=9^9) only[*,go_sem],bW ?_⟩;try simp (maxSteps:=9^9) only[*,go_sem]
 revert h;refine cS (fun ev h=>?_) fun ev h=>?_
 ·cases h
 refine b.go ?_;clear b K;refine bD hJ (by simp (maxSteps:=9^9) only[*,go_sem]) ?_;refine aH hJ ?_;show Wp _ _ _ _ _;exact cp hJ (Le.sub (.cons _ (.cons _ (.cons _ (.cons _ (.cons _ (.cons _ (.cons₂ _ (List.Sublist.refl _))))))))) (Lf hJ g q k l m n c d a i j f (by simp (maxSteps:=9^9) only[*,go_sem]) h)
set_option maxHeartbeats 40000000 in
theorem Lh {Φ:Goroutine->aa->Prop}(hJ:Closed Tryz.prog true (dF Tryz.prog Φ)){A:Act}{ro:Addr->Option Value}(c:aj)(g:aj)(G:(an×Int))(H:(Int×an×Int))(I:(an×Int))(J:(an×Bool×Int))(L:(an×Bool×Int))(M:(an×Bool×Int))(N:(Int×Int))(i:((List Int)×Int))(j:(an×an×Int)){k l:Nat}(d:c9 ro){m:Value}(n:aC rI ro m i.1){o q r s:Value}(f:bL ro g o q r s){u w x z:Value}(b:bL ro c u w x z)(O:sz A=439/\A.defers=[]/\slot A 0= .bool false/\slot A 1= .pointer (some ⟨l,0,none⟩)/\slot A 2= .pointer (some ⟨k,0,none⟩)/\slot A 4= .int .i64 G.2/\slot A 7= .int .i64 H.2.2/\slot A 9= .int .i64 I.2/\slot A 12= .int .i64 J.2.2/\slot A 15= .int .i64 L.2.2/\slot A 18= .int .i64 M.2.2/\slot A 20= .int .i64 N.2/\slot A 21=m/\slot A 22= .int .i64 i.2/\slot A 25= .int .i64 j.2.2)(h:y2 c g=some true):Wp (dF Tryz.prog Φ) (bp (bp (bp (bp (bp (bp (bp (bp (bp (bp (bp (bp (bp (bp (Tryz.f13.body.getD .skip))))))))))))))) (gO Tryz.prog [.tmp 0] (fun v _=>v= .bool true)) A ⟨ro,(k,bk g o q r s)::(l,bk c u w x z)::[]⟩:=by
 obtain ⟨P,hd,Q,k1,R,S,T,U,V,W,X,Y,Z,ab,ad⟩:=O;obtain ⟨d45,b1,rfl,b2,b3,-⟩:=id f.e;obtain ⟨d52,b4,rfl,b5,ca,-⟩:=id f.p;obtain ⟨d59,cb,rfl,cd,cf,-⟩:=id f.y;obtain ⟨d66,cl,rfl,cu,cy,-⟩:=id f.t;obtain ⟨d8,cS,rfl,c0,da,-⟩:=id b.e;obtain ⟨d15,db,rfl,dd,df,-⟩:=id b.p;obtain ⟨d22,dk,rfl,dp,dq,-⟩:=id b.y;obtain ⟨d29,ds,rfl,dt,du,-⟩:=id b.t;unfold y2 at h;have ae:=f.oc;simp only[bG] at ae;have al:=b.oc;simp only[bG] at al;have ao:=n.oc;simp only[bG] at ao;refine fe hJ fun B ar=>?_;have a0:=B.nd;try simp only[keys,List.map_cons,List.map_nil,List.map_append,List.cons_append,List.nil_append,List.nodup_cons,List.mem_cons,List.mem_append,List.not_mem_nil,or_false,not_or] at a0
 simp only[bq] at ar;refine af hJ (eo hJ fun K a=>?_);revert h;refine bS fun a2 a3 h=>?_;try simp (maxSteps:=9^9) only[*,go_sem]
 refine bn hJ _ (w8 (d.mono aR) c (b.mono aR) 0 a3) (aJ ?_);try simp (maxSteps:=9^9) only[*,go_sem]
 refine a.go ?_;clear a K;refine af hJ (eo hJ fun K a=>?_);revert h;refine bS fun a4 a5 h=>?_;try simp (maxSteps:=9^9) only[*,go_sem]
 refine bn hJ _ (w8 (d.mono aR) c (b.mono aR) 1 a5) (aJ ?_);try simp (maxSteps:=9^9) only[*,go_sem]
 refine a.go ?_;clear a K;refine af hJ (eo hJ fun K a=>?_);revert h;refine bS fun a6 a7 h=>?_;try simp (maxSteps:=9^9) only[*,go_sem]
 refine bn hJ _ (sW (d.mono aR) c (b.mono aR) a7) (aJ ?_);try simp (maxSteps:=9^9) only[*,go_sem]
 refine a.go ?_;clear a K;refine af hJ (eo hJ fun K a=>?_);revert h;refine bS fun a8 a9 h=>?_;try simp (maxSteps:=9^9) only[*,go_sem]
 refine bn hJ _ (sW (d.mono aR) g (f.mono aR) a9) (aJ ?_);try simp (maxSteps:=9^9) only[*,go_sem]
 refine a.go ?_;clear a K;refine af hJ (eo hJ fun K a=>?_);revert h;refine bS fun ba bb h=>?_;try simp (maxSteps:=9^9) only[*,go_sem]
 refine bn hJ _ (Bc (d.mono aR) c (b.mono aR) bb) (aJ ?_);try simp (maxSteps:=9^9) only[*,go_sem]
 refine aA fun dv dC C=>?_;have bc:=aP.cons C B;try simp only[au] at C
 try simp (maxSteps:=9^9) only[*,go_sem]
 refine a.go ?_;clear a K;refine af hJ ?_;refine fN [0,1,2,4,7,9,12,15,18,20,21,22,25,26,27,28,29,30,31] fun dE bd bj bl=>?_;simp only[*,go_sem] at bd bj bl;clear P hd Q k1 R S T U V W X Y Z ab ad;refine eo hJ fun K a=>?_;revert h;refine bS fun bm bo h=>?_;try simp (maxSteps:=9^9) only[*,go_sem]
 refine bn hJ _ (Bc (d.mono aR) g (f.mono aR) bo) (aJ ?_);try simp (maxSteps:=9^9) only[*,go_sem]
 refine aA fun dT ea D=>?_;have br:=aP.cons D bc;try simp only[au] at D
 try simp (maxSteps:=9^9) only[*,go_sem]
 refine a.go ?_;clear a K;refine af hJ (eo hJ fun K a=>?_);revert h;refine bS fun bs bz h=>?_;try simp (maxSteps:=9^9) only[*,go_sem]
 refine bn hJ _ (Hu (d.mono aR) c (b.mono aR) bz) (aJ ?_);try simp (maxSteps:=9^9) only[*,go_sem]
 refine aA fun eb ec E=>?_;have b0:=aP.cons E br;try simp only[au] at E
 refine aA fun ed eh F=>?_;have et:=aP.cons F b0;try simp only[au] at F
 try simp (maxSteps:=9^9) only[*,go_sem]
 refine a.go ?_;clear a K;show Wp _ _ _ _ _;exact cp hJ (Le.sub (.cons₂ _ (.cons₂ _ (.cons₂ _ (.cons₂ _ (.cons _ (.cons₂ _ (List.Sublist.refl _)))))))) (Lg hJ c i j a2 a4 a6 a8 ba bm bs d n b (by simp (maxSteps:=9^9) only[*,go_sem]) h)
set_option maxHeartbeats 40000000 in
theorem Li {Φ:Goroutine->aa->Prop}(hJ:Closed Tryz.prog true (dF Tryz.prog Φ)){A:Act}{ro:Addr->Option Value}(b:aj)(n:aj)(i:(an×Int))(c:(Int×an×Int))(j:(an×Int))(d:(an×Bool×Int))(f:(an×Bool×Int))(g:(an×Bool×Int)){q s t u w y z B:Nat}(m:c9 ro){C D E G:Value}(p:bL ro n C D E G){H I J L:Value}(k:bL ro b H I J L)(T:sz A=439/\A.defers=[]/\slot A 0= .bool false/\slot A 1= .pointer (some ⟨B,0,none⟩)/\slot A 2= .pointer (some ⟨z,0,none⟩)/\slot A 3= .pointer (some ⟨y,0,none⟩)/\slot A 4= .int .i64 i.2/\slot A 5= .int .i64 c.1/\slot A 6= .pointer (some ⟨w,0,none⟩)/\slot A 7= .int .i64 c.2.2/\slot A 8= .pointer (some ⟨u,0,none⟩)/\slot A 9= .int .i64 j.2/\slot A 10= .pointer (some ⟨t,0,none⟩)/\slot A 11= .bool d.2.1/\slot A 12= .int .i64 d.2.2/\slot A 13= .pointer (some ⟨s,0,none⟩)/\slot A 14= .bool f.2.1/\slot A 15= .int .i64 f.2.2/\slot A 16= .pointer (some ⟨q,0,none⟩)/\slot A 17= .bool g.2.1/\slot A 18= .int .i64 g.2.2)(h:y3 b n i c j d f g=some true):Wp (dF Tryz.prog Φ) (bp (bp (bp (bp (bp (bp (bp (bp (bp (Tryz.f13.body.getD .skip)))))))))) (gO Tryz.prog [.tmp 0] (fun v _=>v= .bool true)) A ⟨ro,(q,rt g.1.num g.1.den)::(s,rt f.1.num f.1.den)::(t,rt d.1.num d.1.den)::(u,rt j.1.num j.1.den)::(w,rt c.2.1.num c.2.1.den)::(y,rt i.1.num i.1.den)::(z,bk n C D E G)::(B,bk b H I J L)::[]⟩:=by
 obtain ⟨U,hd,V,k1,W,X,Y,Z,ab,ad,ae,al,ao,ar,a0,a2,a3,a4,a5,a6,a7⟩:=T;unfold y3 at h;have a8:=p.oc;simp only[bG] at a8;have a9:=k.oc;simp only[bG] at a9;refine fe hJ fun O ba=>?_;have bb:=O.nd;try simp only[keys,List.map_cons,List.map_nil,List.map_append,List.cons_append,List.nil_append,List.nodup_cons,List.mem_cons,List.mem_append,List.not_mem_nil,or_false,not_or] at bb
 simp only[bq] at ba;refine af hJ (eo hJ fun K a=>?_);revert h;refine bS fun bc bd h=>?_;try simp (maxSteps:=9^9) only[*,go_sem]
 refine bn hJ _ (Bf (m.mono aR) b (k.mono aR) bd) (aJ ?_);try simp (maxSteps:=9^9) only[*,go_sem]
 refine a.go ?_;clear a K;refine af hJ (eo hJ fun K a=>?_);revert h;refine bS fun P bj h=>?_;try simp (maxSteps:=9^9) only[*,go_sem]
 refine b6 hJ _ (qh m b k 0 bj) fun v bl M bm bo=>?_;obtain ⟨e1,rfl,N⟩:=bo;have br:=N.oc;simp only[bG] at br;replace k:=k.mono M;replace p:=p.mono M;replace m:=m.mono M;simp only[bq] at bm;refine aJ ?_;try simp (maxSteps:=9^9) only[*,go_sem]
 refine a.go ?_;clear a K;refine af hJ (eo hJ fun K a=>?_);revert h;refine bS fun o bs h=>?_;try simp (maxSteps:=9^9) only[*,go_sem]
 refine bn hJ _ (Be (m.mono aR) b (k.mono aR) 0 bs) (aJ ?_);try simp (maxSteps:=9^9) only[*,go_sem]
 refine aA fun bz e2 Q=>?_;have b0:=aP.cons Q O;try simp only[au] at Q
 refine aA fun b1 e3 R=>?_;have fa:=aP.cons R b0;try simp only[au] at R
 try simp (maxSteps:=9^9) only[*,go_sem]
 refine a.go ?_;clear a K;refine af hJ (af hJ (eo hJ fun K a=>?_));revert h;refine cS (fun b2 h=>?_) fun b2 h=>?_
 ·cases h
 revert h;refine cS (fun b3 h=>?_) fun b3 h=>?_
 ·cases h
 revert h;refine cS (fun b4 h=>?_) fun b4 h=>?_
 ·cases h
 revert h;refine cS (fun b5 h=>?_) fun b5 h=>?_
 ·cases h
 revert h;refine cS (fun ca h=>?_) fun ca h=>?_
 ·cases h
 revert h;refine cS (fun cb h=>?_) fun cb h=>?_
 ·cases h
 revert h;refine cS (fun cd h=>?_) fun cd h=>?_
 ·cases h
 revert h;refine cS (fun cf h=>?_) fun cf h=>?_
 ·cases h
 try simp (maxSteps:=9^9) only[*,go_sem]
 revert h;refine cS (fun cl h=>?_) fun cl h=>?_
 ·cases h
 refine a.go ?_;clear a K;refine bD hJ (by simp (maxSteps:=9^9) only[*,go_sem]) ?_;refine aH hJ (af hJ ?_);refine af hJ ?_;refine fN [0,1,2,3,4,5,6,7,8,9,10,11,12,13,14,15,16,17,18,19,20,21,22,23,24,25] fun fb cu cy c0=>?_;simp only[*,go_sem] at cu cy c0;clear U hd V k1 W X Y Z ab ad ae al ao ar a0 a2 a3 a4 a5 a6 a7;refine aB hJ fun da=>?_;refine j9 hJ mixed [] (.rd 0 (.rd 1 (.pure 2 (.pure 3 (.pure 4 (.pure 5 (.pure 6 (.pure 7 (.rd 8 (.rd 9 (.pure 10 (.pure 11 (.pure 12 (.rd 13 (.rd 14 (.pure 15 (.pure 16 (.pure 17 (.rd 18 (.rd 19 (.pure 20 (.pure 21 (.pure 22 (.pure 23 (.pure 24 (.pure 25 (.pure 26 (.rd 27 (.rd 28 (.pure 29 (.pure 30 (.pure 31 (.pure 32 (.pure 33 (.pure 34 (.rd 35 (.rd 36 (.pure 37 (.pure 38 (.pure 39 (.pure 40 (.pure 41 (.pure 42 (.pure 43 (.pure 44 (.pure 45 (.pure 46 (.pure 47 (.pure 48 (.one 49 (.one 50 (.pure 51 (.pure 52 (.pure 53 (.rd 54 (.rd 55 (.pure 56 (.pure 57 (.pure 58 (.rd 59 (.rd 60 (.pure 61 (.pure 62 .done))))))))))))))))))))))))))))))))))))))))))))))))))))))))))))))) ⟨bl,[(b1,rt o.2.1.num o.2.1.den),(bz,rt o.1.num o.1.den),(q,rt g.1.num g.1.den),(s,rt f.1.num f.1.den),(t,rt d.1.num d.1.den),(u,rt j.1.num j.1.den),(w,rt c.2.1.num c.2.1.den),(y,rt i.1.num i.1.den),(z,bk n C D E G),(B,bk b H I J L)]⟩ (by simp (maxSteps:=9^9) only[*,go_sem]) (by kernel_rfl) fun K a=>?_;revert h;refine bS fun fg db h=>?_;try simp (maxSteps:=9^9) only[*,go_sem]
 refine ⟨_,bC hJ fun F l=>gZ 13 4 db,bW ?_⟩;revert h;refine cS (fun dd h=>?_) fun dd h=>?_
 ·cases h
 revert h;refine cS (fun df h=>?_) fun df h=>?_
 ·cases h
 revert h;refine bS fun fi dk h=>?_;try simp (maxSteps:=9^9) only[*,go_sem]
 refine ⟨_,bC hJ fun F l=>gZ 11 8 dk,bW ?_⟩;revert h;refine cS (fun dp h=>?_) fun dp h=>?_
 ·cases h
 revert h;refine bS fun fo dq h=>?_;try simp (maxSteps:=9^9) only[*,go_sem]
 refine ⟨_,bC hJ fun F l=>gZ 1 4 dq,bW ?_⟩;revert h;refine cS (fun ds h=>?_) fun ds h=>?_
 ·cases h
 revert h;refine bS fun fp dt h=>?_;try simp (maxSteps:=9^9) only[*,go_sem]
 refine ⟨_,bC hJ fun F l=>gZ 24 13 dt,bW ?_⟩;revert h;refine cS (fun du h=>?_) fun du h=>?_
 ·cases h
 revert h;refine cS (fun dv h=>?_) fun dv h=>?_
 ·cases h
 revert h;refine bS fun fr dC h=>?_;try simp (maxSteps:=9^9) only[*,go_sem]
 refine ⟨_,bC hJ fun F l=>gZ 2 13 dC,bW ?_⟩;revert h;refine cS (fun dE h=>?_) fun dE h=>?_
 ·cases h
 revert h;refine cS (fun dT h=>?_) fun dT h=>?_
 ·cases h
 revert h;refine bS fun fs ea h=>?_;try simp (maxSteps:=9^9) only[*,go_sem]
 refine ⟨_,bC hJ fun F l=>gZ 1 1 ea,bW ?_⟩;revert h;refine cS (fun eb h=>?_) fun eb h=>?_
 ·cases h
 revert h;refine cS (fun ec h=>?_) fun ec h=>?_
 ·cases h
 revert h;refine cS (fun ed h=>?_) fun ed h=>?_
 ·cases h
 revert h;refine bS fun ft eh h=>?_;try simp (maxSteps:=9^9) only[*,go_sem]
 refine aA fun fu et S=>?_;have fv:=aP.cons S da;try simp only[au] at S
 try simp (maxSteps:=9^9) only[*,go_sem]
 refine bn hJ _ (p7 P.1 (N.mono aR) ([10,11,12]) ((aC.flat (r:=rI) (e:=3) (cs:=#[.int .i64 10,.int .i64 11,.int .i64 12]) (fun x=>[.int .i64 x]) ([10,11,12]) (fun _=>rfl) et rfl (by simp)).mono (j4 (by simp (maxSteps:=9^9) only[*,go_sem]))) eh) ⟨by simp (maxSteps:=9^9) only[*,go_sem],bW ?_⟩;revert h;refine cS (fun eu h=>?_) fun eu h=>?_
 ·cases h
 revert h;refine bS fun fw ev h=>?_;try simp (maxSteps:=9^9) only[*,go_sem]
 refine ⟨_,bC hJ fun F l=>gZ 1 4 ev,bW ?_⟩;revert h;refine cS (fun eQ h=>?_) fun eQ h=>?_
 ·cases h
 revert h;refine bS fun fx eS h=>?_;try simp (maxSteps:=9^9) only[*,go_sem]
 refine ⟨_,bC hJ fun F l=>gZ 1 1 eS,bW ?_⟩;try simp (maxSteps:=9^9) only[*,go_sem]
 revert h;refine cS (fun e0 h=>?_) fun e0 h=>?_
 ·cases h
 refine a.go ?_;clear a K;refine bD hJ (by simp (maxSteps:=9^9) only[*,go_sem]) ?_;refine aH hJ ?_;show Wp _ _ _ _ _;exact cp hJ (Le.sub (.cons _ (.cons _ (.cons _ (.cons _ (.cons _ (.cons _ (.cons _ (.cons _ (.cons _ (.cons₂ _ (.cons₂ _ (List.Sublist.refl _))))))))))))) (Lh hJ b n i c j d f g bc P o m N p k (by simp (maxSteps:=9^9) only[*,go_sem]) h)
set_option maxHeartbeats 40000000 in
theorem Lj {ro:Addr->Option Value}(d:c9 ro){r:Bool}(I:r=true)(h:lS=some r):fD Tryz.prog 13 #[] ⟨ro,[]⟩ (fun v _=>v= .bool r):=by
 subst I;unfold lS at h;refine fD.go Tryz.func13 rfl Tryz.ntmps13 Tryz.results13 (by simp) fun Φ hJ A J hd hs=>?_;clear hs;refine af hJ (eo hJ fun K a=>?_);try simp (maxSteps:=9^9) only[*,go_sem]
 refine a.go ?_;clear a K;refine af hJ (eo hJ fun K a=>?_);revert h;refine bS fun g L h=>?_;try simp (maxSteps:=9^9) only[*,go_sem]
 refine b6 hJ _ (HD L) fun v n M b5 k=>?_;obtain ⟨N,O,P,Q,rfl,f⟩:=k;have R:=f.oc;simp only[bG] at R;replace d:=d.mono M;refine aJ ?_;try simp (maxSteps:=9^9) only[*,go_sem]
 refine aA fun S T U=>?_;try simp only[au] at U
 try simp (maxSteps:=9^9) only[*,go_sem]
 refine a.go ?_;clear a K;refine af hJ ?_;refine aB hJ fun V=>?_;refine eo hJ fun K a=>?_;revert h;refine bS fun l W h=>?_;try simp (maxSteps:=9^9) only[*,go_sem]
 refine aA fun i p q=>?_;have s:=aP.cons q V;try simp only[au] at q
 try simp (maxSteps:=9^9) only[*,go_sem]
 obtain ⟨m,t,u⟩:=fM (b:=i) (o:=(ic 11)) [] ((S,bk g N O P Q)::[]) s p (aG.cons T (aG.nil _));have w:aC rI (bU n i (ic 11)) (.slice (some ⟨i,0,none⟩) 1 1) [11]:=(aC.flat (r:=rI) (e:=3) (cs:=#[.int .i64 11]) (fun x=>[.int .i64 x]) ([11]) (fun _=>rfl) p rfl (by simp))
 generalize bU n i (ic 11)=ca at w t m u;refine gR hJ u ?_;replace f:=f.mono m;replace d:=d.mono m;simp only[bq] at t;have X:=aP.tl s;refine b6 hJ _ (HC g f ([11]) w 2 W) fun v cb y Y k=>?_;obtain ⟨cd,cf,cl,cu,rfl,j⟩:=k;have Z:=j.oc;simp only[bG] at Z;replace f:=f.mono y;replace d:=d.mono y;simp only[bq] at Y;refine aJ ?_;try simp (maxSteps:=9^9) only[*,go_sem]
 refine aA fun cy cS z=>?_;have ab:=aP.cons z X;try simp only[au] at z
 try simp (maxSteps:=9^9) only[*,go_sem]
 refine a.go ?_;clear a K;refine af hJ (eo hJ fun K a=>?_);revert h;refine bS fun ad ae h=>?_;try simp (maxSteps:=9^9) only[*,go_sem]
 refine bn hJ _ (GO (d.mono aR) g (f.mono aR) 5 ae) (aJ ?_);try simp (maxSteps:=9^9) only[*,go_sem]
 refine aA fun c0 da B=>?_;have al:=aP.cons B ab;try simp only[au] at B
 try simp (maxSteps:=9^9) only[*,go_sem]
 refine a.go ?_;clear a K;refine af hJ ?_;refine pQ hJ mixed 7 3 (by simp (maxSteps:=9^9) only[*,go_sem]) (by kernel_rfl) fun K a=>?_;revert h;refine bS fun ao ar h=>?_;try simp (maxSteps:=9^9) only[*,go_sem]
 refine ⟨_,bC hJ fun F c=>mU 2 11 ar,b7 ?_⟩;revert h;refine bS fun a0 a2 h=>?_;try simp (maxSteps:=9^9) only[*,go_sem]
 refine ⟨_,bC hJ fun F c=>GP (d.mono (b9 c)) g (f.mono (b9 c)) ao a2,b7 ?_⟩;try simp (maxSteps:=9^9) only[*,go_sem]
 refine aA fun db dd C=>?_;have a3:=aP.cons C al;try simp only[au] at C
 try simp (maxSteps:=9^9) only[*,go_sem]
 refine a.go ?_;clear a K;refine af hJ ?_;refine pQ hJ mixed 6 4 (by simp (maxSteps:=9^9) only[*,go_sem]) (by kernel_rfl) fun K a=>?_;revert h;refine bS fun a4 a5 h=>?_;try simp (maxSteps:=9^9) only[*,go_sem]
 refine ⟨_,bC hJ fun F c=>mU 2 10 a5,b7 ?_⟩;revert h;refine bS fun a6 a7 h=>?_;try simp (maxSteps:=9^9) only[*,go_sem]
 refine ⟨_,bC hJ fun F c=>A1 (d.mono (b9 c)) g (f.mono (b9 c)) a4 a7,b7 ?_⟩;try simp (maxSteps:=9^9) only[*,go_sem]
 refine aA fun df dk D=>?_;have a8:=aP.cons D a3;try simp only[au] at D
 try simp (maxSteps:=9^9) only[*,go_sem]
 refine a.go ?_;clear a K;refine af hJ ?_;refine fN [0,1,2,3,4,5,6,7,8,9] fun dp a9 ba bb=>?_;simp only[*,go_sem] at a9 ba bb;clear J hd;refine pQ hJ mixed 7 5 (by simp (maxSteps:=9^9) only[*,go_sem]) (by kernel_rfl) fun K a=>?_;revert h;refine bS fun bc bd h=>?_;try simp (maxSteps:=9^9) only[*,go_sem]
 refine ⟨_,bC hJ fun F c=>mU 2 12 bd,b7 ?_⟩;revert h;refine bS fun bj bl h=>?_;try simp (maxSteps:=9^9) only[*,go_sem]
 refine ⟨_,bC hJ fun F c=>GQ (d.mono (b9 c)) l (j.mono (b9 c)) bc bl,b7 ?_⟩;try simp (maxSteps:=9^9) only[*,go_sem]
 refine aA fun dq ds E=>?_;have bm:=aP.cons E a8;try simp only[au] at E
 try simp (maxSteps:=9^9) only[*,go_sem]
 refine a.go ?_;clear a K;refine af hJ ?_;refine pQ hJ mixed 7 6 (by simp (maxSteps:=9^9) only[*,go_sem]) (by kernel_rfl) fun K a=>?_;revert h;refine bS fun bo br h=>?_;try simp (maxSteps:=9^9) only[*,go_sem]
 refine ⟨_,bC hJ fun F c=>mU 2 12 br,b7 ?_⟩;revert h;refine bS fun bs bz h=>?_;try simp (maxSteps:=9^9) only[*,go_sem]
 refine ⟨_,bC hJ fun F c=>wj (d.mono (b9 c)) l (j.mono (b9 c)) bo bz,b7 ?_⟩;try simp (maxSteps:=9^9) only[*,go_sem]
 refine aA fun dt du G=>?_;have b0:=aP.cons G bm;try simp only[au] at G
 try simp (maxSteps:=9^9) only[*,go_sem]
 refine a.go ?_;clear a K;refine af hJ ?_;refine pQ hJ mixed 7 7 (by simp (maxSteps:=9^9) only[*,go_sem]) (by kernel_rfl) fun K a=>?_;revert h;refine bS fun b1 b2 h=>?_;try simp (maxSteps:=9^9) only[*,go_sem]
 refine ⟨_,bC hJ fun F c=>mU 2 12 b2,b7 ?_⟩;revert h;refine bS fun b3 b4 h=>?_;try simp (maxSteps:=9^9) only[*,go_sem]
 refine ⟨_,bC hJ fun F c=>wj (d.mono (b9 c)) g (f.mono (b9 c)) b1 b4,b7 ?_⟩;try simp (maxSteps:=9^9) only[*,go_sem]
 refine aA fun dv dC H=>?_;have dE:=aP.cons H b0;try simp only[au] at H
 try simp (maxSteps:=9^9) only[*,go_sem]
 refine a.go ?_;clear a K;show Wp _ _ _ _ _;exact cp hJ (Le.sub (.cons₂ _ (.cons₂ _ (.cons₂ _ (.cons₂ _ (.cons₂ _ (.cons₂ _ (.cons₂ _ (.cons₂ _ (List.Sublist.refl _)))))))))) (Li hJ g l ad a0 a6 bj bs b3 d j f (by simp (maxSteps:=9^9) only[*,go_sem]) h)
theorem uw {ro:Addr->Option Value}(a:c9 ro){r:Bool}(h:lS=some r):fD Tryz.prog 13 #[] ⟨ro,[]⟩ (fun v _=>v= .bool r):=
 Lj a (Option.some.inj (h.symm.trans q2)) h
end Go.Proofs.YtpgcmoanfifglaaGreatDoor
end
section
namespace Go.Proofs.YtpgcmoanfifglaaGreatDoor
open Go Go.Sep Go.Proofs
def lT (u0:aj)(d:Int)(f:bO)(g:Int)(c:(aj×Int)):Option Bool:=
 cond ((c.2 != 0)) (ag (qn c.1 (⟨0,0,(⟨0,0⟩:an),([]:(List bX)),([]:(List cc)),([]:(List bO)),([]:(List bR))⟩:aj)) fun j=>cond (j) (ag (lS) fun k=>some k) (some false)) (ag (mO c.1 d) fun a=>ag (aY u0.av d) fun h=>ag (jK h.back (IntKind.i64.wrap ((IntKind.i64.wrap (f.high.low+g)) - 1))) fun l=>ag (n5 u0 l) fun b=>ag (lA c.1 d) fun e=>ag (jK h.back (IntKind.i64.wrap ((IntKind.i64.wrap (f.high.low+g)) - 1))) fun m=>ag (mN u0 m) fun i=>cond ((a.2.2==0)) (cond ((b.2==0)) (cond ((e.2==0)) (cond ((i.2.2==0)) (cond (((a.1.num==b.1.num)&&(a.1.den==b.1.den))) (cond (((a.2.1.num==b.1.num)&&(a.2.1.den==b.1.den))) (cond ((e.1 != 0)) (cond (((e.1==1)==i.2.1)) (ag (lS) fun n=>some n) (some false)) (some false)) (some false)) (some false)) (some false)) (some false)) (some false)) (some false))
def uy (u0:aj)(f:Int)(c:Int)(g:(Int×Int))(h:Int):Option Bool:=
 cond ((g.1 != h)) (some false) (ag (aY u0.av c) fun a=>ag (gP (IntKind.i64.wrap f) 4) fun b=>ag (eB (IntKind.i64.wrap ((IntKind.i64.wrap (a.high.low+b)) - 1)) 0 60) fun i=>cond (!i) (ag (lS) fun j=>some j) (ag (jI u0 c) fun e=>ag (mT (IntKind.i64.wrap ((IntKind.i64.wrap (a.high.low+b)) - 1)) (IntKind.i64.wrap ((IntKind.i64.wrap (a.high.low+b)) - 1))) fun k=>ag (lB u0 c k) fun d=>ag (mY e.1 (IntKind.i64.wrap ((IntKind.i64.wrap (a.high.low+b)) - 1))) fun l=>cond (!((d.2==0)==l)) (some false) (cond ((e.2==0)) (cond ((d.2 != 0)) (cond ((d.2 != 9)) (some false) (lT u0 c a b d)) (lT u0 c a b d)) (lT u0 c a b d))))
def jT (u0:aj)(b:(Int×Int))(st:(Bool×Int×Int)):Option (Fl (Bool×Int×Int) Bool):=
 cond (decide (st.2.2<(u0.av.length:Int))) (ag (jI u0 st.2.2) fun a=>cond ((b.2 != 0)) (some (.rt false)) (cond (!((a.2==0)==(decide (0<b.1)))) (some (.rt false)) (cond ((a.2 != 0)) (cond ((a.2 != 9)) (some (.rt false)) (cond (decide (0<(a.1.length:Int))) (some (.rt false)) (some (.nx (st.1,(IntKind.i64.wrap (st.2.1*(a.1.length:Int))),(IntKind.i64.wrap (st.2.2+1))))))) (some (.nx (st.1,(IntKind.i64.wrap (st.2.1*(a.1.length:Int))),(IntKind.i64.wrap (st.2.2+1)))))))) (some (.bk (st.1,st.2.1,st.2.2)))
def uz (u0:aj)(b:Int)(c:Int):Option Bool:=
 ag (om u0) fun d=>cond (!d) (ag (lS) fun e=>some e) (ag (gP (IntKind.i64.wrap b) (u0.av.length:Int)) fun f=>ag (oe u0) fun a=>ag (aU (jT u0 a) fu (false,1,0)) fun o=>aD o (fun g=>uy u0 c f a g.2.1) (fun _ _=>none) (fun r=>some r))
end Go.Proofs.YtpgcmoanfifglaaGreatDoor
end
section
namespace Go.Proofs.YtpgcmoanfifglaaGreatDoor
open Go Go.Sep Go.Proofs
set_option maxRecDepth 100000
set_option maxHeartbeats 4000000
set_option maxHeartbeats 40000000 in
theorem oQ {Φ:Goroutine->aa->Prop}(hJ:Closed Tryz.prog true (dF Tryz.prog Φ)){A:Act}{ro:Addr->Option Value}(u0:aj)(d:Int)(G:Bool)(e:bO)(f:Int)(a:(aj×Int)){l m:Nat}(c:c9 ro){n o p q:Value}(j:bL ro a.1 n o p q){r s t u:Value}(g:bL ro u0 r s t u)(H:sz A=220/\A.defers=[]/\slot A 3= .pointer (some ⟨m,0,none⟩)/\slot A 6= .bool G/\slot A 7= .int .i64 d/\slot A 14= .int .i64 (IntKind.i64.wrap ((IntKind.i64.wrap (e.high.low+f)) - 1))/\slot A 17= .pointer (some ⟨l,0,none⟩)/\slot A 18= .int .i64 a.2)(h:lT u0 d e f a=some true):Wp (dF Tryz.prog Φ) (bp (bp (bp (bp (bp (bp (bp (bp (bp (bp (bp (bp (Tryz.f3.body.getD .skip))))))))))))) (gO Tryz.prog [.tmp 6] (fun v _=>v= .bool true)) A ⟨ro,(l,bk a.1 n o p q)::(m,bk u0 r s t u)::[]⟩:=by
 obtain ⟨a9,hd,ba,bb,bc,bd,bj,bl⟩:=H;obtain ⟨d17,bm,rfl,bo,br,-⟩:=id g.y;unfold lT at h;refine fe hJ fun w I=>?_;have J:=w.nd;try simp only[keys,List.map_cons,List.map_nil,List.map_append,List.cons_append,List.nil_append,List.nodup_cons,List.mem_cons,List.mem_append,List.not_mem_nil,or_false,not_or] at J
 simp only[bq] at I;refine af hJ (ah hJ ?_);try simp (maxSteps:=9^9) only[*,go_sem]
 revert h;refine cS (fun x h=>?_) fun x h=>?_
 ·try simp only[Int.ofNat_lt] at x
  refine bE hJ (by simp (maxSteps:=9^9) only[*,go_sem]) ?_;refine ah hJ ?_;revert h;refine bS fun bs K h=>?_;try simp (maxSteps:=9^9) only[*,go_sem]
  refine bn hJ _ (HN a.1 (j.mono aR) (⟨0,0,(⟨0,0⟩:an),([]:(List bX)),([]:(List cc)),([]:(List bO)),([]:(List bR))⟩:aj) ⟨(aC.nil _ _),(aC.nil _ _),(aC.nil _ _),(aC.nil _ _)⟩ K) (aJ ?_);revert h;refine cS (fun L h=>?_) fun L h=>?_
  ·revert h;refine bS fun bz M h=>?_;obtain rfl:=sI h;(try simp (maxSteps:=9^9) only[*,go_sem]);refine rP _ (uw c M) (aJ ?_);(try simp (maxSteps:=9^9) only[*,go_sem]);refine az ?_;try simp only[*,go_sem]
  cases h
 refine bD hJ (by simp (maxSteps:=9^9) only[*,go_sem]) ?_;refine aH hJ (af hJ ?_);refine ak hJ ?_;revert h;refine bS fun b0 N h=>?_;try simp (maxSteps:=9^9) only[*,go_sem]
 refine bn hJ _ (Be (c.mono aR) a.1 (j.mono aR) d N) (aJ ?_);try simp (maxSteps:=9^9) only[*,go_sem]
 refine aA fun b1 b2 z=>?_;have O:=aP.cons z w;try simp only[au] at z
 refine aA fun b3 b4 B=>?_;have P:=aP.cons B O;try simp only[au] at B
 try simp (maxSteps:=9^9) only[*,go_sem]
 refine af hJ ?_;refine cP hJ mixed 13 4 (by simp (maxSteps:=9^9) only[*,go_sem]) (by kernel_rfl) ?_;revert h;refine bS fun k Q h=>?_;obtain ⟨b5,ca,C⟩:=cE Q;obtain ⟨cb,R,S,T,i⟩:=g.y.el _ _ C;obtain rfl:R=k.cells:=T;cases S;have U:=i 0 _ rfl;simp only[go_sem] at U;have V:=i 1 _ rfl;simp only[go_sem] at V;have W:=i 2 _ rfl;simp only[go_sem] at W;clear i C;revert h;refine bS fun X Y h=>?_;try simp (maxSteps:=9^9) only[*,go_sem]
 refine ⟨_,bC hJ fun F b=>mU k.back (IntKind.i64.wrap ((IntKind.i64.wrap (e.high.low+f)) - 1)) Y,b7 ?_⟩;revert h;refine bS fun cd Z h=>?_;try simp (maxSteps:=9^9) only[*,go_sem]
 refine ⟨_,bC hJ fun F b=>A1 (c.mono (b9 b)) u0 (g.mono (b9 b)) X Z,b7 ?_⟩;try simp (maxSteps:=9^9) only[*,go_sem]
 refine aA fun cf cl D=>?_;have ab:=aP.cons D P;try simp only[au] at D
 try simp (maxSteps:=9^9) only[*,go_sem]
 refine ah hJ ?_;revert h;refine bS fun cu ad h=>?_;try simp (maxSteps:=9^9) only[*,go_sem]
 refine bn hJ _ (w8 (c.mono aR) a.1 (j.mono aR) d ad) (aJ ?_);try simp (maxSteps:=9^9) only[*,go_sem]
 refine af hJ ?_;refine cP hJ mixed 14 5 (by simp (maxSteps:=9^9) only[*,go_sem]) (by kernel_rfl) ?_;revert h;refine bS fun ae al h=>?_;try simp (maxSteps:=9^9) only[*,go_sem]
 refine ⟨_,bC hJ fun F b=>mU k.back (IntKind.i64.wrap ((IntKind.i64.wrap (e.high.low+f)) - 1)) al,b7 ?_⟩;revert h;refine bS fun cy ao h=>?_;try simp (maxSteps:=9^9) only[*,go_sem]
 refine ⟨_,bC hJ fun F b=>wj (c.mono (b9 b)) u0 (g.mono (b9 b)) ae ao,b7 ?_⟩;try simp (maxSteps:=9^9) only[*,go_sem]
 refine aA fun c0 da E=>?_;have db:=aP.cons E ab;try simp only[au] at E
 try simp (maxSteps:=9^9) only[*,go_sem]
 refine ah hJ ?_;revert h;refine cS (fun ar h=>?_) fun ar h=>?_
 ·revert h;refine cS (fun a0 h=>?_) fun a0 h=>?_
  ·revert h;refine cS (fun a2 h=>?_) fun a2 h=>?_
   ·revert h;refine cS (fun a3 h=>?_) fun a3 h=>?_
    ·revert h;refine cS (fun a4 h=>?_) fun a4 h=>?_
     ·revert h;refine cS (fun a5 h=>?_) fun a5 h=>?_
      ·revert h;refine cS (fun a6 h=>?_) fun a6 h=>?_
       ·revert h;refine cS (fun a7 h=>?_) fun a7 h=>?_
        ·revert h;refine bS fun dd a8 h=>?_;obtain rfl:=sI h;(try simp (maxSteps:=9^9) only[*,go_sem]);refine rP _ (uw c a8) (aJ ?_);(try simp (maxSteps:=9^9) only[*,go_sem]);refine az ?_;try simp only[*,go_sem]
        cases h
       cases h
      cases h
     cases h
    cases h
   cases h
  cases h
 cases h
set_option maxHeartbeats 40000000 in
theorem Ll {Φ:Goroutine->aa->Prop}(hJ:Closed Tryz.prog true (dF Tryz.prog Φ)){A:Act}{ro:Addr->Option Value}(u0:aj)(H:Int)(d:Int)(I:(Int×Int))(g:Bool)(J:Int){m:Nat}(b:c9 ro){n o K q:Value}(a:bL ro u0 n o K q)(Y:sz A=220/\A.defers=[]/\slot A 2= .int .u8 H/\slot A 3= .pointer (some ⟨m,0,none⟩)/\slot A 6= .bool g/\slot A 7= .int .i64 d/\slot A 8= .int .i64 I.1/\slot A 10= .int .i64 J)(h:uy u0 H d I J=some true):Wp (dF Tryz.prog Φ) (bp (bp (bp (bp (bp (bp (Tryz.f3.body.getD .skip))))))) (gO Tryz.prog [.tmp 6] (fun v _=>v= .bool true)) A ⟨ro,(m,bk u0 n o K q)::[]⟩:=by
 obtain ⟨br,hd,bs,bz,b0,b1,b2,b3⟩:=Y;obtain ⟨d17,B,rfl,b4,b5,-⟩:=id a.y;unfold uy at h;refine fe hJ fun C L=>?_;have Z:=C.nd;try simp only[keys,List.map_cons,List.map_nil,List.map_append,List.cons_append,List.nil_append,List.nodup_cons,List.mem_cons,List.mem_append,List.not_mem_nil,or_false,not_or] at Z
 replace r:=L.hd;simp only[bq] at L;refine af hJ (ah hJ ?_);try simp (maxSteps:=9^9) only[*,go_sem]
 revert h;refine cS (fun ab h=>?_) fun ab h=>?_
 ·cases h
 refine bD hJ (by simp (maxSteps:=9^9) only[*,go_sem]) ?_;refine aH hJ (af hJ ?_);refine ak hJ ?_;revert h;refine bS fun c ad h=>?_;obtain ⟨ca,cb,M⟩:=cE ad;obtain ⟨D,ae,al,ao,u⟩:=a.y.el _ _ M;obtain rfl:ae=c.cells:=ao;cases al;have ar:=u 0 _ rfl;simp only[go_sem] at ar;have a0:=u 1 _ rfl;simp only[go_sem] at a0;have a2:=u 2 _ rfl;simp only[go_sem] at a2;clear u M;revert h;refine bS fun f N h=>?_;obtain ⟨cd,cf⟩:=pz N;clear N;try simp (maxSteps:=9^9) only[*,go_sem]
 refine af hJ (ah hJ ?_);revert h;refine bS fun cl a3 h=>?_;try simp (maxSteps:=9^9) only[*,go_sem]
 refine bn hJ _ (gY (IntKind.i64.wrap ((IntKind.i64.wrap (c.high.low+f)) - 1)) 0 60 a3) (aJ ?_);try simp (maxSteps:=9^9) only[*,go_sem]
 revert h;refine cS (fun w h=>?_) fun w h=>?_
 ·try simp only[Int.ofNat_lt] at w
  refine bE hJ (by simp (maxSteps:=9^9) only[*,go_sem]) ?_;rw[Bool.not_eq_true'] at w;refine ah hJ ?_;revert h;refine bS fun cu a4 h=>?_;obtain rfl:=sI h;try simp (maxSteps:=9^9) only[*,go_sem]
  refine rP _ (uw b a4) (aJ ?_);try simp (maxSteps:=9^9) only[*,go_sem]
  refine az ?_;try simp only[*,go_sem]
 refine bD hJ (by simp (maxSteps:=9^9) only[*,go_sem]) ?_;rw[Bool.not_eq_false'] at w;refine aH hJ (af hJ ?_);refine ak hJ ?_;revert h;refine bS fun O a5 h=>?_;try simp (maxSteps:=9^9) only[*,go_sem]
 refine b6 hJ _ (qh b u0 a d a5) fun v a6 P Q s=>?_;obtain ⟨cy,rfl,i⟩:=s;replace a:=a.mono P;replace r:=Q.hd;replace b:=b.mono P;simp only[bq] at Q;obtain ⟨d89,c0,rfl,da,db,-⟩:=id i;refine aJ ?_;try simp (maxSteps:=9^9) only[*,go_sem]
 refine af hJ ?_;refine eG hJ mixed [] (.rd 0 (.pure 1 (.pure 2 (.pure 3 (.rd 4 (.two 5 (.pure 6 (.pure 7 (.pure 8 (.one 9 (.one 10 (.pure 11 .done)))))) 9 (.one 5 (.pure 6 (.pure 7 (.pure 8 (.one 10 (.pure 11 .done)))))))))))) ⟨a6,[(m,bk u0 n o (sl (some D) u0.av B) q)]⟩ (by simp (maxSteps:=9^9) only[*,go_sem]) (by kernel_rfl) ?_;revert h;refine bS fun R a7 h=>?_;try simp (maxSteps:=9^9) only[*,go_sem]
 refine ⟨_,bC hJ fun F dd=>qi (IntKind.i64.wrap ((IntKind.i64.wrap (c.high.low+f)) - 1)) (IntKind.i64.wrap ((IntKind.i64.wrap (c.high.low+f)) - 1)) a7,bW ?_⟩;try simp (maxSteps:=9^9) only[*,go_sem]
 refine jx ?_ ?_
 ·revert h;refine bS fun E a8 h=>?_;try simp (maxSteps:=9^9) only[*,go_sem]
  refine b6 hJ _ (sZ b u0 a d R a8) fun v df x S s=>?_;obtain ⟨dk,dp,dq,ds,rfl,j⟩:=s;replace a:=a.mono x;replace i:=i.mono x;replace r:=S.hd;replace b:=b.mono x;simp only[bq] at S;obtain ⟨d103,dt,rfl,du,dv,-⟩:=id j.e;obtain ⟨d110,dC,rfl,dE,dT,-⟩:=id j.p;obtain ⟨d117,ea,rfl,eb,ec,-⟩:=id j.y;obtain ⟨d124,ed,rfl,eh,et,-⟩:=id j.t;have eu:=eH (l:=[(m,bk u0 n o (sl (some D) u0.av B) q)]) x (aG.cons r (aG.nil _));refine ⟨by simp (maxSteps:=9^9) only[*,go_sem],?_⟩;refine bW ?_;try simp (maxSteps:=9^9) only[*,go_sem]
  refine aA fun ev eQ T=>?_;have eS:=aP.cons T C;try simp only[au] at T
  try simp (maxSteps:=9^9) only[*,go_sem]
  refine af hJ (ah hJ ?_);revert h;refine bS fun e0 a9 h=>?_;try simp (maxSteps:=9^9) only[*,go_sem]
  refine bn hJ _ (Bj O.1 (i.mono aR) (IntKind.i64.wrap ((IntKind.i64.wrap (c.high.low+f)) - 1)) a9) (aJ ?_);revert h;refine cS (fun U h=>?_) fun U h=>?_
  ·cases h
  rw[Bool.not_eq_false'] at U;revert h;refine cS (fun ba h=>?_) fun ba h=>?_
  ·revert h;refine cS (fun bb h=>?_) fun bb h=>?_
   ·(try simp (maxSteps:=9^9) only[*,go_sem]);revert h;refine cS (fun bc h=>?_) fun bc h=>?_
    ·cases h
    refine bD hJ (by simp (maxSteps:=9^9) only[*,go_sem]) ?_;refine aH hJ ?_;show Wp _ _ _ _ _;exact cp hJ (Le.sub (.cons₂ _ (.cons₂ _ (List.Sublist.refl _)))) (oQ hJ u0 d g c f E b j a (by simp (maxSteps:=9^9) only[*,go_sem]) h)
   (try simp (maxSteps:=9^9) only[*,go_sem]);refine bD hJ (by simp (maxSteps:=9^9) only[*,go_sem]) ?_;refine aH hJ ?_;show Wp _ _ _ _ _;exact cp hJ (Le.sub (.cons₂ _ (.cons₂ _ (List.Sublist.refl _)))) (oQ hJ u0 d g c f E b j a (by simp (maxSteps:=9^9) only[*,go_sem]) h)
  try simp (maxSteps:=9^9) only[*,go_sem]
  refine bD hJ (by simp (maxSteps:=9^9) only[*,go_sem]) ?_;refine aH hJ ?_;show Wp _ _ _ _ _;exact cp hJ (Le.sub (.cons₂ _ (.cons₂ _ (List.Sublist.refl _)))) (oQ hJ u0 d g c f E b j a (by simp (maxSteps:=9^9) only[*,go_sem]) h)
 revert h;refine bS fun G bd h=>?_;try simp (maxSteps:=9^9) only[*,go_sem]
 refine aA fun e1 e2 V=>?_;have e3:=aP.cons V C;try simp only[au] at V
 try simp (maxSteps:=9^9) only[*,go_sem]
 refine b6 hJ _ (sZ b u0 a d R bd) fun v fa z W s=>?_;obtain ⟨fb,fg,fi,fo,rfl,k⟩:=s;replace a:=a.mono z;replace i:=i.mono z;replace r:=W.tl.hd;replace b:=b.mono z;simp only[bq] at W;obtain ⟨d188,fp,rfl,fr,fs,-⟩:=id k.e;obtain ⟨d195,ft,rfl,fu,fv,-⟩:=id k.p;obtain ⟨d202,fw,rfl,fx,gg,-⟩:=id k.y;obtain ⟨d209,gl,rfl,gn,gp,-⟩:=id k.t;have gB:=eH (l:=[(m,bk u0 n o (sl (some D) u0.av B) q)]) z (aG.cons r (aG.nil _));refine ⟨by simp (maxSteps:=9^9) only[*,go_sem],?_⟩;refine bW ?_;try simp (maxSteps:=9^9) only[*,go_sem]
 refine af hJ (ah hJ ?_);revert h;refine bS fun gC bj h=>?_;try simp (maxSteps:=9^9) only[*,go_sem]
 refine bn hJ _ (Bj O.1 (i.mono aR) (IntKind.i64.wrap ((IntKind.i64.wrap (c.high.low+f)) - 1)) bj) (aJ ?_);revert h;refine cS (fun X h=>?_) fun X h=>?_
 ·cases h
 rw[Bool.not_eq_false'] at X;revert h;refine cS (fun bl h=>?_) fun bl h=>?_
 ·revert h;refine cS (fun bm h=>?_) fun bm h=>?_
  ·(try simp (maxSteps:=9^9) only[*,go_sem]);revert h;refine cS (fun bo h=>?_) fun bo h=>?_
   ·cases h
   refine bD hJ (by simp (maxSteps:=9^9) only[*,go_sem]) ?_;refine aH hJ ?_;show Wp _ _ _ _ _;exact cp hJ (Le.sub (.cons₂ _ (.cons₂ _ (List.Sublist.refl _)))) (oQ hJ u0 d g c f G b k a (by simp (maxSteps:=9^9) only[*,go_sem]) h)
  try simp (maxSteps:=9^9) only[*,go_sem]
  refine bD hJ (by simp (maxSteps:=9^9) only[*,go_sem]) ?_;refine aH hJ ?_;show Wp _ _ _ _ _;exact cp hJ (Le.sub (.cons₂ _ (.cons₂ _ (List.Sublist.refl _)))) (oQ hJ u0 d g c f G b k a (by simp (maxSteps:=9^9) only[*,go_sem]) h)
 try simp (maxSteps:=9^9) only[*,go_sem]
 refine bD hJ (by simp (maxSteps:=9^9) only[*,go_sem]) ?_;refine aH hJ ?_;show Wp _ _ _ _ _;exact cp hJ (Le.sub (.cons₂ _ (.cons₂ _ (List.Sublist.refl _)))) (oQ hJ u0 d g c f G b k a (by simp (maxSteps:=9^9) only[*,go_sem]) h)
theorem Lm {ro:Addr->Option Value}(c:c9 ro)(u0:aj){s1 n u o:Value}(b:bL ro u0 s1 n u o)(w:Int)(p:Int){r:Bool}(F:r=true)(h:uz u0 w p=some r):mo Tryz.prog 3 #[bv u0 s1 n u o,.int .u8 w,.int .u8 p] ⟨ro,[]⟩ (fun v _=>v= .bool r):=by
 obtain ⟨d17,G,rfl,ao,ar,-⟩:=id b.y;subst F;unfold uz at h;refine mo.go Tryz.func3 rfl Tryz.ntmps3 Tryz.results3 (by simp) (by kernel_rfl) fun Φ hJ A H hd hs=>?_;have I:=hs 0;have k1:=hs 1;have J:=hs 2;clear hs;refine ah hJ ?_;simp only[*,go_sem];refine aA fun K a0 L=>?_;try simp only[au] at L
 try simp only[*,go_sem]
 refine af hJ (ah hJ ?_);revert h;refine bS fun a2 M h=>?_;simp only[*,go_sem];refine bn hJ _ (HJ u0 (b.mono aR) M) (aJ ?_);try simp only[*,go_sem]
 revert h;refine jC hJ (by simp only[*,go_sem]) (fun q h=>?_) fun q h=>?_
 ·rw[Bool.not_eq_true'] at q;refine ah hJ ?_;revert h;refine bS fun a3 N h=>?_;obtain rfl:=sI h;simp only[*,go_sem];refine rP _ (uw c N) (aJ ?_);try simp only[*,go_sem]
  refine az ?_;simp only[*,go_sem]
 rw[Bool.not_eq_false'] at q;refine aH hJ (af hJ ?_);refine ak hJ ?_;revert h;refine bS fun O x h=>?_;obtain ⟨a4,a5⟩:=pz x;clear x;try simp only[*,go_sem]
 refine ah hJ ?_;revert h;refine bS fun z P h=>?_;simp only[*,go_sem];refine bn hJ _ (Bf (c.mono aR) u0 (b.mono aR) P) (aJ ?_);try simp only[*,go_sem]
 refine ah hJ ?_;simp only[*,go_sem];refine af hJ (ah hJ ?_);simp only[*,go_sem];refine aN hJ ?_;revert h;refine bS fun Q i g=>?_;refine bT hJ [6,10,11,12,13,44,45,46,47,48,49,50,51,52,53,54,55,56,57,58,59,60,61,62,63,64,65,66,67,68,69,70,71,72,73,74,75,76,77,78,79,80,81,82] (fun m s F'=>∃(t:Addr->Option Value) (d:Bool) (e:Int) (f:Int),aU (jT u0 z) m (d,e,f)=some Q/\F'=⟨t,(K,bk u0 s1 n (sl d17 u0.av G) o)::[]⟩/\Ext ro t/\slot s 6= .bool d/\slot s 10= .int .i64 e/\slot s 11= .int .i64 f) fu ?_ ?_
 ·refine ⟨ro,false,1,0,i,rfl,Ext.refl _,?_⟩;simp only[*,go_sem]
 rintro j a6 F' B ⟨t,d,e,f,i,rfl,k,a7,a8,a9⟩;refine fe hJ fun _ R=>?_;replace b:=b.mono k;replace c:=c.mono k;simp only[bq] at R;obtain ⟨S,T,U⟩:=B.pick [2,3,7,8,9] (by decide);simp only[*,go_sem] at S T U;clear B H hd I k1 J;obtain _|j:=j
 ·exact absurd i (by simp only[aU,reduceCtorEq,not_false_eq_true])
 revert i;refine bS fun ba h a=>?_;unfold jT at h;try dsimp only at h
 refine af hJ (ah hJ ?_);simp only[*,go_sem];revert h;refine jC hJ (by simp only[*,go_sem]) (fun V h=>?_) fun V h=>?_
 ·refine aH hJ (af hJ ?_);refine aN hJ (af hJ ?_);refine ak hJ ?_;revert h;refine bS fun C W h=>?_;simp only[*,go_sem];refine b6 hJ _ (qh c u0 b f W) fun v D l X Y=>?_;obtain ⟨bb,rfl,Z⟩:=Y;replace b:=b.mono l;replace c:=c.mono l;simp only[bq] at X;obtain ⟨d58,bc,rfl,bd,bj,-⟩:=id Z;refine aJ ?_;try simp only[*,go_sem]
  refine af hJ (ah hJ ?_);revert h;refine cS (fun ab h=>?_) fun ab h=>?_
  ·obtain rfl:=sI h;(try simp only[*,go_sem]);refine bE hJ (by simp only[*,go_sem]) ?_;refine ah hJ ?_;simp only[*,go_sem];obtain rfl:=sI a;clear a;have h:=g;dsimp only[aD] at h;cases h
  revert h;refine cS (fun E h=>?_) fun E h=>?_
  ·obtain rfl:=sI h;(try simp only[*,go_sem]);refine bE hJ (by simp only[*,go_sem]) ?_;refine ah hJ ?_;simp only[*,go_sem];obtain rfl:=sI a;clear a;have h:=g;dsimp only[aD] at h;cases h
  rw[Bool.not_eq_false'] at E;revert h;refine cS (fun ad h=>?_) fun ad h=>?_
  ·revert h;refine cS (fun ae h=>?_) fun ae h=>?_
   ·obtain rfl:=sI h;(try simp only[*,go_sem]);refine bE hJ (by simp only[*,go_sem]) ?_;refine ah hJ ?_;simp only[*,go_sem];obtain rfl:=sI a;clear a;have h:=g;dsimp only[aD] at h;cases h
   (try simp only[*,go_sem]);revert h;refine jC hJ (by simp only[*,go_sem]) (fun al h=>?_) fun al h=>?_
   ·obtain rfl:=sI h;refine ah hJ ?_;simp only[*,go_sem];obtain rfl:=sI a;clear a;have h:=g;dsimp only[aD] at h;cases h
   obtain rfl:=sI h;refine aH hJ (ak hJ ?_);simp only[*,go_sem];refine ak hJ ?_;simp only[*,go_sem];refine ⟨j,Nat.lt_succ_self _,_,Le.sub (List.Sublist.refl _),D,d,(IntKind.i64.wrap (e*(C.1.length:Int))),(IntKind.i64.wrap (f+1)),a,rfl,(k.trans l),?_⟩;simp only[*,go_sem]
  obtain rfl:=sI h;try simp only[*,go_sem]
  refine bD hJ (by simp only[*,go_sem]) ?_;refine aH hJ (ak hJ ?_);simp only[*,go_sem];refine ak hJ ?_;simp only[*,go_sem];refine ⟨j,Nat.lt_succ_self _,_,Le.sub (List.Sublist.refl _),D,d,(IntKind.i64.wrap (e*(C.1.length:Int))),(IntKind.i64.wrap (f+1)),a,rfl,(k.trans l),?_⟩;simp only[*,go_sem]
 obtain rfl:=sI h;refine bN ?_;simp only[go_sem];obtain rfl:=sI a;clear a;have h:=g;dsimp only[aD] at h;show Wp _ _ _ _ _;exact cp hJ (Le.sub (.cons₂ _ (List.Sublist.refl _))) (Ll hJ u0 p O z d e c b (by simp (maxSteps:=9^9) only[*,go_sem]) h)
theorem Ln {u:aj}(h:mS u=some false):kJ u:=by
 unfold mS at h;rcases iS h with ⟨a,h⟩|⟨a,h⟩
 ·cases h
 rcases iS h with ⟨b,h⟩|⟨b,h⟩
 ·cases h
 rcases iS h with ⟨c,h⟩|⟨c,h⟩
 ·cases h
 have d:=Option.some.inj h;simp only[decide_eq_false_iff_not] at a b c d;exact ⟨by omega,by omega,by omega,by omega⟩
theorem Lo (u:aj):∃b,mS u=some b:=by
 unfold mS;cases decide (20<(u.ax.length:Int))<;>cases decide (20<(u.props.length:Int))<;>cases decide (20<(u.av.length:Int))<;>exact ⟨_,rfl⟩
theorem Lp (u:aj):om u=some false\/(om u=some true/\kJ u/\er u=some 0/\Fit u):=by
 unfold om;obtain ⟨b,hb⟩:=Lo u;rw[hb];cases b with
 |true=>exact .inl rfl
 |false=>
  have L:=Ln hb;obtain ⟨c,a,d⟩:=bars L;simp only[ag,Bool.not_false,cond_true,d];cases f:(c==0) with
  |false=>exact .inl rfl
  |true=>
   have e:c=0:=by simpa using f
   subst e;exact .inr ⟨rfl,L,a,xN u L.e a⟩
theorem DH {a b:Int}(hb:0<b):gP a b=some (a.tmod b):=by
 unfold gP;rw[if_neg (by omega)]
theorem DI {a b:Int}(c:0<=a)(hb:0<b):0<=a.tmod b/\a.tmod b<b:=⟨Int.tmod_nonneg _ c,Int.tmod_lt_of_pos _ hb⟩
theorem Lq {a b:an}{A B C D:Nat}(c:Sm a A B)(hb:Sm b C D):Sm (gG a b) (A*D+C*B) (B*D)/\∃n d,0<d/\gG a b=bI n d:=by
 have e:=dy c.num (show b.den.natAbs<=D by have:=hb.den;omega);have f:=dy hb.num (show a.den.natAbs<=B by have:=c.den;omega);have g:=dy (show a.den.natAbs<=B by have:=c.den;omega) (show b.den.natAbs<=D by have:=hb.den;omega);have h:0<a.den*b.den:=Int.mul_pos c.den.1 hb.den.1;have:=jd (a.num*b.den - b.num*a.den) (a.den*b.den).toNat (by omega);refine ⟨?_,_,_,by omega,rfl⟩;unfold gG;exact ⟨Nat.le_trans this.num (by omega),this.den.1,by have:=this.den.2;omega⟩
section
variable {u : aj} {s : bf} (F : Fit u) (hs : (1 ≤ s.back ∧ s.back ≤ 20) ∧ 0 ≤ s.high ∧ s.high ≤ 60)
include F hs
theorem Lr:Sm (dM u s).2 10000 100/\∃n d,0<d/\(dM u s).2=bI n d:=by
 obtain ⟨n,p,e,a,-⟩:=Ik F hs;have b:=F.kD n p a;rw[e];exact ⟨BD u F s hs n p a,_,_,by omega,rfl⟩
theorem Ls:Sm (gG ⟨u.bK,1⟩ (dM u s).2) 16000 100/\∃n d,0<d/\gG ⟨u.bK,1⟩ (dM u s).2=bI n d:=by
 obtain ⟨a,b⟩:=Lq (tA F hs) (Lr F hs).1;exact ⟨a.mono (by decide) (by decide),b⟩
end
theorem DJ {α ρ:Type}{g:α->Bool}{r:ρ}:∀(l:List α) (i:Nat),gF (fun _ x=>if g x then some r else none) i l=if l.any g then some r else none
 |[],_=>rfl
 |x::l,i=>by
  unfold gF
  cases h:g x with
  |true=>simp[h]
  |false=>
   simp only[h,Bool.false_eq_true,if_false,List.any_cons,Bool.false_or]
   exact DJ l (i+1)
theorem DK {l:List Int}(b:l.length<=1000)(n:Int):mY l n=some (l.any (· ==n)):=by
 unfold mY
 rw[BY (t:=fun _ x=>if x==n then some true else none) l b (fun i x s a=>by
  have c:=(List.getElem?_eq_some_iff.1 a).1;unfold qm;rw[show decide ((s,(i:Int)).2<(l.length:Int))=true by simp;omega];simp only[cond_true,g9 a,ag];rw[cI (n:=(i:Int)+1) (by omega)]
  cases (x==n)<;>rfl) (fun s=>by
  unfold qm
  simp) false,DJ]
 cases l.any (· ==n)<;>rfl
theorem any_eq {l:List Int}{n:Int}:l.any (· ==n)=true↔n∈l:=by
 rw[List.any_eq_true];constructor
 ·rintro ⟨y,a,e⟩;have:y=n:=by simpa using e
  rw[<-this];exact a
 ·exact fun h=>⟨n,h,by simp⟩
theorem Lt:qn g8 g8=some true:=by decide+kernel
def fW (u:aj)(s:bf):an:=gG ⟨u.bK,1⟩ (dM u s).2
def fX (a b:an):an:=cond (bQ b a) b a
section
variable {u : aj} {s : bf} (F : Fit u) (hs : (1 ≤ s.back ∧ s.back ≤ 20) ∧ 0 ≤ s.high ∧ s.high ≤ 60)
include F hs
theorem Lu:mH u s=some (fW u s):=by
 obtain ⟨r,k1,a⟩:=BK F hs;obtain ⟨c,-,e2,d,b⟩:=oq F hs;unfold s8 at a;rw[b] at a;simp only[ag,x5 (qK F hs) (qz F hs)] at a;rw[k1,<-a];rfl
theorem DL:SR (fW u s):=(Ls F hs).1.mono (by decide) (by decide)
end
section
variable {u : aj} (F : Fit u) (h : er u = some 0) {i : Nat} {e : bO} (he : u.av[i]? = some e)
include F h he
theorem y4:eP u [eN (i:Int)]=some (u,0):=by
 have hi:i<u.av.length:=(List.getElem?_eq_some_iff.1 he).1;rw[xS h (Ch u i),(yb F).2 ⟨by omega,by omega⟩];rfl
theorem q3:jI u (i:Int)=some (if (bw u).isEmpty then ([],9) else (cJ u i e,0)):=by
 unfold jI;rw[qQ F (y4 F h he)];cases hs:(bw u).isEmpty with
 |true=>rfl
 |false=>
  simp only[ag,Bool.false_eq_true,if_false,bne_self_eq_false,cond_false];rw[CF F (by intro c;rw[c] at hs;cases hs) he]
omit h in
theorem uA {n:Int}(a:n∈cJ u i e):(1<=e.back/\e.back<=20)/\0<=n/\n<=60:=by
 obtain ⟨c1,c2,c3,c4,b⟩:=F.aQ _ _ he;have:=tH.1 (List.mem_filter.1 a).1;exact ⟨c1,by omega,by omega⟩
theorem Lv:lA u (i:Int)=some (if (bw u).isEmpty then (0,9) else (iB ((bw u).countP fun l=>eI u (dX u i (l[i]?.getD 0))) (bw u).length,0)):=by
 have c:=(qO F).2;have hi:i<u.av.length:=(List.getElem?_eq_some_iff.1 he).1;have d:=F.av;unfold lA;rw[qQ F (y4 F h he)];simp only[ag];cases hs:(bw u).isEmpty with
 |true=>rfl
 |false=>
  simp only[Bool.false_eq_true,if_false];rw[show ((0:Int) != 0)=false by decide];simp only[cond_false];have one:∀y,y∈bw u->jD (cF y) ⟨u,(bw u).map cF⟩ (i:Int)=some (eI u (dX u i (y[i]?.getD 0))):=fun y a=>by
   obtain ⟨m,hm,hs,hb⟩:=tK F he a;have hg:aT.get (cF y) (i:Int)=some m:=qH (by omega) (by omega) (by simpa using hm);unfold jD gX;simp only[hg,ag,g9 he,(qF F (s:=⟨e.back,m⟩) hb).1,hs]
  have key:∀x,x∈(bw u).map cF->jD x ⟨u,(bw u).map cF⟩ (i:Int)=some ((jD x ⟨u,(bw u).map cF⟩ (i:Int)).getD false):=fun x b=>by
   rw[List.mem_map] at b;obtain ⟨y,a,rfl⟩:=b;rw[one y a];rfl
  rw[Cp (k:=⟨u,(bw u).map cF⟩) (g:=fun x=>(jD x ⟨u,(bw u).map cF⟩ (i:Int)).getD false) (by simp;omega) key];simp only[List.countP_map,List.length_map];have e:(bw u).countP ((fun x=>(jD x ⟨u,(bw u).map cF⟩ (i:Int)).getD false) ∘ cF)=(bw u).countP (fun l=>eI u (dX u i (l[i]?.getD 0))):=List.countP_congr fun y a=>by
   simp only[Function.comp];rw[one y a];rfl
  rw[e]
omit h in
theorem Lx (aF:bw u≠[]):bJ (ob (i:Int) (⟨u,(bw u).map cF⟩,0)) 0 (cJ u i e) []=some (.nx ((cJ u i e).map fun n=>fW u ⟨e.back,n⟩)):=by
 have hlen:(cJ u i e).length<=3:=by
  obtain ⟨c,T,h,b,d⟩:=qR F aF he;rw[d,List.length_map];exact (tL b).2
 have key:=jL (f:=ob (i:Int) (⟨u,(bw u).map cF⟩,0)) (g:=fun _ n (s:List an)=>s++(fun n:Int=>[fW u ⟨e.back,n⟩]) n) (I:=fun j s=>s.length<=j/\j<=3) (cJ u i e) 0 [] ⟨by simp,by omega⟩
  (fun j n s a k=>by
   have l:j<(cJ u i e).length:=(List.getElem?_eq_some_iff.1 a).1;have hb:=uA F he (List.mem_of_getElem? a);refine ⟨?_,?_⟩
   ·unfold ob gX;simp only[ag,g9 he,Lu F (s:=⟨e.back,n⟩) hb];unfold c8;rw[if_pos (by simp;omega)]
   ·simp only[List.length_append,List.length_singleton];omega)
 rw[key.1,qN,List.nil_append,yf]
theorem Ly:∀(l:List an) (a:an),SR a->(∀x,x∈l->SR x)->fO ep a l=some (foldI (fun _ y st=>cw st y) 0 l a):=fun l a d e=>by
 unfold fO
 rw[(jL (f:=kq ep) (ρ:=an) (g:=fun _ y st=>cw st y) (I:=fun _ st=>SR st) l 0 a d fun j x st h b=>by
  have c:=e x (List.mem_of_getElem? h)
  refine ⟨?_,kF b c⟩
  unfold kq
  simp only[(kE b c).2,ag]
  unfold cw
  cases bQ st x<;>rfl).1]
 rfl
theorem Lz:∀(l:List an) (a:an),SR a->(∀x,x∈l->SR x)->fO mD a l=some (foldI (fun _ y st=>fX st y) 0 l a):=fun l a d e=>by
 unfold fO
 rw[(jL (f:=kq mD) (ρ:=an) (g:=fun _ y st=>fX st y) (I:=fun _ st=>SR st) l 0 a d fun j x st h b=>by
  have c:=e x (List.mem_of_getElem? h)
  refine ⟨?_,by unfold fX;cases bQ x st;exact b;exact c⟩
  unfold kq mD
  simp only[(kE c b).2,ag]
  unfold fX
  cases bQ x st<;>rfl).1]
 rfl
theorem LA (hs:(bw u).isEmpty=false):∃a l,(cJ u i e).map (fun n=>fW u ⟨e.back,n⟩)=a::l/\mO u (i:Int)=some (foldI (fun _ y st=>fX st y) 0 l a,foldI (fun _ y st=>cw st y) 0 l a,0):=by
 have aF:bw u≠[]:=by intro c;rw[c] at hs;cases hs
 unfold mO;rw[qQ F (y4 F h he),hs];simp only[ag,Bool.false_eq_true,if_false,bne_self_eq_false,cond_false];rw[CF F aF he];simp only[Lx F he aF,aD];have b:∀x,x∈(cJ u i e).map (fun n=>fW u ⟨e.back,n⟩)->SR x:=fun x d=>by
  rw[List.mem_map] at d;obtain ⟨n,j,rfl⟩:=d;exact DL F (uA F he j)
 have f:(cJ u i e).map (fun n=>fW u ⟨e.back,n⟩)≠[]:=by
  obtain ⟨c,T,o,g,k⟩:=qR F aF he;have:=(tL g).1;intro m;have:=congrArg List.length m;rw[List.length_map,k,List.length_map] at this;simp at this;rw[this] at g;revert g;decide
 revert b f;generalize (cJ u i e).map (fun n=>fW u ⟨e.back,n⟩)=L;intro b f
 match L,f with
 |a::l,_=>
  have y:iT (a::l) 1 (((a::l).length:Nat):Int)=some l:=by
   unfold iT;rw[if_pos (by simp only[List.length_cons];omega)];simp
  simp only[show aY (a::l) 0=some a from rfl,y,Ly F h he l a (b a (by simp)) (fun x d=>b x (by simp[d])),Lz F h he l a (b a (by simp)) (fun x d=>b x (by simp[d]))];exact ⟨a,l,rfl,rfl⟩
end
abbrev Bd (s:bf):Prop:=(1<=s.back/\s.back<=20)/\0<=s.high/\s.high<=60
section
variable {u : aj} (F : Fit u)
include F
theorem LB {i:Nat}{e:bO}(he:u.av[i]?=some e)(n:Int):dX u i n=⟨e.back,n⟩:=by unfold dX;rw[he];rfl
end
end Go.Proofs.YtpgcmoanfifglaaGreatDoor
end

/- A part of the proof of a row and its tied card: part 9. -/
import Derived.Test.YtipgiooobncfbaaGreatDoorQ8
import Derived.Conc.AtomicLaws2
import Derived.Conc.WgArith
set_option linter.all false
section
namespace Go.Sep
open Go Go.Conc
open Go.ConcN (sumTo upd upd_ne upd_same)
open Go.ConcM (MuAt muA msA muBlock OsLater)
open Go.ConcR (WgAt wgBlock stA smA)
section
variable {c : Cy} {i : Nat} {ph : Ph} {ops : Array Oper} {j n : Nat} {Q : Act → af → Ph → Prop} {a : Act} {F : af} {f fi : FuncId} {d : Option Tmp}
theorem c8 {s:Sh}:s.ms<=s.ms/\s.ws<=s.ws:=⟨Int.le_refl _,Int.le_refl _⟩
theorem vA (g:Entry c.P f (fun _=>do mark .disable;pure Extern.Race.none_)){vals:List Value}(l:At ops j a f vals d)(h1:ph.gp≠ .gone)(h2:ph.gp≠ .new)
  (h:ai (WJ c i) fi ops (j+1) n Q (aV a d (.tuple #[])) F {ph with deaf:=ph.deaf+1}):ai (WJ c i) fi ops j (n+1) Q a F ph:=by
 obtain ⟨o,ck,cQ,e,hg,m,_,rfl⟩:=l
 refine eM e h1 fun w s k φ p0 _ hs p he q=>.inr ⟨.tuple #[],w,_,s,_,fun b r cs hb=>?_,hs,.refl _ _,q.Ae p he h2 _,Ft,.inr c8,h⟩
 obtain ⟨fn,f1,f2,f3,f4,f5⟩:=g.ex
 exact stepG_mark0 .disable (by simp) e (bV hg) hb.kind m f1 f2 f3 f4 f5
theorem q8 (l:Entry c.P f (fun _=>do mark .enable;pure Extern.Race.none_)){vals:List Value}(m:At ops j a f vals d)(h1:ph.gp≠ .gone)(h2:ph.gp≠ .new){e:Nat}(hd:ph.deaf=e+1)
  (h:ai (WJ c i) fi ops (j+1) n Q (aV a d (.tuple #[])) F {ph with deaf:=e}):ai (WJ c i) fi ops j (n+1) Q a F ph:=by
 obtain ⟨o,ck,cQ,g,hg,p,_,rfl⟩:=m
 refine eM g h1 fun w s k φ p0 _ hs q he r=>.inr ⟨.tuple #[],w,_,s,_,fun b t cs hb=>?_,hs,.refl _ _,r.Ae q he h2 _,Fu hd,.inr c8,h⟩
 obtain ⟨fn,f1,f2,f3,f4,f5⟩:=l.ex
 exact stepG_mark0 .enable (by simp) g (bV hg) hb.kind p f1 f2 f3 f4 f5
theorem mT {k:Nat}{φ:Nat->Ph}{p0:P0}{s:Sh}(he:φ i=ph)(a:Inv c.n c.bs k φ p0 s):Inv c.n c.bs k (upd φ i ph) p0 s:=by rw[<-he,vt];exact a
theorem Af (g:Entry c.P f (Extern.Race.marked .acquire))(l:At ops j a f [.pointer (some (muA c.Mu))] d)(h1:ph.gp= .cnt)
  (h:ai (WJ c i) fi ops (j+1) n Q (aV a d (.tuple #[])) F ph):ai (WJ c i) fi ops j (n+1) Q a F ph:=by
 obtain ⟨o,ck,cQ,e,hg,m,p,rfl⟩:=l
 obtain ⟨x,rfl,q⟩:=iN p
 refine eM e (by rw[h1];simp) fun w s k φ p0 _ hs t he r=>.inr ⟨.tuple #[],w,_,s,ph,fun b u cs hb=>?_,hs,.refl _ _,mT he r,.word (.acquire (muA c.Mu)) rfl (.inl rfl) rfl ⟨h1,h1⟩,.inr c8,h⟩
 obtain ⟨fn,f1,f2,f3,f4,f5⟩:=g.ex
 exact stepG_markAt .acquire (by simp) e (bV hg) hb.kind m f1 f2 f3 f4 f5 (by simp[dW,q])
theorem Fv (g:Entry c.P f (Extern.Race.marked .releaseMerge))(l:At ops j a f [.pointer (some (muA c.Mu))] d)(h1:ph.gp= .cnt)
  (h:ai (WJ c i) fi ops (j+1) n Q (aV a d (.tuple #[])) F ph):ai (WJ c i) fi ops j (n+1) Q a F ph:=by
 obtain ⟨o,ck,cQ,e,hg,m,p,rfl⟩:=l
 obtain ⟨x,rfl,q⟩:=iN p
 refine eM e (by rw[h1];simp) fun w s k φ p0 _ hs t he r=>.inr ⟨.tuple #[],w,_,s,ph,fun b u cs hb=>?_,hs,.refl _ _,mT he r,.word (.releaseMerge (muA c.Mu)) rfl (.inr rfl) rfl ⟨h1,h1⟩,.inr c8,h⟩
 obtain ⟨fn,f1,f2,f3,f4,f5⟩:=g.ex
 exact stepG_markAt .releaseMerge (by simp) e (bV hg) hb.kind m f1 f2 f3 f4 f5 (by simp[dW,q])
theorem Fw (q:Entry c.P f (Extern.Race.marked .releaseMerge))(r:At ops j a f [.pointer (some (stA c.Wg))] d)(h1:ph.gp= .cnt)
  (hd:ph.deaf=0) (t:ph.mp= .idle\/ph.mp= .fin) (u:ph.stored=c.bs i)
  (h:ai (WJ c i) fi ops (j+1) n Q (aV a d (.tuple #[])) F {mp:=.fin,gp:=.rel,stored:=ph.stored,deaf:=0}):ai (WJ c i) fi ops j (n+1) Q a F ph:=by
 obtain ⟨o,ck,cQ,p,hg,v,y,rfl⟩:=r
 obtain ⟨x,rfl,z⟩:=iN y
 refine eM p (by rw[h1];simp) fun w s k φ p0 _ hs g he l=>.inr ⟨.tuple #[],w,_,s,{mp:=.fin,gp:=.rel,stored:=ph.stored,deaf:=0},fun b A cs hb=>?_,hs,.refl _ _,?_,.rel rfl ⟨hd,rfl⟩ h1,.inr c8,h⟩
 ·obtain ⟨fn,f1,f2,f3,f4,f5⟩:=q.ex
  exact stepG_markAt .releaseMerge (by simp) p (bV hg) hb.kind v f1 f2 f3 f4 f5 (by simp[dW,z])
 ·obtain ⟨C,S,W,L,m,hm⟩:=l.m
  refine l.iK g he (by rw[h1];simp) (by simp) ⟨C,S,W,L,m,lA hm g _ ?_⟩ (qW l.w g _ (.inr ⟨by rw[he];exact h1,rfl⟩)) ?_ (fun _=>⟨u,rfl⟩)
  ·rw[he];rcases t with e|e
   ·exact .inr ⟨e,rfl⟩
   ·exact .inl e.symm
  ·have:=l.i.all i g
   rw[he] at this
   exact (vz this).symm
theorem q9 (old nw:Int)(H:Entry c.P f (Extern.Atomic.casT (.int .i32)))(I:c.Mu≠c.Wg/\c.Mu≠c.Is/\c.Wg≠c.Is)(J:At ops j a f [.pointer (some (muA c.Mu)),.int .i32 old,.int .i32 nw] d)
  (h1:ph.gp= .cnt) (h0:0<ph.deaf)
  (K:∀φ ms C S W L m,φ i=ph->i<c.n->b8 c.n φ old ms C S W L m->∃mp,(∃g h l p q,b8 c.n (upd φ i {ph with mp:=mp}) nw ms g h l p q)/\ai (WJ c i) fi ops (j+1) n Q (aV a d (.bool true)) F {ph with mp:=mp})
  (M:∀φ mu ms C S W L m,φ i=ph->i<c.n->b8 c.n φ mu ms C S W L m->mu≠old->∃mp,(∃g h l p q,b8 c.n (upd φ i {ph with mp:=mp}) mu ms g h l p q)/\ai (WJ c i) fi ops (j+1) n Q (aV a d (.bool false)) F {ph with mp:=mp}):ai (WJ c i) fi ops j (n+1) Q a F ph:=by
 obtain ⟨o,ck,cQ,r,hg,B,N,rfl⟩:=J
 obtain ⟨x,y,z,rfl,D,E,G⟩:=oO N
 obtain ⟨fn,f1,f2,f3,f4,f5⟩:=H.ex
 refine eM r (by rw[h1];simp) fun w s k φ p0 _ hs e he t=>.inr ?_
 obtain ⟨C,S,W,L,m,hm⟩:=t.m
 by_cases u:s.mu=old
 ·subst u
  obtain ⟨mp,v,A⟩:=K φ s.ms C S W L m he e hm
  exact ⟨.bool true,_,_,{s with mu:=nw},{ph with mp:=mp},fun b O cs hb=>stepG_cas_hit r (bV hg) hb.kind B f1 f2 f3 f4 .i32 f5 D E G hs.mu.1 hs.mu.2,hs.Ab I nw,.set _ (.inl rfl),t.mutex e he h1 v,vv rfl Iff.rfl h0 (.inr ⟨rfl,h1⟩),.inr c8,A⟩
 ·obtain ⟨mp,v,A⟩:=M φ s.mu s.ms C S W L m he e hm u
  exact ⟨.bool false,_,_,{s with mu:=s.mu},{ph with mp:=mp},fun b O cs hb=>stepG_cas_miss r (bV hg) hb.kind B f1 f2 f3 f4 .i32 f5 D E G hs.mu.1 hs.mu.2 u,hs,.refl _ _,t.mutex e he h1 v,vu false rfl Iff.rfl h0 (.inr ⟨rfl,h1⟩),.inr c8,A⟩
theorem vB (dl:Int)(q:Entry c.P f (Extern.Atomic.update (Op.intArith .add) .i32 true))(r:c.Mu≠c.Wg/\c.Mu≠c.Is/\c.Wg≠c.Is)(t:At ops j a f [.pointer (some (muA c.Mu)),.int .i32 dl] d)
  (h1:ph.gp= .cnt) (h0:0<ph.deaf)
  (h:∀φ mu ms C S W L m,φ i=ph->i<c.n->b8 c.n φ mu ms C S W L m->∃mp nw,IntKind.i32.wrap (mu+dl)=nw/\(∃u v z A B,b8 c.n (upd φ i {ph with mp:=mp}) nw ms u v z A B)/\ai (WJ c i) fi ops (j+1) n Q (aV a d (.int .i32 nw)) F {ph with mp:=mp}):
  ai (WJ c i) fi ops j (n+1) Q a F ph:=by
 obtain ⟨o,ck,cQ,g,hg,D,E,rfl⟩:=t
 obtain ⟨x,y,rfl,G,H⟩:=oN E
 obtain ⟨fn,f1,f2,f3,f4,f5⟩:=q.ex
 refine eM g (by rw[h1];simp) fun w s k φ p0 _ hs l he p=>.inr ?_
 obtain ⟨C,S,W,L,m,hm⟩:=p.m
 obtain ⟨mp,nw,e,I,J⟩:=h φ s.mu s.ms C S W L m he l hm
 exact ⟨.int .i32 nw,_,_,{s with mu:=nw},{ph with mp:=mp},fun b K cs hb=>by rw[<-e];exact stepG_add_atomic g (bV hg) hb.kind D f1 f2 f3 f4 .i32 f5 G H hs.mu.1 hs.mu.2,by rw[<-e];exact hs.Ab r _,.set _ (.inl rfl),p.mutex l he h1 I,vv rfl Iff.rfl h0 (.inr ⟨rfl,h1⟩),.inr c8,J⟩
theorem mU {ty:TypeId}(p:(c.P.funcs[fi]?).any (·.norace)=true)(e:c.P.underlying ty=some (.int .i32)){x:Operand}(q:lC ops j a (.load ty x) d)(h1:ph.gp= .cnt)(r:ev a x= .pointer (some (muA c.Mu)))
  (h:∀φ mu ms C S W L m,φ i=ph->i<c.n->b8 c.n φ mu ms C S W L m->∃mp,(∃t u v y z,b8 c.n (upd φ i {ph with mp:=mp}) mu ms t u v y z)/\ai (WJ c i) fi ops (j+1) n Q (aV a d (.int .i32 mu)) F {ph with mp:=mp}):
  ai (WJ c i) fi ops j (n+1) Q a F ph:=by
 obtain ⟨o,f,hg,A,rfl⟩:=q
 refine eM f (by rw[h1];simp) fun w s k φ p0 _ hs g he l=>.inr ?_
 obtain ⟨C,S,W,L,m,hm⟩:=l.m
 obtain ⟨mp,B,D⟩:=h φ s.mu s.ms C S W L m he g hm
 have e1:execOp a.eval o=(do pure (.value (<-loadVar ty (muA c.Mu))):Sem Next):=by
  unfold execOp
  simp only[A,dW,r]
  rfl
 have E:(execOp a.eval o).run c.P w= .ok (.value (.int .i32 s.mu)) w:=by
  rw[e1]
  have:=hs.mu.1
  simp[loadVar,isAgg,run_underlying e,this]
 have G:(execOp a.eval o).events c.P w #[]=#[⟨.cell (muA c.Mu),false,false⟩]:=by
  rw[e1]
  have:=hs.mu.1
  simp[loadVar,isAgg,run_underlying e,events_load,this]
 have H:seen c.P fi #[⟨.cell (muA c.Mu),false,false⟩]=#[]:=by rw[seen_def];simp[seenStep,p]
 refine ⟨.int .i32 s.mu,w,#[],{s with mu:=s.mu},{ph with mp:=mp},fun b I cs hb=>?_,hs,.refl _ _,l.mutex g he h1 B,lD rfl Iff.rfl,.inr c8,D⟩
 rw[stepG_value f (bV hg) hb.kind E]
 unfold listed
 rw[G,hb.fn,H]
end
section
variable {c : Cy} {i : Nat} {ph : Ph} {ops : Array Oper} {j n : Nat} {Q : Act → af → Ph → Prop} {a : Act} {F : af} {f fi : FuncId} {d : Option Tmp}
theorem Fx (t u:Value)(v:Entry c.P f Extern.Sync.semacquire)(A:c.Mu≠c.Wg/\c.Mu≠c.Is/\c.Wg≠c.Is)(B:At ops j a f [.pointer (some (msA c.Mu)),t,u] d)
  (h1:ph.gp= .cnt) {G:Nat} (hm:ph.mp= .gF G) (h:ai (WJ c i) fi ops (j+1) n Q (aV a d (.tuple #[])) F {ph with mp:=.iI G}):ai (WJ c i) fi ops j (n+1) Q a F ph:=by
 obtain ⟨o,ck,cQ,e,hg,g,D,rfl⟩:=B
 obtain ⟨x,y,z,rfl,l,_,_⟩:=oO D
 obtain ⟨fn,f1,f2,f3,f4,f5⟩:=v.ex
 refine eM e (by rw[h1];simp) fun w s k φ p0 _ hs p he q=>?_
 by_cases h0:s.ms=0
 ·refine .inl ⟨by rw[hm];rfl,h0,fun b E cs=>stepG_semacquire_wait e (bV hg) g f1 f2 f3 f4 f5 (ad:=msA c.Mu) (by simp[dW,l]) (by rw[hs.ms.1,h0])⟩
 ·obtain ⟨C,S,W,L,m,r⟩:=q.m
  have H:=r.cnt
  refine .inr ⟨.tuple #[],_,_,{s with ms:=s.ms - 1},{ph with mp:=.iI G},fun b E cs hb=>stepG_semacquire e (bV hg) hb.kind g f1 f2 f3 f4 f5 (by simp[dW,l]) hs.ms.1 h0 hs.ms.2,hs.Ac A _,.set _ (.inl rfl),
   q.mutex p he h1 ⟨C,S,W,L,m - 1,Ey r p _ (by rw[he];exact hm) rfl (by omega)⟩,vw rfl Iff.rfl (.inr ⟨rfl,h1⟩),.inr ⟨by simp only;omega,Int.le_refl _⟩,h⟩
theorem Ag (u v:Value)(l:Entry c.P f Extern.Sync.semrelease)(A:c.Mu≠c.Wg/\c.Mu≠c.Is/\c.Wg≠c.Is)(B:At ops j a f [.pointer (some (msA c.Mu)),u,v] d)
  (h1:ph.gp= .cnt) (hm:ph.mp= .mJ\/ph.mp= .mK) (h:ai (WJ c i) fi ops (j+1) n Q (aV a d (.tuple #[])) F {ph with mp:=.fin}):ai (WJ c i) fi ops j (n+1) Q a F ph:=by
 obtain ⟨o,ck,cQ,p,hg,q,D,rfl⟩:=B
 obtain ⟨x,y,z,rfl,g,_,_⟩:=oO D
 obtain ⟨fn,f1,f2,f3,f4,f5⟩:=l.ex
 refine eM p (by rw[h1];simp) fun w s k φ p0 _ hs r he t=>.inr ?_
 obtain ⟨C,S,W,L,m,e⟩:=t.m
 have G:=e.cnt
 have hb:=e.st.w
 have H:=e.st.s
 have I:m<=1:=by
  rcases Nat.lt_or_ge S 1 with y|y
  ·have:=e.norm (by omega);omega
  ·have:=e.fc (by omega);omega
 have E:IntKind.u32.wrap (s.ms+1)=s.ms+1:=by
  unfold IntKind.wrap
  simp[IntKind.bits,IntKind.signed]
  omega
 refine ⟨.tuple #[],_,_,{s with ms:=s.ms+1},{ph with mp:=.fin},fun b J cs hb=>stepG_semrelease p (bV hg) hb.kind q f1 f2 f3 f4 f5 (by simp[dW,g]) hs.ms.1 hs.ms.2,by rw[E];exact hs.Ac A _,.set _ (.inl rfl),
  t.mutex r he h1 ⟨C,S,W,L,m+1,EE e r _ (by rw[he];exact hm) rfl⟩,vw rfl Iff.rfl (.inr ⟨rfl,h1⟩),.inl ⟨_,q,fun x g=>?_⟩,h⟩
 cases g
 exact ⟨f,rfl,l.z2⟩
theorem Ah (l:Entry c.P f Extern.OsHooks.nano)(e:(c.P.funcs[f]?).any (·.norace)=true){vals:List Value}(m:At ops j a f vals d)
  (h1:ph.gp≠ .gone) (h:∀x:Int,ai (WJ c i) fi ops (j+1) n Q (aV a d (.int .i64 x)) F ph):ai (WJ c i) fi ops j (n+1) Q a F ph:=by
 obtain ⟨o,ck,cQ,g,hg,p,_,rfl⟩:=m
 obtain ⟨fn,f1,f2,f3,f4,f5⟩:=l.ex
 refine eM g h1 fun w s k φ p0 _ hs r he q=>.inr ⟨_,w.later,#[],s,ph,fun b t cs hb=>stepG_nanotime g (bV hg) hb.kind p f1 f2 f3 f4 f5 (by rw[f1] at e;simpa using e),hs,⟨rfl,rfl,rfl,⟨w.tick,rfl⟩,fun _ _=>rfl⟩,mT he q,lD rfl Iff.rfl,.inr c8,h _⟩
theorem Fy (it:Int)(m:Entry c.P f Extern.Sync.canSpin)(p:At ops j a f [.int .i64 it] d)
  (h1:ph.gp≠ .gone) (h:∀t:Bool,(t=true->it<4)->ai (WJ c i) fi ops (j+1) n Q (aV a d (.bool t)) F ph):ai (WJ c i) fi ops j (n+1) Q a F ph:=by
 obtain ⟨o,ck,cQ,e,hg,g,q,rfl⟩:=p
 obtain ⟨x,rfl,r⟩:=iN q
 obtain ⟨fn,f1,f2,f3,f4,f5⟩:=m.ex
 have hm:(#[x]:Array Operand).map a.eval=#[.int .i64 it]:=by simp[dW,r]
 refine eM e h1 fun w s k φ p0 _ hs y he l=>.inr ?_
 by_cases u:4<=it
 ·exact ⟨_,w,#[],s,ph,fun b v cs hb=>stepG_canSpin_no e (bV hg) hb.kind g f1 f2 f3 f4 f5 hm u,hs,.refl _ _,mT he l,lD rfl Iff.rfl,.inr c8,h false (by simp)⟩
 ·exact ⟨_,w.asked,#[],s,ph,fun b v cs hb=>stepG_canSpin_ask e (bV hg) hb.kind g f1 f2 f3 f4 f5 hm (by omega),hs,⟨rfl,rfl,rfl,.refl _,fun _ _=>rfl⟩,mT he l,lD rfl Iff.rfl,.inr c8,h _ (fun _=>by omega)⟩
end
theorem ai.entry {P:Program}{main:Bool}{S:Type}{JF:S->Goroutine->af->Prop}{fi f:FuncId}{ops:Array Oper}{j n:Nat}{Q:Act->af->S->Prop}{a:Act}{F:af}{ph:S}{d:Option Tmp}(v:Value)(e:dy P main (JF ph))(g:Entry P f (fun _=>pure v))
  {vals:List Value} (i:At ops j a f vals d) (h:ai JF fi ops (j+1) n Q (aV a d v) F ph):ai JF fi ops j (n+1) Q a F ph:=fun b c cs hb k=>by
 obtain ⟨fn,f1,f2,f3,f4,f5⟩:=g.ex
 obtain ⟨o,ck,cQ,l,hg,m,_,rfl⟩:=i
 rw[List.range'_succ,dZ hb.round]
 refine e.move (fr':=b.at (a.put o.dst v) (.inRegion ops (List.range' (j+1) n)::c)) (fun w=>stepG_entry_pure v l (bV hg) hb.kind m f1 f2 f3 f4 f5) (by rw[<-dZ hb.round];exact h b c cs hb k)
section
variable {c : Cy} {i : Nat} {ph : Ph} {ops : Array Oper} {j n : Nat} {Q : Act → af → Ph → Prop} {a : Act} {F : af} {f fi : FuncId} {d : Option Tmp}
theorem rf (ad:Addr){src dst t:TypeId}(hs:c.P.underlying src=some (.pointer t))(hd:c.P.underlying dst=some .unsafePointer)(e:(c.P.info? t).map (fun i=>decide (i.size=0))=some false){x:Operand}
  (m:lC ops j a (.convert src dst x) d) (h1:ph.gp≠ .gone) (p:ev a x= .pointer (some ad)) (q:∀w s,cj c w s->∃v,w.cell? ad=some v) (h:ai (WJ c i) fi ops (j+1) n Q (aV a d (.pointer (some ad))) F ph):ai (WJ c i) fi ops j (n+1) Q a F ph:=by
 obtain ⟨o,f,hg,r,rfl⟩:=m
 refine eM f h1 fun w s k φ p0 _ g A he u=>.inr ⟨_,w,#[],s,ph,fun b B cs hb=>?_,g,.refl _ _,mT he u,lD rfl Iff.rfl,.inr c8,h⟩
 obtain ⟨v,l⟩:=q w s g
 have e1:execOp a.eval o=(do pure (.value (<-convert src dst (.pointer (some ad)))):Sem Next):=by
  unfold execOp
  simp only[r,dW,p]
 have y:(execOp a.eval o).run c.P w= .ok (.value (.pointer (some ad))) w:=by
  rw[e1];simp[run_convert_to_unsafe hs hd e l]
 have z:(execOp a.eval o).events c.P w #[]=#[]:=by
  rw[e1];simp[events_convert_to_unsafe hs hd e l]
 rw[stepG_value f (bV hg) hb.kind y]
 unfold listed
 rw[z,seen_none]
theorem Fz {ty:TypeId}(J:c.P.underlying ty=some .bool)(z:bQ c.P ty=some 1)(A:(c.P.funcs[fi]?).any (·.norace)=false)(B:c.Mu≠c.Wg/\c.Mu≠c.Is/\c.Wg≠c.Is){x y:Operand}
  (D:lC ops j a (.store ty x y) d) (h1:ph.gp= .cnt) (g:ev a x= .pointer (some ⟨c.Is,i,none⟩)) (l:ev a y= .bool true) (h:ai (WJ c i) fi ops (j+1) n Q (aV a d undef) F {ph with stored:=true}):ai (WJ c i) fi ops j (n+1) Q a F ph:=by
 obtain ⟨o,p,hg,q,rfl⟩:=D
 refine eM p (by rw[h1];simp) fun w s k φ p0 _ hs e he f=>.inr ?_
 have hlen:=f.i.len
 have r:w.cell? ⟨c.Is,i,none⟩=some (.bool (s.is[i]'(by omega))):=by
  have:=hs.2.2
  simp[World.cell?,this,hlen,e]
 have t:w.frozen? ⟨c.Is,i,none⟩=false:=by
  have:=hs.2.2
  simp[World.frozen?,this]
 have u:(sizeOf ty).run c.P w= .ok 1 w:=by
  obtain ⟨inf,h1,h2⟩:=Option.map_eq_some_iff.1 z
  simp[Go.sizeOf,typeInfo,h1,h2]
 have v:Instr.sureAddr (.pointer (some ⟨c.Is,i,none⟩))=(Pure.pure ⟨c.Is,i,none⟩:Sem Addr):=rfl
 have E:(execOp a.eval o).run c.P w= .ok .skip (w.setCell ⟨c.Is,i,none⟩ (.bool true)):=by
  unfold execOp
  simp only[q,dW,g,l]
  simp[Instr.storeAt,v,storeVar,u,Value.cells,storeCells,Addr.add,r,t,run_store c.P w ⟨c.Is,i,none⟩ (.bool true) .plain rfl,Result.andThen]
 have G:(execOp a.eval o).events c.P w #[]=#[⟨.cell ⟨c.Is,i,none⟩,true,false⟩]:=by
  unfold execOp
  simp only[q,dW,g,l]
  simp[Instr.storeAt,v,storeVar,u,Value.cells,storeCells,Addr.add,r,t,events_store c.P w _ ⟨c.Is,i,none⟩ (.bool true) .plain rfl,run_store c.P w ⟨c.Is,i,none⟩ (.bool true) .plain rfl,Result.evThen]
 have H:seen c.P fi #[⟨.cell ⟨c.Is,i,none⟩,true,false⟩]=#[⟨.cell ⟨c.Is,i,none⟩,true,false⟩]:=by rw[seen_def];simp[seenStep,A]
 obtain ⟨C,S,W,L,m,hm⟩:=f.m
 refine ⟨undef,_,_,{s with is:=s.is.set i true},{ph with stored:=true},fun b K cs hb=>?_,hs.Fs B i true,.set _ (.inr (.inr rfl)),?_,.store rfl rfl ⟨h1,h1⟩,.inr c8,h⟩
 ·rw[stepG_none p (bV hg) hb.kind E]
  unfold listed
  rw[G,hb.fn,H]
 ·exact f.iK e he (by rw[h1];simp) (by simp[h1]) ⟨C,S,W,L,m,lA hm e _ (.inl (by rw[he]))⟩ (qW f.w e _ (.inl (by rw[he]))) rfl (fun I=>absurd h1 I)
end
theorem ai.shr {P:Program}{main:Bool}{S:Type}{JF:S->Goroutine->af->Prop}{fi:FuncId}{ops:Array Oper}{j n:Nat}{Q:Act->af->S->Prop}{a:Act}{F:af}{ph:S}{d:Option Tmp}{t f:TypeId}{k b:IntKind}{u m:Int}(v:Int)(g:dy P main (JF ph)){x y:Operand}
  (i:lC ops j a (.binOp .shr t x y f) d) (l:ev a x= .int k u) (p:ev a y= .int b m) (hm:0<=m) (c:u.fdiv (2 ^ min m.toNat k.bits)=v) (h:ai JF fi ops (j+1) n Q (aV a d (.int k v)) F ph):ai JF fi ops j (n+1) Q a F ph:=by
 obtain ⟨o,q,hg,r,rfl⟩:=i
 have e:¬m<0:=by omega
 have e1:execOp a.eval o=(do eqGuard .shr t x y (.int k u) (.int b m);pure (.value (<-binOp .shr t (.int k u) (.int b m))):Sem Next):=by
  unfold execOp
  simp only[r,dW,l,p]
  simp
 refine ai.plain g (.int k v) q hg (fun w=>?_) (fun w=>?_) h
 ·rw[e1];subst c;simp[eqGuard,binOp,Op.shift,e]
 ·rw[e1];subst c;simp[eqGuard,binOp,Op.shift,e]
theorem ai.lE {P:Program}{main:Bool}{S:Type}{JF:S->Goroutine->af->Prop}{fi:FuncId}{ops:Array Oper}{j n:Nat}{Q:Act->af->S->Prop}{a:Act}{F:af}{ph:S}{d:Option Tmp}{t b:TypeId}(u v:Int)(c:dy P main (JF ph)){x y:Operand}
  (e:lC ops j a (.binOp .shr t x y b) d) (f:ev a x= .int .i32 u) (g:ev a y= .int .u64 3) (i:u.fdiv 8=v) (h:ai JF fi ops (j+1) n Q (aV a d (.int .i32 v)) F ph):ai JF fi ops j (n+1) Q a F ph:=
 ai.shr v c e f g (by decide) i h
end Go.Sep
end
section
namespace Go.Proofs.YtipgiooobncfbaaGreatDoor
open Go Go.Sep Go.Proofs Go.Conc
open Go.ConcN (upd upd_same)
open Go.ConcM (muA msA)
open Go.ConcR (stA smA)
set_option maxRecDepth 100000
set_option maxHeartbeats 4000000
section
variable {Mu Wg Is n base T0 i : Nat} {bs : Nat → Bool} {st : Bool} {F : af}
theorem vC (w:World)(s:Sh)(h:cj (CY Mu Wg Is n bs base T0) w s):∃v,w.cell? ⟨Mu,0,none⟩=some v:=⟨_,h.mu.1⟩
theorem FA (c:Mu≠Wg/\Mu≠Is/\Wg≠Is)
  (d:cq Tryz.prog (WJ (CY Mu Wg Is n bs base T0) i) 183 #[.pointer (some (muA Mu))] F ⟨.idle,.cnt,st,1⟩ (fun v F' aF=>v= .tuple #[]/\F'=F/\aF=⟨.held,.cnt,st,0⟩)):
  cq Tryz.prog (WJ (CY Mu Wg Is n bs base T0) i) 165 #[.pointer (some (muA Mu))] F ⟨.idle,.cnt,st,0⟩ (fun v F' aF=>v= .tuple #[]/\F'=F/\aF=⟨.held,.cnt,st,0⟩):=by
 have a:=WJ.dQ (CY Mu Wg Is n bs base T0) i
 have hJ:∀ph:Ph,ph.gp= .cnt->Go.Sep.Closed Tryz.prog false (WJ (CY Mu Wg Is n bs base T0) i ph):=fun ph h=>Wk.closed (CY Mu Wg Is n bs base T0) i ph h
 refine cq.go (main:=false) a Tryz.func165 rfl Tryz.ntmps165 (by simp) fun A f hd hs=>?_
 have g:=hs 0
 clear hs
 repeat refine ax (a _) ?_
 refine cH a ?_
 refine vA oM ⟨_,_,_,rfl,(by first|rfl|simp only[*,go_sem,Int.reduceBEq,Int.reduceBNe]),rfl,by first|(simp only[*,go_sem,muA,msA,stA,smA,Int.reduceBEq,Int.reduceBNe];done)|(simp only[*,go_sem,muA,msA,stA,smA,Int.reduceBEq,Int.reduceBNe];rfl),rfl⟩ (by simp) (by simp) ?_
 refine ai.nil a ?_;try simp only[go_sem]
 repeat refine ax (a _) ?_
 refine cH a ?_
 refine ai.bh (hJ _ rfl) 3 (n:=1) _ rfl rfl ?_;simp only[*,go_sem,muA,msA,stA,smA,Int.reduceBEq,Int.reduceBNe]
 refine q9 0 1 q5 c ⟨_,_,_,rfl,(by first|rfl|simp only[*,go_sem,Int.reduceBEq,Int.reduceBNe]),rfl,by first|(simp only[*,go_sem,muA,msA,stA,smA,Int.reduceBEq,Int.reduceBNe];done)|(simp only[*,go_sem,muA,msA,stA,smA,Int.reduceBEq,Int.reduceBNe];rfl),rfl⟩ (by rfl) (by simp) (fun φ ms C S W L m he b hm=>⟨.held,⟨0,0,0,1,m,Es hm b _ (by rw[he]) rfl rfl⟩,?_⟩) (fun φ mu ms C S W L m he b hm j=>⟨.idle,⟨C,S,W,L,m,lA hm b _ (.inl (by rw[he]))⟩,?_⟩)
 ·refine ai.nil a ?_;try simp only[go_sem]
  repeat refine ax (a _) ?_
  refine cG (a _) (by simp only[*,go_sem,Int.reduceBEq,Int.reduceBNe]) ?_
  repeat refine ax (a _) ?_
  refine cG (a _) (by simp only[*,go_sem,Int.reduceBEq,Int.reduceBNe]) ?_
  repeat refine ax (a _) ?_
  refine cH a ?_
  refine q8 j7 ⟨_,_,_,rfl,(by first|rfl|simp only[*,go_sem,Int.reduceBEq,Int.reduceBNe]),rfl,by first|(simp only[*,go_sem,muA,msA,stA,smA,Int.reduceBEq,Int.reduceBNe];done)|(simp only[*,go_sem,muA,msA,stA,smA,Int.reduceBEq,Int.reduceBNe];rfl),rfl⟩ (by simp) (by simp) rfl ?_
  refine ai.nil a ?_;try simp only[go_sem]
  repeat refine ax (a _) ?_
  refine cH a ?_
  refine ai.bh (hJ _ rfl) 1 (n:=2) _ rfl rfl ?_;simp only[*,go_sem,muA,msA,stA,smA,Int.reduceBEq,Int.reduceBNe]
  refine rf ⟨Mu,0,none⟩ vo j8 vq ⟨_,rfl,(by first|rfl|simp only[*,go_sem,Int.reduceBEq,Int.reduceBNe]),rfl,rfl⟩ (by simp) (by simp only[*,go_sem,muA,msA,stA,smA,Int.reduceBEq,Int.reduceBNe]) vC ?_
  refine Af q4 ⟨_,_,_,rfl,(by first|rfl|simp only[*,go_sem,Int.reduceBEq,Int.reduceBNe]),rfl,by first|(simp only[*,go_sem,muA,msA,stA,smA,Int.reduceBEq,Int.reduceBNe];done)|(simp only[*,go_sem,muA,msA,stA,smA,Int.reduceBEq,Int.reduceBNe];rfl),rfl⟩ (by rfl) ?_
  refine ai.nil a ?_;try simp only[go_sem]
  refine eL ?_;try simp only[go_sem]
  exact mR rfl (by simp only[*,go_sem]) ⟨rfl,rfl,rfl⟩
 ·refine ai.nil a ?_;try simp only[go_sem]
  repeat refine ax (a _) ?_
  refine cn (a _) (by simp only[*,go_sem,Int.reduceBEq,Int.reduceBNe]) ?_
  refine cr (a _) ?_;try simp only[go_sem]
  repeat refine ax (a _) ?_
  refine cH a ?_
  refine ai.bh (hJ _ rfl) 1 (n:=1) _ rfl rfl ?_;simp only[*,go_sem,muA,msA,stA,smA,Int.reduceBEq,Int.reduceBNe]
  refine ai.fh (a _) rfl rfl rfl BR (by simp only[*,go_sem,muA]) d fun v F' aF e=>?_
  obtain ⟨rfl,rfl,rfl⟩:=e
  refine ai.nil a ?_
  exact j5 rfl (by simp only[*,go_sem]) ⟨rfl,rfl,rfl⟩
def ia (C S W:Nat)(nw:Int)(G:Nat):Mp:=if S=1 then .mK else if 0<C/\W=0 then .fC nw G else .fin
def FB (Mu n:Nat)(st:Bool)(F:af)(m:Nat)(a:Act)(F':af)(aF:Ph):Prop:=
 ∃(old:Int) (C S W L G:Nat),F'=F/\slot a 0= .pointer (some ⟨Mu,0,none⟩)/\slot a 4= .int .i32 old/\sz a=43/\a.defers=[]/\Wd old C S W L/\C<=3*n/\G<=m/\
   ((S=0/\L=0/\W=0/\0<C/\aF=⟨.fC old G,.cnt,st,1⟩)\/(¬(S=0/\L=0/\W=0/\0<C)/\aF=⟨.fin,.cnt,st,1⟩))
theorem FC (j:Mu≠Wg/\Mu≠Is/\Wg≠Is)(ae:n<67108864){nw:Int}{C S W G:Nat}(hw:Wd nw C S W 0)(hC:C<=3*n):
  cq Tryz.prog (WJ (CY Mu Wg Is n bs base T0) i) 185 #[.pointer (some (muA Mu)),.int .i32 nw] F ⟨ia C S W nw G,.cnt,st,1⟩ (fun v F' aF=>v= .tuple #[]/\F'=F/\aF=⟨.fin,.cnt,st,1⟩):=by
 have a:=WJ.dQ (CY Mu Wg Is n bs base T0) i
 have hJ:∀ph:Ph,ph.gp= .cnt->Go.Sep.Closed Tryz.prog false (WJ (CY Mu Wg Is n bs base T0) i ph):=fun ph h=>Wk.closed (CY Mu Wg Is n bs base T0) i ph h
 refine cq.go (main:=false) a Tryz.func185 rfl Tryz.ntmps185 (by simp) fun A z hd hs=>?_
 have B:=hs 0
 have k1:=hs 1
 clear hs
 have D:=hw.st.s
 have hW:=hw.st.w
 have w1:IntKind.i32.wrap (nw+1)=nw+1:=by have e0:=hw.st.eq;exact gH (by omega) (by omega)
 have E:Wd (nw+1) C S W 1:=by have e0:=hw.st.eq;exact wd ⟨by omega,by omega,hW,D⟩ (by omega)
 have N:dx (nw+1) 1=1:=E.a1
 repeat refine ax (a _) ?_
 refine cH a ?_
 refine ai.bh (hJ _ rfl) 4 (n:=0) _ rfl rfl ?_;simp only[*,go_sem,muA,msA,stA,smA,Int.reduceBEq,Int.reduceBNe]
 refine ai.nil a ?_;try simp only[go_sem]
 repeat refine ax (a _) ?_
 refine cn (a _) (by simp only[*,go_sem,Int.reduceBEq,Int.reduceBNe]) ?_
 refine cr (a _) ?_;try simp only[go_sem]
 rcases (by omega:S=1\/S=0) with rfl|rfl
 ·
  have b4:dx nw 4=4:=hw.a4
  repeat refine ax (a _) ?_
  refine cH a ?_
  refine ai.bh (hJ _ rfl) 3 (n:=0) _ rfl rfl ?_;simp only[*,go_sem,muA,msA,stA,smA,Int.reduceBEq,Int.reduceBNe]
  refine ai.nil a ?_;try simp only[go_sem]
  repeat refine ax (a _) ?_
  refine cn (a _) (by simp only[*,go_sem,Int.reduceBEq,Int.reduceBNe]) ?_
  repeat refine ax (a _) ?_
  refine cH a ?_
  refine ai.bh (hJ _ rfl) 3 (n:=1) _ rfl rfl ?_;simp only[*,go_sem,muA,msA,stA,smA,Int.reduceBEq,Int.reduceBNe]
  refine Ag (.bool true) (.int .i64 2) z4 j ⟨_,_,_,rfl,(by first|rfl|simp only[*,go_sem,Int.reduceBEq,Int.reduceBNe]),rfl,by first|(simp only[*,go_sem,muA,msA,stA,smA,Int.reduceBEq,Int.reduceBNe];done)|(simp only[*,go_sem,muA,msA,stA,smA,Int.reduceBEq,Int.reduceBNe];rfl),rfl⟩ (by rfl) (by simp[ia]) ?_
  refine ai.nil a ?_;try simp only[go_sem]
  exact j5 rfl (by simp only[*,go_sem]) ⟨rfl,rfl,rfl⟩
 ·have b4:dx nw 4=0:=hw.a4
  repeat refine ax (a _) ?_
  refine cH a ?_
  refine ai.bh (hJ _ rfl) 3 (n:=0) _ rfl rfl ?_;simp only[*,go_sem,muA,msA,stA,smA,Int.reduceBEq,Int.reduceBNe]
  refine ai.nil a ?_;try simp only[go_sem]
  repeat refine ax (a _) ?_
  refine cG (a _) (by simp only[*,go_sem,Int.reduceBEq,Int.reduceBNe]) ?_
  repeat refine ax (a _) ?_
  refine cH a ?_
  refine ai.bh (hJ _ rfl) 2 (n:=0) _ rfl rfl ?_;simp only[*,go_sem,muA,msA,stA,smA,Int.reduceBEq,Int.reduceBNe]
  refine ai.nil a ?_;try simp only[go_sem]
  repeat refine ax (a _) ?_
  refine iL a ?_
  refine oL a (fun m O F' aF=>FB Mu n st F m O F' aF) G ?_ ?_
  ·refine ⟨nw,C,0,W,0,G,rfl,by simp only[*,go_sem,muA],by simp only[*,go_sem],by simp only[*,go_sem],by simp only[*,go_sem],hw,hC,Nat.le_refl _,?_⟩
   by_cases f:0<C/\W=0
   ·exact .inl ⟨rfl,rfl,f.2,f.1,by simp[ia,f]⟩
   ·exact .inr ⟨fun x=>f ⟨x.2.2.2,x.2.2.1⟩,by simp[ia,f]⟩
  ·clear hw hC b4 N E w1 D hW B k1 z hd
   rintro m A F' aF ⟨old,C,S,W,L,G,rfl,B,al,z,hd,hw,hC,ao,P⟩
   repeat refine ax (a _) ?_
   refine iL a ?_
   have sh:old.fdiv 8=(C:Int):=hw.sh
   rcases P with ⟨rfl,rfl,rfl,k,rfl⟩|⟨ar,rfl⟩
   ·
    have Q:dx old 7=0:=hw.a7
    have H:((C:Int)==0)=false:=by simp;omega
    repeat refine ax (a _) ?_
    refine cH a ?_
    refine ai.bh (hJ _ rfl) 1 (n:=7) _ rfl rfl ?_;simp only[*,go_sem,muA,msA,stA,smA,Int.reduceBEq,Int.reduceBNe]
    refine ai.lE old (C:Int) (a _) ⟨_,rfl,(by first|rfl|simp only[*,go_sem,Int.reduceBEq,Int.reduceBNe]),rfl,rfl⟩ (by simp only[*,go_sem,muA,msA,stA,smA,Int.reduceBEq,Int.reduceBNe]) (by simp only[*,go_sem,muA,msA,stA,smA,Int.reduceBEq,Int.reduceBNe]) hw.sh ?_
    refine ai.bh (hJ _ rfl) 6 (n:=0) _ rfl rfl ?_;simp only[*,go_sem,muA,msA,stA,smA,Int.reduceBEq,Int.reduceBNe]
    refine ai.nil a ?_;try simp only[go_sem]
    repeat refine ax (a _) ?_
    refine cn (a _) (by simp only[*,go_sem,Int.reduceBEq,Int.reduceBNe]) ?_
    refine cr (a _) ?_;try simp only[go_sem]
    have a0:IntKind.i32.wrap (old - 8)=old - 8:=by have e0:=hw.st.eq;exact gH (by omega) (by omega)
    have R:Wd (old - 8) (C - 1) 0 0 0:=by have e0:=hw.st.eq;exact wd ⟨by omega,by omega,by omega,by omega⟩ (by omega)
    have o2:g8 (old - 8) 2=old - 8+2:=R.o2
    repeat refine ax (a _) ?_
    refine cH a ?_
    refine ai.bh (hJ _ rfl) 4 (n:=0) _ rfl rfl ?_;simp only[*,go_sem,muA,msA,stA,smA,Int.reduceBEq,Int.reduceBNe]
    refine ai.nil a ?_;try simp only[go_sem]
    repeat refine ax (a _) ?_
    refine cH a ?_
    refine ai.bh (hJ _ rfl) 5 (n:=1) _ rfl rfl ?_;simp only[*,go_sem,muA,msA,stA,smA,Int.reduceBEq,Int.reduceBNe]
    refine q9 old (old - 8+2) q5 j ⟨_,_,_,rfl,(by first|rfl|simp only[*,go_sem,Int.reduceBEq,Int.reduceBNe]),rfl,by first|(simp only[*,go_sem,muA,msA,stA,smA,Int.reduceBEq,Int.reduceBNe];done)|(simp only[*,go_sem,muA,msA,stA,smA,Int.reduceBEq,Int.reduceBNe];rfl),rfl⟩ (by rfl) (by simp) (fun φ ms T U V X l he o hm=>?_) (fun φ mu ms T U V X l he o hm Y=>?_)
    ·obtain ⟨rfl,rfl,rfl,rfl⟩:=hm.st.uniq hw.st
     refine ⟨.mJ,⟨_,_,_,_,l,EC hm o _ (by rw[he]) rfl rfl rfl rfl k⟩,?_⟩
     refine ai.nil a ?_;try simp only[go_sem]
     repeat refine ax (a _) ?_
     refine cG (a _) (by simp only[*,go_sem,Int.reduceBEq,Int.reduceBNe]) ?_
     repeat refine ax (a _) ?_
     refine cH a ?_
     refine ai.bh (hJ _ rfl) 3 (n:=1) _ rfl rfl ?_;simp only[*,go_sem,muA,msA,stA,smA,Int.reduceBEq,Int.reduceBNe]
     refine Ag (.bool false) (.int .i64 2) z4 j ⟨_,_,_,rfl,(by first|rfl|simp only[*,go_sem,Int.reduceBEq,Int.reduceBNe]),rfl,by first|(simp only[*,go_sem,muA,msA,stA,smA,Int.reduceBEq,Int.reduceBNe];done)|(simp only[*,go_sem,muA,msA,stA,smA,Int.reduceBEq,Int.reduceBNe];rfl),rfl⟩ (by rfl) (by simp) ?_
     refine ai.nil a ?_;try simp only[go_sem]
     refine eL ?_;try simp only[go_sem]
     exact mR rfl (by simp only[*,go_sem]) ⟨rfl,rfl,rfl⟩
    ·obtain ⟨Z,a2,ab⟩:=ED hm o {mp:=.fC mu (bG n φ ms),gp:=.cnt,stored:=st,deaf:=1} (by rw[he]) rfl
     have a3:bG n φ ms<G:=ab Y
     refine ⟨.fC mu (bG n φ ms),⟨_,_,_,_,l,Z⟩,?_⟩
     refine ai.nil a ?_;try simp only[go_sem]
     repeat refine ax (a _) ?_
     refine cn (a _) (by simp only[*,go_sem,Int.reduceBEq,Int.reduceBNe]) ?_
     refine cr (a _) ?_;try simp only[go_sem]
     repeat refine ax (a _) ?_
     refine cH a ?_
     refine ai.bh (hJ _ rfl) 3 (n:=2) _ rfl rfl ?_;simp only[*,go_sem,muA,msA,stA,smA,Int.reduceBEq,Int.reduceBNe]
     refine mU Fq mS ⟨_,rfl,(by first|rfl|simp only[*,go_sem,Int.reduceBEq,Int.reduceBNe]),rfl,rfl⟩ (by rfl) (by simp only[*,go_sem,muA,msA,stA,smA,Int.reduceBEq,Int.reduceBNe]) (fun c g d p q r t I J K e=>?_)
     have M:=wd e.st (by have:=e.bound;simp only[CY] at this;omega)
     by_cases b:q=0/\t=0/\r=0/\0<p
     ·obtain ⟨u,y,_⟩:=zH e K {mp:=.fC g (bG n c d),gp:=.cnt,stored:=st,deaf:=1} (by rw[J]) (.inl ⟨b.1,b.2.1,b.2.2.1,b.2.2.2,rfl⟩)
      have ad:bG n c d<=bG n φ ms:=y
      refine ⟨.fC g (bG n c d),⟨_,_,_,_,I,u⟩,?_⟩
      refine ai.bh (hJ _ rfl) 1 (n:=0) _ rfl rfl ?_;simp only[*,go_sem,muA,msA,stA,smA,Int.reduceBEq,Int.reduceBNe]
      refine ai.nil a ?_;try simp only[go_sem]
      exact ⟨bG n c d,by omega,g,p,q,r,t,bG n c d,rfl,(by simp only[*,go_sem,muA,msA,stA,smA,Int.reduceBEq,Int.reduceBNe]),(by simp only[*,go_sem,muA,msA,stA,smA,Int.reduceBEq,Int.reduceBNe]),(by simp only[*,go_sem,muA,msA,stA,smA,Int.reduceBEq,Int.reduceBNe]),(by simp only[*,go_sem,muA,msA,stA,smA,Int.reduceBEq,Int.reduceBNe]),M,e.bound,Nat.le_refl _,.inl ⟨b.1,b.2.1,b.2.2.1,b.2.2.2,rfl⟩⟩
     ·obtain ⟨u,y,_⟩:=zH e K {mp:=.fin,gp:=.cnt,stored:=st,deaf:=1} (by rw[J]) (.inr ⟨b,rfl⟩)
      have ad:bG n c d<=bG n φ ms:=y
      refine ⟨.fin,⟨_,_,_,_,I,u⟩,?_⟩
      refine ai.bh (hJ _ rfl) 1 (n:=0) _ rfl rfl ?_;simp only[*,go_sem,muA,msA,stA,smA,Int.reduceBEq,Int.reduceBNe]
      refine ai.nil a ?_;try simp only[go_sem]
      exact ⟨bG n c d,by omega,g,p,q,r,t,bG n c d,rfl,(by simp only[*,go_sem,muA,msA,stA,smA,Int.reduceBEq,Int.reduceBNe]),(by simp only[*,go_sem,muA,msA,stA,smA,Int.reduceBEq,Int.reduceBNe]),(by simp only[*,go_sem,muA,msA,stA,smA,Int.reduceBEq,Int.reduceBNe]),(by simp only[*,go_sem,muA,msA,stA,smA,Int.reduceBEq,Int.reduceBNe]),M,e.bound,Nat.le_refl _,.inr ⟨b,rfl⟩⟩
   ·
    by_cases k:C=0
    ·have H:((C:Int)==0)=true:=by simp[k]
     repeat refine ax (a _) ?_
     refine cH a ?_
     refine ai.bh (hJ _ rfl) 1 (n:=7) _ rfl rfl ?_;simp only[*,go_sem,muA,msA,stA,smA,Int.reduceBEq,Int.reduceBNe]
     refine ai.lE old (C:Int) (a _) ⟨_,rfl,(by first|rfl|simp only[*,go_sem,Int.reduceBEq,Int.reduceBNe]),rfl,rfl⟩ (by simp only[*,go_sem,muA,msA,stA,smA,Int.reduceBEq,Int.reduceBNe]) (by simp only[*,go_sem,muA,msA,stA,smA,Int.reduceBEq,Int.reduceBNe]) hw.sh ?_
     refine ai.bh (hJ _ rfl) 6 (n:=0) _ rfl rfl ?_;simp only[*,go_sem,muA,msA,stA,smA,Int.reduceBEq,Int.reduceBNe]
     refine ai.nil a ?_;try simp only[go_sem]
     repeat refine ax (a _) ?_
     refine cG (a _) (by simp only[*,go_sem,Int.reduceBEq,Int.reduceBNe]) ?_
     refine eL ?_;try simp only[go_sem]
     exact mR rfl (by simp only[*,go_sem]) ⟨rfl,rfl,rfl⟩
    ·have H:((C:Int)==0)=false:=by simp;omega
     have Q:=hw.a7
     have a5:(((4*S+(2*W+L):Nat):Int) != 0)=true:=by simp;omega
     repeat refine ax (a _) ?_
     refine cH a ?_
     refine ai.bh (hJ _ rfl) 1 (n:=7) _ rfl rfl ?_;simp only[*,go_sem,muA,msA,stA,smA,Int.reduceBEq,Int.reduceBNe]
     refine ai.lE old (C:Int) (a _) ⟨_,rfl,(by first|rfl|simp only[*,go_sem,Int.reduceBEq,Int.reduceBNe]),rfl,rfl⟩ (by simp only[*,go_sem,muA,msA,stA,smA,Int.reduceBEq,Int.reduceBNe]) (by simp only[*,go_sem,muA,msA,stA,smA,Int.reduceBEq,Int.reduceBNe]) hw.sh ?_
     refine ai.bh (hJ _ rfl) 6 (n:=0) _ rfl rfl ?_;simp only[*,go_sem,muA,msA,stA,smA,Int.reduceBEq,Int.reduceBNe]
     refine ai.nil a ?_;try simp only[go_sem]
     repeat refine ax (a _) ?_
     refine cG (a _) (by simp only[*,go_sem,Int.reduceBEq,Int.reduceBNe]) ?_
     refine eL ?_;try simp only[go_sem]
     exact mR rfl (by simp only[*,go_sem]) ⟨rfl,rfl,rfl⟩
theorem FD (d:Mu≠Wg/\Mu≠Is/\Wg≠Is)(g:n<67108864):
  cq Tryz.prog (WJ (CY Mu Wg Is n bs base T0) i) 166 #[.pointer (some (muA Mu))] F ⟨.held,.cnt,st,0⟩ (fun v F' aF=>v= .tuple #[]/\F'=F/\aF=⟨.fin,.cnt,st,0⟩):=by
 have a:=WJ.dQ (CY Mu Wg Is n bs base T0) i
 have hJ:∀ph:Ph,ph.gp= .cnt->Go.Sep.Closed Tryz.prog false (WJ (CY Mu Wg Is n bs base T0) i ph):=fun ph h=>Wk.closed (CY Mu Wg Is n bs base T0) i ph h
 refine cq.go (main:=false) a Tryz.func166 rfl Tryz.ntmps166 (by simp) fun A u hd hs=>?_
 have x:=hs 0
 clear hs
 repeat refine ax (a _) ?_
 refine cG (a _) (by simp only[*,go_sem,Int.reduceBEq,Int.reduceBNe]) ?_
 repeat refine ax (a _) ?_
 refine cH a ?_
 refine ai.bh (hJ _ rfl) 3 (n:=1) _ rfl rfl ?_;simp only[*,go_sem,muA,msA,stA,smA,Int.reduceBEq,Int.reduceBNe]
 refine mU Fp mS ⟨_,rfl,(by first|rfl|simp only[*,go_sem,Int.reduceBEq,Int.reduceBNe]),rfl,rfl⟩ (by rfl) (by simp only[*,go_sem,muA,msA,stA,smA,Int.reduceBEq,Int.reduceBNe]) (fun y z B D E G H j k l o=>⟨.held,⟨_,_,_,_,j,lA o l _ (.inl (by rw[k]))⟩,?_⟩)
 refine ai.nil a ?_;try simp only[go_sem]
 repeat refine ax (a _) ?_
 refine cH a ?_
 refine ai.bh (hJ _ rfl) 1 (n:=2) _ rfl rfl ?_;simp only[*,go_sem,muA,msA,stA,smA,Int.reduceBEq,Int.reduceBNe]
 refine rf ⟨Mu,0,none⟩ vo j8 vq ⟨_,rfl,(by first|rfl|simp only[*,go_sem,Int.reduceBEq,Int.reduceBNe]),rfl,rfl⟩ (by simp) (by simp only[*,go_sem,muA,msA,stA,smA,Int.reduceBEq,Int.reduceBNe]) vC ?_
 refine Fv z3 ⟨_,_,_,rfl,(by first|rfl|simp only[*,go_sem,Int.reduceBEq,Int.reduceBNe]),rfl,by first|(simp only[*,go_sem,muA,msA,stA,smA,Int.reduceBEq,Int.reduceBNe];done)|(simp only[*,go_sem,muA,msA,stA,smA,Int.reduceBEq,Int.reduceBNe];rfl),rfl⟩ (by rfl) ?_
 refine ai.nil a ?_;try simp only[go_sem]
 repeat refine ax (a _) ?_
 refine cH a ?_
 refine vA oM ⟨_,_,_,rfl,(by first|rfl|simp only[*,go_sem,Int.reduceBEq,Int.reduceBNe]),rfl,by first|(simp only[*,go_sem,muA,msA,stA,smA,Int.reduceBEq,Int.reduceBNe];done)|(simp only[*,go_sem,muA,msA,stA,smA,Int.reduceBEq,Int.reduceBNe];rfl),rfl⟩ (by simp) (by simp) ?_
 refine ai.nil a ?_;try simp only[go_sem]
 repeat refine ax (a _) ?_
 refine cH a ?_
 refine ai.bh (hJ _ rfl) 3 (n:=2) _ rfl rfl ?_;simp only[*,go_sem,muA,msA,stA,smA,Int.reduceBEq,Int.reduceBNe]
 refine vB (-1) vm d ⟨_,_,_,rfl,(by first|rfl|simp only[*,go_sem,Int.reduceBEq,Int.reduceBNe]),rfl,by first|(simp only[*,go_sem,muA,msA,stA,smA,Int.reduceBEq,Int.reduceBNe];done)|(simp only[*,go_sem,muA,msA,stA,smA,Int.reduceBEq,Int.reduceBNe];rfl),rfl⟩ (by rfl) (by simp) (fun φ mu ms C S W L m he e hm=>?_)
 have p:=zG hm e (by rw[he])
 subst p
 have hb:C<=3*n:=hm.bound
 have q:=hm.st.s
 have hW:=hm.st.w
 have b:IntKind.i32.wrap (mu+ -1)=mu - 1:=by have e0:=hm.st.eq;exact gH (by omega) (by omega)
 have f:St (mu - 1) C S W 0:=⟨by have e0:=hm.st.eq;omega,by omega,hW,q⟩
 have hw:Wd (mu - 1) C S W 0:=wd f (by omega)
 have c:b8 n (upd φ i ⟨ia C S W (mu - 1) (sm n φ Mp.wt+2*m),.cnt,st,1⟩) (mu - 1) ms C S W 0 m:=by
  refine EB hm e _ (by rw[he]) ?_
  by_cases h1:S=1
  ·exact .inl ⟨h1,by simp[ia,h1]⟩
  ·by_cases h2:0<C/\W=0
   ·exact .inr (.inl ⟨by omega,h2.1,h2.2,by simp[ia,h1,h2]⟩)
   ·exact .inr (.inr ⟨by omega,by omega,by simp[ia,h1,h2]⟩)
 refine ⟨ia C S W (mu - 1) (sm n φ Mp.wt+2*m),mu - 1,b,⟨_,_,_,_,m,c⟩,?_⟩
 refine ai.bh (hJ _ rfl) 1 (n:=0) _ rfl rfl ?_;simp only[*,go_sem,muA,msA,stA,smA,Int.reduceBEq,Int.reduceBNe]
 refine ai.nil a ?_;try simp only[go_sem]
 by_cases h0:mu - 1=0
 ·have e0:=f.eq
  have r:ia C S W (mu - 1) (sm n φ Mp.wt+2*m)= .fin:=by
   have:C=0:=by omega
   have:S=0:=by omega
   simp[ia, *]
  clear hw c b e0
  rw[r]
  rw[h0]
  repeat refine ax (a _) ?_
  refine cH a ?_
  refine ai.bh (hJ _ rfl) 2 (n:=0) _ rfl rfl ?_;simp only[*,go_sem,muA,msA,stA,smA,Int.reduceBEq,Int.reduceBNe]
  refine ai.nil a ?_;try simp only[go_sem]
  repeat refine ax (a _) ?_
  refine cn (a _) (by simp only[*,go_sem,Int.reduceBEq,Int.reduceBNe]) ?_
  refine cr (a _) ?_;try simp only[go_sem]
  repeat refine ax (a _) ?_
  refine cH a ?_
  refine q8 j7 ⟨_,_,_,rfl,(by first|rfl|simp only[*,go_sem,Int.reduceBEq,Int.reduceBNe]),rfl,by first|(simp only[*,go_sem,muA,msA,stA,smA,Int.reduceBEq,Int.reduceBNe];done)|(simp only[*,go_sem,muA,msA,stA,smA,Int.reduceBEq,Int.reduceBNe];rfl),rfl⟩ (by simp) (by simp) rfl ?_
  refine ai.nil a ?_;try simp only[go_sem]
  exact j5 rfl (by simp only[*,go_sem]) ⟨rfl,rfl,rfl⟩
 ·have I:(mu - 1 != 0)=true:=by simpa using h0
  clear c b h0
  repeat refine ax (a _) ?_
  refine cH a ?_
  refine ai.bh (hJ _ rfl) 2 (n:=0) _ rfl rfl ?_;simp only[*,go_sem,muA,msA,stA,smA,Int.reduceBEq,Int.reduceBNe]
  refine ai.nil a ?_;try simp only[go_sem]
  repeat refine ax (a _) ?_
  refine cG (a _) (by simp only[*,go_sem,Int.reduceBEq,Int.reduceBNe]) ?_
  repeat refine ax (a _) ?_
  refine cH a ?_
  refine ai.bh (hJ _ rfl) 2 (n:=1) _ rfl rfl ?_;simp only[*,go_sem,muA,msA,stA,smA,Int.reduceBEq,Int.reduceBNe]
  refine ai.fh (a _) rfl rfl rfl BS (by simp only[*,go_sem,muA]) (FC d g hw hb) fun v F' aF t=>?_
  obtain ⟨rfl,rfl,rfl⟩:=t
  refine ai.nil a ?_;try simp only[go_sem]
  repeat refine ax (a _) ?_
  refine cH a ?_
  refine q8 j7 ⟨_,_,_,rfl,(by first|rfl|simp only[*,go_sem,Int.reduceBEq,Int.reduceBNe]),rfl,by first|(simp only[*,go_sem,muA,msA,stA,smA,Int.reduceBEq,Int.reduceBNe];done)|(simp only[*,go_sem,muA,msA,stA,smA,Int.reduceBEq,Int.reduceBNe];rfl),rfl⟩ (by simp) (by simp) rfl ?_
  refine ai.nil a ?_;try simp only[go_sem]
  exact j5 rfl (by simp only[*,go_sem]) ⟨rfl,rfl,rfl⟩
end
end Go.Proofs.YtipgiooobncfbaaGreatDoor
end
section
namespace Go.Sep
open Go Go.Conc
def ri {S:Type}(b:Act->af->S->Prop)(Q:Ex->Act->af->S->Prop):Ex->Act->af->S->Prop
 | .normal,a,F,ph=>b a F ph
 |e,a,F,ph=>Q e a F ph
attribute [go_sem] ri
theorem jv {P:Program}{main:Bool}{S:Type}{JF:S->Goroutine->af->Prop}{fi:FuncId}{Q:Ex->Act->af->S->Prop}{a:Act}{F:af}{ph:S}(c:∀ph,dy P main (JF ph)){x y:Code}(b:Act->af->S->Prop)
  (h1:cw JF fi x (ri b Q) a F ph) (h2:∀a F ph,b a F ph->cw JF fi y Q a F ph):cw JF fi (.seq x y) Q a F ph:=
 ax (c _) (h1.mono fun e a F ph h=>by
  cases e with
  |normal=>exact h2 a F ph h
  |exit i=>exact h
  |ret=>exact h)
theorem rj {P:Program}{main:Bool}{S:Type}{JF:S->Goroutine->af->Prop}{fi:FuncId}{Q:Ex->Act->af->S->Prop}{a:Act}{F:af}{ph:S}(c:∀ph,dy P main (JF ph)){x:Code}(b:Act->af->S->Prop)
  (h1:cw JF fi x (ri b Q) a F ph) (h2:∀a F ph,b a F ph->Q .normal a F ph):cw JF fi x Q a F ph:=
 h1.mono fun e a F ph h=>by
  cases e with
  |normal=>exact h2 a F ph h
  |exit i=>exact h
  |ret=>exact h
theorem aQ {P:Program}{main:Bool}{S:Type}{JF:S->Goroutine->af->Prop}{fi:FuncId}{Q:Ex->Act->af->S->Prop}{a:Act}{F:af}{ph:S}(b:∀ph,dy P main (JF ph)){id:Nat}{ops:Array Oper}
  (h:∀K:Act->af->S->Prop,(∀a F ph,Q .normal a F ph->K a F ph)->ai JF fi ops 0 ops.size K a F ph):cw JF fi (.region id ops false) Q a F ph:=cH b (h _ fun _ _ _ h=>h)
theorem dV {S:Type}{b:Act->af->S->Prop}{Q:Ex->Act->af->S->Prop}{a:Act}{F:af}{ph:S}(h:b a F ph):ri b Q .normal a F ph:=h
theorem jU {S:Type}{I:Nat->Act->af->S->Prop}{n:Nat}{Q:Ex->Act->af->S->Prop}{a:Act}{F:af}{ph:S}(h:∃m,m<n/\I m a F ph):vk I n Q .normal a F ph:=h
theorem FE {x:Int}(h1: -9223372036854775808<=x)(h2:x<9223372036854775808):IntKind.i64.wrap x=x:=by
 unfold IntKind.wrap
 simp[IntKind.bits,IntKind.signed]
 omega
end Go.Sep
namespace Go.Proofs.YtipgiooobncfbaaGreatDoor
open Go Go.Sep Go.Proofs Go.Conc
open Go.ConcN (upd upd_same)
open Go.ConcM (muA msA)
open Go.ConcR (stA smA)
set_option maxRecDepth 100000
set_option maxHeartbeats 8000000
set_option linter.all false
def rm (Mu n:Nat)(st:Bool)(F:af)(m:Nat)(a:Act)(F':af)(ph:Ph):Prop:=
 ∃(wt it old:Int) (sv aw:Bool) (C S W L G:Nat),F'=F/\slot a 0= .pointer (some ⟨Mu,0,none⟩)/\slot a 2= .int .i64 wt/\slot a 3= .bool sv/\slot a 4= .bool aw/\slot a 5= .int .i64 it/\slot a 6= .int .i32 old/\sz a=139/\a.defers=[]/\
  Wd old C S W L/\C<=3*n/\0<=it/\it<=4/\(sv=true->aw=true)/\(aw=true->S=0/\W=1)/\8*G+(5 - it).toNat<=m/\ph=⟨.want aw old G,.cnt,st,1⟩
def rq (Mu:Nat)(st:Bool)(F:af)(a:Act)(F':af)(ph:Ph):Prop:=F'=F/\slot a 0= .pointer (some ⟨Mu,0,none⟩)/\sz a=139/\a.defers=[]/\ph=⟨.held,.cnt,st,1⟩
def FF (Mu:Nat)(st:Bool)(F:af)(wt it:Int)(sv:Bool)(G:Nat)(a:Act)(F':af)(ph:Ph):Prop:=
 ∃(aw:Bool) (o:Int) (b:Nat),F'=F/\slot a 0= .pointer (some ⟨Mu,0,none⟩)/\slot a 2= .int .i64 wt/\slot a 3= .bool sv/\slot a 4= .bool aw/\slot a 5= .int .i64 it/\sz a=139/\a.defers=[]/\(sv=true->aw=true)/\b<=G/\ph=⟨.want aw o b,.cnt,st,1⟩
def oP (Mu:Nat)(st:Bool)(F:af)(wt it old:Int)(x:Option Int)(sv aw:Bool)(G:Nat)(a:Act)(F':af)(ph:Ph):Prop:=
 F'=F/\slot a 0= .pointer (some ⟨Mu,0,none⟩)/\slot a 2= .int .i64 wt/\slot a 3= .bool sv/\slot a 4= .bool aw/\slot a 5= .int .i64 it/\slot a 6= .int .i32 old/\(∀y,x=some y->slot a 7= .int .i32 y)/\sz a=139/\a.defers=[]/\ph=⟨.want aw old G,.cnt,st,1⟩
def Ai (Mu:Nat)(st:Bool)(F:af)(sv:Bool)(mp:Mp)(a:Act)(F':af)(ph:Ph):Prop:=
 ∃wt:Int,F'=F/\slot a 0= .pointer (some ⟨Mu,0,none⟩)/\slot a 2= .int .i64 wt/\slot a 3= .bool sv/\sz a=139/\a.defers=[]/\ph=⟨mp,.cnt,st,1⟩
def Aj (Mu:Nat)(st:Bool)(F:af)(mp:Mp)(a:Act)(F':af)(ph:Ph):Prop:=
 ∃(wt:Int) (sv:Bool),F'=F/\slot a 0= .pointer (some ⟨Mu,0,none⟩)/\slot a 2= .int .i64 wt/\slot a 3= .bool sv/\sz a=139/\a.defers=[]/\ph=⟨mp,.cnt,st,1⟩
def FG (Mu:Nat)(st:Bool)(F:af)(y:Bool)(a:Act)(F':af)(ph:Ph):Prop:=
 ∃e:Bool,F'=F/\slot a 0= .pointer (some ⟨Mu,0,none⟩)/\slot a 9= .int .i32 (-7)/\slot a 123= .bool e/\sz a=139/\a.defers=[]/\(e=false->y=true)/\ph=⟨.jr y,.cnt,st,1⟩
section
variable {Mu Wg Is n base T0 i : Nat} {bs : Nat → Bool} {st : Bool} {F : af}
theorem FH (a8:Mu≠Wg/\Mu≠Is/\Wg≠Is)(fb:n<67108864):
  cq Tryz.prog (WJ (CY Mu Wg Is n bs base T0) i) 183 #[.pointer (some (muA Mu))] F ⟨.idle,.cnt,st,1⟩ (fun v F' aF=>v= .tuple #[]/\F'=F/\aF=⟨.held,.cnt,st,0⟩):=by
 have a:=WJ.dQ (CY Mu Wg Is n bs base T0) i
 have hJ:∀ph:Ph,ph.gp= .cnt->Go.Sep.Closed Tryz.prog false (WJ (CY Mu Wg Is n bs base T0) i ph):=fun ph h=>Wk.closed (CY Mu Wg Is n bs base T0) i ph h
 refine cq.go (main:=false) a Tryz.func183 rfl Tryz.ntmps183 (by simp) fun A f hd hs=>?_
 have g:=hs 0
 clear hs
 repeat refine ax (a _) ?_
 refine aQ a fun K b=>?_
 refine ai.bh (hJ _ rfl) 1 (n:=0) _ rfl rfl ?_;simp only[*,go_sem,-b,-a,-hJ,muA,msA,stA,smA,Int.reduceBEq,Int.reduceBNe]
 refine ai.nil a (b _ _ _ ?_);clear b K
 repeat refine ax (a _) ?_
 refine aQ a fun K b=>?_
 refine ai.bh (hJ _ rfl) 1 (n:=0) _ rfl rfl ?_;simp only[*,go_sem,-b,-a,-hJ,muA,msA,stA,smA,Int.reduceBEq,Int.reduceBNe]
 refine ai.nil a (b _ _ _ ?_);clear b K
 repeat refine ax (a _) ?_
 refine aQ a fun K b=>?_
 refine ai.bh (hJ _ rfl) 1 (n:=0) _ rfl rfl ?_;simp only[*,go_sem,-b,-a,-hJ,muA,msA,stA,smA,Int.reduceBEq,Int.reduceBNe]
 refine ai.nil a (b _ _ _ ?_);clear b K
 repeat refine ax (a _) ?_
 refine aQ a fun K b=>?_
 refine ai.bh (hJ _ rfl) 1 (n:=0) _ rfl rfl ?_;simp only[*,go_sem,-b,-a,-hJ,muA,msA,stA,smA,Int.reduceBEq,Int.reduceBNe]
 refine ai.nil a (b _ _ _ ?_);clear b K
 repeat refine ax (a _) ?_
 refine aQ a fun K b=>?_
 refine ai.bh (hJ _ rfl) 3 (n:=2) _ rfl rfl ?_;simp only[*,go_sem,-b,-a,-hJ,muA,msA,stA,smA,Int.reduceBEq,Int.reduceBNe]
 refine mU q6 mS ⟨_,rfl,(by first|(simp only[*,go_sem,-b,-a,-hJ];done)|rfl),rfl,rfl⟩ (by rfl) (by simp only[*,go_sem,-b,-a,-hJ,muA,msA,stA,smA,Int.reduceBEq,Int.reduceBNe]) (fun φ mu ms C S W L m he c hm=>⟨.want false mu (bG n φ ms),⟨_,_,_,_,m,Et hm c _ (by rw[he]) rfl⟩,?_⟩)
 have hw:=wd hm.st (by have:C<=3*n:=hm.bound;omega)
 have hC:C<=3*n:=hm.bound
 refine ai.bh (hJ _ rfl) 1 (n:=0) _ rfl rfl ?_;simp only[*,go_sem,-b,-a,-hJ,muA,msA,stA,smA,Int.reduceBEq,Int.reduceBNe]
 refine ai.nil a (b _ _ _ ?_);clear b K
 refine jv a (rq Mu st F) ?_ ?_
 ·repeat refine ax (a _) ?_
  refine iL a ?_
  refine oL a (rm Mu n st F) (8*bG n φ ms+5) ?_ ?_
  ·exact ⟨0,0,mu,false,false,C,S,W,L,bG n φ ms,rfl,(by simp only[*,go_sem,-a,-hJ,muA,msA,stA,smA,Int.reduceBEq,Int.reduceBNe]),(by simp only[*,go_sem,-a,-hJ,muA,msA,stA,smA,Int.reduceBEq,Int.reduceBNe]),(by simp only[*,go_sem,-a,-hJ,muA,msA,stA,smA,Int.reduceBEq,Int.reduceBNe]),(by simp only[*,go_sem,-a,-hJ,muA,msA,stA,smA,Int.reduceBEq,Int.reduceBNe]),(by simp only[*,go_sem,-a,-hJ,muA,msA,stA,smA,Int.reduceBEq,Int.reduceBNe]),(by simp only[*,go_sem,-a,-hJ,muA,msA,stA,smA,Int.reduceBEq,Int.reduceBNe]),(by simp only[*,go_sem,-a,-hJ,muA,msA,stA,smA,Int.reduceBEq,Int.reduceBNe]),(by simp only[*,go_sem,-a,-hJ,muA,msA,stA,smA,Int.reduceBEq,Int.reduceBNe]),hw,hC,by omega,by omega,by simp,by simp,by simp,rfl⟩
  ·clear hw hC hm c he f hd g
   rintro m A F' aF ⟨wt,it,old,sv,aw,C,S,W,L,G,rfl,g,o,p,D,E,J,f,hd,hw,hC,fg,fi,X,Y,fp,rfl⟩
   have cS:S=0\/S=1:=by have:=hw.st.s;omega
   have a9:L=0\/L=1:=by have:=hw.st.l;omega
   have bk:W=0\/W=1:=by have:=hw.st.w;omega
   repeat refine ax (a _) ?_
   refine iL a ?_
   refine jv a (oP Mu st F' wt it old none sv aw G) ?_ ?_
   ·
    by_cases Z:S=0/\L=1
    ·obtain ⟨rfl,rfl⟩:=Z
     have b5:dx old 5=1:=hw.a5
     repeat refine ax (a _) ?_
     refine aQ a fun K b=>?_
     refine ai.bh (hJ _ rfl) 5 (n:=2) _ rfl rfl ?_;simp only[*,go_sem,-b,-a,-hJ,muA,msA,stA,smA,Int.reduceBEq,Int.reduceBNe]
     refine Fy it Fb ⟨_,_,_,rfl,(by first|(simp only[*,go_sem,-b,-a,-hJ];done)|rfl),rfl,by first|(simp only[*,go_sem,-b,-a,-hJ,muA,msA,stA,smA,Int.reduceBEq,Int.reduceBNe];done)|(simp only[*,go_sem,-b,-a,-hJ,muA,msA,stA,smA,Int.reduceBEq,Int.reduceBNe];rfl),rfl⟩ (by simp) fun t ht=>?_
     refine ai.bh (hJ _ rfl) 1 (n:=0) _ rfl rfl ?_;simp only[*,go_sem,-b,-a,-hJ,muA,msA,stA,smA,Int.reduceBEq,Int.reduceBNe]
     refine ai.nil a (b _ _ _ ?_);clear b K
     cases t
     ·repeat refine ax (a _) ?_
      refine cn (a _) (by simp only[*,go_sem,-a,-hJ,Int.reduceBEq,Int.reduceBNe]) ?_
      refine cr (a _) ?_
      exact dV ⟨rfl,(by simp only[*,go_sem,-a,-hJ,muA,msA,stA,smA,Int.reduceBEq,Int.reduceBNe]),(by simp only[*,go_sem,-a,-hJ,muA,msA,stA,smA,Int.reduceBEq,Int.reduceBNe]),(by simp only[*,go_sem,-a,-hJ,muA,msA,stA,smA,Int.reduceBEq,Int.reduceBNe]),(by simp only[*,go_sem,-a,-hJ,muA,msA,stA,smA,Int.reduceBEq,Int.reduceBNe]),(by simp only[*,go_sem,-a,-hJ,muA,msA,stA,smA,Int.reduceBEq,Int.reduceBNe]),(by simp only[*,go_sem,-a,-hJ,muA,msA,stA,smA,Int.reduceBEq,Int.reduceBNe]),by simp,(by simp only[*,go_sem,-a,-hJ,muA,msA,stA,smA,Int.reduceBEq,Int.reduceBNe]),(by simp only[*,go_sem,-a,-hJ,muA,msA,stA,smA,Int.reduceBEq,Int.reduceBNe]),rfl⟩
     ·have fr:=ht rfl
      repeat refine ax (a _) ?_
      refine cG (a _) (by simp only[*,go_sem,-a,-hJ,Int.reduceBEq,Int.reduceBNe]) ?_
      refine jv a (FF Mu st F' wt it sv G) ?_ ?_
      ·cases aw
       ·obtain rfl:sv=false:=by cases sv<;>simp_all
        rcases bk with rfl|rfl
        ·have b2:dx old 2=0:=hw.a2
         by_cases ea:C=0
         ·have bS:((C:Int) != 0)=false:=by simp[ea]
          repeat refine ax (a _) ?_
          refine aQ a fun K b=>?_
          refine ai.bh (hJ _ rfl) 9 (n:=12) _ rfl rfl ?_;simp only[*,go_sem,-b,-a,-hJ,muA,msA,stA,smA,Int.reduceBEq,Int.reduceBNe]
          refine ai.lE old (C:Int) (a _) ⟨_,rfl,(by first|(simp only[*,go_sem,-b,-a,-hJ];done)|rfl),rfl,rfl⟩ (by simp only[*,go_sem,-b,-a,-hJ,muA,msA,stA,smA,Int.reduceBEq,Int.reduceBNe]) (by simp only[*,go_sem,-b,-a,-hJ,muA,msA,stA,smA,Int.reduceBEq,Int.reduceBNe]) hw.sh ?_
          refine ai.bh (hJ _ rfl) 11 (n:=0) _ rfl rfl ?_;simp only[*,go_sem,-b,-a,-hJ,muA,msA,stA,smA,Int.reduceBEq,Int.reduceBNe]
          refine ai.nil a (b _ _ _ ?_);clear b K
          repeat refine ax (a _) ?_
          refine cn (a _) (by simp only[*,go_sem,-a,-hJ,Int.reduceBEq,Int.reduceBNe]) ?_
          refine cr (a _) ?_
          exact dV ⟨false,old,G,rfl,(by simp only[*,go_sem,-a,-hJ,muA,msA,stA,smA,Int.reduceBEq,Int.reduceBNe]),(by simp only[*,go_sem,-a,-hJ,muA,msA,stA,smA,Int.reduceBEq,Int.reduceBNe]),(by simp only[*,go_sem,-a,-hJ,muA,msA,stA,smA,Int.reduceBEq,Int.reduceBNe]),(by simp only[*,go_sem,-a,-hJ,muA,msA,stA,smA,Int.reduceBEq,Int.reduceBNe]),(by simp only[*,go_sem,-a,-hJ,muA,msA,stA,smA,Int.reduceBEq,Int.reduceBNe]),(by simp only[*,go_sem,-a,-hJ,muA,msA,stA,smA,Int.reduceBEq,Int.reduceBNe]),(by simp only[*,go_sem,-a,-hJ,muA,msA,stA,smA,Int.reduceBEq,Int.reduceBNe]),by simp,Nat.le_refl _,rfl⟩
         ·have bS:((C:Int) != 0)=true:=by simp;omega
          have o2:g8 old 2=old+2:=hw.o2
          repeat refine ax (a _) ?_
          refine aQ a fun K b=>?_
          refine ai.bh (hJ _ rfl) 9 (n:=12) _ rfl rfl ?_;simp only[*,go_sem,-b,-a,-hJ,muA,msA,stA,smA,Int.reduceBEq,Int.reduceBNe]
          refine ai.lE old (C:Int) (a _) ⟨_,rfl,(by first|(simp only[*,go_sem,-b,-a,-hJ];done)|rfl),rfl,rfl⟩ (by simp only[*,go_sem,-b,-a,-hJ,muA,msA,stA,smA,Int.reduceBEq,Int.reduceBNe]) (by simp only[*,go_sem,-b,-a,-hJ,muA,msA,stA,smA,Int.reduceBEq,Int.reduceBNe]) hw.sh ?_
          refine ai.bh (hJ _ rfl) 9 (n:=2) _ rfl rfl ?_;simp only[*,go_sem,-b,-a,-hJ,muA,msA,stA,smA,Int.reduceBEq,Int.reduceBNe]
          refine q9 old (old+2) q5 a8 ⟨_,_,_,rfl,(by first|(simp only[*,go_sem,-b,-a,-hJ];done)|rfl),rfl,by first|(simp only[*,go_sem,-b,-a,-hJ,muA,msA,stA,smA,Int.reduceBEq,Int.reduceBNe];done)|(simp only[*,go_sem,-b,-a,-hJ,muA,msA,stA,smA,Int.reduceBEq,Int.reduceBNe];rfl),rfl⟩ (by rfl) (by simp) (fun φ ms b0 ar b1 ab q he c hm=>?_) (fun φ mu ms b0 ar b1 ab q he c hm dp=>?_)
          ·obtain ⟨rfl,rfl,rfl,rfl⟩:=hm.st.uniq hw.st
           refine ⟨.want true old G,⟨_,_,_,_,q,Eu hm c _ (by rw[he]) rfl rfl rfl rfl rfl⟩,?_⟩
           refine ai.bh (hJ _ rfl) 1 (n:=0) _ rfl rfl ?_;simp only[*,go_sem,-b,-a,-hJ,muA,msA,stA,smA,Int.reduceBEq,Int.reduceBNe]
           refine ai.nil a (b _ _ _ ?_);clear b K
           repeat refine ax (a _) ?_
           refine cG (a _) (by simp only[*,go_sem,-a,-hJ,Int.reduceBEq,Int.reduceBNe]) ?_
           repeat refine ax (a _) ?_
           refine aQ a fun K b=>?_
           refine ai.bh (hJ _ rfl) 1 (n:=0) _ rfl rfl ?_;simp only[*,go_sem,-b,-a,-hJ,muA,msA,stA,smA,Int.reduceBEq,Int.reduceBNe]
           refine ai.nil a (b _ _ _ ?_);clear b K
           exact dV ⟨true,old,G,rfl,(by simp only[*,go_sem,-a,-hJ,muA,msA,stA,smA,Int.reduceBEq,Int.reduceBNe]),(by simp only[*,go_sem,-a,-hJ,muA,msA,stA,smA,Int.reduceBEq,Int.reduceBNe]),(by simp only[*,go_sem,-a,-hJ,muA,msA,stA,smA,Int.reduceBEq,Int.reduceBNe]),(by simp only[*,go_sem,-a,-hJ,muA,msA,stA,smA,Int.reduceBEq,Int.reduceBNe]),(by simp only[*,go_sem,-a,-hJ,muA,msA,stA,smA,Int.reduceBEq,Int.reduceBNe]),(by simp only[*,go_sem,-a,-hJ,muA,msA,stA,smA,Int.reduceBEq,Int.reduceBNe]),(by simp only[*,go_sem,-a,-hJ,muA,msA,stA,smA,Int.reduceBEq,Int.reduceBNe]),by simp,Nat.le_refl _,rfl⟩
          ·obtain ⟨M,ba,bl⟩:=qU hm c {mp:=.want false mu (bG n φ ms),gp:=.cnt,stored:=st,deaf:=1} (by rw[he]) rfl
           refine ⟨.want false mu (bG n φ ms),⟨_,_,_,_,q,M⟩,?_⟩
           refine ai.bh (hJ _ rfl) 1 (n:=0) _ rfl rfl ?_;simp only[*,go_sem,-b,-a,-hJ,muA,msA,stA,smA,Int.reduceBEq,Int.reduceBNe]
           refine ai.nil a (b _ _ _ ?_);clear b K
           repeat refine ax (a _) ?_
           refine cn (a _) (by simp only[*,go_sem,-a,-hJ,Int.reduceBEq,Int.reduceBNe]) ?_
           refine cr (a _) ?_
           exact dV ⟨false,mu,bG n φ ms,rfl,(by simp only[*,go_sem,-a,-hJ,muA,msA,stA,smA,Int.reduceBEq,Int.reduceBNe]),(by simp only[*,go_sem,-a,-hJ,muA,msA,stA,smA,Int.reduceBEq,Int.reduceBNe]),(by simp only[*,go_sem,-a,-hJ,muA,msA,stA,smA,Int.reduceBEq,Int.reduceBNe]),(by simp only[*,go_sem,-a,-hJ,muA,msA,stA,smA,Int.reduceBEq,Int.reduceBNe]),(by simp only[*,go_sem,-a,-hJ,muA,msA,stA,smA,Int.reduceBEq,Int.reduceBNe]),(by simp only[*,go_sem,-a,-hJ,muA,msA,stA,smA,Int.reduceBEq,Int.reduceBNe]),(by simp only[*,go_sem,-a,-hJ,muA,msA,stA,smA,Int.reduceBEq,Int.reduceBNe]),by simp,ba,rfl⟩
        ·have b2:dx old 2=2:=hw.a2
         repeat refine ax (a _) ?_
         refine aQ a fun K b=>?_
         refine ai.bh (hJ _ rfl) 21 (n:=0) _ rfl rfl ?_;simp only[*,go_sem,-b,-a,-hJ,muA,msA,stA,smA,Int.reduceBEq,Int.reduceBNe]
         refine ai.nil a (b _ _ _ ?_);clear b K
         repeat refine ax (a _) ?_
         refine cn (a _) (by simp only[*,go_sem,-a,-hJ,Int.reduceBEq,Int.reduceBNe]) ?_
         refine cr (a _) ?_
         exact dV ⟨false,old,G,rfl,(by simp only[*,go_sem,-a,-hJ,muA,msA,stA,smA,Int.reduceBEq,Int.reduceBNe]),(by simp only[*,go_sem,-a,-hJ,muA,msA,stA,smA,Int.reduceBEq,Int.reduceBNe]),(by simp only[*,go_sem,-a,-hJ,muA,msA,stA,smA,Int.reduceBEq,Int.reduceBNe]),(by simp only[*,go_sem,-a,-hJ,muA,msA,stA,smA,Int.reduceBEq,Int.reduceBNe]),(by simp only[*,go_sem,-a,-hJ,muA,msA,stA,smA,Int.reduceBEq,Int.reduceBNe]),(by simp only[*,go_sem,-a,-hJ,muA,msA,stA,smA,Int.reduceBEq,Int.reduceBNe]),(by simp only[*,go_sem,-a,-hJ,muA,msA,stA,smA,Int.reduceBEq,Int.reduceBNe]),by simp,Nat.le_refl _,rfl⟩
       ·repeat refine ax (a _) ?_
        refine aQ a fun K b=>?_
        refine ai.bh (hJ _ rfl) 21 (n:=0) _ rfl rfl ?_;simp only[*,go_sem,-b,-a,-hJ,muA,msA,stA,smA,Int.reduceBEq,Int.reduceBNe]
        refine ai.nil a (b _ _ _ ?_);clear b K
        repeat refine ax (a _) ?_
        refine cn (a _) (by simp only[*,go_sem,-a,-hJ,Int.reduceBEq,Int.reduceBNe]) ?_
        refine cr (a _) ?_
        exact dV ⟨true,old,G,rfl,(by simp only[*,go_sem,-a,-hJ,muA,msA,stA,smA,Int.reduceBEq,Int.reduceBNe]),(by simp only[*,go_sem,-a,-hJ,muA,msA,stA,smA,Int.reduceBEq,Int.reduceBNe]),(by simp only[*,go_sem,-a,-hJ,muA,msA,stA,smA,Int.reduceBEq,Int.reduceBNe]),(by simp only[*,go_sem,-a,-hJ,muA,msA,stA,smA,Int.reduceBEq,Int.reduceBNe]),(by simp only[*,go_sem,-a,-hJ,muA,msA,stA,smA,Int.reduceBEq,Int.reduceBNe]),(by simp only[*,go_sem,-a,-hJ,muA,msA,stA,smA,Int.reduceBEq,Int.reduceBNe]),(by simp only[*,go_sem,-a,-hJ,muA,msA,stA,smA,Int.reduceBEq,Int.reduceBNe]),by simp,Nat.le_refl _,rfl⟩
      ·clear g o p D E J f hd b5
       rintro A d ad ⟨bm,o2,eb,rfl,g,o,p,D,E,f,hd,ec,fs,rfl⟩
       have ft:IntKind.i64.wrap (it+1)=it+1:=FE (by omega) (by omega)
       repeat refine ax (a _) ?_
       refine aQ a fun K b=>?_
       refine ai.entry _ (a _) Fc ⟨_,_,_,rfl,(by first|(simp only[*,go_sem,-b,-a,-hJ];done)|rfl),rfl,by first|(simp only[*,go_sem,-b,-a,-hJ,muA,msA,stA,smA,Int.reduceBEq,Int.reduceBNe];done)|(simp only[*,go_sem,-b,-a,-hJ,muA,msA,stA,smA,Int.reduceBEq,Int.reduceBNe];rfl),rfl⟩ ?_
       refine ai.nil a (b _ _ _ ?_);clear b K
       repeat refine ax (a _) ?_
       refine aQ a fun K b=>?_
       refine ai.bh (hJ _ rfl) 3 (n:=0) _ rfl rfl ?_;simp only[*,go_sem,-b,-a,-hJ,muA,msA,stA,smA,Int.reduceBEq,Int.reduceBNe]
       refine ai.nil a (b _ _ _ ?_);clear b K
       repeat refine ax (a _) ?_
       refine aQ a fun K b=>?_
       refine ai.bh (hJ _ rfl) 3 (n:=2) _ rfl rfl ?_;simp only[*,go_sem,-b,-a,-hJ,muA,msA,stA,smA,Int.reduceBEq,Int.reduceBNe]
       refine mU q6 mS ⟨_,rfl,(by first|(simp only[*,go_sem,-b,-a,-hJ];done)|rfl),rfl,rfl⟩ (by rfl) (by simp only[*,go_sem,-b,-a,-hJ,muA,msA,stA,smA,Int.reduceBEq,Int.reduceBNe]) (fun φ mu ms Q ao bo ca cb he c hm=>?_)
       obtain ⟨M,ba,bl⟩:=qU hm c {mp:=.want bm mu (bG n φ ms),gp:=.cnt,stored:=st,deaf:=1} (by rw[he]) rfl
       have ae:=wd hm.st (by have:Q<=3*n:=hm.bound;omega)
       have bb:Q<=3*n:=hm.bound
       have cd:bG n φ ms<=eb:=ba
       have cf:bm=true->ao=0/\bo=1:=fun e=>by subst e;exact zE hm c (by rw[he])
       refine ⟨.want bm mu (bG n φ ms),⟨_,_,_,_,cb,M⟩,?_⟩
       refine ai.bh (hJ _ rfl) 1 (n:=0) _ rfl rfl ?_;simp only[*,go_sem,-b,-a,-hJ,muA,msA,stA,smA,Int.reduceBEq,Int.reduceBNe]
       refine ai.nil a (b _ _ _ ?_);clear b K
       refine mQ ?_
       change ∃q,q<m/\rm Mu n st d q _ _ _
       exact ⟨8*bG n φ ms+(5 - (it+1)).toNat,by omega,wt,it+1,mu,sv,bm,Q,ao,bo,ca,bG n φ ms,rfl,(by simp only[*,go_sem,-a,-hJ,muA,msA,stA,smA,Int.reduceBEq,Int.reduceBNe]),(by simp only[*,go_sem,-a,-hJ,muA,msA,stA,smA,Int.reduceBEq,Int.reduceBNe]),(by simp only[*,go_sem,-a,-hJ,muA,msA,stA,smA,Int.reduceBEq,Int.reduceBNe]),(by simp only[*,go_sem,-a,-hJ,muA,msA,stA,smA,Int.reduceBEq,Int.reduceBNe]),(by simp only[*,go_sem,-a,-hJ,muA,msA,stA,smA,Int.reduceBEq,Int.reduceBNe]),(by simp only[*,go_sem,-a,-hJ,muA,msA,stA,smA,Int.reduceBEq,Int.reduceBNe]),(by simp only[*,go_sem,-a,-hJ,muA,msA,stA,smA,Int.reduceBEq,Int.reduceBNe]),(by simp only[*,go_sem,-a,-hJ,muA,msA,stA,smA,Int.reduceBEq,Int.reduceBNe]),ae,bb,by omega,by omega,ec,cf,Nat.le_refl _,rfl⟩
    ·have b5:=hw.a5
     have cl:(((4*S+L:Nat):Int)==1)=false:=by simp;omega
     repeat refine ax (a _) ?_
     refine aQ a fun K b=>?_
     refine ai.bh (hJ _ rfl) 7 (n:=0) _ rfl rfl ?_;simp only[*,go_sem,-b,-a,-hJ,muA,msA,stA,smA,Int.reduceBEq,Int.reduceBNe]
     refine ai.nil a (b _ _ _ ?_);clear b K
     repeat refine ax (a _) ?_
     refine cn (a _) (by simp only[*,go_sem,-a,-hJ,Int.reduceBEq,Int.reduceBNe]) ?_
     refine cr (a _) ?_
     exact dV ⟨rfl,(by simp only[*,go_sem,-a,-hJ,muA,msA,stA,smA,Int.reduceBEq,Int.reduceBNe]),(by simp only[*,go_sem,-a,-hJ,muA,msA,stA,smA,Int.reduceBEq,Int.reduceBNe]),(by simp only[*,go_sem,-a,-hJ,muA,msA,stA,smA,Int.reduceBEq,Int.reduceBNe]),(by simp only[*,go_sem,-a,-hJ,muA,msA,stA,smA,Int.reduceBEq,Int.reduceBNe]),(by simp only[*,go_sem,-a,-hJ,muA,msA,stA,smA,Int.reduceBEq,Int.reduceBNe]),(by simp only[*,go_sem,-a,-hJ,muA,msA,stA,smA,Int.reduceBEq,Int.reduceBNe]),by simp,(by simp only[*,go_sem,-a,-hJ,muA,msA,stA,smA,Int.reduceBEq,Int.reduceBNe]),(by simp only[*,go_sem,-a,-hJ,muA,msA,stA,smA,Int.reduceBEq,Int.reduceBNe]),rfl⟩
   ·clear g o p D E J f hd
    rintro A d ad ⟨rfl,g,o,p,D,E,J,r,f,hd,rfl⟩
    clear r
    repeat refine ax (a _) ?_
    refine aQ a fun K b=>?_
    refine ai.bh (hJ _ rfl) 2 (n:=0) _ rfl rfl ?_;simp only[*,go_sem,-b,-a,-hJ,muA,msA,stA,smA,Int.reduceBEq,Int.reduceBNe]
    refine ai.nil a (b _ _ _ ?_);clear b K
    obtain ⟨R,k,u⟩:∃R:Int,(S=0->R=old+1 - L)/\(S=1->R=old):=⟨if S=0 then old+1 - L else old,fun e=>by simp[e],fun e=>by simp[e]⟩
    refine jv a (oP Mu st d wt it old (some R) sv aw G) ?_ ?_
    ·rcases cS with rfl|rfl
     ·have b4:dx old 4=0:=hw.a4
      have o1:g8 old 1=R:=by rw[k rfl,hw.o1];omega
      clear k u
      repeat refine ax (a _) ?_
      refine aQ a fun K b=>?_
      refine ai.bh (hJ _ rfl) 3 (n:=0) _ rfl rfl ?_;simp only[*,go_sem,-b,-a,-hJ,muA,msA,stA,smA,Int.reduceBEq,Int.reduceBNe]
      refine ai.nil a (b _ _ _ ?_);clear b K
      repeat refine ax (a _) ?_
      refine cG (a _) (by simp only[*,go_sem,-a,-hJ,Int.reduceBEq,Int.reduceBNe]) ?_
      repeat refine ax (a _) ?_
      refine aQ a fun K b=>?_
      refine ai.bh (hJ _ rfl) 3 (n:=0) _ rfl rfl ?_;simp only[*,go_sem,-b,-a,-hJ,muA,msA,stA,smA,Int.reduceBEq,Int.reduceBNe]
      refine ai.nil a (b _ _ _ ?_);clear b K
      exact dV ⟨rfl,(by simp only[*,go_sem,-a,-hJ,muA,msA,stA,smA,Int.reduceBEq,Int.reduceBNe]),(by simp only[*,go_sem,-a,-hJ,muA,msA,stA,smA,Int.reduceBEq,Int.reduceBNe]),(by simp only[*,go_sem,-a,-hJ,muA,msA,stA,smA,Int.reduceBEq,Int.reduceBNe]),(by simp only[*,go_sem,-a,-hJ,muA,msA,stA,smA,Int.reduceBEq,Int.reduceBNe]),(by simp only[*,go_sem,-a,-hJ,muA,msA,stA,smA,Int.reduceBEq,Int.reduceBNe]),(by simp only[*,go_sem,-a,-hJ,muA,msA,stA,smA,Int.reduceBEq,Int.reduceBNe]),fun y j=>by cases j;simp only[*,go_sem,-a,-hJ],(by simp only[*,go_sem,-a,-hJ,muA,msA,stA,smA,Int.reduceBEq,Int.reduceBNe]),(by simp only[*,go_sem,-a,-hJ,muA,msA,stA,smA,Int.reduceBEq,Int.reduceBNe]),rfl⟩
     ·have b4:dx old 4=4:=hw.a4
      obtain rfl:=u rfl
      clear k u
      repeat refine ax (a _) ?_
      refine aQ a fun K b=>?_
      refine ai.bh (hJ _ rfl) 3 (n:=0) _ rfl rfl ?_;simp only[*,go_sem,-b,-a,-hJ,muA,msA,stA,smA,Int.reduceBEq,Int.reduceBNe]
      refine ai.nil a (b _ _ _ ?_);clear b K
      repeat refine ax (a _) ?_
      refine cn (a _) (by simp only[*,go_sem,-a,-hJ,Int.reduceBEq,Int.reduceBNe]) ?_
      refine cr (a _) ?_
      exact dV ⟨rfl,(by simp only[*,go_sem,-a,-hJ,muA,msA,stA,smA,Int.reduceBEq,Int.reduceBNe]),(by simp only[*,go_sem,-a,-hJ,muA,msA,stA,smA,Int.reduceBEq,Int.reduceBNe]),(by simp only[*,go_sem,-a,-hJ,muA,msA,stA,smA,Int.reduceBEq,Int.reduceBNe]),(by simp only[*,go_sem,-a,-hJ,muA,msA,stA,smA,Int.reduceBEq,Int.reduceBNe]),(by simp only[*,go_sem,-a,-hJ,muA,msA,stA,smA,Int.reduceBEq,Int.reduceBNe]),(by simp only[*,go_sem,-a,-hJ,muA,msA,stA,smA,Int.reduceBEq,Int.reduceBNe]),fun y j=>by cases j;simp only[*,go_sem,-a,-hJ],(by simp only[*,go_sem,-a,-hJ,muA,msA,stA,smA,Int.reduceBEq,Int.reduceBNe]),(by simp only[*,go_sem,-a,-hJ,muA,msA,stA,smA,Int.reduceBEq,Int.reduceBNe]),rfl⟩
    clear g o p D E J f hd
    rintro A d ad ⟨rfl,g,o,p,D,E,J,r,f,hd,rfl⟩
    replace r:=r _ rfl
    obtain ⟨T,z,H⟩:∃T:Int,(S=1\/L=1->T=R+8)/\(S=0->L=0->T=R):=⟨if S=1\/L=1 then R+8 else R,fun e=>by simp[e],fun e cy=>by simp[e,cy]⟩
    refine jv a (oP Mu st d wt it old (some T) sv aw G) ?_ ?_
    ·by_cases Z:S=1\/L=1
     ·have b5:=hw.a5
      have cl:(((4*S+L:Nat):Int) != 0)=true:=by simp;omega
      have fu:IntKind.i32.wrap (R+8)=T:=by
       have e0:=hw.st.eq
       rw[z Z]
       refine gH ?_ ?_<;>rcases cS with rfl|rfl<;>first|(have:=k rfl;omega)|(have:=u rfl;omega)
      clear k u z H Z
      repeat refine ax (a _) ?_
      refine aQ a fun K b=>?_
      refine ai.bh (hJ _ rfl) 3 (n:=0) _ rfl rfl ?_;simp only[*,go_sem,-b,-a,-hJ,muA,msA,stA,smA,Int.reduceBEq,Int.reduceBNe]
      refine ai.nil a (b _ _ _ ?_);clear b K
      repeat refine ax (a _) ?_
      refine cG (a _) (by simp only[*,go_sem,-a,-hJ,Int.reduceBEq,Int.reduceBNe]) ?_
      repeat refine ax (a _) ?_
      refine aQ a fun K b=>?_
      refine ai.bh (hJ _ rfl) 3 (n:=0) _ rfl rfl ?_;simp only[*,go_sem,-b,-a,-hJ,muA,msA,stA,smA,Int.reduceBEq,Int.reduceBNe]
      refine ai.nil a (b _ _ _ ?_);clear b K
      exact dV ⟨rfl,(by simp only[*,go_sem,-a,-hJ,muA,msA,stA,smA,Int.reduceBEq,Int.reduceBNe]),(by simp only[*,go_sem,-a,-hJ,muA,msA,stA,smA,Int.reduceBEq,Int.reduceBNe]),(by simp only[*,go_sem,-a,-hJ,muA,msA,stA,smA,Int.reduceBEq,Int.reduceBNe]),(by simp only[*,go_sem,-a,-hJ,muA,msA,stA,smA,Int.reduceBEq,Int.reduceBNe]),(by simp only[*,go_sem,-a,-hJ,muA,msA,stA,smA,Int.reduceBEq,Int.reduceBNe]),(by simp only[*,go_sem,-a,-hJ,muA,msA,stA,smA,Int.reduceBEq,Int.reduceBNe]),fun y j=>by cases j;simp only[*,go_sem,-a,-hJ],(by simp only[*,go_sem,-a,-hJ,muA,msA,stA,smA,Int.reduceBEq,Int.reduceBNe]),(by simp only[*,go_sem,-a,-hJ,muA,msA,stA,smA,Int.reduceBEq,Int.reduceBNe]),rfl⟩
     ·obtain rfl:S=0:=by omega
      obtain rfl:L=0:=by omega
      have b5:dx old 5=0:=hw.a5
      obtain rfl:=H rfl rfl
      clear k u z H Z
      repeat refine ax (a _) ?_
      refine aQ a fun K b=>?_
      refine ai.bh (hJ _ rfl) 3 (n:=0) _ rfl rfl ?_;simp only[*,go_sem,-b,-a,-hJ,muA,msA,stA,smA,Int.reduceBEq,Int.reduceBNe]
      refine ai.nil a (b _ _ _ ?_);clear b K
      repeat refine ax (a _) ?_
      refine cn (a _) (by simp only[*,go_sem,-a,-hJ,Int.reduceBEq,Int.reduceBNe]) ?_
      refine cr (a _) ?_
      exact dV ⟨rfl,(by simp only[*,go_sem,-a,-hJ,muA,msA,stA,smA,Int.reduceBEq,Int.reduceBNe]),(by simp only[*,go_sem,-a,-hJ,muA,msA,stA,smA,Int.reduceBEq,Int.reduceBNe]),(by simp only[*,go_sem,-a,-hJ,muA,msA,stA,smA,Int.reduceBEq,Int.reduceBNe]),(by simp only[*,go_sem,-a,-hJ,muA,msA,stA,smA,Int.reduceBEq,Int.reduceBNe]),(by simp only[*,go_sem,-a,-hJ,muA,msA,stA,smA,Int.reduceBEq,Int.reduceBNe]),(by simp only[*,go_sem,-a,-hJ,muA,msA,stA,smA,Int.reduceBEq,Int.reduceBNe]),fun y j=>by cases j;simp only[*,go_sem,-a,-hJ],(by simp only[*,go_sem,-a,-hJ,muA,msA,stA,smA,Int.reduceBEq,Int.reduceBNe]),(by simp only[*,go_sem,-a,-hJ,muA,msA,stA,smA,Int.reduceBEq,Int.reduceBNe]),rfl⟩
    clear g o p D E J r f hd
    rintro A d ad ⟨rfl,g,o,p,D,E,J,r,f,hd,rfl⟩
    replace r:=r _ rfl
    obtain ⟨N,O,x⟩:∃N:Int,(sv=true->L=1->N=T+4)/\(¬(sv=true/\L=1)->N=T):=⟨if sv=true/\L=1 then T+4 else T,fun e cy=>by simp[e,cy],fun e=>by simp[e]⟩
    refine jv a (oP Mu st d wt it old (some N) sv aw G) ?_ ?_
    ·cases sv
     ·obtain rfl:=x (by simp)
      clear k u z H O x
      repeat refine ax (a _) ?_
      refine aQ a fun K b=>?_
      refine ai.bh (hJ _ rfl) 6 (n:=0) _ rfl rfl ?_;simp only[*,go_sem,-b,-a,-hJ,muA,msA,stA,smA,Int.reduceBEq,Int.reduceBNe]
      refine ai.nil a (b _ _ _ ?_);clear b K
      repeat refine ax (a _) ?_
      refine cn (a _) (by simp only[*,go_sem,-a,-hJ,Int.reduceBEq,Int.reduceBNe]) ?_
      refine cr (a _) ?_
      exact dV ⟨rfl,(by simp only[*,go_sem,-a,-hJ,muA,msA,stA,smA,Int.reduceBEq,Int.reduceBNe]),(by simp only[*,go_sem,-a,-hJ,muA,msA,stA,smA,Int.reduceBEq,Int.reduceBNe]),(by simp only[*,go_sem,-a,-hJ,muA,msA,stA,smA,Int.reduceBEq,Int.reduceBNe]),(by simp only[*,go_sem,-a,-hJ,muA,msA,stA,smA,Int.reduceBEq,Int.reduceBNe]),(by simp only[*,go_sem,-a,-hJ,muA,msA,stA,smA,Int.reduceBEq,Int.reduceBNe]),(by simp only[*,go_sem,-a,-hJ,muA,msA,stA,smA,Int.reduceBEq,Int.reduceBNe]),fun y j=>by cases j;simp only[*,go_sem,-a,-hJ],(by simp only[*,go_sem,-a,-hJ,muA,msA,stA,smA,Int.reduceBEq,Int.reduceBNe]),(by simp only[*,go_sem,-a,-hJ,muA,msA,stA,smA,Int.reduceBEq,Int.reduceBNe]),rfl⟩
     ·obtain rfl:aw=true:=X rfl
      rcases a9 with rfl|rfl
      ·have ed:dx old 1=0:=hw.a1
       obtain rfl:=x (by simp)
       clear k u z H O x
       repeat refine ax (a _) ?_
       refine aQ a fun K b=>?_
       refine ai.bh (hJ _ rfl) 6 (n:=0) _ rfl rfl ?_;simp only[*,go_sem,-b,-a,-hJ,muA,msA,stA,smA,Int.reduceBEq,Int.reduceBNe]
       refine ai.nil a (b _ _ _ ?_);clear b K
       repeat refine ax (a _) ?_
       refine cn (a _) (by simp only[*,go_sem,-a,-hJ,Int.reduceBEq,Int.reduceBNe]) ?_
       refine cr (a _) ?_
       exact dV ⟨rfl,(by simp only[*,go_sem,-a,-hJ,muA,msA,stA,smA,Int.reduceBEq,Int.reduceBNe]),(by simp only[*,go_sem,-a,-hJ,muA,msA,stA,smA,Int.reduceBEq,Int.reduceBNe]),(by simp only[*,go_sem,-a,-hJ,muA,msA,stA,smA,Int.reduceBEq,Int.reduceBNe]),(by simp only[*,go_sem,-a,-hJ,muA,msA,stA,smA,Int.reduceBEq,Int.reduceBNe]),(by simp only[*,go_sem,-a,-hJ,muA,msA,stA,smA,Int.reduceBEq,Int.reduceBNe]),(by simp only[*,go_sem,-a,-hJ,muA,msA,stA,smA,Int.reduceBEq,Int.reduceBNe]),fun y j=>by cases j;simp only[*,go_sem,-a,-hJ],(by simp only[*,go_sem,-a,-hJ,muA,msA,stA,smA,Int.reduceBEq,Int.reduceBNe]),(by simp only[*,go_sem,-a,-hJ,muA,msA,stA,smA,Int.reduceBEq,Int.reduceBNe]),rfl⟩
      ·have ed:dx old 1=1:=hw.a1
       have o4:g8 T 4=N:=by
        have e0:=hw.st.eq
        obtain ⟨rfl,rfl⟩:=Y rfl
        have e1:=k rfl
        have e2:=z (.inr rfl)
        rw[O rfl rfl,(wd (C:=C+1) (S:=0) (W:=1) (L:=1) ⟨by omega,by omega,by omega,by omega⟩ (by omega)).o4]
        omega
       clear k u z H O x
       repeat refine ax (a _) ?_
       refine aQ a fun K b=>?_
       refine ai.bh (hJ _ rfl) 6 (n:=0) _ rfl rfl ?_;simp only[*,go_sem,-b,-a,-hJ,muA,msA,stA,smA,Int.reduceBEq,Int.reduceBNe]
       refine ai.nil a (b _ _ _ ?_);clear b K
       repeat refine ax (a _) ?_
       refine cG (a _) (by simp only[*,go_sem,-a,-hJ,Int.reduceBEq,Int.reduceBNe]) ?_
       repeat refine ax (a _) ?_
       refine aQ a fun K b=>?_
       refine ai.bh (hJ _ rfl) 3 (n:=0) _ rfl rfl ?_;simp only[*,go_sem,-b,-a,-hJ,muA,msA,stA,smA,Int.reduceBEq,Int.reduceBNe]
       refine ai.nil a (b _ _ _ ?_);clear b K
       exact dV ⟨rfl,(by simp only[*,go_sem,-a,-hJ,muA,msA,stA,smA,Int.reduceBEq,Int.reduceBNe]),(by simp only[*,go_sem,-a,-hJ,muA,msA,stA,smA,Int.reduceBEq,Int.reduceBNe]),(by simp only[*,go_sem,-a,-hJ,muA,msA,stA,smA,Int.reduceBEq,Int.reduceBNe]),(by simp only[*,go_sem,-a,-hJ,muA,msA,stA,smA,Int.reduceBEq,Int.reduceBNe]),(by simp only[*,go_sem,-a,-hJ,muA,msA,stA,smA,Int.reduceBEq,Int.reduceBNe]),(by simp only[*,go_sem,-a,-hJ,muA,msA,stA,smA,Int.reduceBEq,Int.reduceBNe]),fun y j=>by cases j;simp only[*,go_sem,-a,-hJ],(by simp only[*,go_sem,-a,-hJ,muA,msA,stA,smA,Int.reduceBEq,Int.reduceBNe]),(by simp only[*,go_sem,-a,-hJ,muA,msA,stA,smA,Int.reduceBEq,Int.reduceBNe]),rfl⟩
    clear g o p D E J r f hd
    rintro A d ad ⟨rfl,g,o,p,D,E,J,r,f,hd,rfl⟩
    replace r:=r _ rfl
    obtain ⟨al,U,V⟩:∃al:Int,(aw=true->al=N - 2)/\(aw=false->al=N):=⟨if aw then N - 2 else N,fun e=>by simp[e],fun e=>by simp[e]⟩
    refine jv a (oP Mu st d wt it old (some al) sv aw G) ?_ ?_
    ·cases aw
     ·obtain rfl:=V rfl
      clear k u z H O x U V
      repeat refine ax (a _) ?_
      refine aQ a fun K b=>?_
      refine ai.bh (hJ _ rfl) 1 (n:=0) _ rfl rfl ?_;simp only[*,go_sem,-b,-a,-hJ,muA,msA,stA,smA,Int.reduceBEq,Int.reduceBNe]
      refine ai.nil a (b _ _ _ ?_);clear b K
      repeat refine ax (a _) ?_
      refine cn (a _) (by simp only[*,go_sem,-a,-hJ,Int.reduceBEq,Int.reduceBNe]) ?_
      refine cr (a _) ?_
      exact dV ⟨rfl,(by simp only[*,go_sem,-a,-hJ,muA,msA,stA,smA,Int.reduceBEq,Int.reduceBNe]),(by simp only[*,go_sem,-a,-hJ,muA,msA,stA,smA,Int.reduceBEq,Int.reduceBNe]),(by simp only[*,go_sem,-a,-hJ,muA,msA,stA,smA,Int.reduceBEq,Int.reduceBNe]),(by simp only[*,go_sem,-a,-hJ,muA,msA,stA,smA,Int.reduceBEq,Int.reduceBNe]),(by simp only[*,go_sem,-a,-hJ,muA,msA,stA,smA,Int.reduceBEq,Int.reduceBNe]),(by simp only[*,go_sem,-a,-hJ,muA,msA,stA,smA,Int.reduceBEq,Int.reduceBNe]),fun y j=>by cases j;simp only[*,go_sem,-a,-hJ],(by simp only[*,go_sem,-a,-hJ,muA,msA,stA,smA,Int.reduceBEq,Int.reduceBNe]),(by simp only[*,go_sem,-a,-hJ,muA,msA,stA,smA,Int.reduceBEq,Int.reduceBNe]),rfl⟩
     ·obtain ⟨rfl,rfl⟩:=Y rfl
      have ae:∃Q ao,Wd N Q ao 1 1:=by
       have e0:=hw.st.eq
       have e1:=k rfl
       rcases a9 with rfl|rfl
       ·have e2:=H rfl rfl
        have a0:=x (by simp)
        exact ⟨C,0,wd ⟨by omega,by omega,by omega,by omega⟩ (by omega)⟩
       ·have e2:=z (.inr rfl)
        cases sv
        ·have a0:=x (by simp)
         exact ⟨C+1,0,wd ⟨by omega,by omega,by omega,by omega⟩ (by omega)⟩
        ·have a0:=O rfl rfl
         exact ⟨C+1,1,wd ⟨by omega,by omega,by omega,by omega⟩ (by omega)⟩
      obtain ⟨Q,ao,ae⟩:=ae
      have b2:dx N 2=2:=ae.a2
      have n2:oK N 2=al:=by rw[U rfl,ae.n2];rfl
      clear k u z H O x U V
      repeat refine ax (a _) ?_
      refine aQ a fun K b=>?_
      refine ai.bh (hJ _ rfl) 1 (n:=0) _ rfl rfl ?_;simp only[*,go_sem,-b,-a,-hJ,muA,msA,stA,smA,Int.reduceBEq,Int.reduceBNe]
      refine ai.nil a (b _ _ _ ?_);clear b K
      repeat refine ax (a _) ?_
      refine cG (a _) (by simp only[*,go_sem,-a,-hJ,Int.reduceBEq,Int.reduceBNe]) ?_
      repeat refine ax (a _) ?_
      refine aQ a fun K b=>?_
      refine ai.bh (hJ _ rfl) 3 (n:=0) _ rfl rfl ?_;simp only[*,go_sem,-b,-a,-hJ,muA,msA,stA,smA,Int.reduceBEq,Int.reduceBNe]
      refine ai.nil a (b _ _ _ ?_);clear b K
      repeat refine ax (a _) ?_
      refine cn (a _) (by simp only[*,go_sem,-a,-hJ,Int.reduceBEq,Int.reduceBNe]) ?_
      refine cr (a _) ?_
      repeat refine ax (a _) ?_
      refine aQ a fun K b=>?_
      refine ai.bh (hJ _ rfl) 3 (n:=0) _ rfl rfl ?_;simp only[*,go_sem,-b,-a,-hJ,muA,msA,stA,smA,Int.reduceBEq,Int.reduceBNe]
      refine ai.nil a (b _ _ _ ?_);clear b K
      exact dV ⟨rfl,(by simp only[*,go_sem,-a,-hJ,muA,msA,stA,smA,Int.reduceBEq,Int.reduceBNe]),(by simp only[*,go_sem,-a,-hJ,muA,msA,stA,smA,Int.reduceBEq,Int.reduceBNe]),(by simp only[*,go_sem,-a,-hJ,muA,msA,stA,smA,Int.reduceBEq,Int.reduceBNe]),(by simp only[*,go_sem,-a,-hJ,muA,msA,stA,smA,Int.reduceBEq,Int.reduceBNe]),(by simp only[*,go_sem,-a,-hJ,muA,msA,stA,smA,Int.reduceBEq,Int.reduceBNe]),(by simp only[*,go_sem,-a,-hJ,muA,msA,stA,smA,Int.reduceBEq,Int.reduceBNe]),fun y j=>by cases j;simp only[*,go_sem,-a,-hJ],(by simp only[*,go_sem,-a,-hJ,muA,msA,stA,smA,Int.reduceBEq,Int.reduceBNe]),(by simp only[*,go_sem,-a,-hJ,muA,msA,stA,smA,Int.reduceBEq,Int.reduceBNe]),rfl⟩
    clear g o p D E J r f hd
    rintro A d ad ⟨rfl,g,o,p,D,E,J,r,f,hd,rfl⟩
    replace r:=r _ rfl
    repeat refine ax (a _) ?_
    refine aQ a fun K b=>?_
    refine ai.bh (hJ _ rfl) 5 (n:=1) _ rfl rfl ?_;simp only[*,go_sem,-b,-a,-hJ,muA,msA,stA,smA,Int.reduceBEq,Int.reduceBNe]
    refine q9 old al q5 a8 ⟨_,_,_,rfl,(by first|(simp only[*,go_sem,-b,-a,-hJ];done)|rfl),rfl,by first|(simp only[*,go_sem,-b,-a,-hJ,muA,msA,stA,smA,Int.reduceBEq,Int.reduceBNe];done)|(simp only[*,go_sem,-b,-a,-hJ,muA,msA,stA,smA,Int.reduceBEq,Int.reduceBNe];rfl),rfl⟩ (by rfl) (by simp) (fun φ ms b0 ar b1 ab q he c hm=>?_) (fun φ mu ms b0 ar b1 ab q he c hm dp=>?_)
    ·obtain ⟨rfl,rfl,rfl,rfl⟩:=hm.st.uniq hw.st
     by_cases Z:ar=0/\ab=0
     ·obtain ⟨rfl,rfl⟩:=Z
      have P:al=old+1 - (if aw then 2 else 0):=by
       have e1:=k rfl
       have e2:=H rfl rfl
       have a0:=x (by simp)
       cases aw
       ·have P:=V rfl
        simp;omega
       ·have P:=U rfl
        simp;omega
      have b5:dx old 5=0:=hw.a5
      refine ⟨.held,by rw[P];exact ⟨_,_,_,_,q,Ev hm c _ (by rw[he]) rfl rfl rfl (fun e=>(Y e).2)⟩,?_⟩
      clear k u z H O x U V P he c hm X Y cS a9 bk
      refine ai.nil a (b _ _ _ ?_);clear b K
      repeat refine ax (a _) ?_
      refine cG (a _) (by simp only[*,go_sem,-a,-hJ,Int.reduceBEq,Int.reduceBNe]) ?_
      repeat refine ax (a _) ?_
      refine aQ a fun K b=>?_
      refine ai.bh (hJ _ rfl) 3 (n:=0) _ rfl rfl ?_;simp only[*,go_sem,-b,-a,-hJ,muA,msA,stA,smA,Int.reduceBEq,Int.reduceBNe]
      refine ai.nil a (b _ _ _ ?_);clear b K
      repeat refine ax (a _) ?_
      refine cG (a _) (by simp only[*,go_sem,-a,-hJ,Int.reduceBEq,Int.reduceBNe]) ?_
      refine mQ ?_
      change rq Mu st d _ _ _
      exact ⟨rfl,(by simp only[*,go_sem,-a,-hJ,muA,msA,stA,smA,Int.reduceBEq,Int.reduceBNe]),(by simp only[*,go_sem,-a,-hJ,muA,msA,stA,smA,Int.reduceBEq,Int.reduceBNe]),(by simp only[*,go_sem,-a,-hJ,muA,msA,stA,smA,Int.reduceBEq,Int.reduceBNe]),rfl⟩
     ·have c0:ar=1\/ab=1:=by omega
      have P:al=old+8+(if sv then 4 else 0) - (if aw then 2 else 0):=by
       have e2:=z c0
       rcases cS with rfl|rfl
       ·have e1:=k rfl
        obtain rfl:ab=1:=by omega
        cases sv
        ·have a0:=x (by simp)
         cases aw
         ·have P:=V rfl
          simp;omega
         ·have P:=U rfl
          simp;omega
        ·obtain rfl:aw=true:=X rfl
         have a0:=O rfl rfl
         have P:=U rfl
         simp;omega
       ·have eh:aw=false:=by
         cases aw
         ·rfl
         ·exact absurd (Y rfl).1 (by omega)
        subst eh
        have et:sv=false:=by
         cases sv
         ·rfl
         ·exact absurd (X rfl) (by simp)
        subst et
        have e1:=u rfl
        have a0:=x (by simp)
        have P:=V rfl
        simp;omega
      have dq:sv=true->aw=true/\ab=1:=fun e=>⟨X e,by have:=Y (X e);omega⟩
      have ds:bG n φ ms<=G:=(hm.seen i c (some old) G (by rw[he];rfl)).1
      have b5:=hw.a5
      have cl:(((4*ar+ab:Nat):Int)==0)=false:=by simp;omega
      refine ⟨.gF (bG n φ ms),by rw[P];exact ⟨_,_,_,_,q,Ew hm c _ (by rw[he]) rfl c0 dq⟩,?_⟩
      clear k u z H O x U V P he c hm X Y cS a9 bk Z c0 dq
      revert ds
      generalize bG n φ ms=B
      intro ds
      refine ai.nil a (b _ _ _ ?_);clear b K
      repeat refine ax (a _) ?_
      refine cG (a _) (by simp only[*,go_sem,-a,-hJ,Int.reduceBEq,Int.reduceBNe]) ?_
      repeat refine ax (a _) ?_
      refine aQ a fun K b=>?_
      refine ai.bh (hJ _ rfl) 3 (n:=0) _ rfl rfl ?_;simp only[*,go_sem,-b,-a,-hJ,muA,msA,stA,smA,Int.reduceBEq,Int.reduceBNe]
      refine ai.nil a (b _ _ _ ?_);clear b K
      repeat refine ax (a _) ?_
      refine cn (a _) (by simp only[*,go_sem,-a,-hJ,Int.reduceBEq,Int.reduceBNe]) ?_
      refine cr (a _) ?_
      repeat refine ax (a _) ?_
      refine aQ a fun K b=>?_
      refine ai.bh (hJ _ rfl) 3 (n:=0) _ rfl rfl ?_;simp only[*,go_sem,-b,-a,-hJ,muA,msA,stA,smA,Int.reduceBEq,Int.reduceBNe]
      refine ai.nil a (b _ _ _ ?_);clear b K
      repeat refine ax (a _) ?_
      refine aQ a fun K b=>?_
      refine ai.bh (hJ _ rfl) 2 (n:=0) _ rfl rfl ?_;simp only[*,go_sem,-b,-a,-hJ,muA,msA,stA,smA,Int.reduceBEq,Int.reduceBNe]
      refine ai.nil a (b _ _ _ ?_);clear b K
      first|refine jv a (Ai Mu st d sv (.gF B)) ?_ ?_|refine rj a (Ai Mu st d sv (.gF B)) ?_ ?_
      ·cases fv:(wt==0)
       ·repeat refine ax (a _) ?_
        refine cn (a _) (by simp only[*,go_sem,-a,-hJ,Int.reduceBEq,Int.reduceBNe]) ?_
        refine cr (a _) ?_
        exact dV ⟨wt,rfl,(by simp only[*,go_sem,-a,-hJ,muA,msA,stA,smA,Int.reduceBEq,Int.reduceBNe]),(by simp only[*,go_sem,-a,-hJ,muA,msA,stA,smA,Int.reduceBEq,Int.reduceBNe]),(by simp only[*,go_sem,-a,-hJ,muA,msA,stA,smA,Int.reduceBEq,Int.reduceBNe]),(by simp only[*,go_sem,-a,-hJ,muA,msA,stA,smA,Int.reduceBEq,Int.reduceBNe]),(by simp only[*,go_sem,-a,-hJ,muA,msA,stA,smA,Int.reduceBEq,Int.reduceBNe]),rfl⟩
       ·repeat refine ax (a _) ?_
        refine cG (a _) (by simp only[*,go_sem,-a,-hJ,Int.reduceBEq,Int.reduceBNe]) ?_
        repeat refine ax (a _) ?_
        refine aQ a fun K b=>?_
        refine Ah z5 Aa ⟨_,_,_,rfl,(by first|(simp only[*,go_sem,-b,-a,-hJ];done)|rfl),rfl,by first|(simp only[*,go_sem,-b,-a,-hJ,muA,msA,stA,smA,Int.reduceBEq,Int.reduceBNe];done)|(simp only[*,go_sem,-b,-a,-hJ,muA,msA,stA,smA,Int.reduceBEq,Int.reduceBNe];rfl),rfl⟩ (by simp) fun t=>?_
        refine ai.bh (hJ _ rfl) 1 (n:=0) _ rfl rfl ?_;simp only[*,go_sem,-b,-a,-hJ,muA,msA,stA,smA,Int.reduceBEq,Int.reduceBNe]
        refine ai.nil a (b _ _ _ ?_);clear b K
        exact dV ⟨t,rfl,(by simp only[*,go_sem,-a,-hJ,muA,msA,stA,smA,Int.reduceBEq,Int.reduceBNe]),(by simp only[*,go_sem,-a,-hJ,muA,msA,stA,smA,Int.reduceBEq,Int.reduceBNe]),(by simp only[*,go_sem,-a,-hJ,muA,msA,stA,smA,Int.reduceBEq,Int.reduceBNe]),(by simp only[*,go_sem,-a,-hJ,muA,msA,stA,smA,Int.reduceBEq,Int.reduceBNe]),(by simp only[*,go_sem,-a,-hJ,muA,msA,stA,smA,Int.reduceBEq,Int.reduceBNe]),rfl⟩
      clear g o p D E J r f hd b5 cl
      rintro A d ad ⟨dt,rfl,g,o,p,f,hd,rfl⟩
      repeat refine ax (a _) ?_
      refine aQ a fun K b=>?_
      refine ai.bh (hJ _ rfl) 4 (n:=1) _ rfl rfl ?_;simp only[*,go_sem,-b,-a,-hJ,muA,msA,stA,smA,Int.reduceBEq,Int.reduceBNe]
      refine Fx (slot A 8) (.int .i64 2) Fa a8 ⟨_,_,_,rfl,(by first|(simp only[*,go_sem,-b,-a,-hJ];done)|rfl),rfl,by first|(simp only[*,go_sem,-b,-a,-hJ,muA,msA,stA,smA,Int.reduceBEq,Int.reduceBNe];done)|(simp only[*,go_sem,-b,-a,-hJ,muA,msA,stA,smA,Int.reduceBEq,Int.reduceBNe];rfl),rfl⟩ (by rfl) rfl ?_
      refine ai.nil a (b _ _ _ ?_);clear b K
      first|refine jv a (Aj Mu st d (.iI B)) ?_ ?_|refine rj a (Aj Mu st d (.iI B)) ?_ ?_
      ·cases sv
       ·repeat refine ax (a _) ?_
        refine aQ a fun K b=>?_
        refine ai.bh (hJ _ rfl) 2 (n:=6) _ rfl rfl ?_;simp only[*,go_sem,-b,-a,-hJ,muA,msA,stA,smA,Int.reduceBEq,Int.reduceBNe]
        refine Ah z5 Aa ⟨_,_,_,rfl,(by first|(simp only[*,go_sem,-b,-a,-hJ];done)|rfl),rfl,by first|(simp only[*,go_sem,-b,-a,-hJ,muA,msA,stA,smA,Int.reduceBEq,Int.reduceBNe];done)|(simp only[*,go_sem,-b,-a,-hJ,muA,msA,stA,smA,Int.reduceBEq,Int.reduceBNe];rfl),rfl⟩ (by simp) fun t=>?_
        refine ai.bh (hJ _ rfl) 5 (n:=0) _ rfl rfl ?_;simp only[*,go_sem,-b,-a,-hJ,muA,msA,stA,smA,Int.reduceBEq,Int.reduceBNe]
        refine ai.nil a (b _ _ _ ?_);clear b K
        exact dV ⟨dt,_,rfl,(by simp only[*,go_sem,-a,-hJ,muA,msA,stA,smA,Int.reduceBEq,Int.reduceBNe]),(by simp only[*,go_sem,-a,-hJ,muA,msA,stA,smA,Int.reduceBEq,Int.reduceBNe]),(by simp only[*,go_sem,-a,-hJ,muA,msA,stA,smA,Int.reduceBEq,Int.reduceBNe];rfl),(by simp only[*,go_sem,-a,-hJ,muA,msA,stA,smA,Int.reduceBEq,Int.reduceBNe]),(by simp only[*,go_sem,-a,-hJ,muA,msA,stA,smA,Int.reduceBEq,Int.reduceBNe]),rfl⟩
       ·repeat refine ax (a _) ?_
        refine aQ a fun K b=>?_
        refine ai.bh (hJ _ rfl) 8 (n:=0) _ rfl rfl ?_;simp only[*,go_sem,-b,-a,-hJ,muA,msA,stA,smA,Int.reduceBEq,Int.reduceBNe]
        refine ai.nil a (b _ _ _ ?_);clear b K
        exact dV ⟨dt,true,rfl,(by simp only[*,go_sem,-a,-hJ,muA,msA,stA,smA,Int.reduceBEq,Int.reduceBNe]),(by simp only[*,go_sem,-a,-hJ,muA,msA,stA,smA,Int.reduceBEq,Int.reduceBNe]),(by simp only[*,go_sem,-a,-hJ,muA,msA,stA,smA,Int.reduceBEq,Int.reduceBNe]),(by simp only[*,go_sem,-a,-hJ,muA,msA,stA,smA,Int.reduceBEq,Int.reduceBNe]),(by simp only[*,go_sem,-a,-hJ,muA,msA,stA,smA,Int.reduceBEq,Int.reduceBNe]),rfl⟩
      clear g o p f hd
      rintro A d ad ⟨ev,du,rfl,g,o,p,f,hd,rfl⟩
      repeat refine ax (a _) ?_
      refine aQ a fun K b=>?_
      refine ai.bh (hJ _ rfl) 3 (n:=2) _ rfl rfl ?_;simp only[*,go_sem,-b,-a,-hJ,muA,msA,stA,smA,Int.reduceBEq,Int.reduceBNe]
      refine mU q6 mS ⟨_,rfl,(by first|(simp only[*,go_sem,-b,-a,-hJ];done)|rfl),rfl,rfl⟩ (by rfl) (by simp only[*,go_sem,-b,-a,-hJ,muA,msA,stA,smA,Int.reduceBEq,Int.reduceBNe]) (fun φ mu ms I bc da db br he c hm=>?_)
      have dv:I<=3*n:=hm.bound
      have a6:=wd hm.st (by omega)
      rcases (by have:=hm.st.s;omega:bc=0\/bc=1) with rfl|rfl
      ·obtain ⟨M,rfl,dd⟩:=Ez hm c {mp:=.want true mu (bG n φ ms),gp:=.cnt,stored:=st,deaf:=1} (by rw[he]) rfl rfl
       have fw:bG n φ ms<B:=dd
       refine ⟨.want true mu (bG n φ ms),⟨_,_,_,_,br,M⟩,?_⟩
       have b4:dx mu 4=0:=a6.a4
       clear M dd
       refine ai.bh (hJ _ rfl) 1 (n:=0) _ rfl rfl ?_;simp only[*,go_sem,-b,-a,-hJ,muA,msA,stA,smA,Int.reduceBEq,Int.reduceBNe]
       refine ai.nil a (b _ _ _ ?_);clear b K
       repeat refine ax (a _) ?_
       refine aQ a fun K b=>?_
       refine ai.bh (hJ _ rfl) 3 (n:=0) _ rfl rfl ?_;simp only[*,go_sem,-b,-a,-hJ,muA,msA,stA,smA,Int.reduceBEq,Int.reduceBNe]
       refine ai.nil a (b _ _ _ ?_);clear b K
       repeat refine ax (a _) ?_
       refine cn (a _) (by simp only[*,go_sem,-a,-hJ,Int.reduceBEq,Int.reduceBNe]) ?_
       refine cr (a _) ?_
       repeat refine ax (a _) ?_
       refine aQ a fun K b=>?_
       refine ai.bh (hJ _ rfl) 1 (n:=0) _ rfl rfl ?_;simp only[*,go_sem,-b,-a,-hJ,muA,msA,stA,smA,Int.reduceBEq,Int.reduceBNe]
       refine ai.nil a (b _ _ _ ?_);clear b K
       repeat refine ax (a _) ?_
       refine aQ a fun K b=>?_
       refine ai.bh (hJ _ rfl) 1 (n:=0) _ rfl rfl ?_;simp only[*,go_sem,-b,-a,-hJ,muA,msA,stA,smA,Int.reduceBEq,Int.reduceBNe]
       refine ai.nil a (b _ _ _ ?_);clear b K
       change ∃q,q<m/\rm Mu n st d q _ _ _
       exact ⟨8*bG n φ ms+5,by omega,ev,0,mu,du,true,I,0,1,db,bG n φ ms,rfl,(by simp only[*,go_sem,-a,-hJ,muA,msA,stA,smA,Int.reduceBEq,Int.reduceBNe]),(by simp only[*,go_sem,-a,-hJ,muA,msA,stA,smA,Int.reduceBEq,Int.reduceBNe]),(by simp only[*,go_sem,-a,-hJ,muA,msA,stA,smA,Int.reduceBEq,Int.reduceBNe]),(by simp only[*,go_sem,-a,-hJ,muA,msA,stA,smA,Int.reduceBEq,Int.reduceBNe]),(by simp only[*,go_sem,-a,-hJ,muA,msA,stA,smA,Int.reduceBEq,Int.reduceBNe]),(by simp only[*,go_sem,-a,-hJ,muA,msA,stA,smA,Int.reduceBEq,Int.reduceBNe]),(by simp only[*,go_sem,-a,-hJ,muA,msA,stA,smA,Int.reduceBEq,Int.reduceBNe]),(by simp only[*,go_sem,-a,-hJ,muA,msA,stA,smA,Int.reduceBEq,Int.reduceBNe]),a6,dv,by omega,by omega,fun _=>rfl,fun _=>⟨rfl,rfl⟩,by simp,rfl⟩
      ·obtain ⟨M,rfl,rfl,eQ⟩:=EA hm c {mp:=.jr (decide (2<=I)),gp:=.cnt,stored:=st,deaf:=1} (by rw[he]) rfl rfl
       refine ⟨.jr (decide (2<=I)),⟨_,_,_,_,br,M⟩,?_⟩
       have b4:dx mu 4=4:=a6.a4
       have b3:dx mu 3=0:=a6.a3
       have bS:((I:Int)==0)=false:=by simp;omega
       have df:=a6.sh
       obtain ⟨y,j⟩:∃y,decide (2<=I)=y:=⟨_,rfl⟩
       have a7:((I:Int)==1)=false->y=true:=fun e=>by rw[<-j];simp at e ⊢;omega
       rw[j]
       clear M he c hm a6 dv eQ j
       refine ai.bh (hJ _ rfl) 1 (n:=0) _ rfl rfl ?_;simp only[*,go_sem,-b,-a,-hJ,muA,msA,stA,smA,Int.reduceBEq,Int.reduceBNe]
       refine ai.nil a (b _ _ _ ?_);clear b K
       repeat refine ax (a _) ?_
       refine aQ a fun K b=>?_
       refine ai.bh (hJ _ rfl) 3 (n:=0) _ rfl rfl ?_;simp only[*,go_sem,-b,-a,-hJ,muA,msA,stA,smA,Int.reduceBEq,Int.reduceBNe]
       refine ai.nil a (b _ _ _ ?_);clear b K
       repeat refine ax (a _) ?_
       refine cG (a _) (by simp only[*,go_sem,-a,-hJ,Int.reduceBEq,Int.reduceBNe]) ?_
       repeat refine ax (a _) ?_
       refine aQ a fun K b=>?_
       refine ai.bh (hJ _ rfl) 5 (n:=3) _ rfl rfl ?_;simp only[*,go_sem,-b,-a,-hJ,muA,msA,stA,smA,Int.reduceBEq,Int.reduceBNe]
       refine ai.lE mu (I:Int) (a _) ⟨_,rfl,(by first|(simp only[*,go_sem,-b,-a,-hJ];done)|rfl),rfl,rfl⟩ (by simp only[*,go_sem,-b,-a,-hJ,muA,msA,stA,smA,Int.reduceBEq,Int.reduceBNe]) (by simp only[*,go_sem,-b,-a,-hJ,muA,msA,stA,smA,Int.reduceBEq,Int.reduceBNe]) df ?_
       refine ai.bh (hJ _ rfl) 2 (n:=0) _ rfl rfl ?_;simp only[*,go_sem,-b,-a,-hJ,muA,msA,stA,smA,Int.reduceBEq,Int.reduceBNe]
       refine ai.nil a (b _ _ _ ?_);clear b K
       repeat refine ax (a _) ?_
       refine cn (a _) (by simp only[*,go_sem,-a,-hJ,Int.reduceBEq,Int.reduceBNe]) ?_
       refine cr (a _) ?_
       repeat refine ax (a _) ?_
       refine aQ a fun K b=>?_
       refine ai.bh (hJ _ rfl) 1 (n:=0) _ rfl rfl ?_;simp only[*,go_sem,-b,-a,-hJ,muA,msA,stA,smA,Int.reduceBEq,Int.reduceBNe]
       refine ai.nil a (b _ _ _ ?_);clear b K
       repeat refine ax (a _) ?_
       refine rj a (FG Mu st d y) ?_ ?_
       ·cases du
        ·repeat refine ax (a _) ?_
         refine aQ a fun K b=>?_
         refine ai.bh (hJ _ rfl) 7 (n:=0) _ rfl rfl ?_;simp only[*,go_sem,-b,-a,-hJ,muA,msA,stA,smA,Int.reduceBEq,Int.reduceBNe]
         refine ai.nil a (b _ _ _ ?_);clear b K
         exact dV ⟨true,rfl,(by simp only[*,go_sem,-a,-hJ,muA,msA,stA,smA,Int.reduceBEq,Int.reduceBNe]),(by simp only[*,go_sem,-a,-hJ,muA,msA,stA,smA,Int.reduceBEq,Int.reduceBNe]),(by simp only[*,go_sem,-a,-hJ,muA,msA,stA,smA,Int.reduceBEq,Int.reduceBNe]),(by simp only[*,go_sem,-a,-hJ,muA,msA,stA,smA,Int.reduceBEq,Int.reduceBNe]),(by simp only[*,go_sem,-a,-hJ,muA,msA,stA,smA,Int.reduceBEq,Int.reduceBNe]),by simp,rfl⟩
        ·repeat refine ax (a _) ?_
         refine aQ a fun K b=>?_
         refine ai.bh (hJ _ rfl) 4 (n:=3) _ rfl rfl ?_;simp only[*,go_sem,-b,-a,-hJ,muA,msA,stA,smA,Int.reduceBEq,Int.reduceBNe]
         refine ai.lE mu (I:Int) (a _) ⟨_,rfl,(by first|(simp only[*,go_sem,-b,-a,-hJ];done)|rfl),rfl,rfl⟩ (by simp only[*,go_sem,-b,-a,-hJ,muA,msA,stA,smA,Int.reduceBEq,Int.reduceBNe]) (by simp only[*,go_sem,-b,-a,-hJ,muA,msA,stA,smA,Int.reduceBEq,Int.reduceBNe]) df ?_
         refine ai.bh (hJ _ rfl) 2 (n:=0) _ rfl rfl ?_;simp only[*,go_sem,-b,-a,-hJ,muA,msA,stA,smA,Int.reduceBEq,Int.reduceBNe]
         refine ai.nil a (b _ _ _ ?_);clear b K
         exact dV ⟨(I:Int)==1,rfl,(by simp only[*,go_sem,-a,-hJ,muA,msA,stA,smA,Int.reduceBEq,Int.reduceBNe]),(by simp only[*,go_sem,-a,-hJ,muA,msA,stA,smA,Int.reduceBEq,Int.reduceBNe]),(by simp only[*,go_sem,-a,-hJ,muA,msA,stA,smA,Int.reduceBEq,Int.reduceBNe]),(by simp only[*,go_sem,-a,-hJ,muA,msA,stA,smA,Int.reduceBEq,Int.reduceBNe]),(by simp only[*,go_sem,-a,-hJ,muA,msA,stA,smA,Int.reduceBEq,Int.reduceBNe]),a7,rfl⟩
       clear g o p f hd b4 b3 bS df a7
       rintro A d ad ⟨e,rfl,g,fx,gg,f,hd,a7,rfl⟩
       cases e
       ·obtain rfl:=a7 rfl
        clear a7
        repeat refine ax (a _) ?_
        refine cn (a _) (by simp only[*,go_sem,-a,-hJ,Int.reduceBEq,Int.reduceBNe]) ?_
        refine cr (a _) ?_
        repeat refine ax (a _) ?_
        refine aQ a fun K b=>?_
        refine ai.bh (hJ _ rfl) 4 (n:=1) _ rfl rfl ?_;simp only[*,go_sem,-b,-a,-hJ,muA,msA,stA,smA,Int.reduceBEq,Int.reduceBNe]
        refine vB (-7) vm a8 ⟨_,_,_,rfl,(by first|(simp only[*,go_sem,-b,-a,-hJ];done)|rfl),rfl,by first|(simp only[*,go_sem,-b,-a,-hJ,muA,msA,stA,smA,Int.reduceBEq,Int.reduceBNe];done)|(simp only[*,go_sem,-b,-a,-hJ,muA,msA,stA,smA,Int.reduceBEq,Int.reduceBNe];rfl),rfl⟩ (by rfl) (by simp) (fun φ mu ms Q ao bo ca cb he c hm=>⟨.held,_,?_,⟨_,_,_,_,_,zF hm c {mp:=.held,gp:=.cnt,stored:=st,deaf:=1} false (by rw[he]) rfl (fun _=>rfl)⟩,?_⟩)
        ·have e0:=hm.st.eq
         have bb:Q<=3*n:=hm.bound
         have eS:=hm.st.s
         have e3:=hm.st.w
         have fa:=hm.st.l
         rw[gH (by omega) (by omega)]
         simp;omega
        refine ai.nil a (b _ _ _ ?_);clear b K
        refine mQ ?_
        change rq Mu st d _ _ _
        exact ⟨rfl,(by simp only[*,go_sem,-a,-hJ,muA,msA,stA,smA,Int.reduceBEq,Int.reduceBNe]),(by simp only[*,go_sem,-a,-hJ,muA,msA,stA,smA,Int.reduceBEq,Int.reduceBNe]),(by simp only[*,go_sem,-a,-hJ,muA,msA,stA,smA,Int.reduceBEq,Int.reduceBNe]),rfl⟩
       ·clear a7
        repeat refine ax (a _) ?_
        refine cG (a _) (by simp only[*,go_sem,-a,-hJ,Int.reduceBEq,Int.reduceBNe]) ?_
        repeat refine ax (a _) ?_
        refine aQ a fun K b=>?_
        refine ai.bh (hJ _ rfl) 3 (n:=0) _ rfl rfl ?_;simp only[*,go_sem,-b,-a,-hJ,muA,msA,stA,smA,Int.reduceBEq,Int.reduceBNe]
        refine ai.nil a (b _ _ _ ?_);clear b K
        repeat refine ax (a _) ?_
        refine aQ a fun K b=>?_
        refine ai.bh (hJ _ rfl) 4 (n:=1) _ rfl rfl ?_;simp only[*,go_sem,-b,-a,-hJ,muA,msA,stA,smA,Int.reduceBEq,Int.reduceBNe]
        refine vB (-11) vm a8 ⟨_,_,_,rfl,(by first|(simp only[*,go_sem,-b,-a,-hJ];done)|rfl),rfl,by first|(simp only[*,go_sem,-b,-a,-hJ,muA,msA,stA,smA,Int.reduceBEq,Int.reduceBNe];done)|(simp only[*,go_sem,-b,-a,-hJ,muA,msA,stA,smA,Int.reduceBEq,Int.reduceBNe];rfl),rfl⟩ (by rfl) (by simp) (fun φ mu ms Q ao bo ca cb he c hm=>⟨.held,_,?_,⟨_,_,_,_,_,zF hm c {mp:=.held,gp:=.cnt,stored:=st,deaf:=1} true (by rw[he]) rfl (by simp)⟩,?_⟩)
        ·have e0:=hm.st.eq
         have bb:Q<=3*n:=hm.bound
         have eS:=hm.st.s
         have e3:=hm.st.w
         have fa:=hm.st.l
         rw[gH (by omega) (by omega)]
         simp;omega
        refine ai.nil a (b _ _ _ ?_);clear b K
        refine mQ ?_
        change rq Mu st d _ _ _
        exact ⟨rfl,(by simp only[*,go_sem,-a,-hJ,muA,msA,stA,smA,Int.reduceBEq,Int.reduceBNe]),(by simp only[*,go_sem,-a,-hJ,muA,msA,stA,smA,Int.reduceBEq,Int.reduceBNe]),(by simp only[*,go_sem,-a,-hJ,muA,msA,stA,smA,Int.reduceBEq,Int.reduceBNe]),rfl⟩
    ·obtain ⟨M,ba,bl⟩:=qU hm c {mp:=.want aw mu (bG n φ ms),gp:=.cnt,stored:=st,deaf:=1} (by rw[he]) rfl
     have dd:bG n φ ms<G:=bl dp
     refine ⟨.want aw mu (bG n φ ms),⟨_,_,_,_,q,M⟩,?_⟩
     clear k u z H O x U V M ba bl he c hm Y cS a9 bk
     refine ai.nil a (b _ _ _ ?_);clear b K
     repeat refine ax (a _) ?_
     refine cn (a _) (by simp only[*,go_sem,-a,-hJ,Int.reduceBEq,Int.reduceBNe]) ?_
     repeat refine ax (a _) ?_
     refine aQ a fun K b=>?_
     refine ai.bh (hJ _ rfl) 3 (n:=2) _ rfl rfl ?_;simp only[*,go_sem,-b,-a,-hJ,muA,msA,stA,smA,Int.reduceBEq,Int.reduceBNe]
     refine mU q6 mS ⟨_,rfl,(by first|(simp only[*,go_sem,-b,-a,-hJ];done)|rfl),rfl,rfl⟩ (by rfl) (by simp only[*,go_sem,-b,-a,-hJ,muA,msA,stA,smA,Int.reduceBEq,Int.reduceBNe]) (fun bd dk bj I bc da db br dC dE bz=>?_)
     obtain ⟨cd,dT,_⟩:=qU bz dE {mp:=.want aw dk (bG n bd bj),gp:=.cnt,stored:=st,deaf:=1} (by rw[dC]) rfl
     have gl:bG n bd bj<=bG n φ ms:=dT
     have bb:I<=3*n:=bz.bound
     have ae:=wd bz.st (by omega)
     have cf:aw=true->bc=0/\da=1:=fun e=>by subst e;exact zE bz dE (by rw[dC])
     refine ⟨.want aw dk (bG n bd bj),⟨_,_,_,_,br,cd⟩,?_⟩
     clear cd dT
     refine ai.bh (hJ _ rfl) 1 (n:=0) _ rfl rfl ?_;simp only[*,go_sem,-b,-a,-hJ,muA,msA,stA,smA,Int.reduceBEq,Int.reduceBNe]
     refine ai.nil a (b _ _ _ ?_);clear b K
     change ∃q,q<m/\rm Mu n st d q _ _ _
     exact ⟨8*bG n bd bj+(5 - it).toNat,by omega,wt,it,dk,sv,aw,I,bc,da,db,bG n bd bj,rfl,(by simp only[*,go_sem,-a,-hJ,muA,msA,stA,smA,Int.reduceBEq,Int.reduceBNe]),(by simp only[*,go_sem,-a,-hJ,muA,msA,stA,smA,Int.reduceBEq,Int.reduceBNe]),(by simp only[*,go_sem,-a,-hJ,muA,msA,stA,smA,Int.reduceBEq,Int.reduceBNe]),(by simp only[*,go_sem,-a,-hJ,muA,msA,stA,smA,Int.reduceBEq,Int.reduceBNe]),(by simp only[*,go_sem,-a,-hJ,muA,msA,stA,smA,Int.reduceBEq,Int.reduceBNe]),(by simp only[*,go_sem,-a,-hJ,muA,msA,stA,smA,Int.reduceBEq,Int.reduceBNe]),(by simp only[*,go_sem,-a,-hJ,muA,msA,stA,smA,Int.reduceBEq,Int.reduceBNe]),(by simp only[*,go_sem,-a,-hJ,muA,msA,stA,smA,Int.reduceBEq,Int.reduceBNe]),ae,bb,by omega,by omega,X,cf,Nat.le_refl _,rfl⟩
 ·rintro A F' aF ⟨rfl,g,f,hd,rfl⟩
  repeat refine ax (a _) ?_
  refine cG (a _) (by simp only[*,go_sem,-a,-hJ,Int.reduceBEq,Int.reduceBNe]) ?_
  repeat refine ax (a _) ?_
  refine aQ a fun K b=>?_
  refine q8 j7 ⟨_,_,_,rfl,(by first|(simp only[*,go_sem,-b,-a,-hJ];done)|rfl),rfl,by first|(simp only[*,go_sem,-b,-a,-hJ,muA,msA,stA,smA,Int.reduceBEq,Int.reduceBNe];done)|(simp only[*,go_sem,-b,-a,-hJ,muA,msA,stA,smA,Int.reduceBEq,Int.reduceBNe];rfl),rfl⟩ (by simp) (by simp) rfl ?_
  refine ai.nil a (b _ _ _ ?_);clear b K
  repeat refine ax (a _) ?_
  refine aQ a fun K b=>?_
  refine ai.bh (hJ _ rfl) 1 (n:=2) _ rfl rfl ?_;simp only[*,go_sem,-b,-a,-hJ,muA,msA,stA,smA,Int.reduceBEq,Int.reduceBNe]
  refine rf ⟨Mu,0,none⟩ vo j8 vq ⟨_,rfl,(by first|(simp only[*,go_sem,-b,-a,-hJ];done)|rfl),rfl,rfl⟩ (by simp) (by simp only[*,go_sem,-b,-a,-hJ,muA,msA,stA,smA,Int.reduceBEq,Int.reduceBNe]) vC ?_
  refine Af q4 ⟨_,_,_,rfl,(by first|(simp only[*,go_sem,-b,-a,-hJ];done)|rfl),rfl,by first|(simp only[*,go_sem,-b,-a,-hJ,muA,msA,stA,smA,Int.reduceBEq,Int.reduceBNe];done)|(simp only[*,go_sem,-b,-a,-hJ,muA,msA,stA,smA,Int.reduceBEq,Int.reduceBNe];rfl),rfl⟩ (by rfl) ?_
  refine ai.nil a (b _ _ _ ?_);clear b K
  exact j5 rfl (by simp only[*,go_sem,-a,-hJ]) ⟨rfl,rfl,rfl⟩
end
end Go.Proofs.YtipgiooobncfbaaGreatDoor
end
section
namespace Go.Proofs.YtipgiooobncfbaaGreatDoor
open Go Go.Sep Go.Proofs Go.Conc
open Go.ConcN (upd upd_same)
open Go.ConcM (muA msA)
open Go.ConcR (stA smA)
set_option maxRecDepth 100000
set_option maxHeartbeats 4000000
section
variable {Mu Wg Is n base T0 i : Nat} {bs : Nat → Bool} {st : Bool} {F : af}
theorem FI (b:Mu≠Wg/\Mu≠Is/\Wg≠Is)(c:n<67108864):
  cq Tryz.prog (WJ (CY Mu Wg Is n bs base T0) i) 134 #[.pointer (some (muA Mu))] F ⟨.idle,.cnt,st,0⟩ (fun v F' aF=>v= .tuple #[]/\F'=F/\aF=⟨.held,.cnt,st,0⟩):=by
 have a:=WJ.dQ (CY Mu Wg Is n bs base T0) i
 have hJ:∀ph:Ph,ph.gp= .cnt->Go.Sep.Closed Tryz.prog false (WJ (CY Mu Wg Is n bs base T0) i ph):=fun ph h=>Wk.closed (CY Mu Wg Is n bs base T0) i ph h
 refine cq.go (main:=false) a Tryz.func134 rfl Tryz.ntmps134 (by simp) fun A e hd hs=>?_
 have f:=hs 0
 clear hs
 repeat refine ax (a _) ?_
 refine cH a ?_
 refine ai.bh (hJ _ rfl) 3 (n:=1) _ rfl rfl ?_;simp only[*,go_sem,muA,msA,stA,smA,Int.reduceBEq,Int.reduceBNe]
 refine ai.fh (a _) rfl rfl rfl BO (by simp only[*,go_sem,muA]) (FA b (FH b c)) fun v F' aF d=>?_
 obtain ⟨rfl,rfl,rfl⟩:=d
 refine ai.nil a ?_
 exact j5 rfl (by simp only[*,go_sem]) ⟨rfl,rfl,rfl⟩
theorem FJ (b:Mu≠Wg/\Mu≠Is/\Wg≠Is)(c:n<67108864):
  cq Tryz.prog (WJ (CY Mu Wg Is n bs base T0) i) 135 #[.pointer (some (muA Mu))] F ⟨.held,.cnt,st,0⟩ (fun v F' aF=>v= .tuple #[]/\F'=F/\aF=⟨.fin,.cnt,st,0⟩):=by
 have a:=WJ.dQ (CY Mu Wg Is n bs base T0) i
 have hJ:∀ph:Ph,ph.gp= .cnt->Go.Sep.Closed Tryz.prog false (WJ (CY Mu Wg Is n bs base T0) i ph):=fun ph h=>Wk.closed (CY Mu Wg Is n bs base T0) i ph h
 refine cq.go (main:=false) a Tryz.func135 rfl Tryz.ntmps135 (by simp) fun A e hd hs=>?_
 have f:=hs 0
 clear hs
 repeat refine ax (a _) ?_
 refine cH a ?_
 refine ai.bh (hJ _ rfl) 3 (n:=1) _ rfl rfl ?_;simp only[*,go_sem,muA,msA,stA,smA,Int.reduceBEq,Int.reduceBNe]
 refine ai.fh (a _) rfl rfl rfl BP (by simp only[*,go_sem,muA]) (FD b c) fun v F' aF d=>?_
 obtain ⟨rfl,rfl,rfl⟩:=d
 refine ai.nil a ?_
 exact j5 rfl (by simp only[*,go_sem]) ⟨rfl,rfl,rfl⟩
end
end Go.Proofs.YtipgiooobncfbaaGreatDoor
end
section
namespace Go.Sep
open Go Go.Conc
def ru (op:BinOp)(u v:Value):Option Value:=match op with
 | .shl=>match u,v with
  | .int k a,.int _ b=>if b<0 then none else some (.int k (k.wrap (a*2 ^ min b.toNat k.bits)))
  |_,_=>none
 | .shr=>match u,v with
  | .int k a,.int _ b=>if b<0 then none else some (.int k (a.fdiv (2 ^ min b.toNat k.bits)))
  |_,_=>none
 |_=>lJ op u v
def mV (P:Program)(op:Op)(a:Act):Option Value:=match op with
 | .move x| .assign x=>some (ev a x)
 | .nilCheck x=>match ev a x with
  | .pointer (some ad)=>some (.pointer (some ad))
  |_=>none
 | .pick c x y=>match ev a c with
  | .bool b=>some (if b then ev a x else ev a y)
  |_=>none
 | .binOp op t x y _=>ru op (ev a x) (ev a y)
 | .unOp op _ x=>kA op (ev a x)
 | .convert src dst x=>kC P src dst (ev a x)
 | .fieldAddr s x n=>match ev a x with
  | .pointer (some ad)=>match cx P s n with
   |some k=>some (.pointer (some (ad.add k)))
   |none=>none
  |_=>none
 |_=>none
theorem FK {P:Program}{op:BinOp}{t:TypeId}{x y:Operand}{u v r:Value}(h:ru op u v=some r)(w:World):
  (do eqGuard op t x y u v;pure (.value (<-binOp op t u v)):Sem Next).run P w= .ok (.value r) w/\(do eqGuard op t x y u v;pure (.value (<-binOp op t u v)):Sem Next).events P w #[]=#[]:=by
 unfold ru at h
 split at h
 ·split at h
  case h_2=>cases h
  split at h
  ·cases h
  ·rename_i hb;cases h;simp[eqGuard,binOp,Op.shift,hb]
 ·split at h
  case h_2=>cases h
  split at h
  ·cases h
  ·rename_i hb;cases h;simp[eqGuard,binOp,Op.shift,hb]
 ·rename_i n1 n2
  unfold lJ at h
  split at h
  case h_2=>cases h
  rename_i k a d b
  split at h
  case isFalse=>cases h
  rename_i c
  subst c
  cases op<;>simp only[binOp,ne_eq,not_true_eq_false,if_false,Op.intArith,Op.intDiv,Op.intCmp,Op.intBits,Op.shift,eqGuard] at h ⊢<;>first
   |(cases h;done)
   |(exact absurd rfl n1)
   |(exact absurd rfl n2)
   |(cases h;simp;done)
   |(split at h
     ·cases h
     ·rename_i hb;cases h;simp[hb])
theorem Ak {P:Program}{o:Oper}{a:Act}{v:Value}(h:mV P o.op a=some v)(w:World):(execOp a.eval o).run P w= .ok (.value v) w/\(execOp a.eval o).events P w #[]=#[]:=by
 obtain ⟨dst,op,type,pos,after,guard⟩:=o
 unfold execOp
 simp only[dW] at h ⊢
 unfold mV at h
 cases op<;>simp only[reduceCtorEq] at h ⊢
 case move x=>cases h;simp
 case assign x=>cases h;simp
 case nilCheck x=>
  split at h
  ·rename_i ad e;cases h;simp[e]
  ·cases h
 case pick c x y=>
  split at h
  ·rename_i b hb;cases h;simp[hb,asBool]
  ·cases h
 case binOp op t x y r=>have:=FK (P:=P) (t:=t) (x:=x) (y:=y) h w;simpa using this
 case unOp op t x=>
  revert h
  cases ev a x<;>cases op<;>simp only[kA,reduceCtorEq,false_implies,Option.some.injEq]<;>intro h<;>subst h<;>simp[Op.unary,Op.intArith]
 case convert src dst x=>
  revert h
  cases e:ev a x<;>simp only[kC,reduceCtorEq,false_implies]
  intro h
  split at h
  ·rename_i k1 u h1 h2
   cases h
   simp[convert,run_underlying h1,run_underlying h2,Conv.intToInt]
  ·cases h
 case fieldAddr s x n=>
  split at h
  case h_2=>cases h
  rename_i ad i
  split at h
  case h_2=>cases h
  rename_i k d
  cases h
  unfold cx at d
  split at d
  case h_2=>cases d
  rename_i z g
  split at d
  case h_2=>cases d
  rename_i f j
  split at d
  case h_2=>cases d
  rename_i m hm
  cases d
  obtain ⟨inf,l,p⟩:=Option.map_eq_some_iff.1 hm
  have q:Instr.sureAddr (.pointer (some ad))=(Pure.pure ad:Sem Addr):=rfl
  simp[Instr.fieldAt,run_underlying g,g,j,i,q,fieldPlace,Go.sizeOf,typeInfo,l,p,Result.andThen,Result.evThen]
def gL (P:Program)(ops:Array Oper)(K:Act->Prop):List Oper->Act->Prop
 |[],a=>K a
 |o::rest,a=>match cp ops o a with
  |some true=>match mV P o.op a with
   |some v=>gL P ops K rest (aV a o.dst v)
   |none=>False
  |some false=>gL P ops K rest (aV a o.dst undef)
  |none=>False
theorem FL {P:Program}{ops:Array Oper}{K:Act->Prop}{a:Act}:gL P ops K [] a=K a:=(Eq.refl _).trans (Eq.refl _)
theorem FM {P:Program}{ops:Array Oper}{K:Act->Prop}{o:Oper}{rest:List Oper}{a:Act}:gL P ops K (o::rest) a=match cp ops o a with
  |some true=>match mV P o.op a with
   |some v=>gL P ops K rest (aV a o.dst v)
   |none=>False
  |some false=>gL P ops K rest (aV a o.dst undef)
  |none=>False:=(Eq.refl _).trans (Eq.refl _)
attribute [go_sem] FL FM mV ru
section
variable {P : Program} {main : Bool} {S : Type} {JF : S → Goroutine → af → Prop} {fi : FuncId} {ops : Array Oper} {F : af} {ph : S} {Q : Act → af → S → Prop}
theorem vD (d:dy P main (JF ph)):∀(l:List Oper) (i n:Nat) (a:Act),(∀j o,l[j]?=some o->ops[i+j]?=some o)->gL P ops (fun b=>ai JF fi ops (i+l.length) n Q b F ph) l a->ai JF fi ops i (l.length+n) Q a F ph
 |[],i,n,a,_,h=>by rw[List.length_nil,Nat.zero_add];exact h
 |o::rest,i,n,a,k,h=>by
  have m:ops[i]?=some o:=k 0 o rfl
  have p:∀j x,rest[j]?=some x->ops[i+1+j]?=some x:=fun j x q=>by rw[Nat.add_assoc,Nat.add_comm 1 j];exact k (j+1) x q
  have e:(o::rest).length+n=(rest.length+n)+1:=by rw[List.length_cons];omega
  have e2:∀b,ai JF fi ops (i+(o::rest).length) n Q b F ph->ai JF fi ops (i+1+rest.length) n Q b F ph:=fun b x=>by
   rw[show i+1+rest.length=i+(o::rest).length by rw[List.length_cons];omega];exact x
  rw[e]
  have mono:∀(l:List Oper) (a:Act) {K f:Act->Prop},(∀a,K a->f a)->gL P ops K l a->gL P ops f l a:=by
   intro l
   induction l with
   |nil=>intro a K f g h;exact g a h
   |cons o l ih=>
    intro a K f g h
    unfold gL at h ⊢
    cases hg:cp ops o a with
    |none=>rw[hg] at h;exact h.elim
    |some t=>
     rw[hg] at h
     cases t with
     |false=>exact ih _ g h
     |true=>
      simp only at h ⊢
      cases c:mV P o.op a with
      |none=>rw[c] at h;exact h.elim
      |some v=>rw[c] at h;exact ih _ g h
  unfold gL at h
  split at h
  ·rename_i hg
   split at h
   ·rename_i v c
    exact ai.plain d v m hg (fun w=>(Ak c w).1) (fun w=>(Ak c w).2) (vD d rest (i+1) n _ p (mono _ _ e2 h))
   ·exact h.elim
  ·rename_i hg
   exact ai.skip d m hg (vD d rest (i+1) n _ p (mono _ _ e2 h))
  ·exact h.elim
theorem ai.pure (d:dy P main (JF ph))(m:Nat){i n:Nat}{a:Act}(l:List Oper)(c:(ops.toList.drop i).take m=l)(hm:l.length=m)(h:gL P ops (fun e=>ai JF fi ops (i+m) n Q e F ph) l a):ai JF fi ops i (m+n) Q a F ph:=by
 subst hm
 refine vD d l i n a (fun j o b=>?_) h
 rw[<-c] at b
 have f:j<l.length:=by
  rcases Nat.lt_or_ge j l.length with x|x
  ·exact x
  ·rw[c,List.getElem?_eq_none x] at b;cases b
 rw[List.getElem?_take,if_pos f,List.getElem?_drop] at b
 simpa using b
end
end Go.Sep
end
section
namespace Go.Sep
open Go Go.Conc
open Go.ConcN (sumTo upd upd_ne upd_same)
open Go.ConcM (MuAt muA msA muBlock OsLater)
open Go.ConcR (WgAt wgBlock stA smA)
section
variable {c : Cy} {i : Nat} {ph : Ph} {ops : Array Oper} {j n : Nat} {Q : Act → af → Ph → Prop} {a : Act} {F : af} {f fi : FuncId} {d : Option Tmp}
theorem Inv.group {k:Nat}{φ:Nat->Ph}{p0:P0}{s:Sh}(h:Inv c.n c.bs k φ p0 s)(a:i<c.n)(he:φ i=ph)(h1:ph.gp≠ .new)(h2:ph.gp≠ .cnt){gp:Gp}(b:gp≠ .new){wg ws:Int}
  (hw:cZ c.n (upd φ i {ph with gp:=gp}) p0 wg ws):Inv c.n c.bs k (upd φ i {ph with gp:=gp}) p0 {s with wg:=wg,ws:=ws}:=by
 obtain ⟨C,S,W,L,m,hm⟩:=h.m
 refine h.iK a he h1 b ⟨C,S,W,L,m,lA hm a _ (.inl (by rw[he]))⟩ hw ?_ (fun _=>?_)
 ·have:=h.i.all i a
  rw[he] at this
  exact (vz this).symm
 ·have:=h.i.done i a (by rw[he];exact h2) (by rw[he];exact h1)
  rw[he] at this
  exact this
theorem FN (m:Entry c.P f (Extern.Atomic.update (Op.intArith .add) .u64 true))(p:c.Mu≠c.Wg/\c.Mu≠c.Is/\c.Wg≠c.Is)(H:c.n<67108864)(q:At ops j a f [.pointer (some (stA c.Wg)),.int .u64 18446744069414584320] d)
  (h1:ph.gp= .rel) (h0:0<ph.deaf)
  (h:∀v t:Nat,v<=c.n->t<=1->ai (WJ c i) fi ops (j+1) n Q (aV a d (.int .u64 ((v:Int)*4294967296+t))) F {ph with gp:=if v=0/\t=1 then .ld else .gone}):
  ai (WJ c i) fi ops j (n+1) Q a F ph:=by
 obtain ⟨o,ck,cQ,l,hg,r,u,rfl⟩:=q
 obtain ⟨x,y,rfl,z,A⟩:=oN u
 obtain ⟨fn,f1,f2,f3,f4,f5⟩:=m.ex
 refine eM l (by rw[h1];simp) fun w s k φ p0 _ hs e he g=>.inr ?_
 obtain ⟨v,t,e1,ht,B,_⟩:=zI g.w e ph (by rw[he];exact h1)
 obtain ⟨C,D,E,I,_,hw⟩:=zI g.w e {ph with gp:=if v=0/\t=1 then .ld else .gone} (by rw[he];exact h1)
 obtain ⟨rfl,rfl⟩:v=C/\t=D:=by simp only[cE] at e1 E;omega
 have e2:IntKind.u64.wrap (s.wg+18446744069414584320)=(v:Int)*4294967296+t:=by
  rw[e1]
  unfold IntKind.wrap
  simp only[IntKind.bits,IntKind.signed,cE]
  simp
  omega
 have G:s.wg - cE=(v:Int)*4294967296+t:=by rw[e1];simp only[cE];omega
 refine ⟨.int .u64 ((v:Int)*4294967296+t),_,_,{s with wg:=(v:Int)*4294967296+t},{ph with gp:=if v=0/\t=1 then .ld else .gone},fun b J cs hb=>by rw[<-e2];exact stepG_add_atomic l (bV hg) hb.kind r f1 f2 f3 f4 .u64 f5 z A hs.wg.1 hs.wg.2,by rw[<-e2];exact hs.q7 p _,.set _ (.inr (.inl rfl)),?_,vv rfl ?_ h0 (.inl rfl),.inr c8,h v t B ht⟩
 ·refine g.group e he (by rw[h1];simp) (by rw[h1];simp) (by split<;>simp) ?_
  rw[<-G]
  exact hw rfl
 ·simp only[h1];split<;>simp
theorem FO (m:Entry c.P f (Extern.Atomic.loadT (.int .u64)))(p:At ops j a f [.pointer (some (stA c.Wg))] d)(h1:ph.gp= .ld)(h0:0<ph.deaf)
  (h:ai (WJ c i) fi ops (j+1) n Q (aV a d (.int .u64 1)) F {ph with gp:=.st}):ai (WJ c i) fi ops j (n+1) Q a F ph:=by
 obtain ⟨o,ck,cQ,e,hg,q,r,rfl⟩:=p
 obtain ⟨x,rfl,t⟩:=iN r
 obtain ⟨fn,f1,f2,f3,f4,f5⟩:=m.ex
 refine eM e (by rw[h1];simp) fun w s k φ p0 _ hs g he l=>.inr ?_
 obtain ⟨e1,hw⟩:=EG l.w g {ph with gp:=.st} (by rw[he];exact h1) rfl
 exact ⟨.int .u64 1,_,_,s,{ph with gp:=.st},fun b u cs hb=>by rw[<-e1];exact stepG_load_atomic e (bV hg) hb.kind q f1 f2 f3 f4 .u64 f5 t hs.wg.1,hs,.refl _ _,l.group g he (by rw[h1];simp) (by rw[h1];simp) (by simp) hw,vu false rfl (by simp[h1]) h0 (.inl rfl),.inr c8,h⟩
theorem FP (m:Entry c.P f Extern.Atomic.storeT)(p:c.Mu≠c.Wg/\c.Mu≠c.Is/\c.Wg≠c.Is)(q:At ops j a f [.pointer (some (stA c.Wg)),.int .u64 0] d)(h1:ph.gp= .st)(h0:0<ph.deaf)
  (h:ai (WJ c i) fi ops (j+1) n Q (aV a d (.tuple #[])) F {ph with gp:=.sm}):ai (WJ c i) fi ops j (n+1) Q a F ph:=by
 obtain ⟨o,ck,cQ,e,hg,r,t,rfl⟩:=q
 obtain ⟨x,y,rfl,u,v⟩:=oN t
 obtain ⟨fn,f1,f2,f3,f4,f5⟩:=m.ex
 refine eM e (by rw[h1];simp) fun w s k φ p0 _ hs g he l=>.inr ?_
 obtain ⟨e1,hw⟩:=EH l.w g {ph with gp:=.sm} (by rw[he];exact h1) rfl
 exact ⟨.tuple #[],_,_,{s with wg:=0},{ph with gp:=.sm},fun b z cs hb=>stepG_store_atomic e (bV hg) hb.kind r f1 f2 f3 f4 f5 u v hs.wg.1 hs.wg.2,hs.q7 p _,.set _ (.inr (.inl rfl)),l.group g he (by rw[h1];simp) (by rw[h1];simp) (by simp) hw,vu true rfl (by simp[h1]) h0 (.inl rfl),.inr c8,h⟩
theorem FQ (r t:Value)(g:Entry c.P f Extern.Sync.semrelease)(u:c.Mu≠c.Wg/\c.Mu≠c.Is/\c.Wg≠c.Is)(v:At ops j a f [.pointer (some (smA c.Wg)),r,t] d)(h1:ph.gp= .sm)
  (h:ai (WJ c i) fi ops (j+1) n Q (aV a d (.tuple #[])) F {ph with gp:=.gone}):ai (WJ c i) fi ops j (n+1) Q a F ph:=by
 obtain ⟨o,ck,cQ,l,hg,m,A,rfl⟩:=v
 obtain ⟨x,y,z,rfl,e,_,_⟩:=oO A
 obtain ⟨fn,f1,f2,f3,f4,f5⟩:=g.ex
 refine eM l (by rw[h1];simp) fun w s k φ p0 _ hs p he q=>.inr ?_
 obtain ⟨e1,hw⟩:=EI q.w p {ph with gp:=.gone} (by rw[he];exact h1) rfl
 have B:IntKind.u32.wrap (s.ws+1)=s.ws+1:=by rw[e1];decide
 refine ⟨.tuple #[],_,_,{s with ws:=s.ws+1},{ph with gp:=.gone},fun b C cs hb=>stepG_semrelease l (bV hg) hb.kind m f1 f2 f3 f4 f5 (by simp[dW,e]) hs.ws.1 hs.ws.2,by rw[B];exact hs.Ad u _,.set _ (.inr (.inl rfl)),
  q.group p he (by rw[h1];simp) (by rw[h1];simp) (by simp) hw,vw rfl (by simp[h1]) (.inl rfl),.inl ⟨_,m,fun x e=>?_⟩,h⟩
 cases e
 exact ⟨f,rfl,g.z2⟩
end
end Go.Sep
end
section
namespace Go.Sep
open Go Go.Conc
open Go.ConcN (sumTo upd upd_ne upd_same)
theorem ai.defer {P:Program}{main:Bool}{S:Type}{JF:S->Goroutine->af->Prop}{fi f:FuncId}{ops:Array Oper}{j n:Nat}{Q:Act->af->S->Prop}{a:Act}{F:af}{ph:S}(e:dy P main (JF ph)){o:Oper}{ck:Array Operand}{cQ:Array TypeId}{vals:Array Value}
  (g:ops[j]?=some o) (hg:cp ops o a=some true) (k:o.op= .defer {callee:=.value (.func f),args:=ck,argTypes:=cQ}) (hd:o.dst=none) (l:ck.map a.eval=vals)
  (h:∀c:Act,(∀i,slot c i=slot a i)->sz c=sz a->c.defers=dcall f vals::a.defers->ai JF fi ops (j+1) n Q c F ph):ai JF fi ops j (n+1) Q a F ph:=fun b d cs hb m=>by
 rw[List.range'_succ,dZ hb.round]
 refine e.move (fr':=b.at (Act.put ⟨a.tmps,dcall f (ck.map a.eval)::a.defers⟩ o.dst undef) (.inRegion ops (List.range' (j+1) n)::d)) (fun w=>stepG_defer g (bV hg) hb.kind k) ?_
 rw[<-dZ hb.round,hd,l]
 exact h ⟨a.tmps,dcall f vals::a.defers⟩ (fun _=>rfl) rfl rfl b d cs hb m
section
variable {c : Cy} {i : Nat} {ph : Ph} {F : af} {f : FuncId}
theorem FR (g:Entry c.P f (fun _=>do mark .enable;pure Extern.Race.none_))(hg:ph.gp= .gone){d:Nat}(hd:ph.deaf=d+1){b:Frame}{a:Act}{todo:List Item}{cs:List Frame}{e:List Deferred}(j:a.defers=dcall f #[]::e)
  (h:WJ c i {ph with deaf:=d} (G {b.at ⟨a.tmps,e⟩ todo with mode:=.returning} cs) F):WJ c i ph (G {b.at a todo with mode:=.returning} cs) F:=by
 obtain ⟨F0,r,hle,hW⟩:=h
 obtain ⟨q,_,k⟩:=hW.left hg
 obtain ⟨fn,f1,f2,f3,f4,f5⟩:=g.ex
 refine Wk.gone (q:=q+1) hg (QuitsD.unwind_mark .enable rfl (by simp) j f1 f2 f3 f4 f5 ?_)
 rw[hd]
 exact k
def jw (f:FuncId)(R:Value->af->Ph->Prop):Ex->Act->af->Ph->Prop
 | .exit _,_,_,_=>False
 |_,a,F,ph=>a.defers=[dcall f #[]]/\ph.gp= .gone/\∃b,ph.deaf=b+1/\R (.tuple #[]) F {ph with deaf:=b}
theorem cq.FT {f0:FuncId}(q:Entry c.P f (fun _=>do mark .enable;pure Extern.Race.none_)){fn:Func}{cd:Code}{n:Nat}{args:Array Value}{R:Value->af->Ph->Prop}(m:c.P.funcs[f0]?=some fn)(hb:fn.body=some cd)(o:fn.results=#[])(p:fn.ntmps=n)(x:args.size<=n)
  (h:∀A:Act,sz A=n->A.defers=[]->(∀i,slot A i=args.getD i undef)->cw (WJ c i) f0 cd (jw f R) A F ph):cq c.P (WJ c i) f0 args F ph R:=by
 intro g cs r
 let b:Frame:={(default:Frame) with fn:=f0,kind:=.normal}
 have s:b.roundOf=none:=rfl
 have t:Frame.enter c.P f0 args .normal=on b {tmps:=args++Array.replicate (fn.ntmps - args.size) undef,defers:=[]} [.code cd]:=by
  simp[Frame.enter,on,m,hb,b]
  rfl
 rw[t]
 have j:=WJ.dQ c i
 have leave:∀(a:Act) (todo:List Item) F' (aF:Ph),(a.defers=[dcall f #[]]/\aF.gp= .gone/\∃k,aF.deaf=k+1/\R (.tuple #[]) F' {aF with deaf:=k})->WJ c i aF (G {on b a todo with mode:=.returning} (g::cs)) F':=by
  intro a todo F' aF ⟨hd,hg,k,u,v⟩
  rw[dZ s]
  refine FR q hg u hd ((j _).move (fr':=g.finish (.tuple #[])) (cs':=cs) (fun w=>?_) (r _ F' _ v))
  exact stepG_leave rfl rfl m (results_none o _ c.P w) (events_results_none o _ _)
 refine h _ (by simp[sz,p];omega) rfl (fun i=>?_) b [] (g::cs) ⟨by simp[b],rfl,rfl⟩ fun e a F' aF l=>?_
 ·simp only[slot,p,Array.getD_eq_getD_getElem?]
  rcases Nat.lt_or_ge i args.size with d|d
  ·rw[Array.getElem?_append_left d]
  ·rw[Array.getElem?_append_right d,Array.getElem?_replicate,Array.getElem?_eq_none d]
   split<;>rfl
 ·cases e with
  |normal=>exact (j aF).move (fun _=>ko rfl) (leave a _ F' aF l)
  |exit i=>exact l.elim
  |ret=>exact fun y=>(j aF).move (fun _=>stepG_ret' rfl) (leave a _ F' aF l)
def vE (R:af->Ph->Prop):Ex->Act->af->Ph->Prop
 | .exit _,_,_,_=>False
 |_,a,F,ph=>a.defers=[]/\R F ph
theorem FU {f0:FuncId}{fn:Func}{cd:Code}{n:Nat}{args:Array Value}{R:af->Ph->Prop}(l:c.P.funcs[f0]?=some fn)(q:(fn.name== "runtime.NumGoroutine")=false)(hb:fn.body=some cd)(m:fn.results=#[])(o:fn.ntmps=n)(u:args.size<=n)
  {b:Frame} {a:Act} {todo:List Item} {cs:List Frame} {f:List Deferred} (r:a.defers=dcall f0 args::f)
  (h:∀A:Act,sz A=n->A.defers=[]->(∀i,slot A i=args.getD i undef)->cw (WJ c i) f0 cd (vE R) A F ph)
  (s:∀F' aF,R F' aF->WJ c i aF (G {b.at ⟨a.tmps,f⟩ todo with mode:=.returning} cs) F'):WJ c i ph (G {b.at a todo with mode:=.returning} cs) F:=by
 have g:=WJ.dQ c i
 refine (g ph).move (fun w=>stepG_unwind_enter r l q hb) ?_
 have leave:∀(d:Act) (p:List Item) F' (aF:Ph),(d.defers=[]/\R F' aF)->WJ c i aF (G {(baseD f0).at d p with mode:=.returning} ({b.at ⟨a.tmps,f⟩ todo with mode:=.returning}::cs)) F':=by
  intro d p F' aF ⟨hd,t⟩
  exact (g _).move (fun w=>stepG_leave_deferred rfl hd l (results_none m _ c.P w) (events_results_none m _ _) rfl) (s F' aF t)
 have:=h {tmps:=args++Array.replicate (fn.ntmps - args.size) undef,defers:=[]} (by simp[sz,o];omega) rfl (fun i=>?_) (baseD f0) [] ({b.at ⟨a.tmps,f⟩ todo with mode:=.returning}::cs) ⟨by simp[baseD],rfl,rfl⟩ fun e d F' aF k=>?_
 ·rw[dZ rfl] at this;exact this
 ·simp only[slot,o,Array.getD_eq_getD_getElem?]
  rcases Nat.lt_or_ge i args.size with j|j
  ·rw[Array.getElem?_append_left j]
  ·rw[Array.getElem?_append_right j,Array.getElem?_replicate,Array.getElem?_eq_none j]
   split<;>rfl
 ·cases e with
  |normal=>exact (g aF).move (fun _=>ko rfl) (leave d _ F' aF k)
  |exit i=>exact k.elim
  |ret=>exact fun v=>(g aF).move (fun _=>stepG_ret' rfl) (leave d _ F' aF k)
end
attribute [go_sem] jw vE
end Go.Sep
end
section
namespace Go.Sep
open Go
def jx (x y:Int):Int:=IntKind.u64.wrap ((BitVec.ofInt 64 x&&& BitVec.ofInt 64 y).toNat:Int)
@[go_sem] theorem MO (x y:Int):IntKind.u64.wrap ((@HAnd.hAnd (BitVec 64) (BitVec 64) (BitVec 64) (@instHAndOfAndOp (BitVec IntKind.u64.bits) (@BitVec.instAndOp IntKind.u64.bits)) (BitVec.ofInt 64 x) (BitVec.ofInt 64 y)).toNat:Int)=jx x y:=rfl
theorem vF (v t:Nat)(a:v<2147483648)(ht:t<=1):jx ((v:Int)*4294967296+(t:Int)) 2147483648=0:=Go.ConcN.st_flag v t a ht
theorem vG (v t:Nat)(a:v<2147483648)(ht:t<=1):jx ((v:Int)*4294967296+(t:Int)) 2147483647=(t:Int):=Go.ConcN.st_waiters v t a ht
theorem vH (v t:Nat)(ht:t<=1):((v:Int)*4294967296+(t:Int)).fdiv 4294967296=v:=by
 rw[Int.fdiv_eq_ediv_of_nonneg _ (by decide)]
 omega
end Go.Sep
namespace Go.Proofs.YtipgiooobncfbaaGreatDoor
open Go Go.Sep Go.Proofs Go.Conc
open Go.ConcN (upd upd_same)
open Go.ConcM (muA msA)
open Go.ConcR (stA smA)
set_option maxRecDepth 100000
set_option maxHeartbeats 4000000
set_option linter.all false
section
variable {Mu Wg Is n base T0 i : Nat} {bs : Nat → Bool} {st : Bool} {F : af}
theorem FV (w:World)(s:Sh)(h:cj (CY Mu Wg Is n bs base T0) w s):∃v,w.cell? ⟨Wg,0,none⟩=some v:=⟨_,h.wg.1⟩
theorem FW (b:Mu≠Wg/\Mu≠Is/\Wg≠Is)(c:n<67108864){mp:Mp}:
  cq Tryz.prog (WJ (CY Mu Wg Is n bs base T0) i) 158 #[.pointer (some (stA Wg)),.int .u64 18446744069414584320] F ⟨mp,.rel,st,1⟩
   (fun r F' aF=>F'=F/\∃v t:Nat,v<=n/\t<=1/\r= .int .u64 ((v:Int)*4294967296+(t:Int))/\aF=⟨mp,if v=0/\t=1 then .ld else .gone,st,1⟩):=by
 have a:=WJ.dQ (CY Mu Wg Is n bs base T0) i
 refine cq.go (main:=false) a Tryz.func158 rfl Tryz.ntmps158 (by simp) fun A e hd hs=>?_
 have f:=hs 0
 have k1:=hs 1
 clear hs
 repeat refine ax (a _) ?_
 refine cH a ?_
 refine ai.pure (a _) 1 (n:=0) _ rfl rfl ?_;simp only[*,go_sem,muA,msA,stA,smA,Int.reduceBEq,Int.reduceBNe]
 refine ai.nil a ?_;try simp only[go_sem]
 repeat refine ax (a _) ?_
 refine cH a ?_
 refine ai.pure (a _) 4 (n:=2) _ rfl rfl ?_;simp only[*,go_sem,muA,msA,stA,smA,Int.reduceBEq,Int.reduceBNe]
 refine FN z6 b c ⟨_,_,_,rfl,(by first|rfl|simp only[*,go_sem,Int.reduceBEq,Int.reduceBNe]),rfl,by first|(simp only[*,go_sem,muA,msA,stA,smA,Int.reduceBEq,Int.reduceBNe];done)|(simp only[*,go_sem,muA,msA,stA,smA,Int.reduceBEq,Int.reduceBNe];rfl),rfl⟩ (by rfl) (by simp) fun v t d ht=>?_
 refine ai.pure (a _) 1 (n:=0) _ rfl rfl ?_;simp only[*,go_sem,muA,msA,stA,smA,Int.reduceBEq,Int.reduceBNe]
 refine ai.nil a ?_;try simp only[go_sem]
 refine eL ?_;try simp only[go_sem]
 exact (j6 rfl (by simp only[*,go_sem]) (by simp only[*,go_sem]) ⟨rfl,v,t,d,ht,rfl,rfl⟩).2
theorem FX {mp:Mp}:
  cq Tryz.prog (WJ (CY Mu Wg Is n bs base T0) i) 160 #[.pointer (some (stA Wg))] F ⟨mp,.ld,st,1⟩
   (fun r F' aF=>F'=F/\r= .int .u64 1/\aF=⟨mp,.st,st,1⟩):=by
 have a:=WJ.dQ (CY Mu Wg Is n bs base T0) i
 refine cq.go (main:=false) a Tryz.func160 rfl Tryz.ntmps160 (by simp) fun A b hd hs=>?_
 have c:=hs 0
 clear hs
 repeat refine ax (a _) ?_
 refine cH a ?_
 refine ai.pure (a _) 1 (n:=0) _ rfl rfl ?_;simp only[*,go_sem,muA,msA,stA,smA,Int.reduceBEq,Int.reduceBNe]
 refine ai.nil a ?_;try simp only[go_sem]
 repeat refine ax (a _) ?_
 refine cH a ?_
 refine ai.pure (a _) 3 (n:=2) _ rfl rfl ?_;simp only[*,go_sem,muA,msA,stA,smA,Int.reduceBEq,Int.reduceBNe]
 refine FO vn ⟨_,_,_,rfl,(by first|rfl|simp only[*,go_sem,Int.reduceBEq,Int.reduceBNe]),rfl,by first|(simp only[*,go_sem,muA,msA,stA,smA,Int.reduceBEq,Int.reduceBNe];done)|(simp only[*,go_sem,muA,msA,stA,smA,Int.reduceBEq,Int.reduceBNe];rfl),rfl⟩ (by rfl) (by simp) ?_
 refine ai.pure (a _) 1 (n:=0) _ rfl rfl ?_;simp only[*,go_sem,muA,msA,stA,smA,Int.reduceBEq,Int.reduceBNe]
 refine ai.nil a ?_;try simp only[go_sem]
 refine eL ?_;try simp only[go_sem]
 exact (j6 rfl (by simp only[*,go_sem]) (by simp only[*,go_sem]) ⟨rfl,rfl,rfl⟩).2
theorem FY (b:Mu≠Wg/\Mu≠Is/\Wg≠Is){mp:Mp}:
  cq Tryz.prog (WJ (CY Mu Wg Is n bs base T0) i) 161 #[.pointer (some (stA Wg)),.int .u64 0] F ⟨mp,.st,st,1⟩
   (fun r F' aF=>F'=F/\r= .tuple #[]/\aF=⟨mp,.sm,st,1⟩):=by
 have a:=WJ.dQ (CY Mu Wg Is n bs base T0) i
 refine cq.go (main:=false) a Tryz.func161 rfl Tryz.ntmps161 (by simp) fun A c hd hs=>?_
 have d:=hs 0
 have k1:=hs 1
 clear hs
 repeat refine ax (a _) ?_
 refine cH a ?_
 refine ai.pure (a _) 4 (n:=1) _ rfl rfl ?_;simp only[*,go_sem,muA,msA,stA,smA,Int.reduceBEq,Int.reduceBNe]
 refine FP Ff b ⟨_,_,_,rfl,(by first|rfl|simp only[*,go_sem,Int.reduceBEq,Int.reduceBNe]),rfl,by first|(simp only[*,go_sem,muA,msA,stA,smA,Int.reduceBEq,Int.reduceBNe];done)|(simp only[*,go_sem,muA,msA,stA,smA,Int.reduceBEq,Int.reduceBNe];rfl),rfl⟩ (by rfl) (by simp) ?_
 refine ai.nil a ?_;try simp only[go_sem]
 exact j5 rfl (by simp only[*,go_sem]) ⟨rfl,rfl,rfl⟩
end
end Go.Proofs.YtipgiooobncfbaaGreatDoor
end
section
namespace Go.Sep
open Go Go.Conc
open Go.ConcN (sumTo upd upd_ne upd_same)
open Go.ConcM (MuAt muA msA muBlock OsLater)
open Go.ConcR (WgAt wgBlock stA smA)
structure X where
 Mu:Nat
 Wg:Nat
 Is:Nat
 n:Nat
 bs:Nat->Bool
 base:Nat
 T0:Nat
 B0:Nat
inductive Z where
 |free
 |co (x:X) (k:Nat) (p:P0) (d:Nat)
structure PT where
 P:Program
 tM:TypeId
 tW:TypeId
 tI:TypeId
abbrev X.cy (x:X)(T:PT):Cy:=⟨T.P,x.Mu,x.Wg,x.Is,T.tM,T.tW,T.tI,x.n,x.bs,x.base,x.T0⟩
def ZJ (T:PT)(Φ:Goroutine->af->Prop):Z->Goroutine->af->Prop
 | .free=>gK T.P Φ
 | .co x k p d=>fun g F=>(p= .reg->k=x.n)/\dP (x.cy T) x.B0 (gK T.P Φ) k p d g F
section
variable {T : PT} {Φ : Goroutine → af → Prop} {x : X} {k d : Nat} {p : P0} {ops : Array Oper} {j n : Nat} {Q : Act → af → Z → Prop} {a : Act} {F : af} {o : Oper} {f fi : FuncId} {dt : Option Tmp}
theorem Al {c:Cy}:Ev0 c d d #[]:=⟨by simp,rfl⟩
theorem FZ {c:Cy}:Ev0 c d (d+1) #[cu .disable]:=⟨fun e he=>by simp at he;exact .inl he,rfl⟩
theorem Am {c:Cy}:Ev0 c (d+1) d #[cu .enable]:=⟨fun e he=>by simp at he;exact .inr (.inl he),rfl⟩
theorem vI {c:Cy}{ad:Addr}(y:Bool)(h:ad.block=c.Wg):Ev0 c d d #[⟨.cell ad,y,true⟩]:=⟨fun e he=>by simp at he;exact .inr (.inr ⟨ad,h,.inl ⟨y,he⟩⟩),by simp[deafBehind]⟩
theorem An {c:Cy}{ad:Addr}(h:ad.block=c.Wg):Ev0 c d d #[⟨.cell ad,false,true⟩,⟨.cell ad,true,true⟩]:=
 ⟨fun e he=>by simp at he;rcases he with he|he<;>exact .inr (.inr ⟨ad,h,.inl ⟨_,he⟩⟩),by simp[deafBehind]⟩
theorem F1 {c:Cy}{ad:Addr}(h:ad.block=c.Wg):Ev0 c d d #[cu (.read ad)]:=⟨fun e he=>by simp at he;exact .inr (.inr ⟨ad,h,.inr (.inl he)⟩),by simp[deafBehind,cu]⟩
theorem F2 {c:Cy}{ad:Addr}(h:ad.block=c.Wg):Ev0 c d d #[cu (.write ad)]:=⟨fun e he=>by simp at he;exact .inr (.inr ⟨ad,h,.inr (.inr he)⟩),by simp[deafBehind,cu]⟩
theorem F3 {c:Cy}{ad:Addr}(h:ad.block=c.Wg):Ev0 c d d (semEvents ad):=by
 refine ⟨fun e he=>?_,by simp[deafBehind,semEvents]⟩
 simp[semEvents] at he
 rcases he with rfl|rfl|rfl|rfl
 ·exact .inl rfl
 ·exact .inr (.inr ⟨ad,h,.inl ⟨_,rfl⟩⟩)
 ·exact .inr (.inr ⟨ad,h,.inl ⟨_,rfl⟩⟩)
 ·exact .inr (.inl rfl)
theorem ZJ.dQ (T:PT)(Φ:Goroutine->af->Prop)(z:Z):dy T.P true (ZJ T Φ z):=by
 cases z with
 |free=>exact Closed.dQ (zW T.P Φ)
 |co x k p d=>
  refine ⟨fun {fr fr' cs cs' F} hs h=>⟨h.1,dP.vi (c:=x.cy T) rfl rfl h.1 fun w s φ h1 h2 h3=>?_⟩⟩
  exact ⟨_,w,#[],s,p,d,hs w,h2,.refl _ _,h3,Al,.inr c8,h.2⟩
theorem ZJ.closed (T:PT)(Φ:Goroutine->af->Prop){z:Z}(b:∀x k d,z≠ .co x k .reg d):Closed T.P true (ZJ T Φ z):=by
 cases z with
 |free=>exact zW T.P Φ
 |co x k p d=>
  have a:p≠ .reg:=fun e=>b x k d (by rw[e])
  have hC:=dP.closed (x.cy T) x.B0 (gK T.P Φ) k p d a
  exact ⟨fun hle h=>⟨h.1,hC.mono hle h.2⟩,fun {fr cs F} h=>⟨fun e=>absurd e a,hC.step fun w hw=>by
   obtain ⟨g',w',es,F',k1,c,f,g,i⟩:=h w hw
   exact ⟨g',w',es,F',k1,c,f,g,i.2⟩⟩⟩
theorem jy (A:ops[j]?=some o)(i:p= .reg->k=x.n)
  (h:∀(w:World) (s:Sh) (φ:Nat->Ph),Has F w->cj (x.cy T) w s->Inv x.n x.bs k φ p s->
   ∃(v:Value) (w':World) (es:Array Event) (s':Sh) (f:P0) (g:Nat),(∀(b:Frame) (e:List Item) (cs:List Frame),BF fi b->
    stepG T.P true (G (b.at a (.inRegion ops (j::List.range' (j+1) n)::e)) cs) w= .go (G (b.at (a.put o.dst v) (.inRegion ops (List.range' (j+1) n)::e)) cs) w' es)/\cj (x.cy T) w' s'/\gh (x.cy T) w w'/\Inv x.n x.bs k φ f s'/\Ev0 (x.cy T) d g es/\
    (s'.ms<=s.ms/\s'.ws<=s.ws)/\ai (ZJ T Φ) fi ops (j+1) n Q (a.put o.dst v) F (.co x k f g)):ai (ZJ T Φ) fi ops j (n+1) Q a F (.co x k p d):=fun b e cs hb l=>by
 rw[List.range'_succ,dZ hb.round]
 refine ⟨i,dP.vi (c:=x.cy T) rfl rfl i fun w s φ e1 e2 m=>?_⟩
 obtain ⟨v,w',es,s',f,g,k1,q,r,t,u,y,z⟩:=h w s φ e1 e2 m
 have:=z b e cs hb l
 rw[dZ hb.round] at this
 exact ⟨_,w',es,s',f,g,k1 b e cs hb,q,r,t,u,.inr y,this.2⟩
theorem mW {k:Nat}{φ:Nat->Ph}{p a:P0}{s:Sh}(h:Inv x.n x.bs k φ p s){wg ws:Int}(hw:cZ x.n φ a wg ws):Inv x.n x.bs k φ a {s with wg:=wg,ws:=ws}:=⟨h.m,hw,h.i⟩
theorem Ao (i:Entry T.P f (fun _=>do mark .disable;pure Extern.Race.none_)){vals:List Value}(l:At ops j a f vals dt)(m:p= .reg->k=x.n)(c:P0)(q:∀φ wg ws,cZ x.n φ p wg ws->cZ x.n φ c wg ws)
  (h:ai (ZJ T Φ) fi ops (j+1) n Q (aV a dt (.tuple #[])) F (.co x k c (d+1))):ai (ZJ T Φ) fi ops j (n+1) Q a F (.co x k p d):=by
 obtain ⟨o,ck,cQ,e,hg,r,_,rfl⟩:=l
 obtain ⟨fn,f1,f2,f3,f4,f5⟩:=i.ex
 exact jy e m fun w s φ _ hs g=>⟨.tuple #[],w,_,s,c,d+1,fun b t cs hb=>stepG_mark0 .disable (by simp) e (bV hg) hb.kind r f1 f2 f3 f4 f5,hs,.refl _ _,mW g (q _ _ _ g.w),FZ,c8,h⟩
theorem Ap (e:Entry T.P f (fun _=>do mark .enable;pure Extern.Race.none_)){vals:List Value}(g:At ops j a f vals dt)(i:p= .reg->k=x.n)
  (h:ai (ZJ T Φ) fi ops (j+1) n Q (aV a dt (.tuple #[])) F (.co x k p d)):ai (ZJ T Φ) fi ops j (n+1) Q a F (.co x k p (d+1)):=by
 obtain ⟨o,ck,cQ,c,hg,l,_,rfl⟩:=g
 obtain ⟨fn,f1,f2,f3,f4,f5⟩:=e.ex
 exact jy c i fun w s φ _ hs m=>⟨.tuple #[],w,_,s,p,d,fun b q cs hb=>stepG_mark0 .enable (by simp) c (bV hg) hb.kind l f1 f2 f3 f4 f5,hs,.refl _ _,m,Am,c8,h⟩
theorem F4 (e:Entry T.P f (Extern.Race.marked .read))(g:At ops j a f [.pointer (some (smA x.Wg))] dt)(i:p= .reg->k=x.n)
  (h:ai (ZJ T Φ) fi ops (j+1) n Q (aV a dt (.tuple #[])) F (.co x k p d)):ai (ZJ T Φ) fi ops j (n+1) Q a F (.co x k p d):=by
 obtain ⟨o,ck,cQ,c,hg,l,m,rfl⟩:=g
 obtain ⟨y,rfl,q⟩:=iN m
 obtain ⟨fn,f1,f2,f3,f4,f5⟩:=e.ex
 exact jy c i fun w s φ _ hs r=>⟨.tuple #[],w,_,s,p,d,fun b t cs hb=>stepG_markAt .read (by simp) c (bV hg) hb.kind l f1 f2 f3 f4 f5 (by simp[dW,q]),hs,.refl _ _,r,F1 (ad:=smA x.Wg) rfl,c8,h⟩
theorem F5 (e:Entry T.P f (Extern.Race.marked .write))(g:At ops j a f [.pointer (some (smA x.Wg))] dt)(i:p= .reg->k=x.n)
  (h:ai (ZJ T Φ) fi ops (j+1) n Q (aV a dt (.tuple #[])) F (.co x k p d)):ai (ZJ T Φ) fi ops j (n+1) Q a F (.co x k p d):=by
 obtain ⟨o,ck,cQ,c,hg,l,m,rfl⟩:=g
 obtain ⟨y,rfl,q⟩:=iN m
 obtain ⟨fn,f1,f2,f3,f4,f5⟩:=e.ex
 exact jy c i fun w s φ _ hs r=>⟨.tuple #[],w,_,s,p,d,fun b t cs hb=>stepG_markAt .write (by simp) c (bV hg) hb.kind l f1 f2 f3 f4 f5 (by simp[dW,q]),hs,.refl _ _,r,F2 (ad:=smA x.Wg) rfl,c8,h⟩
theorem ry (ad:Addr){src dst t:TypeId}(hs:T.P.underlying src=some (.pointer t))(hd:T.P.underlying dst=some .unsafePointer)(c:(T.P.info? t).map (fun i=>decide (i.size=0))=some false){y:Operand}
  (l:lC ops j a (.convert src dst y) dt) (m:p= .reg->k=x.n) (q:ev a y= .pointer (some ad)) (r:∀w s,cj (x.cy T) w s->∃v,w.cell? ad=some v) (h:ai (ZJ T Φ) fi ops (j+1) n Q (aV a dt (.pointer (some ad))) F (.co x k p d)):ai (ZJ T Φ) fi ops j (n+1) Q a F (.co x k p d):=by
 obtain ⟨o,e,hg,u,rfl⟩:=l
 refine jy e m fun w s φ _ f z=>⟨_,w,#[],s,p,d,fun b C cs hb=>?_,f,.refl _ _,z,Al,c8,h⟩
 obtain ⟨v,g⟩:=r w s f
 have e1:execOp a.eval o=(do pure (.value (<-convert src dst (.pointer (some ad)))):Sem Next):=by
  unfold execOp
  simp only[u,dW,q]
 have A:(execOp a.eval o).run T.P w= .ok (.value (.pointer (some ad))) w:=by
  rw[e1];simp[run_convert_to_unsafe hs hd c g]
 have B:(execOp a.eval o).events T.P w #[]=#[]:=by
  rw[e1];simp[events_convert_to_unsafe hs hd c g]
 rw[stepG_value e (bV hg) hb.kind A]
 unfold listed
 rw[B,seen_none]
theorem F6 (i:Entry T.P f (Extern.Atomic.update (Op.intArith .add) .u64 true))(l:x.Mu≠x.Wg/\x.Mu≠x.Is/\x.Wg≠x.Is)(B:x.n<67108864)(m:At ops j a f [.pointer (some (stA x.Wg)),.int .u64 4294967296] dt)
  (h:∀v:Nat,v<=x.n->ai (ZJ T Φ) fi ops (j+1) n Q (aV a dt (.int .u64 (((v+1:Nat):Int)*4294967296+((0:Nat):Int)))) F (.co x k (.opn 1) d)):ai (ZJ T Φ) fi ops j (n+1) Q a F (.co x k (.opn 0) d):=by
 obtain ⟨o,ck,cQ,c,hg,p,q,rfl⟩:=m
 obtain ⟨y,z,rfl,r,t⟩:=oN q
 obtain ⟨fn,f1,f2,f3,f4,f5⟩:=i.ex
 refine jy c (fun e=>by cases e) fun w s φ _ hs g=>?_
 obtain ⟨v,e1,u,hw⟩:=EJ g.w
 have e2:IntKind.u64.wrap (s.wg+4294967296)=((v+1:Nat):Int)*4294967296+((0:Nat):Int):=by
  rw[e1]
  unfold IntKind.wrap
  simp only[IntKind.bits,IntKind.signed,cE]
  simp
  omega
 have A:s.wg+cE=((v+1:Nat):Int)*4294967296+((0:Nat):Int):=by rw[e1];simp only[cE];omega
 rw[A] at hw
 exact ⟨_,_,_,{s with wg:=((v+1:Nat):Int)*4294967296+((0:Nat):Int)},.opn 1,d,fun b C cs hb=>by rw[<-e2];exact stepG_add_atomic c (bV hg) hb.kind p f1 f2 f3 f4 .u64 f5 r t hs.wg.1 hs.wg.2,by rw[<-e2];exact hs.q7 l _,.set _ (.inr (.inl rfl)),mW g hw,An rfl,c8,h v u⟩
theorem F7 (i:Entry T.P f (Extern.Atomic.loadT (.int .u64)))(l:At ops j a f [.pointer (some (stA x.Wg))] dt){u:Nat}
  (h:∀v:Nat,v<=u->ai (ZJ T Φ) fi ops (j+1) n Q (aV a dt (.int .u64 ((v:Int)*4294967296+((0:Nat):Int)))) F (.co x k (if v=0 then .eo else .look v) d)):ai (ZJ T Φ) fi ops j (n+1) Q a F (.co x k (.look u) d):=by
 obtain ⟨o,ck,cQ,c,hg,m,p,rfl⟩:=l
 obtain ⟨y,rfl,q⟩:=iN p
 obtain ⟨fn,f1,f2,f3,f4,f5⟩:=i.ex
 refine jy c (fun e=>by cases e) fun w s φ _ hs g=>?_
 obtain ⟨v,e1,r,hw⟩:=EM g.w
 have e2:s.wg=(v:Int)*4294967296+((0:Nat):Int):=by rw[e1];simp only[cE];omega
 exact ⟨_,_,_,s,_,d,fun b t cs hb=>by rw[<-e2];exact stepG_load_atomic c (bV hg) hb.kind m f1 f2 f3 f4 .u64 f5 q hs.wg.1,hs,.refl _ _,mW g hw,vI false rfl,c8,h v r⟩
theorem F8 (i:Entry T.P f (Extern.Atomic.loadT (.int .u64)))(l:At ops j a f [.pointer (some (stA x.Wg))] dt)
  (h:ai (ZJ T Φ) fi ops (j+1) n Q (aV a dt (.int .u64 0)) F (.co x k .eo d)):ai (ZJ T Φ) fi ops j (n+1) Q a F (.co x k .eo d):=by
 obtain ⟨o,ck,cQ,c,hg,m,p,rfl⟩:=l
 obtain ⟨y,rfl,q⟩:=iN p
 obtain ⟨fn,f1,f2,f3,f4,f5⟩:=i.ex
 refine jy c (fun e=>by cases e) fun w s φ _ hs g=>?_
 have e2:s.wg=0:=(zJ g.w).1
 exact ⟨_,_,_,s,_,d,fun b r cs hb=>by rw[<-e2];exact stepG_load_atomic c (bV hg) hb.kind m f1 f2 f3 f4 .u64 f5 q hs.wg.1,hs,.refl _ _,g,vI false rfl,c8,h⟩
theorem F9 (q:Entry T.P f (Extern.Atomic.casT (.int .u64)))(r:x.Mu≠x.Wg/\x.Mu≠x.Is/\x.Wg≠x.Is){v:Nat}(t:0<v)(H:k=x.n)(u:At ops j a f [.pointer (some (stA x.Wg)),.int .u64 ((v:Int)*4294967296+((0:Nat):Int)),.int .u64 ((v:Int)*4294967296+((0:Nat):Int)+1)] dt)
  (A:ai (ZJ T Φ) fi ops (j+1) n Q (aV a dt (.bool true)) F (.co x k .reg d)) (B:ai (ZJ T Φ) fi ops (j+1) n Q (aV a dt (.bool false)) F (.co x k (.look (v - 1)) d)):ai (ZJ T Φ) fi ops j (n+1) Q a F (.co x k (.look v) d):=by
 obtain ⟨o,ck,cQ,g,hg,h,C,rfl⟩:=u
 obtain ⟨y,z,I,rfl,i,l,m⟩:=oO C
 obtain ⟨fn,f1,f2,f3,f4,f5⟩:=q.ex
 refine jy g (fun e=>by cases e) fun w s φ _ hs c=>?_
 by_cases e:s.wg=(v:Int)*4294967296+((0:Nat):Int)
 ·have e1:s.wg=(v:Int)*cE:=by rw[e];simp only[cE];omega
  have hw:=c.w
  rw[e1] at hw
  have p:=EN hw t
  have D:(v:Int)*cE+1=(v:Int)*4294967296+((0:Nat):Int)+1:=by simp only[cE];omega
  rw[D] at p
  exact ⟨.bool true,_,_,{s with wg:=(v:Int)*4294967296+((0:Nat):Int)+1},.reg,d,fun b E cs hb=>stepG_cas_hit g (bV hg) hb.kind h f1 f2 f3 f4 .u64 f5 i l m (by rw[<-e];exact hs.wg.1) hs.wg.2,hs.q7 r _,.set _ (.inr (.inl rfl)),mW c p,An rfl,c8,A⟩
 ·have e1:s.wg≠(v:Int)*cE:=fun G=>e (by rw[G];simp only[cE];omega)
  exact ⟨.bool false,_,_,s,.look (v - 1),d,fun b E cs hb=>stepG_cas_miss g (bV hg) hb.kind h f1 f2 f3 f4 .u64 f5 i l m hs.wg.1 hs.wg.2 e,hs,.refl _ _,mW c (EO c.w e1).2,vI false rfl,c8,B⟩
theorem Ga (p:Value)(q:Entry T.P f Extern.Sync.semacquire)(r:x.Mu≠x.Wg/\x.Mu≠x.Is/\x.Wg≠x.Is)(e:k=x.n)(t:At ops j a f [.pointer (some (smA x.Wg)),p] dt)
  (h:ai (ZJ T Φ) fi ops (j+1) n Q (aV a dt (.tuple #[])) F (.co x k .eo d)):ai (ZJ T Φ) fi ops j (n+1) Q a F (.co x k .reg d):=fun b u cs hb v=>by
 obtain ⟨o,ck,cQ,g,hg,i,A,rfl⟩:=t
 obtain ⟨y,z,rfl,l,_⟩:=oN A
 obtain ⟨fn,f1,f2,f3,f4,f5⟩:=q.ex
 rw[List.range'_succ,dZ hb.round]
 refine ⟨fun _=>e,dP.act (c:=x.cy T) rfl rfl (fun _=>⟨e,fun w s hs h0=>?_⟩) fun w s φ e1 hs m B=>?_⟩
 ·exact stepG_semacquire_wait g (bV hg) i f1 f2 f3 f4 f5 (ad:=smA x.Wg) (by simp[dW,l]) (by rw[hs.ws.1,h0])
 ·have h0:=B rfl
  obtain ⟨C,D,hw⟩:=EP m.w h0
  have:=h b u cs hb v
  rw[dZ hb.round] at this
  exact ⟨_,_,_,{s with ws:=s.ws - 1},.eo,d,stepG_semacquire g (bV hg) hb.kind i f1 f2 f3 f4 f5 (by simp[dW,l]) hs.ws.1 h0 hs.ws.2,hs.Ad r _,.set _ (.inr (.inl rfl)),mW m hw,F3 rfl,.inr ⟨Int.le_refl _,by simp only;omega⟩,this.2⟩
theorem Aq (d:Entry T.P f (Extern.Race.marked .acquire))(e:k=x.n)(g:At ops j a f [.pointer (some (stA x.Wg))] dt)
  (h:ai (ZJ T Φ) fi ops (j+1) n Q (aV a dt (.tuple #[])) ⟨F.ro,(x.Is,(x.cy T).fin)::F.own⟩ .free):ai (ZJ T Φ) fi ops j (n+1) Q a F (.co x k .eo 0):=fun b i cs hb l=>by
 obtain ⟨o,ck,cQ,m,hg,p,q,rfl⟩:=g
 obtain ⟨y,rfl,r⟩:=iN q
 obtain ⟨fn,f1,f2,f3,f4,f5⟩:=d.ex
 rw[List.range'_succ,dZ hb.round]
 subst e
 have:=h b i cs hb l
 rw[dZ hb.round] at this
 exact ⟨fun _=>rfl,dP.join (c:=x.cy T) rfl rfl fun w hw=>⟨_,stepG_markAt .acquire (by simp) m (bV hg) hb.kind p f1 f2 f3 f4 f5 (by simp[dW,r]),rfl,this⟩⟩
theorem Gb (i:k<x.n){d:Deferred}{fv:Operand}{g:Fn}{caps:Array Value}(l:ops[j]?=some o)(hg:cp ops o a=some true)(f:∀w,(execOp a.eval o).run T.P w= .ok (.spawn d) w/\(execOp a.eval o).events T.P w #[]=#[])(hd:d.target= .fn g caps)
  (hW:Wk (x.cy T) k ⟨.idle,.cnt,false,0⟩ (born T.P d) ⟨F.ro,[]⟩) (h:ai (ZJ T Φ) fi ops (j+1) n Q (aV a o.dst undef) F (.co x (k+1) (.opn 0) 0)):ai (ZJ T Φ) fi ops j (n+1) Q a F (.co x k (.opn 1) 0):=fun b m cs hb p=>by
 rw[List.range'_succ,dZ hb.round]
 have:=h b m cs hb p
 rw[dZ hb.round] at this
 refine ⟨fun e=>(by cases e),dP.spawn (c:=x.cy T) rfl rfl i fun w hw=>⟨_,_,?_,hW,rfl,rfl,this.2⟩⟩
 rw[stepG_spawn l (bV hg) hb.kind (f w).1 hd]
 unfold listed
 rw[(f w).2,seen_none]
 rfl
end
section
variable {T : PT} {Φ : Goroutine → af → Prop} {fi f : FuncId}
theorem Gc {cd:Code}{Q:Ex->Act->af->Z->Prop}{a:Act}{F:af}(c:af)(Mu Wg Is n:Nat)(bs:Nat->Bool)
  (hle:Le ⟨c.ro,(Mu,muBlock T.tM 0 0)::(Wg,wgBlock T.tW 0 0)::(Is,.cells (List.replicate n (Value.bool false)).toArray T.tI)::c.own⟩ F)
  (h:∀base B0 T0,0<base->(Mu≠Wg/\Mu≠Is/\Wg≠Is)->cw (ZJ T Φ) fi cd Q a c (.co ⟨Mu,Wg,Is,n,bs,base,T0,B0⟩ 0 (.opn 0) 0)):cw (ZJ T Φ) fi cd Q a F .free:=fun b k cs hb d=>
 gK.found bs rfl rfl hle fun base B0 T0 h0 e=>(h base B0 T0 h0 e b k cs hb d).2
theorem Gd (l:Entry T.P f (fun _=>do mark .enable;pure Extern.Race.none_)){x:X}{k d:Nat}{p:P0}{F:af}(e:p= .reg->k=x.n){b:Frame}{a:Act}{todo:List Item}{cs:List Frame}{i:List Deferred}(m:a.defers=dcall f #[]::i)
  (h:ZJ T Φ (.co x k p d) (G {b.at ⟨a.tmps,i⟩ todo with mode:=.returning} cs) F):ZJ T Φ (.co x k p (d+1)) (G {b.at a todo with mode:=.returning} cs) F:=by
 obtain ⟨fn,f1,f2,f3,f4,f5⟩:=l.ex
 refine ⟨e,dP.vi (c:=x.cy T) rfl rfl e fun w s φ e1 hs o=>⟨_,w,#[cu .enable],s,p,d,?_,hs,.refl _ _,o,Am,.inr c8,h.2⟩⟩
 exact stepG_unwind_entry (v:=.tuple #[]) m f1 f2 f3 f4 f5 (by simp[Extern.Race.none_]) (by simp[cu]) (by
  intro y j
  simp[cu] at j
  subst j
  exact ⟨rfl,fun g h=>by cases h⟩)
def vJ (f:FuncId)(R:Value->af->Z->Prop):Ex->Act->af->Z->Prop
 | .exit _,_,_,_=>False
 |_,a,F,z=>a.defers=[dcall f #[]]/\∃x k p d,(p= .reg->k=x.n)/\z= .co x k p (d+1)/\R (.tuple #[]) F (.co x k p d)
theorem cq.Ge {f0:FuncId}(s:Entry T.P f (fun _=>do mark .enable;pure Extern.Race.none_)){fn:Func}{cd:Code}{n:Nat}{args:Array Value}{R:Value->af->Z->Prop}{F:af}{z:Z}(o:T.P.funcs[f0]?=some fn)(hb:fn.body=some cd)(q:fn.results=#[])(r:fn.ntmps=n)(D:args.size<=n)
  (h:∀A:Act,sz A=n->A.defers=[]->(∀i,slot A i=args.getD i undef)->cw (ZJ T Φ) f0 cd (vJ f R) A F z):cq T.P (ZJ T Φ) f0 args F z R:=by
 intro j cs t
 let b:Frame:={(default:Frame) with fn:=f0,kind:=.normal}
 have u:b.roundOf=none:=rfl
 have v:Frame.enter T.P f0 args .normal=on b {tmps:=args++Array.replicate (fn.ntmps - args.size) undef,defers:=[]} [.code cd]:=by
  simp[Frame.enter,on,o,hb,b]
  rfl
 rw[v]
 have l:=ZJ.dQ T Φ
 have leave:∀(c:Act) (todo:List Item) F' (a:Z),(c.defers=[dcall f #[]]/\∃x k p d,(p= .reg->k=x.n)/\a= .co x k p (d+1)/\R (.tuple #[]) F' (.co x k p d))->ZJ T Φ a (G {on b c todo with mode:=.returning} (j::cs)) F':=by
  intro c todo F' a ⟨hd,x,k,p,d,y,B,C⟩
  subst B
  rw[dZ u]
  refine Gd s y hd ((l _).move (fr':=j.finish (.tuple #[])) (cs':=cs) (fun w=>?_) (t _ F' _ C))
  exact stepG_leave rfl rfl o (results_none q _ T.P w) (events_results_none q _ _)
 refine h _ (by simp[sz,r];omega) rfl (fun i=>?_) b [] (j::cs) ⟨by simp[b],rfl,rfl⟩ fun e c F' a m=>?_
 ·simp only[slot,r,Array.getD_eq_getD_getElem?]
  rcases Nat.lt_or_ge i args.size with g|g
  ·rw[Array.getElem?_append_left g]
  ·rw[Array.getElem?_append_right g,Array.getElem?_replicate,Array.getElem?_eq_none g]
   split<;>rfl
 ·cases e with
  |normal=>exact (l a).move (fun _=>ko rfl) (leave c _ F' a m)
  |exit i=>exact m.elim
  |ret=>exact fun E=>(l a).move (fun _=>stepG_ret' rfl) (leave c _ F' a m)
theorem eV.Gf {args:Array Value}{ro:Addr->Option Value}{R:Value->af->Prop}(h:∀Φ,cq T.P (ZJ T Φ) f args ⟨ro,[]⟩ .free (fun v F' z=>z= .free/\R v F')):eV T.P f args ⟨ro,[]⟩ R:=
 eV.E9 fun Φ c cs a=>h Φ c cs fun v F' z ⟨b,d⟩=>by subst b;exact a v F' d
end
end Go.Sep
end
section
namespace Go.Proofs.YtipgiooobncfbaaGreatDoor
open Go Go.Sep Go.Proofs Go.Conc
open Go.ConcN (upd upd_same)
open Go.ConcM (muA msA)
open Go.ConcR (stA smA)
set_option maxRecDepth 100000
set_option maxHeartbeats 4000000
noncomputable abbrev TT:PT:=⟨Tryz.prog,175,182,4⟩
theorem Gg {f:FuncId}{R:Value->af->Z->Prop}{a:Act}{F:af}{x:X}{k d:Nat}{p:P0}(hd:a.defers=[dcall f #[]])(b:p= .reg->k=x.n)(c:R (.tuple #[]) F (.co x k p d)):vJ f R .ret a F (.co x k p (d+1)):=⟨hd,x,k,p,d,b,rfl,c⟩
section
variable {Φ : Goroutine → af → Prop} {x : X} {F : af} {k : Nat}
theorem Ar (w:World)(s:Sh)(h:cj (x.cy TT) w s):∃v,w.cell? ⟨x.Wg,0,none⟩=some v:=⟨_,h.wg.1⟩
theorem As (w:World)(s:Sh)(h:cj (x.cy TT) w s):∃v,w.cell? ⟨x.Wg,1,none⟩=some v:=⟨_,h.ws.1⟩
theorem Gh (c:x.Mu≠x.Wg/\x.Mu≠x.Is/\x.Wg≠x.Is)(d:x.n<67108864):
  cq Tryz.prog (ZJ TT Φ) 158 #[.pointer (some (stA x.Wg)),.int .u64 4294967296] F (.co x k (.opn 0) 1)
   (fun r F' e=>F'=F/\∃v:Nat,v<=x.n/\r= .int .u64 (((v+1:Nat):Int)*4294967296+((0:Nat):Int))/\e= .co x k (.opn 1) 1):=by
 have a:=ZJ.dQ TT Φ
 have hJ:True:=trivial
 refine cq.go (main:=true) a Tryz.func158 rfl Tryz.ntmps158 (by simp) fun A g hd hs=>?_
 have h:=hs 0
 have k1:=hs 1
 clear hs
 repeat refine ax (a _) ?_
 refine aQ a fun K b=>?_
 refine ai.pure (a _) 1 (n:=0) _ rfl rfl ?_;simp only[*,go_sem,-b,-a,muA,msA,stA,smA,Int.reduceBEq,Int.reduceBNe]
 refine ai.nil a (b _ _ _ ?_);clear b K
 repeat refine ax (a _) ?_
 refine aQ a fun K b=>?_
 refine ai.pure (a _) 4 (n:=2) _ rfl rfl ?_;simp only[*,go_sem,-b,-a,muA,msA,stA,smA,Int.reduceBEq,Int.reduceBNe]
 refine F6 z6 c d ⟨_,_,_,rfl,(by first|(simp only[*,go_sem,-b,-a,-hJ];done)|rfl),rfl,by first|(simp only[*,go_sem,-b,-a,-hJ,muA,msA,stA,smA,Int.reduceBEq,Int.reduceBNe];done)|(simp only[*,go_sem,-b,-a,-hJ,muA,msA,stA,smA,Int.reduceBEq,Int.reduceBNe];rfl),rfl⟩ fun v f=>?_
 refine ai.pure (a _) 1 (n:=0) _ rfl rfl ?_;simp only[*,go_sem,-b,-a,muA,msA,stA,smA,Int.reduceBEq,Int.reduceBNe]
 refine ai.nil a (b _ _ _ ?_);clear b K
 exact eL (j6 rfl (by simp only[*,go_sem,-a,-hJ,muA,msA,stA,smA,Int.reduceBEq,Int.reduceBNe]) (by simp only[*,go_sem,-a,-hJ,muA,msA,stA,smA,Int.reduceBEq,Int.reduceBNe]) ⟨rfl,v,f,rfl,rfl⟩).2
theorem Gi {u:Nat}:
  cq Tryz.prog (ZJ TT Φ) 160 #[.pointer (some (stA x.Wg))] F (.co x k (.look u) 1)
   (fun r F' c=>F'=F/\∃v:Nat,v<=u/\r= .int .u64 ((v:Int)*4294967296+((0:Nat):Int))/\c= .co x k (if v=0 then .eo else .look v) 1):=by
 have a:=ZJ.dQ TT Φ
 have hJ:True:=trivial
 refine cq.go (main:=true) a Tryz.func160 rfl Tryz.ntmps160 (by simp) fun A e hd hs=>?_
 have f:=hs 0
 clear hs
 repeat refine ax (a _) ?_
 refine aQ a fun K b=>?_
 refine ai.pure (a _) 1 (n:=0) _ rfl rfl ?_;simp only[*,go_sem,-b,-a,muA,msA,stA,smA,Int.reduceBEq,Int.reduceBNe]
 refine ai.nil a (b _ _ _ ?_);clear b K
 repeat refine ax (a _) ?_
 refine aQ a fun K b=>?_
 refine ai.pure (a _) 3 (n:=2) _ rfl rfl ?_;simp only[*,go_sem,-b,-a,muA,msA,stA,smA,Int.reduceBEq,Int.reduceBNe]
 refine F7 vn ⟨_,_,_,rfl,(by first|(simp only[*,go_sem,-b,-a,-hJ];done)|rfl),rfl,by first|(simp only[*,go_sem,-b,-a,-hJ,muA,msA,stA,smA,Int.reduceBEq,Int.reduceBNe];done)|(simp only[*,go_sem,-b,-a,-hJ,muA,msA,stA,smA,Int.reduceBEq,Int.reduceBNe];rfl),rfl⟩ fun v d=>?_
 refine ai.pure (a _) 1 (n:=0) _ rfl rfl ?_;simp only[*,go_sem,-b,-a,muA,msA,stA,smA,Int.reduceBEq,Int.reduceBNe]
 refine ai.nil a (b _ _ _ ?_);clear b K
 exact eL (j6 rfl (by simp only[*,go_sem,-a,-hJ,muA,msA,stA,smA,Int.reduceBEq,Int.reduceBNe]) (by simp only[*,go_sem,-a,-hJ,muA,msA,stA,smA,Int.reduceBEq,Int.reduceBNe]) ⟨rfl,v,d,rfl,rfl⟩).2
theorem Gj:
  cq Tryz.prog (ZJ TT Φ) 160 #[.pointer (some (stA x.Wg))] F (.co x k .eo 1)
   (fun r F' c=>F'=F/\r= .int .u64 0/\c= .co x k .eo 1):=by
 have a:=ZJ.dQ TT Φ
 have hJ:True:=trivial
 refine cq.go (main:=true) a Tryz.func160 rfl Tryz.ntmps160 (by simp) fun A d hd hs=>?_
 have e:=hs 0
 clear hs
 repeat refine ax (a _) ?_
 refine aQ a fun K b=>?_
 refine ai.pure (a _) 1 (n:=0) _ rfl rfl ?_;simp only[*,go_sem,-b,-a,muA,msA,stA,smA,Int.reduceBEq,Int.reduceBNe]
 refine ai.nil a (b _ _ _ ?_);clear b K
 repeat refine ax (a _) ?_
 refine aQ a fun K b=>?_
 refine ai.pure (a _) 3 (n:=2) _ rfl rfl ?_;simp only[*,go_sem,-b,-a,muA,msA,stA,smA,Int.reduceBEq,Int.reduceBNe]
 refine F8 vn ⟨_,_,_,rfl,(by first|(simp only[*,go_sem,-b,-a,-hJ];done)|rfl),rfl,by first|(simp only[*,go_sem,-b,-a,-hJ,muA,msA,stA,smA,Int.reduceBEq,Int.reduceBNe];done)|(simp only[*,go_sem,-b,-a,-hJ,muA,msA,stA,smA,Int.reduceBEq,Int.reduceBNe];rfl),rfl⟩ ?_
 refine ai.pure (a _) 1 (n:=0) _ rfl rfl ?_;simp only[*,go_sem,-b,-a,muA,msA,stA,smA,Int.reduceBEq,Int.reduceBNe]
 refine ai.nil a (b _ _ _ ?_);clear b K
 exact eL (j6 rfl (by simp only[*,go_sem,-a,-hJ,muA,msA,stA,smA,Int.reduceBEq,Int.reduceBNe]) (by simp only[*,go_sem,-a,-hJ,muA,msA,stA,smA,Int.reduceBEq,Int.reduceBNe]) ⟨rfl,rfl,rfl⟩).2
theorem Gk (d:x.Mu≠x.Wg/\x.Mu≠x.Is/\x.Wg≠x.Is){v:Nat}(e:0<v):
  cq Tryz.prog (ZJ TT Φ) 169 #[.pointer (some (stA x.Wg)),.int .u64 ((v:Int)*4294967296+((0:Nat):Int)),.int .u64 ((v:Int)*4294967296+((0:Nat):Int)+1)] F (.co x x.n (.look v) 1)
   (fun r F' c=>F'=F/\((r= .bool true/\c= .co x x.n .reg 1)\/(r= .bool false/\c= .co x x.n (.look (v - 1)) 1))):=by
 have a:=ZJ.dQ TT Φ
 have hJ:True:=trivial
 refine cq.go (main:=true) a Tryz.func169 rfl Tryz.ntmps169 (by simp) fun A f hd hs=>?_
 have g:=hs 0
 have k1:=hs 1
 have h:=hs 2
 clear hs
 repeat refine ax (a _) ?_
 refine aQ a fun K b=>?_
 refine ai.pure (a _) 1 (n:=0) _ rfl rfl ?_;simp only[*,go_sem,-b,-a,muA,msA,stA,smA,Int.reduceBEq,Int.reduceBNe]
 refine ai.nil a (b _ _ _ ?_);clear b K
 repeat refine ax (a _) ?_
 refine aQ a fun K b=>?_
 refine ai.pure (a _) 5 (n:=2) _ rfl rfl ?_;simp only[*,go_sem,-b,-a,muA,msA,stA,smA,Int.reduceBEq,Int.reduceBNe]
 refine F9 Fe d e rfl ⟨_,_,_,rfl,(by first|(simp only[*,go_sem,-b,-a,-hJ];done)|rfl),rfl,by first|(simp only[*,go_sem,-b,-a,-hJ,muA,msA,stA,smA,Int.reduceBEq,Int.reduceBNe];done)|(simp only[*,go_sem,-b,-a,-hJ,muA,msA,stA,smA,Int.reduceBEq,Int.reduceBNe];rfl),rfl⟩ ?_ ?_
 ·refine ai.pure (a _) 1 (n:=0) _ rfl rfl ?_;simp only[*,go_sem,-b,-a,muA,msA,stA,smA,Int.reduceBEq,Int.reduceBNe]
  refine ai.nil a (b _ _ _ ?_);clear b K
  exact eL (j6 rfl (by simp only[*,go_sem,-a,-hJ,muA,msA,stA,smA,Int.reduceBEq,Int.reduceBNe]) (by simp only[*,go_sem,-a,-hJ,muA,msA,stA,smA,Int.reduceBEq,Int.reduceBNe]) ⟨rfl,.inl ⟨rfl,rfl⟩⟩).2
 ·refine ai.pure (a _) 1 (n:=0) _ rfl rfl ?_;simp only[*,go_sem,-b,-a,muA,msA,stA,smA,Int.reduceBEq,Int.reduceBNe]
  refine ai.nil a (b _ _ _ ?_);clear b K
  exact eL (j6 rfl (by simp only[*,go_sem,-a,-hJ,muA,msA,stA,smA,Int.reduceBEq,Int.reduceBNe]) (by simp only[*,go_sem,-a,-hJ,muA,msA,stA,smA,Int.reduceBEq,Int.reduceBNe]) ⟨rfl,.inr ⟨rfl,rfl⟩⟩).2
end
def Gl (Wg:Nat)(F:af)(z:Z)(v:Int)(a:Act)(F':af)(b:Z):Prop:=
 F'=F/\slot a 1= .int .i64 1/\slot a 7= .int .i32 v/\slot a 8= .int .u32 0/\sz a=117/\a.defers=[dcall 153 #[]]/\b=z
section
variable {Φ : Goroutine → af → Prop} {x : X} {F : af} {k : Nat}
theorem Gm (o:x.Mu≠x.Wg/\x.Mu≠x.Is/\x.Wg≠x.Is)(p:x.n<67108864):
  cq Tryz.prog (ZJ TT Φ) 129 #[.pointer (some (stA x.Wg)),.int .i64 1] F (.co x k (.opn 0) 0)
   (fun r F' g=>r= .tuple #[]/\F'=F/\g= .co x k (.opn 1) 0):=by
 have a:=ZJ.dQ TT Φ
 have hJ:True:=trivial
 refine cq.Ge j7 Tryz.func129 rfl rfl Tryz.ntmps129 (by simp) fun A i hd hs=>?_
 have q:=hs 0
 have k1:=hs 1
 clear hs
 have c1:decide ((1:Int)<0)=false:=by decide
 have c2:decide ((1:Int)>0)=true:=by decide
 repeat refine ax (a _) ?_
 refine cG (a _) (by simp only[*,go_sem,-a,-hJ,Int.reduceBEq,Int.reduceBNe]) ?_
 repeat refine ax (a _) ?_
 refine aQ a fun K b=>?_
 refine ai.pure (a _) 2 (n:=0) _ rfl rfl ?_;simp only[*,go_sem,-b,-a,muA,msA,stA,smA,Int.reduceBEq,Int.reduceBNe]
 refine ai.nil a (b _ _ _ ?_);clear b K
 repeat refine ax (a _) ?_
 refine cn (a _) (by simp only[*,go_sem,-a,-hJ,Int.reduceBEq,Int.reduceBNe]) ?_
 refine cr (a _) ?_
 repeat refine ax (a _) ?_
 refine aQ a fun K b=>?_
 refine Ao oM ⟨_,_,_,rfl,(by first|(simp only[*,go_sem,-b,-a,-hJ];done)|rfl),rfl,by first|(simp only[*,go_sem,-b,-a,-hJ,muA,msA,stA,smA,Int.reduceBEq,Int.reduceBNe];done)|(simp only[*,go_sem,-b,-a,-hJ,muA,msA,stA,smA,Int.reduceBEq,Int.reduceBNe];rfl),rfl⟩ (fun e=>by cases e) (.opn 0) (fun _ _ _ h=>h) ?_
 refine ai.nil a (b _ _ _ ?_);clear b K
 repeat refine ax (a _) ?_
 refine aQ a fun K b=>?_
 refine ai.defer (a _) rfl (by first|(simp only[*,go_sem,-b,-a,-hJ];done)|rfl) rfl rfl (by simp;rfl) fun d e1 e2 j=>?_
 have l0:slot d 0= .pointer (some ⟨x.Wg,0,none⟩):=(e1 0).trans (by simp only[*,go_sem,-a,-hJ,muA,msA,stA,smA,Int.reduceBEq,Int.reduceBNe])
 have l:slot d 1= .int .i64 1:=(e1 1).trans (by simp only[*,go_sem,-a,-hJ,muA,msA,stA,smA,Int.reduceBEq,Int.reduceBNe])
 replace i:sz d=117:=e2.trans (by simp only[*,go_sem,-a,-hJ,muA,msA,stA,smA,Int.reduceBEq,Int.reduceBNe])
 replace hd:d.defers=[dcall 153 #[]]:=j.trans (by simp only[*,go_sem,-a,-hJ,muA,msA,stA,smA,Int.reduceBEq,Int.reduceBNe])
 clear e1 e2 j q k1
 refine ai.nil a (b _ _ _ ?_);clear b K
 repeat refine ax (a _) ?_
 refine aQ a fun K b=>?_
 refine ai.pure (a _) 1 (n:=0) _ rfl rfl ?_;simp only[*,go_sem,-b,-a,muA,msA,stA,smA,Int.reduceBEq,Int.reduceBNe]
 refine ai.nil a (b _ _ _ ?_);clear b K
 repeat refine ax (a _) ?_
 refine aQ a fun K b=>?_
 refine ai.entry (.bool false) (a _) z7 ⟨_,_,_,rfl,(by first|(simp only[*,go_sem,-b,-a,-hJ];done)|rfl),rfl,by first|(simp only[*,go_sem,-b,-a,-hJ,muA,msA,stA,smA,Int.reduceBEq,Int.reduceBNe];done)|(simp only[*,go_sem,-b,-a,-hJ,muA,msA,stA,smA,Int.reduceBEq,Int.reduceBNe];rfl),rfl⟩ ?_
 refine ai.nil a (b _ _ _ ?_);clear b K
 repeat refine ax (a _) ?_
 refine cn (a _) (by simp only[*,go_sem,-a,-hJ,Int.reduceBEq,Int.reduceBNe]) ?_
 refine cr (a _) ?_
 have w1:IntKind.u64.wrap 1=1:=by decide
 have w2:IntKind.u64.wrap (1*2 ^ min 32 64)=4294967296:=by decide
 repeat refine ax (a _) ?_
 refine aQ a fun K b=>?_
 refine ai.pure (a _) 6 (n:=2) _ rfl rfl ?_;simp only[*,go_sem,-b,-a,muA,msA,stA,smA,Int.reduceBEq,Int.reduceBNe]
 refine ai.fh (a _) rfl (by first|(simp only[*,go_sem,-b,-a,-hJ];done)|rfl) rfl xE (by simp only[*,go_sem,-b,-a,-hJ,muA,msA,stA,smA,Int.reduceBEq,Int.reduceBNe]) (Gh o p) fun r F' aF s=>?_
 obtain ⟨rfl,v,t,rfl,rfl⟩:=s
 obtain ⟨y,c⟩:∃y:Int,y=((v+1:Nat):Int)*4294967296+((0:Nat):Int):=⟨_,rfl⟩
 rw[<-c]
 have a1:jx y 2147483648=0:=by rw[c];exact vF (v+1) 0 (by omega) (by omega)
 have a2:jx y 2147483647=0:=by rw[c];exact vG (v+1) 0 (by omega) (by omega)
 obtain ⟨V,m⟩:∃V:Int,V=((v+1:Nat):Int):=⟨_,rfl⟩
 have a3:y.fdiv (2 ^ min 32 64)=V:=by rw[c,m];exact vH (v+1) 0 (by omega)
 have a4:IntKind.i32.wrap V=V:=gH (by omega) (by omega)
 have a5:IntKind.u32.wrap 0=0:=by decide
 have z:IntKind.i32.wrap 1=1:=by decide
 have c3:decide (V<0)=false:=by simp;omega
 have c4:decide (V>0)=true:=by simp;omega
 have f:(V==1)=true\/(V==1)=false:=by cases (V==1)<;>simp
 clear c m t
 refine ai.pure (a _) 1 (n:=0) _ rfl rfl ?_;simp only[*,go_sem,-b,-a,muA,msA,stA,smA,Int.reduceBEq,Int.reduceBNe]
 refine ai.nil a (b _ _ _ ?_);clear b K
 repeat refine ax (a _) ?_
 refine aQ a fun K b=>?_
 refine ai.pure (a _) 7 (n:=0) _ rfl rfl ?_;simp only[*,go_sem,-b,-a,muA,msA,stA,smA,Int.reduceBEq,Int.reduceBNe]
 refine ai.nil a (b _ _ _ ?_);clear b K
 repeat refine ax (a _) ?_
 refine cn (a _) (by simp only[*,go_sem,-a,-hJ,Int.reduceBEq,Int.reduceBNe]) ?_
 refine cr (a _) ?_
 repeat refine ax (a _) ?_
 refine aQ a fun K b=>?_
 refine ai.pure (a _) 4 (n:=0) _ rfl rfl ?_;simp only[*,go_sem,-b,-a,muA,msA,stA,smA,Int.reduceBEq,Int.reduceBNe]
 refine ai.nil a (b _ _ _ ?_);clear b K
 repeat refine ax (a _) ?_
 refine aQ a fun K b=>?_
 refine ai.pure (a _) 4 (n:=0) _ rfl rfl ?_;simp only[*,go_sem,-b,-a,muA,msA,stA,smA,Int.reduceBEq,Int.reduceBNe]
 refine ai.nil a (b _ _ _ ?_);clear b K
 repeat refine ax (a _) ?_
 refine aQ a fun K b=>?_
 refine ai.pure (a _) 10 (n:=0) _ rfl rfl ?_;simp only[*,go_sem,-b,-a,muA,msA,stA,smA,Int.reduceBEq,Int.reduceBNe]
 refine ai.nil a (b _ _ _ ?_);clear b K
 repeat refine ax (a _) ?_
 refine rj a (Gl x.Wg F' (.co x k (.opn 1) 1) V) ?_ ?_
 ·rcases f with f|f
  ·repeat refine ax (a _) ?_
   refine cG (a _) (by simp only[*,go_sem,-a,-hJ,Int.reduceBEq,Int.reduceBNe]) ?_
   repeat refine ax (a _) ?_
   refine aQ a fun K b=>?_
   refine ai.pure (a _) 3 (n:=2) _ rfl rfl ?_;simp only[*,go_sem,-b,-a,muA,msA,stA,smA,Int.reduceBEq,Int.reduceBNe]
   refine ry ⟨x.Wg,1,none⟩ z8 j8 z9 ⟨_,rfl,(by first|(simp only[*,go_sem,-b,-a,-hJ];done)|rfl),rfl,rfl⟩ (fun e=>by cases e) (by simp only[*,go_sem,-b,-a,-hJ,muA,msA,stA,smA,Int.reduceBEq,Int.reduceBNe]) As ?_
   refine F4 Fg ⟨_,_,_,rfl,(by first|(simp only[*,go_sem,-b,-a,-hJ];done)|rfl),rfl,by first|(simp only[*,go_sem,-b,-a,-hJ,muA,msA,stA,smA,Int.reduceBEq,Int.reduceBNe];done)|(simp only[*,go_sem,-b,-a,-hJ,muA,msA,stA,smA,Int.reduceBEq,Int.reduceBNe];rfl),rfl⟩ (fun e=>by cases e) ?_
   refine ai.nil a (b _ _ _ ?_);clear b K
   exact dV ⟨rfl,(by simp only[*,go_sem,-a,-hJ,muA,msA,stA,smA,Int.reduceBEq,Int.reduceBNe]),(by simp only[*,go_sem,-a,-hJ,muA,msA,stA,smA,Int.reduceBEq,Int.reduceBNe]),(by simp only[*,go_sem,-a,-hJ,muA,msA,stA,smA,Int.reduceBEq,Int.reduceBNe]),(by simp only[*,go_sem,-a,-hJ,muA,msA,stA,smA,Int.reduceBEq,Int.reduceBNe]),(by simp only[*,go_sem,-a,-hJ,muA,msA,stA,smA,Int.reduceBEq,Int.reduceBNe]),rfl⟩
  ·repeat refine ax (a _) ?_
   refine cn (a _) (by simp only[*,go_sem,-a,-hJ,Int.reduceBEq,Int.reduceBNe]) ?_
   refine cr (a _) ?_
   exact dV ⟨rfl,(by simp only[*,go_sem,-a,-hJ,muA,msA,stA,smA,Int.reduceBEq,Int.reduceBNe]),(by simp only[*,go_sem,-a,-hJ,muA,msA,stA,smA,Int.reduceBEq,Int.reduceBNe]),(by simp only[*,go_sem,-a,-hJ,muA,msA,stA,smA,Int.reduceBEq,Int.reduceBNe]),(by simp only[*,go_sem,-a,-hJ,muA,msA,stA,smA,Int.reduceBEq,Int.reduceBNe]),(by simp only[*,go_sem,-a,-hJ,muA,msA,stA,smA,Int.reduceBEq,Int.reduceBNe]),rfl⟩
 clear f l0 l i hd a1 a2 a3
 rintro A u B ⟨rfl,l,C,D,i,hd,rfl⟩
 repeat refine ax (a _) ?_
 refine aQ a fun K b=>?_
 refine ai.pure (a _) 2 (n:=0) _ rfl rfl ?_;simp only[*,go_sem,-b,-a,muA,msA,stA,smA,Int.reduceBEq,Int.reduceBNe]
 refine ai.nil a (b _ _ _ ?_);clear b K
 repeat refine ax (a _) ?_
 refine cn (a _) (by simp only[*,go_sem,-a,-hJ,Int.reduceBEq,Int.reduceBNe]) ?_
 refine cr (a _) ?_
 repeat refine ax (a _) ?_
 refine aQ a fun K b=>?_
 refine ai.pure (a _) 12 (n:=0) _ rfl rfl ?_;simp only[*,go_sem,-b,-a,muA,msA,stA,smA,Int.reduceBEq,Int.reduceBNe]
 refine ai.nil a (b _ _ _ ?_);clear b K
 repeat refine ax (a _) ?_
 refine cn (a _) (by simp only[*,go_sem,-a,-hJ,Int.reduceBEq,Int.reduceBNe]) ?_
 refine cr (a _) ?_
 repeat refine ax (a _) ?_
 refine aQ a fun K b=>?_
 refine ai.pure (a _) 6 (n:=0) _ rfl rfl ?_;simp only[*,go_sem,-b,-a,muA,msA,stA,smA,Int.reduceBEq,Int.reduceBNe]
 refine ai.nil a (b _ _ _ ?_);clear b K
 repeat refine ax (a _) ?_
 refine cG (a _) (by simp only[*,go_sem,-a,-hJ,Int.reduceBEq,Int.reduceBNe]) ?_
 exact eL (show vJ 153 (fun r w g=>r= .tuple #[]/\w=u/\g= .co x k (.opn 1) 0) .ret _ _ _ from Gg (by simp only[*,go_sem,-a,-hJ,muA,msA,stA,smA,Int.reduceBEq,Int.reduceBNe]) (fun e=>by cases e) ⟨rfl,rfl,rfl⟩)
end
def Au (x:X)(F:af)(m:Nat)(a:Act)(F':af)(z:Z):Prop:=
 ∃u:Nat,u<=m/\u<=x.n/\F'=F/\slot a 0= .pointer (some ⟨x.Wg,0,none⟩)/\sz a=84/\a.defers=[]/\z= .co x x.n (.look u) 1
section
variable {Φ : Goroutine → af → Prop} {x : X} {F : af} {k : Nat}
theorem Gn (o:x.Mu≠x.Wg/\x.Mu≠x.Is/\x.Wg≠x.Is)(B:x.n<67108864):
  cq Tryz.prog (ZJ TT Φ) 136 #[.pointer (some (stA x.Wg))] F (.co x x.n (.opn 0) 0)
   (fun r F' d=>r= .tuple #[]/\F'=⟨F.ro,(x.Is,(x.cy TT).fin)::F.own⟩/\d= .free):=by
 have a:=ZJ.dQ TT Φ
 have hJ:True:=trivial
 refine cq.go (main:=true) a Tryz.func136 rfl Tryz.ntmps136 (by simp) fun A p hd hs=>?_
 have q:=hs 0
 clear hs
 repeat refine ax (a _) ?_
 refine cG (a _) (by simp only[*,go_sem,-a,-hJ,Int.reduceBEq,Int.reduceBNe]) ?_
 repeat refine ax (a _) ?_
 refine aQ a fun K b=>?_
 refine Ao oM ⟨_,_,_,rfl,(by first|(simp only[*,go_sem,-b,-a,-hJ];done)|rfl),rfl,by first|(simp only[*,go_sem,-b,-a,-hJ,muA,msA,stA,smA,Int.reduceBEq,Int.reduceBNe];done)|(simp only[*,go_sem,-b,-a,-hJ,muA,msA,stA,smA,Int.reduceBEq,Int.reduceBNe];rfl),rfl⟩ (fun e=>by cases e) (.look x.n) (fun _ _ _ h=>EL h) ?_
 refine ai.nil a (b _ _ _ ?_);clear b K
 repeat refine ax (a _) ?_
 refine iL a ?_
 refine oL a (Au x F) x.n ?_ ?_
 ·exact ⟨x.n,Nat.le_refl _,Nat.le_refl _,rfl,(by simp only[*,go_sem,-a,-hJ,muA,msA,stA,smA,Int.reduceBEq,Int.reduceBNe]),(by simp only[*,go_sem,-a,-hJ,muA,msA,stA,smA,Int.reduceBEq,Int.reduceBNe]),(by simp only[*,go_sem,-a,-hJ,muA,msA,stA,smA,Int.reduceBEq,Int.reduceBNe]),rfl⟩
 ·clear p hd q
  rintro m A F' d ⟨u,C,D,rfl,q,p,hd,rfl⟩
  repeat refine ax (a _) ?_
  refine iL a ?_
  repeat refine ax (a _) ?_
  refine aQ a fun K b=>?_
  refine ai.pure (a _) 3 (n:=2) _ rfl rfl ?_;simp only[*,go_sem,-b,-a,muA,msA,stA,smA,Int.reduceBEq,Int.reduceBNe]
  refine ai.fh (a _) rfl (by first|(simp only[*,go_sem,-b,-a,-hJ];done)|rfl) rfl sH (by simp only[*,go_sem,-b,-a,-hJ,muA,msA,stA,smA,Int.reduceBEq,Int.reduceBNe]) Gi fun r k E f=>?_
  obtain ⟨rfl,v,w,rfl,rfl⟩:=f
  obtain ⟨y,c⟩:∃y:Int,y=(v:Int)*4294967296+((0:Nat):Int):=⟨_,rfl⟩
  rw[<-c]
  have a1:jx y 2147483648=0:=by rw[c];exact vF v 0 (by omega) (by omega)
  have a2:jx y 2147483647=0:=by rw[c];exact vG v 0 (by omega) (by omega)
  obtain ⟨V,i⟩:∃V:Int,V=(v:Int):=⟨_,rfl⟩
  have a3:y.fdiv (2 ^ min 32 64)=V:=by rw[c,i];exact vH v 0 (by omega)
  have a4:IntKind.i32.wrap V=V:=gH (by omega) (by omega)
  have a5:IntKind.u32.wrap 0=0:=by decide
  have G:IntKind.u64.wrap (y+1)=y+1:=by
   unfold IntKind.wrap
   simp only[IntKind.bits,IntKind.signed]
   simp
   omega
  by_cases j:v=0
  ·
   have c1:(V==0)=true:=by rw[i,j];rfl
   have g:(if v=0 then P0.eo else .look v)= .eo:=if_pos j
   rw[g]
   clear g c i w j
   refine ai.pure (a _) 1 (n:=0) _ rfl rfl ?_;simp only[*,go_sem,-b,-a,muA,msA,stA,smA,Int.reduceBEq,Int.reduceBNe]
   refine ai.nil a (b _ _ _ ?_);clear b K
   repeat refine ax (a _) ?_
   refine aQ a fun K b=>?_
   refine ai.pure (a _) 4 (n:=0) _ rfl rfl ?_;simp only[*,go_sem,-b,-a,muA,msA,stA,smA,Int.reduceBEq,Int.reduceBNe]
   refine ai.nil a (b _ _ _ ?_);clear b K
   repeat refine ax (a _) ?_
   refine aQ a fun K b=>?_
   refine ai.pure (a _) 4 (n:=0) _ rfl rfl ?_;simp only[*,go_sem,-b,-a,muA,msA,stA,smA,Int.reduceBEq,Int.reduceBNe]
   refine ai.nil a (b _ _ _ ?_);clear b K
   repeat refine ax (a _) ?_
   refine aQ a fun K b=>?_
   refine ai.pure (a _) 2 (n:=0) _ rfl rfl ?_;simp only[*,go_sem,-b,-a,muA,msA,stA,smA,Int.reduceBEq,Int.reduceBNe]
   refine ai.nil a (b _ _ _ ?_);clear b K
   repeat refine ax (a _) ?_
   refine cG (a _) (by simp only[*,go_sem,-a,-hJ,Int.reduceBEq,Int.reduceBNe]) ?_
   repeat refine ax (a _) ?_
   refine cG (a _) (by simp only[*,go_sem,-a,-hJ,Int.reduceBEq,Int.reduceBNe]) ?_
   repeat refine ax (a _) ?_
   refine aQ a fun K b=>?_
   refine Ap j7 ⟨_,_,_,rfl,(by first|(simp only[*,go_sem,-b,-a,-hJ];done)|rfl),rfl,by first|(simp only[*,go_sem,-b,-a,-hJ,muA,msA,stA,smA,Int.reduceBEq,Int.reduceBNe];done)|(simp only[*,go_sem,-b,-a,-hJ,muA,msA,stA,smA,Int.reduceBEq,Int.reduceBNe];rfl),rfl⟩ (fun e=>by cases e) ?_
   refine ai.nil a (b _ _ _ ?_);clear b K
   repeat refine ax (a _) ?_
   refine aQ a fun K b=>?_
   refine ai.pure (a _) 1 (n:=2) _ rfl rfl ?_;simp only[*,go_sem,-b,-a,muA,msA,stA,smA,Int.reduceBEq,Int.reduceBNe]
   refine ry ⟨x.Wg,0,none⟩ vp j8 vr ⟨_,rfl,(by first|(simp only[*,go_sem,-b,-a,-hJ];done)|rfl),rfl,rfl⟩ (fun e=>by cases e) (by simp only[*,go_sem,-b,-a,-hJ,muA,msA,stA,smA,Int.reduceBEq,Int.reduceBNe]) Ar ?_
   refine Aq q4 rfl ⟨_,_,_,rfl,(by first|(simp only[*,go_sem,-b,-a,-hJ];done)|rfl),rfl,by first|(simp only[*,go_sem,-b,-a,-hJ,muA,msA,stA,smA,Int.reduceBEq,Int.reduceBNe];done)|(simp only[*,go_sem,-b,-a,-hJ,muA,msA,stA,smA,Int.reduceBEq,Int.reduceBNe];rfl),rfl⟩ ?_
   refine ai.nil a (b _ _ _ ?_);clear b K
   repeat refine ax (a _) ?_
   refine aQ a fun K b=>?_
   refine ai.pure (a _) 11 (n:=0) _ rfl rfl ?_;simp only[*,go_sem,-b,-a,muA,msA,stA,smA,Int.reduceBEq,Int.reduceBNe]
   refine ai.nil a (b _ _ _ ?_);clear b K
   repeat refine ax (a _) ?_
   refine cn (a _) (by simp only[*,go_sem,-a,-hJ,Int.reduceBEq,Int.reduceBNe]) ?_
   refine cr (a _) ?_
   exact eL (show iM Tryz.prog Tryz.f136 (fun (r:Value) (F':af) (d:Z)=>r= .tuple #[]/\F'=⟨k.ro,(x.Is,(x.cy TT).fin)::k.own⟩/\d=Z.free) .ret _ _ _ from mR rfl (by simp only[*,go_sem,-a,-hJ,muA,msA,stA,smA,Int.reduceBEq,Int.reduceBNe]) ⟨rfl,rfl,rfl⟩)
  ·have c1:(V==0)=false:=by simp;omega
   have g:(if v=0 then P0.eo else .look v)= .look v:=if_neg j
   rw[g]
   have l:=Gk (Φ:=Φ) (F:=k) o (v:=v) (by omega)
   rw[<-c] at l
   clear g c i
   refine ai.pure (a _) 1 (n:=0) _ rfl rfl ?_;simp only[*,go_sem,-b,-a,muA,msA,stA,smA,Int.reduceBEq,Int.reduceBNe]
   refine ai.nil a (b _ _ _ ?_);clear b K
   repeat refine ax (a _) ?_
   refine aQ a fun K b=>?_
   refine ai.pure (a _) 4 (n:=0) _ rfl rfl ?_;simp only[*,go_sem,-b,-a,muA,msA,stA,smA,Int.reduceBEq,Int.reduceBNe]
   refine ai.nil a (b _ _ _ ?_);clear b K
   repeat refine ax (a _) ?_
   refine aQ a fun K b=>?_
   refine ai.pure (a _) 4 (n:=0) _ rfl rfl ?_;simp only[*,go_sem,-b,-a,muA,msA,stA,smA,Int.reduceBEq,Int.reduceBNe]
   refine ai.nil a (b _ _ _ ?_);clear b K
   repeat refine ax (a _) ?_
   refine aQ a fun K b=>?_
   refine ai.pure (a _) 2 (n:=0) _ rfl rfl ?_;simp only[*,go_sem,-b,-a,muA,msA,stA,smA,Int.reduceBEq,Int.reduceBNe]
   refine ai.nil a (b _ _ _ ?_);clear b K
   repeat refine ax (a _) ?_
   refine cn (a _) (by simp only[*,go_sem,-a,-hJ,Int.reduceBEq,Int.reduceBNe]) ?_
   refine cr (a _) ?_
   repeat refine ax (a _) ?_
   refine aQ a fun K b=>?_
   refine ai.pure (a _) 6 (n:=1) _ rfl rfl ?_;simp only[*,go_sem,-b,-a,muA,msA,stA,smA,Int.reduceBEq,Int.reduceBNe]
   refine ai.fh (a _) rfl (by first|(simp only[*,go_sem,-b,-a,-hJ];done)|rfl) rfl BQ (by simp only[*,go_sem,-b,-a,-hJ,muA,msA,stA,smA,Int.reduceBEq,Int.reduceBNe]) l fun r z H f=>?_
   clear l
   obtain ⟨rfl,⟨rfl,rfl⟩|⟨rfl,rfl⟩⟩:=f
   ·
    refine ai.nil a (b _ _ _ ?_);clear b K
    repeat refine ax (a _) ?_
    refine cG (a _) (by simp only[*,go_sem,-a,-hJ,Int.reduceBEq,Int.reduceBNe]) ?_
    repeat refine ax (a _) ?_
    refine aQ a fun K b=>?_
    refine ai.pure (a _) 4 (n:=0) _ rfl rfl ?_;simp only[*,go_sem,-b,-a,muA,msA,stA,smA,Int.reduceBEq,Int.reduceBNe]
    refine ai.nil a (b _ _ _ ?_);clear b K
    repeat refine ax (a _) ?_
    refine cG (a _) (by simp only[*,go_sem,-a,-hJ,Int.reduceBEq,Int.reduceBNe]) ?_
    repeat refine ax (a _) ?_
    refine aQ a fun K b=>?_
    refine ai.pure (a _) 3 (n:=2) _ rfl rfl ?_;simp only[*,go_sem,-b,-a,muA,msA,stA,smA,Int.reduceBEq,Int.reduceBNe]
    refine ry ⟨x.Wg,1,none⟩ z8 j8 z9 ⟨_,rfl,(by first|(simp only[*,go_sem,-b,-a,-hJ];done)|rfl),rfl,rfl⟩ (fun _=>rfl) (by simp only[*,go_sem,-b,-a,-hJ,muA,msA,stA,smA,Int.reduceBEq,Int.reduceBNe]) As ?_
    refine F5 Fh ⟨_,_,_,rfl,(by first|(simp only[*,go_sem,-b,-a,-hJ];done)|rfl),rfl,by first|(simp only[*,go_sem,-b,-a,-hJ,muA,msA,stA,smA,Int.reduceBEq,Int.reduceBNe];done)|(simp only[*,go_sem,-b,-a,-hJ,muA,msA,stA,smA,Int.reduceBEq,Int.reduceBNe];rfl),rfl⟩ (fun _=>rfl) ?_
    refine ai.nil a (b _ _ _ ?_);clear b K
    repeat refine ax (a _) ?_
    refine aQ a fun K b=>?_
    refine ai.pure (a _) 1 (n:=0) _ rfl rfl ?_;simp only[*,go_sem,-b,-a,muA,msA,stA,smA,Int.reduceBEq,Int.reduceBNe]
    refine ai.nil a (b _ _ _ ?_);clear b K
    repeat refine ax (a _) ?_
    refine aQ a fun K b=>?_
    refine ai.pure (a _) 6 (n:=0) _ rfl rfl ?_;simp only[*,go_sem,-b,-a,muA,msA,stA,smA,Int.reduceBEq,Int.reduceBNe]
    refine ai.nil a (b _ _ _ ?_);clear b K
    repeat refine ax (a _) ?_
    refine cn (a _) (by simp only[*,go_sem,-a,-hJ,Int.reduceBEq,Int.reduceBNe]) ?_
    refine cr (a _) ?_
    repeat refine ax (a _) ?_
    refine aQ a fun K b=>?_
    refine ai.pure (a _) 4 (n:=1) _ rfl rfl ?_;simp only[*,go_sem,-b,-a,muA,msA,stA,smA,Int.reduceBEq,Int.reduceBNe]
    refine Ga (.bool false) Fi o rfl ⟨_,_,_,rfl,(by first|(simp only[*,go_sem,-b,-a,-hJ];done)|rfl),rfl,by first|(simp only[*,go_sem,-b,-a,-hJ,muA,msA,stA,smA,Int.reduceBEq,Int.reduceBNe];done)|(simp only[*,go_sem,-b,-a,-hJ,muA,msA,stA,smA,Int.reduceBEq,Int.reduceBNe];rfl),rfl⟩ ?_
    refine ai.nil a (b _ _ _ ?_);clear b K
    repeat refine ax (a _) ?_
    refine aQ a fun K b=>?_
    refine ai.pure (a _) 3 (n:=3) _ rfl rfl ?_;simp only[*,go_sem,-b,-a,muA,msA,stA,smA,Int.reduceBEq,Int.reduceBNe]
    refine ai.fh (a _) rfl (by first|(simp only[*,go_sem,-b,-a,-hJ];done)|rfl) rfl sH (by simp only[*,go_sem,-b,-a,-hJ,muA,msA,stA,smA,Int.reduceBEq,Int.reduceBNe]) Gj fun r s I f=>?_
    obtain ⟨rfl,rfl,rfl⟩:=f
    refine ai.pure (a _) 2 (n:=0) _ rfl rfl ?_;simp only[*,go_sem,-b,-a,muA,msA,stA,smA,Int.reduceBEq,Int.reduceBNe]
    refine ai.nil a (b _ _ _ ?_);clear b K
    repeat refine ax (a _) ?_
    refine cG (a _) (by simp only[*,go_sem,-a,-hJ,Int.reduceBEq,Int.reduceBNe]) ?_
    repeat refine ax (a _) ?_
    refine aQ a fun K b=>?_
    refine Ap j7 ⟨_,_,_,rfl,(by first|(simp only[*,go_sem,-b,-a,-hJ];done)|rfl),rfl,by first|(simp only[*,go_sem,-b,-a,-hJ,muA,msA,stA,smA,Int.reduceBEq,Int.reduceBNe];done)|(simp only[*,go_sem,-b,-a,-hJ,muA,msA,stA,smA,Int.reduceBEq,Int.reduceBNe];rfl),rfl⟩ (fun e=>by cases e) ?_
    refine ai.nil a (b _ _ _ ?_);clear b K
    repeat refine ax (a _) ?_
    refine aQ a fun K b=>?_
    refine ai.pure (a _) 1 (n:=2) _ rfl rfl ?_;simp only[*,go_sem,-b,-a,muA,msA,stA,smA,Int.reduceBEq,Int.reduceBNe]
    refine ry ⟨x.Wg,0,none⟩ vp j8 vr ⟨_,rfl,(by first|(simp only[*,go_sem,-b,-a,-hJ];done)|rfl),rfl,rfl⟩ (fun e=>by cases e) (by simp only[*,go_sem,-b,-a,-hJ,muA,msA,stA,smA,Int.reduceBEq,Int.reduceBNe]) Ar ?_
    refine Aq q4 rfl ⟨_,_,_,rfl,(by first|(simp only[*,go_sem,-b,-a,-hJ];done)|rfl),rfl,by first|(simp only[*,go_sem,-b,-a,-hJ,muA,msA,stA,smA,Int.reduceBEq,Int.reduceBNe];done)|(simp only[*,go_sem,-b,-a,-hJ,muA,msA,stA,smA,Int.reduceBEq,Int.reduceBNe];rfl),rfl⟩ ?_
    refine ai.nil a (b _ _ _ ?_);clear b K
    repeat refine ax (a _) ?_
    refine aQ a fun K b=>?_
    refine ai.pure (a _) 1 (n:=0) _ rfl rfl ?_;simp only[*,go_sem,-b,-a,muA,msA,stA,smA,Int.reduceBEq,Int.reduceBNe]
    refine ai.nil a (b _ _ _ ?_);clear b K
    repeat refine ax (a _) ?_
    refine cn (a _) (by simp only[*,go_sem,-a,-hJ,Int.reduceBEq,Int.reduceBNe]) ?_
    refine cr (a _) ?_
    exact eL (show iM Tryz.prog Tryz.f136 (fun (r:Value) (F':af) (d:Z)=>r= .tuple #[]/\F'=⟨s.ro,(x.Is,(x.cy TT).fin)::s.own⟩/\d=Z.free) .ret _ _ _ from mR rfl (by simp only[*,go_sem,-a,-hJ,muA,msA,stA,smA,Int.reduceBEq,Int.reduceBNe]) ⟨rfl,rfl,rfl⟩)
   ·
    refine ai.nil a (b _ _ _ ?_);clear b K
    repeat refine ax (a _) ?_
    refine cn (a _) (by simp only[*,go_sem,-a,-hJ,Int.reduceBEq,Int.reduceBNe]) ?_
    refine cr (a _) ?_
    change ∃t,t<m/\Au x z t _ _ _
    exact ⟨v - 1,by omega,v - 1,Nat.le_refl _,by omega,rfl,(by simp only[*,go_sem,-a,-hJ,muA,msA,stA,smA,Int.reduceBEq,Int.reduceBNe]),(by simp only[*,go_sem,-a,-hJ,muA,msA,stA,smA,Int.reduceBEq,Int.reduceBNe]),(by simp only[*,go_sem,-a,-hJ,muA,msA,stA,smA,Int.reduceBEq,Int.reduceBNe]),rfl⟩
end
end Go.Proofs.YtipgiooobncfbaaGreatDoor
end
section
namespace Go.Sep
open Go Go.Conc
variable {P : Program}
theorem Gq {t e:TypeId}{i:TypeInfo}{n:Nat}{R:Value->af->Prop}{F:af}(hu:P.underlying t=some (.slice e))(c:P.info? e=some i)(hb:i.bytes=1)(hs:bQ P e=some 1)(d:zeroOf P e=some (.bool false))(g:n<1048576)
  (h:∀b,dn F b->R (.slice (some ⟨b,0,none⟩) n n) (F.push b (.cells (List.replicate n (Value.bool false)).toArray e))):er P (Instr.makeSlice t (.int .i64 n) (.int .i64 n)) R F:=by
 unfold er
 have hw:IntKind.i64.wrap (n:Int)=(n:Int):=by
  unfold IntKind.wrap
  simp[IntKind.bits,IntKind.signed]
  omega
 have e1:¬((n:Int)<0\/(1:Int)*(n:Int)>2 ^ 48):=by
  have:((2:Int) ^ 48)=281474976710656:=by decide
  omega
 simp only[Instr.makeSlice,bf,cV,hu,wR,m7,c,hb,hw]
 have e2:(((n:Int)<0||decide (((1:Nat):Int)*(n:Int)>2 ^ 48))||decide ((n:Int)<0)||decide ((n:Int)>(n:Int)))=false:=by
  have:((2:Int) ^ 48)=281474976710656:=by decide
  simp only[Bool.or_eq_false_iff,decide_eq_false_iff_not]
  omega
 rw[if_neg (by rw[e2];simp)]
 simp only[bf]
 refine r8 _ ?_
 simp only[bf,ek,hs,Int.toNat_natCast,Nat.mul_one]
 have fin:∀zero:Array Value,(n≠0->zero=#[.bool false])->aO P (newRow e ((Array.range n).map (fun j=>zero[j % zero.size]!))) (fun a G=>aO P (Pure.pure (Value.slice (some a) n n)) R G) F:=fun zero hzero=>by
  simp only[newRow,bf,m6,bt]
  have f:((Array.range n).map (fun j=>zero[j % zero.size]!))=(List.replicate n (Value.bool false)).toArray:=by
   rcases Nat.eq_zero_or_pos n with rfl|k
   ·simp
   ·rw[hzero (by omega)]
    rw[<-Array.toList_inj]
    simp only[Array.toList_map,Array.toList_range]
    apply List.ext_getElem
    ·simp
    ·intro i h1 h2
     simp[Nat.mod_one]
  rw[f]
  exact ⟨rfl,h⟩
 by_cases h0:n=0
 ·rw[if_pos h0]
  exact fin #[] (fun x=>absurd h0 x)
 ·rw[if_neg h0]
  rw[bf,kr,d]
  exact fin #[.bool false] (fun _=>rfl)
section
variable {T : PT} {Φ : Goroutine → af → Prop} {fi : FuncId}
def vK:Z->Bool| .co _ _ .reg _=>false|_=>true
theorem ZJ.Gs (T:PT)(Φ:Goroutine->af->Prop)(z:Z)(h:vK z=true):Closed T.P true (ZJ T Φ z):=ZJ.closed T Φ fun x k d e=>by subst e;simp[vK] at h
theorem Av {P:Program}{main:Bool}{S:Type}{JF:S->Goroutine->af->Prop}{ph:S}(hJ:Closed P main (JF ph)){c:Code}{Q:Ex->Act->af->S->Prop}{a:Act}{F F':af}(hle:Le F F')(h:cw JF fi c Q a F ph):cw JF fi c Q a F' ph:=
 fun b k cs hb d=>hJ.mono hle (h b k cs hb d)
theorem vL {P:Program}{main:Bool}{S:Type}{JF:S->Goroutine->af->Prop}{ph:S}(hJ:Closed P main (JF ph)){c:Code}{Q:Ex->Act->af->S->Prop}{a:Act}{F:af}(h:aM (keys F.own)->aA F.ro F.own->cw JF fi c Q a F ph):cw JF fi c Q a F ph:=by
 intro b k cs hb d
 by_cases hw:∃w,Has F w
 ·obtain ⟨w,hw⟩:=hw
  refine h ⟨hw.nodup⟩ (fun b hb off sp=>?_) b k cs hb d
  cases e:F.ro ⟨b,off,sp⟩ with
  |none=>rfl
  |some v=>exact absurd hb (hw.apart _ v e)
 ·exact hJ.step fun w f=>absurd ⟨w,f⟩ hw
end
theorem lF {ro:Addr->Option Value}{b a off:Nat}{sp:Option Nat}{o:Obj}(h:ro ⟨a,off,sp⟩=none)(c:a≠b):bI ro b o ⟨a,off,sp⟩=none:=by simp[bI,h,c]
theorem Gt {ro:Addr->Option Value}{b3 b4 b a I M W:Nat}{i o4 g c d e f:Obj}(p:aM (keys [(W,f),(M,e),(a,c),(I,d),(b,g),(b4,o4),(b3,i)]))(l:aA ro [(W,f),(M,e),(a,c),(I,d),(b,g),(b4,o4),(b3,i)]):
  ∃j,Ext ro j/\Le ⟨j,[(M,e),(W,f),(I,d)]⟩ ⟨ro,[(W,f),(M,e),(a,c),(I,d),(b,g),(b4,o4),(b3,i)]⟩/\
   (∀off v,cellOf i off=some v->j ⟨b3,off,none⟩=some v)/\(∀off v,cellOf o4 off=some v->j ⟨b4,off,none⟩=some v)/\(∀off v,cellOf g off=some v->j ⟨b,off,none⟩=some v)/\(∀off v,cellOf c off=some v->j ⟨a,off,none⟩=some v):=by
 have hd:=p.1
 simp only[keys,List.map_cons,List.map_nil,List.nodup_cons,List.mem_cons,List.not_mem_nil,not_or] at hd
 obtain ⟨⟨-,a1,-,a2,a3,a4,-⟩,⟨G,-,H,J,K,-⟩,⟨c1,c2,c3,c4,-⟩,⟨i1,i2,i3,-⟩,⟨e1,e2,-⟩,⟨r,-⟩,-⟩:=hd
 have r3:∀off sp,ro ⟨b3,off,sp⟩=none:=l b3 (by simp[keys])
 have s:∀off sp,ro ⟨b4,off,sp⟩=none:=l b4 (by simp[keys])
 have t:∀off sp,ro ⟨b,off,sp⟩=none:=l b (by simp[keys])
 have u:∀off sp,ro ⟨a,off,sp⟩=none:=l a (by simp[keys])
 clear l p
 have w:b4≠b3:=r
 have x:b≠b3:=e2
 have y:b≠b4:=e1
 have z:a≠b3:=c4
 have A:a≠b4:=c3
 have B:a≠b:=c2
 let s1:=bI ro b3 i
 let s2:=bI s1 b4 o4
 let k:=bI s2 b g
 let n:=bI k a c
 have C:Ext ro s1:=fl _ _ _
 have q:Ext s1 s2:=fl _ _ _
 have o:Ext s2 k:=fl _ _ _
 have m:Ext k n:=fl _ _ _
 have t4:∀off sp,s1 ⟨b4,off,sp⟩=none:=fun off sp=>lF (s off sp) w
 have t7:∀off sp,s2 ⟨b,off,sp⟩=none:=fun off sp=>lF (lF (t off sp) x) y
 have t8:∀off sp,k ⟨a,off,sp⟩=none:=fun off sp=>lF (lF (lF (u off sp) z) A) B
 have k1:Le ⟨s1,[(W,f),(M,e),(a,c),(I,d),(b,g),(b4,o4)]⟩ ⟨ro,[(W,f),(M,e),(a,c),(I,d),(b,g),(b4,o4),(b3,i)]⟩:=
  iU (by simp[lk, *]) (by simp) (by simp[aj,Ne.symm, *])
 have D:Le ⟨s2,[(W,f),(M,e),(a,c),(I,d),(b,g)]⟩ ⟨s1,[(W,f),(M,e),(a,c),(I,d),(b,g),(b4,o4)]⟩:=
  iU (by simp[lk, *]) (by simp) (by simp[aj,Ne.symm, *])
 have E:Le ⟨k,[(W,f),(M,e),(a,c),(I,d)]⟩ ⟨s2,[(W,f),(M,e),(a,c),(I,d),(b,g)]⟩:=
  iU (by simp[lk, *]) (by simp) (by simp[aj,Ne.symm, *])
 have F:Le ⟨n,[(W,f),(M,e),(I,d)]⟩ ⟨k,[(W,f),(M,e),(a,c),(I,d)]⟩:=
  iU (by simp[lk, *]) (by simp) (by simp[aj,Ne.symm, *])
 refine ⟨n,((C.trans q).trans o).trans m,xG.trans (((F.trans E).trans D).trans k1),fun off v h=>?_,fun off v h=>?_,fun off v h=>?_,fun off v h=>?_⟩
 ·exact m _ _ (o _ _ (q _ _ ((gW r3).trans h)))
 ·exact m _ _ (o _ _ ((gW t4).trans h))
 ·exact m _ _ ((gW t7).trans h)
 ·exact (gW t8).trans h
theorem Gu {ro:Addr->Option Value}{a b2:Nat}{o1 o2:Obj}(d:aM (keys [(b2,o2),(a,o1)]))(c:aA ro [(b2,o2),(a,o1)]):
  ∃b,Ext ro b/\Le ⟨b,[]⟩ ⟨ro,[(b2,o2),(a,o1)]⟩/\(∀off v,cellOf o1 off=some v->b ⟨a,off,none⟩=some v)/\(∀off v,cellOf o2 off=some v->b ⟨b2,off,none⟩=some v):=by
 have hd:=d.1
 simp only[keys,List.map_cons,List.map_nil,List.nodup_cons,List.mem_cons,List.not_mem_nil,not_or] at hd
 have r1:∀off sp,ro ⟨a,off,sp⟩=none:=c a (by simp[keys])
 have r2:∀off sp,ro ⟨b2,off,sp⟩=none:=c b2 (by simp[keys])
 have e:b2≠a:=by obtain ⟨⟨z,-⟩,-⟩:=hd;exact z
 have t2:∀off sp,bI ro a o1 ⟨b2,off,sp⟩=none:=fun off sp=>lF (r2 off sp) e
 have k1:Le ⟨bI ro a o1,[(b2,o2)]⟩ ⟨ro,[(b2,o2),(a,o1)]⟩:=iU (by simp[lk, *]) (by simp) (by simp[aj,Ne.symm, *])
 have f:Le ⟨bI (bI ro a o1) b2 o2,[]⟩ ⟨bI ro a o1,[(b2,o2)]⟩:=iU (by simp only[lk];simp) (by simp) trivial
 exact ⟨_,(fl _ _ _).trans (fl _ _ _),f.trans k1,fun off v h=>fl _ _ _ _ _ ((gW r1).trans h),fun off v h=>(gW t2).trans h⟩
theorem Gv {T:PT}{Φ:Goroutine->af->Prop}{x:X}{k:Nat}{ops:Array Oper}{j n:Nat}{Q:Act->af->Z->Prop}{a:Act}{F:af}{fi:FuncId}(b:k<x.n){y:Operand}{f0:FuncId}{cQ:Array TypeId}{caps:Array Value}(c:lC ops j a (.go {callee:=.value y,args:=#[],argTypes:=cQ}) none)(d:ev a y= .func (.func f0) #[] caps)
  (hW:Wk (x.cy T) k ⟨.idle,.cnt,false,0⟩ (born T.P {target:=.fn (.func f0) caps,args:=#[]}) ⟨F.ro,[]⟩) (h:ai (ZJ T Φ) fi ops (j+1) n Q (aV a none undef) F (.co x (k+1) (.opn 0) 0)):ai (ZJ T Φ) fi ops j (n+1) Q a F (.co x k (.opn 1) 0):=by
 obtain ⟨o,e,hg,f,hd⟩:=c
 have e1:execOp a.eval o=(pure (.spawn {target:=.fn (.func f0) caps,args:=#[]}):Sem Next):=by
  unfold execOp
  have e0:(#[]:Array Value)++Array.map (ev a) #[]=#[]:=by simp
  simp only[f,resolve,dW,d,Deferred.ofValue,e0]
  rfl
 refine Gb (fv:=y) b e hg (fun w=>?_) rfl hW (by rw[hd];exact h)
 rw[e1]
 exact ⟨rfl,rfl⟩
end Go.Sep
end
section
namespace Go.Proofs.YtipgiooobncfbaaGreatDoor
open Go Go.Sep Go.Proofs Go.Conc
open Go.ConcN (upd upd_same)
open Go.ConcM (muA msA)
open Go.ConcR (stA smA)
set_option maxRecDepth 100000
set_option maxHeartbeats 4000000
def Gw (Wg:Nat)(st:Bool)(F:af)(m:Nat)(a:Act)(F':af)(ph:Ph):Prop:=
 ∃t8:Int,F'=F/\slot a 0= .pointer (some ⟨Wg,0,none⟩)/\slot a 8= .int .u32 t8/\sz a=117/\a.defers=[dcall 153 #[]]/\((m=1/\t8=1/\ph=⟨.fin,.sm,st,1⟩)\/(m=0/\t8=0/\ph=⟨.fin,.gone,st,1⟩))
theorem Gx {f:FuncId}{R:Value->af->Ph->Prop}{a:Act}{F:af}{ph:Ph}{b:Nat}(hd:a.defers=[dcall f #[]])(hg:ph.gp= .gone)(h:ph.deaf=b+1)(c:R (.tuple #[]) F {ph with deaf:=b}):jw f R .normal a F ph:=⟨hd,hg,b,h,c⟩
theorem rz {f:FuncId}{R:Value->af->Ph->Prop}{a:Act}{F:af}{ph:Ph}{b:Nat}(hd:a.defers=[dcall f #[]])(hg:ph.gp= .gone)(h:ph.deaf=b+1)(c:R (.tuple #[]) F {ph with deaf:=b}):jw f R .ret a F ph:=⟨hd,hg,b,h,c⟩
section
variable {Mu Wg Is n base T0 i : Nat} {bs : Nat → Bool} {st : Bool} {F : af}
theorem Gy (h:Mu≠Wg/\Mu≠Is/\Wg≠Is)(u:n<67108864){mp:Mp}(w:mp= .idle\/mp= .fin)(y:st=bs i):
  cq Tryz.prog (WJ (CY Mu Wg Is n bs base T0) i) 129 #[.pointer (some (stA Wg)),.int .i64 (-1)] F ⟨mp,.cnt,st,0⟩
   (fun r F' aF=>r= .tuple #[]/\F'=F/\aF=⟨.fin,.gone,st,0⟩):=by
 have a:=WJ.dQ (CY Mu Wg Is n bs base T0) i
 refine cq.FT j7 Tryz.func129 rfl rfl Tryz.ntmps129 (by simp) fun A j hd hs=>?_
 have hJ:True:=trivial
 have z:=hs 0
 have k1:=hs 1
 clear hs
 subst y
 have c1:decide ((-1:Int)<0)=true:=by decide
 have c2:decide ((-1:Int)>0)=false:=by decide
 repeat refine ax (a _) ?_
 refine cG (a _) (by simp only[*,go_sem,-a,-hJ,Int.reduceBEq,Int.reduceBNe]) ?_
 repeat refine ax (a _) ?_
 refine aQ a fun K b=>?_
 refine ai.pure (a _) 2 (n:=0) _ rfl rfl ?_;simp only[*,go_sem,-b,-a,muA,msA,stA,smA,Int.reduceBEq,Int.reduceBNe]
 refine ai.nil a (b _ _ _ ?_);clear b K
 repeat refine ax (a _) ?_
 refine cG (a _) (by simp only[*,go_sem,-a,-hJ,Int.reduceBEq,Int.reduceBNe]) ?_
 repeat refine ax (a _) ?_
 refine aQ a fun K b=>?_
 refine ai.pure (a _) 1 (n:=2) _ rfl rfl ?_;simp only[*,go_sem,-b,-a,muA,msA,stA,smA,Int.reduceBEq,Int.reduceBNe]
 refine rf ⟨Wg,0,none⟩ vp j8 vr ⟨_,rfl,(by first|(simp only[*,go_sem,-b,-a,-hJ];done)|rfl),rfl,rfl⟩ (by simp) (by simp only[*,go_sem,-b,-a,-hJ,muA,msA,stA,smA,Int.reduceBEq,Int.reduceBNe]) FV ?_
 refine Fw z3 ⟨_,_,_,rfl,(by first|(simp only[*,go_sem,-b,-a,-hJ];done)|rfl),rfl,by first|(simp only[*,go_sem,-b,-a,-hJ,muA,msA,stA,smA,Int.reduceBEq,Int.reduceBNe];done)|(simp only[*,go_sem,-b,-a,-hJ,muA,msA,stA,smA,Int.reduceBEq,Int.reduceBNe];rfl),rfl⟩ rfl rfl w rfl ?_
 refine ai.nil a (b _ _ _ ?_);clear b K
 repeat refine ax (a _) ?_
 refine aQ a fun K b=>?_
 refine vA oM ⟨_,_,_,rfl,(by first|(simp only[*,go_sem,-b,-a,-hJ];done)|rfl),rfl,by first|(simp only[*,go_sem,-b,-a,-hJ,muA,msA,stA,smA,Int.reduceBEq,Int.reduceBNe];done)|(simp only[*,go_sem,-b,-a,-hJ,muA,msA,stA,smA,Int.reduceBEq,Int.reduceBNe];rfl),rfl⟩ (by simp) (by simp) ?_
 refine ai.nil a (b _ _ _ ?_);clear b K
 repeat refine ax (a _) ?_
 refine aQ a fun K b=>?_
 refine ai.defer (a _) rfl (by first|(simp only[*,go_sem,-b,-a,-hJ];done)|rfl) rfl rfl (by simp;rfl) fun g e1 e2 o=>?_
 have l0:slot g 0= .pointer (some ⟨Wg,0,none⟩):=(e1 0).trans (by simp only[*,go_sem,-a,-hJ,muA,msA,stA,smA,Int.reduceBEq,Int.reduceBNe])
 have B:slot g 1= .int .i64 (-1):=(e1 1).trans (by simp only[*,go_sem,-a,-hJ,muA,msA,stA,smA,Int.reduceBEq,Int.reduceBNe])
 replace j:sz g=117:=e2.trans (by simp only[*,go_sem,-a,-hJ,muA,msA,stA,smA,Int.reduceBEq,Int.reduceBNe])
 replace hd:g.defers=[dcall 153 #[]]:=o.trans (by simp only[*,go_sem,-a,-hJ,muA,msA,stA,smA,Int.reduceBEq,Int.reduceBNe])
 clear e1 e2 o z k1
 refine ai.nil a (b _ _ _ ?_);clear b K
 repeat refine ax (a _) ?_
 refine aQ a fun K b=>?_
 refine ai.pure (a _) 1 (n:=0) _ rfl rfl ?_;simp only[*,go_sem,-b,-a,muA,msA,stA,smA,Int.reduceBEq,Int.reduceBNe]
 refine ai.nil a (b _ _ _ ?_);clear b K
 repeat refine ax (a _) ?_
 refine aQ a fun K b=>?_
 refine ai.entry (.bool false) (a _) z7 ⟨_,_,_,rfl,(by first|(simp only[*,go_sem,-b,-a,-hJ];done)|rfl),rfl,by first|(simp only[*,go_sem,-b,-a,-hJ,muA,msA,stA,smA,Int.reduceBEq,Int.reduceBNe];done)|(simp only[*,go_sem,-b,-a,-hJ,muA,msA,stA,smA,Int.reduceBEq,Int.reduceBNe];rfl),rfl⟩ ?_
 refine ai.nil a (b _ _ _ ?_);clear b K
 repeat refine ax (a _) ?_
 refine cn (a _) (by simp only[*,go_sem,-a,-hJ,Int.reduceBEq,Int.reduceBNe]) ?_
 refine cr (a _) ?_
 have w1:IntKind.u64.wrap (-1)=18446744073709551615:=by decide
 have w2:IntKind.u64.wrap (18446744073709551615*2 ^ min 32 64)=18446744069414584320:=by decide
 repeat refine ax (a _) ?_
 refine aQ a fun K b=>?_
 refine ai.pure (a _) 6 (n:=2) _ rfl rfl ?_;simp only[*,go_sem,-b,-a,muA,msA,stA,smA,Int.reduceBEq,Int.reduceBNe]
 refine ai.fh (a _) rfl (by first|(simp only[*,go_sem,-b,-a,-hJ];done)|rfl) rfl xE (by simp only[*,go_sem,-b,-a,-hJ,muA,msA,stA,smA,Int.reduceBEq,Int.reduceBNe]) (FW h u) fun r F' aF f=>?_
 obtain ⟨rfl,v,t,p,ht,rfl,rfl⟩:=f
 obtain ⟨x,d⟩:∃x:Int,x=(v:Int)*4294967296+(t:Int):=⟨_,rfl⟩
 rw[<-d]
 have a1:jx x 2147483648=0:=by rw[d];exact vF v t (by omega) ht
 have a2:jx x 2147483647=(t:Int):=by rw[d];exact vG v t (by omega) ht
 have a3:x.fdiv (2 ^ min 32 64)=(v:Int):=by rw[d];exact vH v t ht
 have a4:IntKind.i32.wrap (v:Int)=(v:Int):=gH (by omega) (by omega)
 have a5:IntKind.u32.wrap (t:Int)=(t:Int):=by
  unfold IntKind.wrap
  simp[IntKind.bits,IntKind.signed]
  omega
 have k:v=0->t=1->((1:Int) != x)=false:=fun e C=>by rw[d,e,C];rfl
 clear d
 refine ai.pure (a _) 1 (n:=0) _ rfl rfl ?_;simp only[*,go_sem,-b,-a,muA,msA,stA,smA,Int.reduceBEq,Int.reduceBNe]
 refine ai.nil a (b _ _ _ ?_);clear b K
 repeat refine ax (a _) ?_
 refine aQ a fun K b=>?_
 refine ai.pure (a _) 7 (n:=0) _ rfl rfl ?_;simp only[*,go_sem,-b,-a,muA,msA,stA,smA,Int.reduceBEq,Int.reduceBNe]
 refine ai.nil a (b _ _ _ ?_);clear b K
 repeat refine ax (a _) ?_
 refine cn (a _) (by simp only[*,go_sem,-a,-hJ,Int.reduceBEq,Int.reduceBNe]) ?_
 refine cr (a _) ?_
 repeat refine ax (a _) ?_
 refine aQ a fun K b=>?_
 refine ai.pure (a _) 4 (n:=0) _ rfl rfl ?_;simp only[*,go_sem,-b,-a,muA,msA,stA,smA,Int.reduceBEq,Int.reduceBNe]
 refine ai.nil a (b _ _ _ ?_);clear b K
 repeat refine ax (a _) ?_
 refine aQ a fun K b=>?_
 refine ai.pure (a _) 4 (n:=0) _ rfl rfl ?_;simp only[*,go_sem,-b,-a,muA,msA,stA,smA,Int.reduceBEq,Int.reduceBNe]
 refine ai.nil a (b _ _ _ ?_);clear b K
 repeat refine ax (a _) ?_
 refine aQ a fun K b=>?_
 refine ai.pure (a _) 10 (n:=0) _ rfl rfl ?_;simp only[*,go_sem,-b,-a,muA,msA,stA,smA,Int.reduceBEq,Int.reduceBNe]
 refine ai.nil a (b _ _ _ ?_);clear b K
 repeat refine ax (a _) ?_
 refine cn (a _) (by simp only[*,go_sem,-a,-hJ,Int.reduceBEq,Int.reduceBNe]) ?_
 refine cr (a _) ?_
 have c3:decide ((v:Int)<0)=false:=by simp
 repeat refine ax (a _) ?_
 refine aQ a fun K b=>?_
 refine ai.pure (a _) 2 (n:=0) _ rfl rfl ?_;simp only[*,go_sem,-b,-a,muA,msA,stA,smA,Int.reduceBEq,Int.reduceBNe]
 refine ai.nil a (b _ _ _ ?_);clear b K
 repeat refine ax (a _) ?_
 refine cn (a _) (by simp only[*,go_sem,-a,-hJ,Int.reduceBEq,Int.reduceBNe]) ?_
 refine cr (a _) ?_
 have q:t=0\/t=1:=by omega
 by_cases hC:v=0/\t=1
 ·
  obtain ⟨rfl,rfl⟩:=hC
  have D:((1:Int) != x)=false:=k rfl rfl
  have hg:(if (0:Nat)=0/\(1:Nat)=1 then Gp.ld else Gp.gone)= .ld:=rfl
  rw[hg]
  have E:((1:Nat):Int)=1:=rfl
  clear hg k q p ht
  repeat refine ax (a _) ?_
  refine aQ a fun K b=>?_
  refine ai.pure (a _) 12 (n:=0) _ rfl rfl ?_;simp only[*,go_sem,-b,-a,muA,msA,stA,smA,Int.reduceBEq,Int.reduceBNe]
  refine ai.nil a (b _ _ _ ?_);clear b K
  repeat refine ax (a _) ?_
  refine cn (a _) (by simp only[*,go_sem,-a,-hJ,Int.reduceBEq,Int.reduceBNe]) ?_
  refine cr (a _) ?_
  repeat refine ax (a _) ?_
  refine aQ a fun K b=>?_
  refine ai.pure (a _) 6 (n:=0) _ rfl rfl ?_;simp only[*,go_sem,-b,-a,muA,msA,stA,smA,Int.reduceBEq,Int.reduceBNe]
  refine ai.nil a (b _ _ _ ?_);clear b K
  repeat refine ax (a _) ?_
  refine cn (a _) (by simp only[*,go_sem,-a,-hJ,Int.reduceBEq,Int.reduceBNe]) ?_
  refine cr (a _) ?_
  repeat refine ax (a _) ?_
  refine aQ a fun K b=>?_
  refine ai.pure (a _) 3 (n:=3) _ rfl rfl ?_;simp only[*,go_sem,-b,-a,muA,msA,stA,smA,Int.reduceBEq,Int.reduceBNe]
  refine ai.fh (a _) rfl (by first|(simp only[*,go_sem,-b,-a,-hJ];done)|rfl) rfl sH (by simp only[*,go_sem,-b,-a,-hJ,muA,msA,stA,smA,Int.reduceBEq,Int.reduceBNe]) FX fun r F' aF f=>?_
  obtain ⟨rfl,rfl,rfl⟩:=f
  refine ai.pure (a _) 2 (n:=0) _ rfl rfl ?_;simp only[*,go_sem,-b,-a,muA,msA,stA,smA,Int.reduceBEq,Int.reduceBNe]
  refine ai.nil a (b _ _ _ ?_);clear b K
  repeat refine ax (a _) ?_
  refine cn (a _) (by simp only[*,go_sem,-a,-hJ,Int.reduceBEq,Int.reduceBNe]) ?_
  refine cr (a _) ?_
  repeat refine ax (a _) ?_
  refine aQ a fun K b=>?_
  refine ai.pure (a _) 3 (n:=1) _ rfl rfl ?_;simp only[*,go_sem,-b,-a,muA,msA,stA,smA,Int.reduceBEq,Int.reduceBNe]
  refine ai.fh (a _) rfl (by first|(simp only[*,go_sem,-b,-a,-hJ];done)|rfl) rfl BN (by simp only[*,go_sem,-b,-a,-hJ,muA,msA,stA,smA,Int.reduceBEq,Int.reduceBNe]) (FY h) fun r F' aF f=>?_
  obtain ⟨rfl,rfl,rfl⟩:=f
  refine ai.nil a (b _ _ _ ?_);clear b K
  repeat refine ax (a _) ?_
  refine aQ a fun K b=>?_
  refine ai.pure (a _) 1 (n:=0) _ rfl rfl ?_;simp only[*,go_sem,-b,-a,muA,msA,stA,smA,Int.reduceBEq,Int.reduceBNe]
  refine ai.nil a (b _ _ _ ?_);clear b K
  repeat refine ax (a _) ?_
  refine cn (a _) (by simp only[*,go_sem,-a,-hJ,Int.reduceBEq,Int.reduceBNe]) ?_
  refine cr (a _) ?_
  repeat refine ax (a _) ?_
  refine iL a ?_
  refine oL a (Gw Wg (bs i) F') 1 ?_ ?_
  ·exact ⟨1,rfl,(by simp only[*,go_sem,-a,-hJ,muA,msA,stA,smA,Int.reduceBEq,Int.reduceBNe]),(by simp only[*,go_sem,-a,-hJ,muA,msA,stA,smA,Int.reduceBEq,Int.reduceBNe]),(by simp only[*,go_sem,-a,-hJ,muA,msA,stA,smA,Int.reduceBEq,Int.reduceBNe]),(by simp only[*,go_sem,-a,-hJ,muA,msA,stA,smA,Int.reduceBEq,Int.reduceBNe]),.inl ⟨rfl,rfl,rfl⟩⟩
  ·clear l0 B j hd c1 c2 c3 D a1 a2 a3 a4 a5 w1 w2 E
   rintro m A G I ⟨t8,rfl,l0,J,j,hd,⟨rfl,rfl,rfl⟩|⟨rfl,rfl,rfl⟩⟩
   ·have H:((1:Int) != 0)=true:=rfl
    have w3:IntKind.u32.wrap (1 - 1)=0:=by decide
    repeat refine ax (a _) ?_
    refine aQ a fun K b=>?_
    refine ai.pure (a _) 2 (n:=0) _ rfl rfl ?_;simp only[*,go_sem,-b,-a,muA,msA,stA,smA,Int.reduceBEq,Int.reduceBNe]
    refine ai.nil a (b _ _ _ ?_);clear b K
    repeat refine ax (a _) ?_
    refine cG (a _) (by simp only[*,go_sem,-a,-hJ,Int.reduceBEq,Int.reduceBNe]) ?_
    refine cr (a _) ?_
    repeat refine ax (a _) ?_
    refine iL a ?_
    repeat refine ax (a _) ?_
    refine aQ a fun K b=>?_
    refine ai.pure (a _) 3 (n:=1) _ rfl rfl ?_;simp only[*,go_sem,-b,-a,muA,msA,stA,smA,Int.reduceBEq,Int.reduceBNe]
    refine FQ (.bool false) (.int .i64 0) Fj h ⟨_,_,_,rfl,(by first|(simp only[*,go_sem,-b,-a,-hJ];done)|rfl),rfl,by first|(simp only[*,go_sem,-b,-a,-hJ,muA,msA,stA,smA,Int.reduceBEq,Int.reduceBNe];done)|(simp only[*,go_sem,-b,-a,-hJ,muA,msA,stA,smA,Int.reduceBEq,Int.reduceBNe];rfl),rfl⟩ (by rfl) ?_
    refine ai.nil a (b _ _ _ ?_);clear b K
    repeat refine ax (a _) ?_
    refine aQ a fun K b=>?_
    refine ai.pure (a _) 3 (n:=0) _ rfl rfl ?_;simp only[*,go_sem,-b,-a,muA,msA,stA,smA,Int.reduceBEq,Int.reduceBNe]
    refine ai.nil a (b _ _ _ ?_);clear b K
    exact ⟨0,by omega,0,rfl,(by simp only[*,go_sem,-a,-hJ,muA,msA,stA,smA,Int.reduceBEq,Int.reduceBNe]),(by simp only[*,go_sem,-a,-hJ,muA,msA,stA,smA,Int.reduceBEq,Int.reduceBNe]),(by simp only[*,go_sem,-a,-hJ,muA,msA,stA,smA,Int.reduceBEq,Int.reduceBNe]),(by simp only[*,go_sem,-a,-hJ,muA,msA,stA,smA,Int.reduceBEq,Int.reduceBNe]),.inr ⟨rfl,rfl,rfl⟩⟩
   ·have H:((0:Int) != 0)=false:=rfl
    repeat refine ax (a _) ?_
    refine aQ a fun K b=>?_
    refine ai.pure (a _) 2 (n:=0) _ rfl rfl ?_;simp only[*,go_sem,-b,-a,muA,msA,stA,smA,Int.reduceBEq,Int.reduceBNe]
    refine ai.nil a (b _ _ _ ?_);clear b K
    repeat refine ax (a _) ?_
    refine cn (a _) (by simp only[*,go_sem,-a,-hJ,Int.reduceBEq,Int.reduceBNe]) ?_
    exact mQ (show jw 153 (fun r c aF=>r= .tuple #[]/\c=G/\aF=⟨.fin,.gone,bs i,0⟩) .normal _ _ _ from Gx (by simp only[*,go_sem,-a,-hJ,muA,msA,stA,smA,Int.reduceBEq,Int.reduceBNe]) rfl rfl ⟨rfl,rfl,rfl⟩)
 ·
  rw[if_neg hC]
  have s:(0<v/\decide ((v:Int)>0)=true)\/(v=0/\decide ((v:Int)>0)=false/\((t:Int)==0)=true):=by
   rcases Nat.eq_zero_or_pos v with e|e
   ·refine .inr ⟨e,by simp[e],?_⟩
    obtain rfl:t=0:=by omega
    rfl
   ·exact .inl ⟨e,by simp;omega⟩
  have a7:((t:Int) != 0)=false\/((t:Int) != 0)=true:=by cases ((t:Int) != 0)<;>simp
  clear k hC p ht q
  rcases a7 with a7|a7
  ·repeat refine ax (a _) ?_
   refine aQ a fun K b=>?_
   refine ai.pure (a _) 12 (n:=0) _ rfl rfl ?_;simp only[*,go_sem,-b,-a,muA,msA,stA,smA,Int.reduceBEq,Int.reduceBNe]
   refine ai.nil a (b _ _ _ ?_);clear b K
   repeat refine ax (a _) ?_
   refine cn (a _) (by simp only[*,go_sem,-a,-hJ,Int.reduceBEq,Int.reduceBNe]) ?_
   refine cr (a _) ?_
   rcases s with ⟨_,l⟩|⟨_,l,b2⟩
   ·repeat refine ax (a _) ?_
    refine aQ a fun K b=>?_
    refine ai.pure (a _) 6 (n:=0) _ rfl rfl ?_;simp only[*,go_sem,-b,-a,muA,msA,stA,smA,Int.reduceBEq,Int.reduceBNe]
    refine ai.nil a (b _ _ _ ?_);clear b K
    repeat refine ax (a _) ?_
    refine cG (a _) (by simp only[*,go_sem,-a,-hJ,Int.reduceBEq,Int.reduceBNe]) ?_
    exact eL (show jw 153 (fun r c aF=>r= .tuple #[]/\c=F'/\aF=⟨.fin,.gone,bs i,0⟩) .ret _ _ _ from rz (by simp only[*,go_sem,-a,-hJ,muA,msA,stA,smA,Int.reduceBEq,Int.reduceBNe]) rfl rfl ⟨rfl,rfl,rfl⟩)
   ·repeat refine ax (a _) ?_
    refine aQ a fun K b=>?_
    refine ai.pure (a _) 6 (n:=0) _ rfl rfl ?_;simp only[*,go_sem,-b,-a,muA,msA,stA,smA,Int.reduceBEq,Int.reduceBNe]
    refine ai.nil a (b _ _ _ ?_);clear b K
    repeat refine ax (a _) ?_
    refine cG (a _) (by simp only[*,go_sem,-a,-hJ,Int.reduceBEq,Int.reduceBNe]) ?_
    exact eL (show jw 153 (fun r c aF=>r= .tuple #[]/\c=F'/\aF=⟨.fin,.gone,bs i,0⟩) .ret _ _ _ from rz (by simp only[*,go_sem,-a,-hJ,muA,msA,stA,smA,Int.reduceBEq,Int.reduceBNe]) rfl rfl ⟨rfl,rfl,rfl⟩)
  ·repeat refine ax (a _) ?_
   refine aQ a fun K b=>?_
   refine ai.pure (a _) 12 (n:=0) _ rfl rfl ?_;simp only[*,go_sem,-b,-a,muA,msA,stA,smA,Int.reduceBEq,Int.reduceBNe]
   refine ai.nil a (b _ _ _ ?_);clear b K
   repeat refine ax (a _) ?_
   refine cn (a _) (by simp only[*,go_sem,-a,-hJ,Int.reduceBEq,Int.reduceBNe]) ?_
   refine cr (a _) ?_
   rcases s with ⟨_,l⟩|⟨_,l,b2⟩
   ·repeat refine ax (a _) ?_
    refine aQ a fun K b=>?_
    refine ai.pure (a _) 6 (n:=0) _ rfl rfl ?_;simp only[*,go_sem,-b,-a,muA,msA,stA,smA,Int.reduceBEq,Int.reduceBNe]
    refine ai.nil a (b _ _ _ ?_);clear b K
    repeat refine ax (a _) ?_
    refine cG (a _) (by simp only[*,go_sem,-a,-hJ,Int.reduceBEq,Int.reduceBNe]) ?_
    exact eL (show jw 153 (fun r c aF=>r= .tuple #[]/\c=F'/\aF=⟨.fin,.gone,bs i,0⟩) .ret _ _ _ from rz (by simp only[*,go_sem,-a,-hJ,muA,msA,stA,smA,Int.reduceBEq,Int.reduceBNe]) rfl rfl ⟨rfl,rfl,rfl⟩)
   ·repeat refine ax (a _) ?_
    refine aQ a fun K b=>?_
    refine ai.pure (a _) 6 (n:=0) _ rfl rfl ?_;simp only[*,go_sem,-b,-a,muA,msA,stA,smA,Int.reduceBEq,Int.reduceBNe]
    refine ai.nil a (b _ _ _ ?_);clear b K
    repeat refine ax (a _) ?_
    refine cG (a _) (by simp only[*,go_sem,-a,-hJ,Int.reduceBEq,Int.reduceBNe]) ?_
    exact eL (show jw 153 (fun r c aF=>r= .tuple #[]/\c=F'/\aF=⟨.fin,.gone,bs i,0⟩) .ret _ _ _ from rz (by simp only[*,go_sem,-a,-hJ,muA,msA,stA,smA,Int.reduceBEq,Int.reduceBNe]) rfl rfl ⟨rfl,rfl,rfl⟩)
end
end Go.Proofs.YtipgiooobncfbaaGreatDoor
end
section
namespace Go.Sep
open Go Go.Conc
open Go.ConcN (sumTo upd upd_ne upd_same)
def ie (P:Program):Frame:={(default:Frame) with fn:=P.funcs.size,defers:=[],mode:=.panicking [goexitEntry]}
section
variable {P : Program} {f : FuncId} {fn : Func} {cd : Code} {w : World} {caps args : Array Value}
theorem Gz (a:P.funcs[f]?=some fn)(b:(fn.name== "runtime.NumGoroutine")=false)(hb:fn.body=some cd):
  stepG P false (born P {target:=.fn (.func f) caps,args:=args}) w= .go (G ((baseD f).at {tmps:=args++caps++Array.replicate (fn.ntmps - (args++caps).size) undef,defers:=[]} [.code cd]) [ie P]) w #[]:=by
 have h1:¬fn.name= "runtime.NumGoroutine":=by simpa using b
 rw[<-enter_atD (args++caps) a hb]
 simp[born,G,stepG,unwind,callDeferred,invoke,callFunc,a,h1,hb,GStep.after,seen_none,ie]
theorem GA {b:Frame}{a:Act}{todo:List Item}(d:b.kind= .deferred)(hd:a.defers=[])(e:P.funcs[b.fn]?=some fn)(c:fn.results=#[]):
  stepG P false (G {b.at a todo with mode:=.returning} [ie P]) w= .go (G (ie P) []) w #[]:=by
 have he:(results fn a.tmps).events P w #[]=#[]:=events_results_none c _ _
 have f:(results fn a.tmps).run P w= .ok (.tuple #[]) w:=results_none c _ P w
 simp[G,stepG,unwind,doReturn,Frame.at,d,hd,e,f,he,ie,goexitEntry,seen_none,GStep.after]
theorem GB:stepG P false (G (ie P) []) w= .go {frame:=ie P,callers:=[],status:=.finished,dying:=none} w #[]:=by
 have e:(default:Frame).todo=[]:=rfl
 simp[G,stepG,unwind,ie,goexitEntry,Frame.catches,e]
end
section
variable {c : Cy} {i : Nat} {F : af} {f fd : FuncId}
def vM (c:Cy)(i:Nat)(fd:FuncId)(v:Value):Ex->Act->af->Ph->Prop
 | .exit _,_,_,_=>False
 |_,a,_,ph=>a.defers=[dcall fd #[v]]/\(ph.mp= .idle\/ph.mp= .fin)/\ph.gp= .cnt/\ph.stored=c.bs i/\ph.deaf=0
theorem worker {fn b:Func}{cd l:Code}{n nd:Nat}{v:Value}(m:c.P.funcs[f]?=some fn)(z:(fn.name== "runtime.NumGoroutine")=false)(hb:fn.body=some cd)(B:fn.results=#[])(o:fn.ntmps=n){caps:Array Value}(Q:caps.size<=n)
  (C:c.P.funcs[fd]?=some b) (D:(b.name== "runtime.NumGoroutine")=false) (E:b.body=some l) (H:b.results=#[]) (I:b.ntmps=nd) (h1:1<=nd)
  (hd:∀(mp:Mp) (F:af),mp= .idle\/mp= .fin->∀A:Act,sz A=nd->A.defers=[]->(∀j,slot A j=(#[v]:Array Value).getD j undef)->cw (WJ c i) fd l (vE fun F' aF=>aF=⟨.fin,.gone,c.bs i,0⟩) A F ⟨mp,.cnt,c.bs i,0⟩)
  (h:∀A:Act,sz A=n->A.defers=[]->(∀j,slot A j=caps.getD j undef)->cw (WJ c i) f cd (vM c i fd v) A F ⟨.idle,.cnt,false,0⟩):
  Wk c i ⟨.idle,.cnt,false,0⟩ (born c.P {target:=.fn (.func f) caps,args:=#[]}) F:=by
 have p:=WJ.dQ c i
 have e0:∀w,stepG c.P false (born c.P {target:=.fn (.func f) caps,args:=#[]}) w= .go (G ((baseD f).at {tmps:=caps++Array.replicate (fn.ntmps - caps.size) undef,defers:=[]} [.code cd]) [ie c.P]) w #[]:=fun w=>by
  have:=Gz (P:=c.P) (w:=w) (caps:=caps) (args:=#[]) m z hb
  simpa using this
 refine Wk.act (c:=c) (i:=i) rfl rfl (by simp) fun w s k φ p0 e1 e2 R J K=>.inr ⟨_,w,#[],s,⟨.idle,.cnt,false,0⟩,e0 w,e2,.refl _ _,?_,lD rfl Iff.rfl,.inr c8,?_⟩
 ·rw[<-J,vt];exact K
 have out:∀(a:Act) (r:List Item) F' (aF:Ph),(a.defers=[dcall fd #[v]]/\(aF.mp= .idle\/aF.mp= .fin)/\aF.gp= .cnt/\aF.stored=c.bs i/\aF.deaf=0)->WJ c i aF (G {(baseD f).at a r with mode:=.returning} [ie c.P]) F':=by
  intro a r F' aF ⟨k1,t,u,x,y⟩
  obtain ⟨mp,gp,st,S⟩:=aF
  simp only at t u x y
  subst u x y
  refine FU C D E H I (by simpa using h1) k1 (fun A L M N=>hd mp F' t A L M N) fun T U O=>?_
  subst O
  refine Wk.gone (q:=2) rfl (QuitsD.ctl rfl (fun w=>GA rfl rfl m B) (QuitsD.ctl rfl (fun w=>GB) ⟨rfl,rfl⟩))
 have:=h {tmps:=caps++Array.replicate (fn.ntmps - caps.size) undef,defers:=[]} (by simp[sz,o];omega) rfl (fun j=>?_) (baseD f) [] [ie c.P] ⟨by simp[baseD],rfl,rfl⟩ fun e a F' aF g=>?_
 ·rw[dZ rfl] at this;exact this
 ·simp only[slot,o,Array.getD_eq_getD_getElem?]
  rcases Nat.lt_or_ge j caps.size with d|d
  ·rw[Array.getElem?_append_left d]
  ·rw[Array.getElem?_append_right d,Array.getElem?_replicate,Array.getElem?_eq_none d]
   split<;>rfl
 ·cases e with
  |normal=>exact (p aF).move (fun _=>ko rfl) (out a _ F' aF g)
  |exit i=>exact g.elim
  |ret=>exact fun V=>(p aF).move (fun _=>stepG_ret' rfl) (out a _ F' aF g)
end
attribute [go_sem] vM
end Go.Sep
end
section
namespace Go.Proofs.YtipgiooobncfbaaGreatDoor
open Go Go.Sep Go.Proofs Go.Conc
open Go.ConcN (upd upd_same)
open Go.ConcM (muA msA)
open Go.ConcR (stA smA)
set_option maxRecDepth 100000
set_option maxHeartbeats 4000000
theorem GC:(Tryz.prog.funcs[130]?).any (·.norace)=false:=by kernel_rfl
section
variable {Mu Wg Is n base T0 i : Nat} {bs : Nat → Bool}
theorem GD (o:Mu≠Wg/\Mu≠Is/\Wg≠Is)(z:n<67108864)(a6:i<n){ro:Addr->Option Value}(u0:cI){s1:Value}(q:az eD ro s1 u0.book.aB){L:Value}(r:az dX ro L u0.book.props){M:Value}(s:az ew ro M u0.book.aR){N:Value}(u:az cO ro N u0.book.told)
  (B:Int) (C:List Int) {O:Value} (w:az rI ro O C) (D:List aP) {P:Value} (g:az gZ ro P D) {f b2 b3 b4 Q R:Nat}
  (g0:ro ⟨f,0,none⟩=some (.int .i64 u0.book.bF)) (S:ro ⟨f,1,none⟩=some (.int .i64 u0.book.bJ)) (T:ro ⟨f,2,none⟩=some (.int .i64 u0.book.aT.num)) (U:ro ⟨f,3,none⟩=some (.int .i64 u0.book.aT.den)) (V:ro ⟨f,4,none⟩=some s1) (W:ro ⟨f,5,none⟩=some L) (X:ro ⟨f,6,none⟩=some M) (Y:ro ⟨f,7,none⟩=some N)
  (Z:ro ⟨b2,0,none⟩=some (.int .i64 B)) (ab:ro ⟨b3,0,none⟩=some O) (ad:ro ⟨b4,0,none⟩=some P) (E:ro ⟨Q,0,none⟩=some (.slice (some ⟨Is,0,none⟩) n n)) (G:ro ⟨R,0,none⟩=some (.int .i64 i))
  (h:ah (qv u0.book B C) (fun b=>qk b D)=some (bs i)):
  Wk (CY Mu Wg Is n bs base T0) i ⟨.idle,.cnt,false,0⟩ (born Tryz.prog {target:=.fn (.func 130) #[.pointer (some ⟨Wg,0,none⟩),.pointer (some ⟨f,0,none⟩),.pointer (some ⟨b2,0,none⟩),.pointer (some ⟨b3,0,none⟩),.pointer (some ⟨b4,0,none⟩),.pointer (some ⟨Mu,0,none⟩),.pointer (some ⟨Q,0,none⟩),.pointer (some ⟨R,0,none⟩)],args:=#[]}) ⟨ro,[]⟩:=by
 have d:=WJ.dQ (CY Mu Wg Is n bs base T0) i
 have hJ:∀ph:Ph,ph.gp= .cnt->Go.Sep.Closed Tryz.prog false (WJ (CY Mu Wg Is n bs base T0) i ph):=fun ph h=>Wk.closed (CY Mu Wg Is n bs base T0) i ph h
 refine worker (c:=CY Mu Wg Is n bs base T0) (i:=i) (fd:=131) (v:=.pointer (some ⟨Wg,0,none⟩)) Tryz.func130 rfl rfl rfl Tryz.ntmps130 (by simp) Tryz.func131 rfl rfl rfl Tryz.ntmps131 (by simp) ?_ ?_
 ·intro mp F a7 A H hd hs
  have x:=hs 0
  clear hs h g0 S T U V W X Y Z ab ad E G q r s u w g hJ a6
  repeat refine ax (d _) ?_
  refine cH d ?_
  refine ai.pure (d _) 1 (n:=1) _ rfl rfl ?_;simp only[*,go_sem,muA,msA,stA,smA,Int.reduceBEq,Int.reduceBNe]
  refine ai.fh (d _) rfl rfl rfl xD (by simp only[*,go_sem,stA]) (Gy o z a7 rfl) fun v F' aF j=>?_
  obtain ⟨rfl,rfl,rfl⟩:=j
  refine ai.nil d ?_
  exact ⟨(by simp only[*,go_sem,muA,msA,stA,smA,Int.reduceBEq,Int.reduceBNe]),rfl⟩
 ·intro ae H hd hs
  have x:=hs 0
  have k1:=hs 1
  have al:=hs 2
  have ao:=hs 3
  have ar:=hs 4
  have a0:=hs 5
  have a2:=hs 6
  have a3:=hs 7
  clear hs
  repeat refine ax (d _) ?_
  refine cH d ?_
  refine ai.defer (d _) (vals:=#[.pointer (some ⟨Wg,0,none⟩)]) rfl (by rfl) rfl rfl (by simp only[List.map_toArray,List.map_cons,List.map_nil];rw[show ae.eval (.tmp 0)=slot ae 0 from rfl,x];rfl) fun A e1 e2 I=>?_
  replace x:=(e1 0).trans x
  replace k1:=(e1 1).trans k1
  replace al:=(e1 2).trans al
  replace ao:=(e1 3).trans ao
  replace ar:=(e1 4).trans ar
  replace a0:=(e1 5).trans a0
  replace a2:=(e1 6).trans a2
  replace a3:=(e1 7).trans a3
  replace H:sz A=20:=e2.trans H
  rw[hd] at I
  replace hd:=I
  clear e1 e2 I
  refine ai.nil d ?_;try simp only[go_sem]
  obtain ⟨d3,c4,rfl,a8,a9,ba⟩:=id q
  obtain ⟨d10,ds,rfl,bb,bc,bd⟩:=id r
  obtain ⟨d17,dt,rfl,bj,bk,bl⟩:=id s
  obtain ⟨d24,du,rfl,bm,bo,br⟩:=id u
  obtain ⟨d38,dv,rfl,bz,bS,b0⟩:=id w
  obtain ⟨d45,dC,rfl,b1,b5,J⟩:=id g
  repeat refine ax (d _) ?_
  have l:=hJ ⟨.idle,.cnt,false,0⟩ rfl
  refine cw.of l ?_
  refine BU l mixed [0,1,2,3,5] [4,6] ⟨ro,[]⟩ (by simp only[*,go_sem,-h]) (by kernel_rfl) ?_
  have ca:=e5 h;clear h;obtain ⟨cb,a4,h⟩:=ca
  simp only[*,go_sem,-h,-hJ,-d]
  refine sw l _ (Dc u0.book ⟨q,r,s,u⟩ B C w a4) fun v dE m cd j=>?_
  obtain ⟨dT,ea,eb,ec,rfl,k⟩:=j
  replace g:=g.mono m;clear J;obtain ⟨_,_,J⟩:=g.op
  obtain ⟨d63,ed,rfl,cf,cl,cy⟩:=id k.e
  obtain ⟨d68,eh,rfl,cS,c0,da⟩:=id k.p
  obtain ⟨d73,et,rfl,db,dd,df⟩:=id k.y
  obtain ⟨d78,ev,rfl,dk,dp,dq⟩:=id k.t
  replace E:=m _ _ E
  replace G:=m _ _ G
  clear g0 S T U V W X Y Z ab ad
  refine ⟨⟨m,fun a K=>by simp[keys] at K,trivial⟩,kG ?_⟩
  simp only[*,go_sem,-h,-hJ,-d]
  refine aJ l _ (C4 cb (k.mono aI) D (g.mono aI) h) ?_
  refine ⟨⟨m,fun a K=>by simp[keys] at K,trivial⟩,?_⟩
  clear q r s u w g k ba bd bl br b0 J cy da df dq h a4 a8 bb bj bm bz b1 cf cS db dk a9 bc bk bo bS b5 cl c0 dd dp l cd
  have i0:(0:Int)<=(i:Int):=by omega
  have i1:(i:Int)<(n:Int):=by omega
  cases a5:bs i
  ·repeat refine ax (d _) ?_
   refine cn (d _) (by simp only[*,go_sem,Int.reduceBEq,Int.reduceBNe]) ?_
   refine cr (d _) ?_
   exact ⟨(by simp only[*,go_sem,muA,msA,stA,smA,Int.reduceBEq,Int.reduceBNe]),.inl rfl,rfl,a5.symm,rfl⟩
  ·repeat refine ax (d _) ?_
   refine cG (d _) (by simp only[*,go_sem,Int.reduceBEq,Int.reduceBNe]) ?_
   repeat refine ax (d _) ?_
   refine cH d ?_
   refine ai.fh (d _) rfl (by rfl) rfl BK (by simp only[*,go_sem,muA,msA,stA,smA,Int.reduceBEq,Int.reduceBNe]) (FI o z) fun v F' aF j=>?_
   obtain ⟨rfl,rfl,rfl⟩:=j
   refine ai.nil d ?_;try simp only[go_sem]
   repeat refine ax (d _) ?_
   refine cH d ?_
   refine ai.bh (hJ _ rfl) 3 (n:=1) _ rfl rfl ?_;simp only[*,go_sem,muA,msA,stA,smA,Int.reduceBEq,Int.reduceBNe]
   refine Fz Fo xx GC o ⟨_,rfl,(by first|rfl|simp only[*,go_sem,Int.reduceBEq,Int.reduceBNe]),rfl,rfl⟩ (by rfl) (by simp only[*,go_sem]) (by simp only[*,go_sem]) ?_
   refine ai.nil d ?_;try simp only[go_sem]
   repeat refine ax (d _) ?_
   refine cH d ?_
   refine ai.fh (d _) rfl (by rfl) rfl BL (by simp only[*,go_sem,muA,msA,stA,smA,Int.reduceBEq,Int.reduceBNe]) (FJ o z) fun v F' aF j=>?_
   obtain ⟨rfl,rfl,rfl⟩:=j
   refine ai.nil d ?_
   exact (show vM _ _ _ _ .normal _ _ _ from ⟨(by simp only[*,go_sem,muA,msA,stA,smA,Int.reduceBEq,Int.reduceBNe]),.inr rfl,rfl,a5.symm,rfl⟩)
end
end Go.Proofs.YtipgiooobncfbaaGreatDoor
end
section
namespace Go.Proofs.YtipgiooobncfbaaGreatDoor
open Go Go.Sep Go.Proofs Go.Conc
open Go.ConcN (upd upd_same)
open Go.ConcM (muA msA muBlock)
open Go.ConcR (stA smA wgBlock)
set_option maxRecDepth 100000
set_option maxHeartbeats 4000000
def GF (u0:cI)(a:Int)(c:List aP)(d:List Int):Option Bool:=ah (qv u0.book a d) fun b=>qk b c
def oQ (f:List Int->Option Bool):List (List Int)->Option (List Bool)
 |[]=>some []
 |x::l=>ah (f x) fun b=>ah (oQ f l) fun r=>some (b::r)
def vN (a:List Bool)(i23:Nat)(b:List Int)(st:List (List Int)):Option (Fl (List (List Int)) (List (List Int))):=
 ah (bL a (i23:Int)) fun c=>cond (c) (ah (dr st ([b])) fun d=>some (.nx d)) (some (.nx st))
def rA (u0:cI)(b:Int)(a:List (List Int)):Option (List (List Int)):=
 cond (decide (a.length<1048576)) (ah (qG u0) fun c=>ah (oQ (GF u0 b c) a) fun bl=>ah (bB (vN bl) 0 a ([]:List (List Int))) fun o=>aK o (fun d=>some d) (fun _ _=>none) (fun r=>some r)) none
theorem Aw {f:List Int->Option Bool}:∀{l:List (List Int)} {bl:List Bool},oQ f l=some bl->bl.length=l.length/\∀(i:Nat) (c:List Int),l[i]?=some c->f c=some (bl[i]?.getD false)
 |[],bl,h=>by
  simp[oQ] at h;subst h
  exact ⟨rfl,fun i c a=>by simp at a⟩
 |x::l,bl,h=>by
  unfold oQ at h
  obtain ⟨b,hb,h⟩:=e5 h
  obtain ⟨r,d,h⟩:=e5 h
  have h:=Option.some.inj h
  subst h
  obtain ⟨e1,e2⟩:=Aw d
  refine ⟨by simp[e1],fun i c a=>?_⟩
  cases i with
  |zero=>simp at a;subst a;simpa using hb
  |succ i=>simp at a;simpa using e2 i c a
def Ax (x:X)(d:Addr->Option Value)(b3 b4 e f:Nat)(b:Value)(m:Nat)(a:Act)(F:af)(z:Z):Prop:=
 ∃(i:Nat) (c:Addr->Option Value),m=x.n - i/\i<=x.n/\F=⟨c,[]⟩/\Ext d c/\slot a 2=b/\slot a 3= .pointer (some ⟨b3,0,none⟩)/\slot a 4= .pointer (some ⟨b4,0,none⟩)/\slot a 6= .slice none 0 0/\slot a 7= .pointer (some ⟨e,0,none⟩)/\slot a 8= .pointer (some ⟨f,0,none⟩)/\slot a 9= .pointer (some ⟨x.Mu,0,none⟩)/\slot a 10= .pointer (some ⟨x.Wg,0,none⟩)/\slot a 21=b/\slot a 22= .int .i64 x.n/\slot a 23= .int .i64 i/\sz a=49/\a.defers=[]/\z= .co x i (.opn 0) 0
theorem GG (l:List Bool):(l.map fun b=>[Value.bool b]).flatten=l.map Value.bool:=by
 induction l with
 |nil=>rfl
 |cons b l ih=>simp only[List.map_cons,List.flatten_cons,ih];rfl
theorem GH:Tryz.prog.underlying 168=some (.slice 4):=by kernel_rfl
theorem GI:Tryz.prog.info? 4=some ((Tryz.prog.info? 4).getD default):=by kernel_rfl
theorem Ay {ro:Addr->Option Value}(u0:cI){s1:Value}(q:az eD ro s1 u0.book.aB){bs:Value}(s:az dX ro bs u0.book.props){bz:Value}(u:az ew ro bz u0.book.aR){bS:Value}(w:az cO ro bS u0.book.told){b0:Value}(a5:az ga ro b0 u0.all)(ae:Int)(d:List (List Int)){b1:Value}(o:az (rL rI) ro b1 d){r:List (List Int)}(h:rA u0 ae d=some r):
  nE Tryz.prog 87 #[.agg #[.int .i64 u0.book.bF,.int .i64 u0.book.bJ,.int .i64 u0.book.aT.num,.int .i64 u0.book.aT.den,s1,bs,bz,bS,b0],.int .i64 ae,b1] ro (fun v aH=>∃b2,v=b2/\az (rL rI) aH b2 r):=by
 refine eV.Gf (T:=TT) fun Φ=>?_
 obtain ⟨d3,c4,rfl,gl,gn,gp⟩:=id q
 obtain ⟨d10,gB,rfl,gC,gM,R⟩:=id s
 obtain ⟨d17,I,rfl,gT,gV,g0⟩:=id u
 obtain ⟨d24,g1,rfl,g2,g3,g4⟩:=id w
 obtain ⟨d31,j1,rfl,ha,hc,hf⟩:=id a5
 obtain ⟨d38,b5,rfl,j2,ca,C⟩:=id o
 unfold rA at h
 have hlen:d.length<1048576:=by
  rcases Nat.lt_or_ge d.length 1048576 with y|y
  ·exact y
  ·rw[show decide (d.length<1048576)=false by simp;omega] at h;cases h
 rw[show decide (d.length<1048576)=true by simp;omega] at h
 simp only[cond_true] at h
 obtain ⟨cb,cd,h⟩:=e5 h
 obtain ⟨bl,cf,h⟩:=e5 h
 obtain ⟨cl,cS⟩:=Aw cf
 have a:=ZJ.dQ TT Φ
 have hJ:=fun (z:Z) (S:vK z=true)=>ZJ.Gs TT Φ z S
 refine cq.go (main:=true) a Tryz.func87 rfl Tryz.ntmps87 (by simp) fun A S hd hs=>?_
 have hg:=hs 0
 have k1:=hs 1
 have c0:=hs 2
 clear hs cf
 repeat refine ax (a _) ?_
 refine aQ a fun K c=>?_
 refine ai.bh (hJ _ rfl) 3 (n:=0) _ rfl rfl ?_;simp only[*,go_sem,-c,-a,-hJ,muA,msA,stA,smA,Int.reduceBEq,Int.reduceBNe]
 intro b3 f3;have r3:=ee f3;have n3:=eU f3
 try simp only[aj] at n3
 intro b4 f4;have hh:=ee f4;have da:=eU f4
 try simp only[aj] at da
 try simp only[*,go_sem,-c,-a,-hJ,-h]
 refine ai.nil a (c _ _ _ ?_);clear c K
 have p:=hJ .free rfl
 repeat refine ax (a _) ?_
 refine aQ a fun K c=>?_
 refine ai.bh (hJ _ rfl) 4 (n:=0) _ rfl rfl ?_;simp only[*,go_sem,-c,-a,-hJ,muA,msA,stA,smA,Int.reduceBEq,Int.reduceBNe]
 refine sw p _ (yE u0 ⟨q,s,u,w⟩ a5 cd) fun v kh J hi U=>?_
 obtain ⟨kj,rfl,L⟩:=U
 replace q:=q.mono J
 replace s:=s.mono J
 replace u:=u.mono J
 replace w:=w.mono J
 replace o:=o.mono J
 obtain ⟨d45,hj,rfl,hk,hl,hn⟩:=id L
 clear gp R g0 g4 hf C hn r3 hh
 refine aC ?_
 try simp only[*,go_sem,-c,-a,-hJ,-h,-p]
 intro a6 f7;have ho:=ee f7;have db:=eU f7
 try simp only[aj] at db
 try simp only[*,go_sem,-c,-a,-hJ,-h,-p]
 refine ai.nil a (c _ _ _ ?_);clear c K
 repeat refine ax (a _) ?_
 refine aQ a fun K c=>?_
 refine ai.bh (hJ _ rfl) 5 (n:=0) _ rfl rfl ?_;simp only[*,go_sem,-c,-a,-hJ,muA,msA,stA,smA,Int.reduceBEq,Int.reduceBNe]
 refine Gq GH GI rfl xx Bv hlen fun k a7=>?_
 have rI:=ee a7;have nI:=eU a7
 try simp only[aj] at nI
 refine aC ?_
 try simp only[*,go_sem,-c,-a,-hJ,-h,-p]
 intro V f8;have hp:=ee f8;have dd:=eU f8
 try simp only[aj] at dd
 try simp only[*,go_sem,-c,-a,-hJ,-h,-p]
 refine ai.nil a (c _ _ _ ?_);clear c K
 repeat refine ax (a _) ?_
 refine aQ a fun K c=>?_
 refine ai.bh (hJ _ rfl) 1 (n:=0) _ rfl rfl ?_;simp only[*,go_sem,-c,-a,-hJ,muA,msA,stA,smA,Int.reduceBEq,Int.reduceBNe]
 intro M f9;have hq:=ee f9;have df:=eU f9
 try simp only[aj] at df
 try simp only[*,go_sem,-c,-a,-hJ,-h,-p]
 refine ai.nil a (c _ _ _ ?_);clear c K
 repeat refine ax (a _) ?_
 refine aQ a fun K c=>?_
 refine ai.bh (hJ _ rfl) 1 (n:=0) _ rfl rfl ?_;simp only[*,go_sem,-c,-a,-hJ,muA,msA,stA,smA,Int.reduceBEq,Int.reduceBNe]
 intro N f10;have hr:=ee f10;have dk:=eU f10
 try simp only[aj] at dk
 try simp only[*,go_sem,-c,-a,-hJ,-h,-p]
 refine ai.nil a (c _ _ _ ?_);clear c K
 repeat refine ax (a _) ?_
 refine aQ a fun K c=>?_
 refine ai.bh (hJ _ rfl) 3 (n:=0) _ rfl rfl ?_;simp only[*,go_sem,-c,-a,-hJ,muA,msA,stA,smA,Int.reduceBEq,Int.reduceBNe]
 refine ai.nil a (c _ _ _ ?_);clear c K
 refine vL p fun nd no=>?_
 obtain ⟨al,D,hle,B,dp,dq,ds⟩:=Gt nd no
 clear nd no
 refine Gc (T:=TT) (Φ:=Φ) ⟨al,[]⟩ M N k d.length (fun i=>bl[i]?.getD false) hle ?_
 intro base B0 T0 ht ao
 clear hle
 have ar:d.length<67108864:=by omega
 replace q:=q.mono D
 replace s:=s.mono D
 replace u:=u.mono D
 replace w:=w.mono D
 replace o:=o.mono D
 replace L:=L.mono D
 have dt:=B 0 (.int .i64 u0.book.bF) rfl
 have du:=B 1 (.int .i64 u0.book.bJ) rfl
 have dv:=B 2 (.int .i64 u0.book.aT.num) rfl
 have dC:=B 3 (.int .i64 u0.book.aT.den) rfl
 have dE:=B 4 (.slice d3 u0.book.aB.length c4) rfl
 have dT:=B 5 (.slice d10 u0.book.props.length gB) rfl
 have ea:=B 6 (.slice d17 u0.book.aR.length I) rfl
 have eb:=B 7 (.slice d24 u0.book.told.length g1) rfl
 have ec:=dp 0 (.int .i64 ae) rfl
 have ed:=dq 0 (.slice d45 cb.length hj) rfl
 have a8:=ds 0 (.slice (some ⟨k,0,none⟩) d.length d.length) rfl
 clear B dp dq ds f3 f4 f7 f8 f9 f10 a7 n3 da db dd df dk nI ho hp hq hr rI hi
 repeat refine ax (a _) ?_
 refine iL a ?_
 refine oL a (Ax (⟨M,N,k,d.length,(fun i=>bl[i]?.getD false),base,T0,B0⟩:X) al b3 b4 a6 V (.slice d38 d.length b5)) d.length ?_ ?_
 ·exact ⟨0,al,rfl,Nat.zero_le _,rfl,Ext.refl _,(by simp only[*,go_sem,-a,-hJ,muA,msA,stA,smA,Int.reduceBEq,Int.reduceBNe]),(by simp only[*,go_sem,-a,-hJ,muA,msA,stA,smA,Int.reduceBEq,Int.reduceBNe]),(by simp only[*,go_sem,-a,-hJ,muA,msA,stA,smA,Int.reduceBEq,Int.reduceBNe]),(by simp only[*,go_sem,-a,-hJ,muA,msA,stA,smA,Int.reduceBEq,Int.reduceBNe]),(by simp only[*,go_sem,-a,-hJ,muA,msA,stA,smA,Int.reduceBEq,Int.reduceBNe]),(by simp only[*,go_sem,-a,-hJ,muA,msA,stA,smA,Int.reduceBEq,Int.reduceBNe]),(by simp only[*,go_sem,-a,-hJ,muA,msA,stA,smA,Int.reduceBEq,Int.reduceBNe]),(by simp only[*,go_sem,-a,-hJ,muA,msA,stA,smA,Int.reduceBEq,Int.reduceBNe]),(by simp only[*,go_sem,-a,-hJ,muA,msA,stA,smA,Int.reduceBEq,Int.reduceBNe]),(by simp only[*,go_sem,-a,-hJ,muA,msA,stA,smA,Int.reduceBEq,Int.reduceBNe]),(by simp only[*,go_sem,-a,-hJ,muA,msA,stA,smA,Int.reduceBEq,Int.reduceBNe]),(by simp only[*,go_sem,-a,-hJ,muA,msA,stA,smA,Int.reduceBEq,Int.reduceBNe]),(by simp only[*,go_sem,-a,-hJ,muA,msA,stA,smA,Int.reduceBEq,Int.reduceBNe]),rfl⟩
 clear hg k1 c0 S hd
 rintro m A F' eh ⟨i,P,rfl,a9,rfl,e,c0,hv,hx,kk,hy,kl,hz,hA,hB,hD,hE,S,hd,rfl⟩
 have a9:i<=d.length:=a9
 replace q:=q.mono e
 replace s:=s.mono e
 replace u:=u.mono e
 replace w:=w.mono e
 replace o:=o.mono e
 replace L:=L.mono e
 rcases Nat.lt_or_ge i d.length with a0|hF
 ·have c1:decide ((i:Int)<(d.length:Int))=true:=by simp;omega
  have i0:(0:Int)<=(i:Int):=by omega
  have i1:(i:Int)<(d.length:Int):=by omega
  obtain ⟨ba,et⟩:∃x,d[i]?=some x:=⟨_,List.getElem?_eq_getElem a0⟩
  obtain ⟨_,_,C⟩:=o.op
  obtain ⟨hG,ev,bb,bc,W⟩:=C _ _ et
  obtain ⟨hI,rfl,Y⟩:=bc
  obtain ⟨d32,ab,rfl,hK,hL,-⟩:=id Y
  cases bb
  have hM:=W 0 _ rfl
  simp only[go_sem] at hM
  clear W C
  have eQ:=b9 (n:=i) (by omega)
  repeat refine ax (a _) ?_
  refine aQ a fun K c=>?_
  refine ai.bh (hJ _ rfl) 1 (n:=0) _ rfl rfl ?_;simp only[*,go_sem,-c,-a,-hJ,muA,msA,stA,smA,Int.reduceBEq,Int.reduceBNe]
  refine ai.nil a (c _ _ _ ?_);clear c K
  repeat refine ax (a _) ?_
  refine cG (a _) (by simp only[*,go_sem,-a,-hJ,Int.reduceBEq,Int.reduceBNe]) ?_
  refine cr (a _) ?_
  repeat refine ax (a _) ?_
  refine iL a ?_
  repeat refine ax (a _) ?_
  refine aQ a fun K c=>?_
  refine ai.bh (hJ _ rfl) 7 (n:=0) _ rfl rfl ?_;simp only[*,go_sem,-c,-a,-hJ,muA,msA,stA,smA,Int.reduceBEq,Int.reduceBNe]
  intro hN f11;have hP:=ee f11;have eS:=eU f11
  try simp only[aj] at eS
  try simp only[*,go_sem,-c,-a,-hJ,-h,-p]
  intro hQ f12;have hR:=ee f12;have e0:=eU f12
  try simp only[aj] at e0
  try simp only[*,go_sem,-c,-a,-hJ,-h,-p]
  refine ai.nil a (c _ _ _ ?_);clear c K
  refine vL (hJ _ rfl) fun nd no=>?_
  obtain ⟨hS,f,hle,e1,e3⟩:=Gu nd no
  clear nd no f11 f12 hP hR eS e0
  refine Av (hJ _ rfl) hle ?_
  clear hle
  have hT:=e1 0 (.int .i64 i) rfl
  have hV:=e3 0 (.slice d32 ba.length ab) rfl
  clear e1 e3
  repeat refine ax (a _) ?_
  refine aQ a fun K c=>?_
  refine ai.fh (a _) rfl (by first|(simp only[*,go_sem,-c,-a,-hJ];done)|rfl) rfl xD (by simp only[*,go_sem,-c,-a,-hJ,muA,msA,stA,smA,Int.reduceBEq,Int.reduceBNe]) (Gm ao ar) fun v F' eh U=>?_
  obtain ⟨rfl,rfl,rfl⟩:=U
  refine ai.nil a (c _ _ _ ?_);clear c K
  repeat refine ax (a _) ?_
  refine aQ a fun K c=>?_
  refine ai.bh (hJ _ rfl) 1 (n:=1) _ rfl rfl ?_;simp only[*,go_sem,-c,-a,-hJ,muA,msA,stA,smA,Int.reduceBEq,Int.reduceBNe]
  refine Gv (caps:=#[.pointer (some ⟨N,0,none⟩),.pointer (some ⟨b3,0,none⟩),.pointer (some ⟨b4,0,none⟩),.pointer (some ⟨hQ,0,none⟩),.pointer (some ⟨a6,0,none⟩),.pointer (some ⟨M,0,none⟩),.pointer (some ⟨V,0,none⟩),.pointer (some ⟨hN,0,none⟩)]) (f0:=130) a0 ⟨_,rfl,(by first|(simp only[*,go_sem,-c,-a,-hJ];done)|rfl),rfl,rfl⟩ (by simp only[*,go_sem,-c,-a,-hJ,muA,msA,stA,smA,Int.reduceBEq,Int.reduceBNe]) ?_ ?_
  ·exact GD ao ar a0 u0 (q.mono f) (s.mono f) (u.mono f) (w.mono f) ae ba (Y.mono f) cb (L.mono f) (f _ _ (e _ _ dt)) (f _ _ (e _ _ du)) (f _ _ (e _ _ dv)) (f _ _ (e _ _ dC)) (f _ _ (e _ _ dE)) (f _ _ (e _ _ dT)) (f _ _ (e _ _ ea)) (f _ _ (e _ _ eb)) (f _ _ (e _ _ ec)) hV (f _ _ (e _ _ ed)) (f _ _ (e _ _ a8)) hT (cS i ba et)
  refine ai.nil a (c _ _ _ ?_);clear c K
  repeat refine ax (a _) ?_
  refine aQ a fun K c=>?_
  refine ai.bh (hJ _ rfl) 2 (n:=0) _ rfl rfl ?_;simp only[*,go_sem,-c,-a,-hJ,muA,msA,stA,smA,Int.reduceBEq,Int.reduceBNe]
  refine ai.nil a (c _ _ _ ?_);clear c K
  change ∃fa,fa<d.length - i/\Ax _ al b3 b4 a6 V _ fa _ _ _
  exact ⟨d.length - (i+1),by omega,i+1,hS,rfl,a0,rfl,e.trans f,(by simp only[*,go_sem,-a,-hJ,muA,msA,stA,smA,Int.reduceBEq,Int.reduceBNe]),(by simp only[*,go_sem,-a,-hJ,muA,msA,stA,smA,Int.reduceBEq,Int.reduceBNe]),(by simp only[*,go_sem,-a,-hJ,muA,msA,stA,smA,Int.reduceBEq,Int.reduceBNe]),(by simp only[*,go_sem,-a,-hJ,muA,msA,stA,smA,Int.reduceBEq,Int.reduceBNe]),(by simp only[*,go_sem,-a,-hJ,muA,msA,stA,smA,Int.reduceBEq,Int.reduceBNe]),(by simp only[*,go_sem,-a,-hJ,muA,msA,stA,smA,Int.reduceBEq,Int.reduceBNe]),(by simp only[*,go_sem,-a,-hJ,muA,msA,stA,smA,Int.reduceBEq,Int.reduceBNe]),(by simp only[*,go_sem,-a,-hJ,muA,msA,stA,smA,Int.reduceBEq,Int.reduceBNe]),(by simp only[*,go_sem,-a,-hJ,muA,msA,stA,smA,Int.reduceBEq,Int.reduceBNe]),(by simp only[*,go_sem,-a,-hJ,muA,msA,stA,smA,Int.reduceBEq,Int.reduceBNe]),(by simp only[*,go_sem,-a,-hJ,muA,msA,stA,smA,Int.reduceBEq,Int.reduceBNe]),(by simp only[*,go_sem,-a,-hJ,muA,msA,stA,smA,Int.reduceBEq,Int.reduceBNe]),(by simp only[*,go_sem,-a,-hJ,muA,msA,stA,smA,Int.reduceBEq,Int.reduceBNe]),rfl⟩
 ·have c1:decide ((i:Int)<(d.length:Int))=false:=by simp;omega
  obtain rfl:i=d.length:=by omega
  repeat refine ax (a _) ?_
  refine aQ a fun K c=>?_
  refine ai.bh (hJ _ rfl) 1 (n:=0) _ rfl rfl ?_;simp only[*,go_sem,-c,-a,-hJ,muA,msA,stA,smA,Int.reduceBEq,Int.reduceBNe]
  refine ai.nil a (c _ _ _ ?_);clear c K
  repeat refine ax (a _) ?_
  refine cn (a _) (by simp only[*,go_sem,-a,-hJ,Int.reduceBEq,Int.reduceBNe]) ?_
  refine mQ ?_
  simp only[go_sem]
  repeat refine ax (a _) ?_
  refine aQ a fun K c=>?_
  refine ai.fh (a _) rfl (by first|(simp only[*,go_sem,-c,-a,-hJ];done)|rfl) rfl BM (by simp only[*,go_sem,-c,-a,-hJ,muA,msA,stA,smA,Int.reduceBEq,Int.reduceBNe]) (Gn ao ar) fun v F' eh U=>?_
  obtain ⟨rfl,rfl,rfl⟩:=U
  refine ai.nil a (c _ _ _ ?_);clear c K
  refine vL p fun nd no=>?_
  have rI:∀off sp,P ⟨k,off,sp⟩=none:=fun off sp=>no k (by simp[keys]) off sp
  have hle:Le ⟨bI P k (X.cy (⟨M,N,k,d.length,(fun i=>bl[i]?.getD false),base,T0,B0⟩:X) TT).fin,[]⟩ ⟨P,[(k,(X.cy (⟨M,N,k,d.length,(fun i=>bl[i]?.getD false),base,T0,B0⟩:X) TT).fin)]⟩:=iU (by simp[lk]) (by simp) trivial
  have ad:az rB (bI P k (X.cy (⟨M,N,k,d.length,(fun i=>bl[i]?.getD false),base,T0,B0⟩:X) TT).fin) (.slice (some ⟨k,0,none⟩) bl.length bl.length) bl:=az.flat (fun b=>[.bool b]) bl (fun _=>rfl) rI (by
   show (((List.range d.length).map fun i=>Value.bool (bl[i]?.getD false)).toArray).toList=_
   rw[<-cl]
   apply List.ext_getElem?
   intro j
   rw[GG bl]
   simp only[List.getElem?_map]
   rcases Nat.lt_or_ge j bl.length with y|y
   ·simp[y]
   ·simp[y]) (by omega)
  obtain ⟨E,bd⟩:∃E,E=bI P k (X.cy (⟨M,N,k,d.length,(fun i=>bl[i]?.getD false),base,T0,B0⟩:X) TT).fin:=⟨_,rfl⟩
  have a2:Ext P E:=by rw[bd];exact fl _ _ _
  have hX:Ext ro E:=J.trans (D.trans (e.trans a2))
  rw[<-bd] at hle ad
  refine Av p hle ?_
  replace o:=o.mono a2
  have a8:E ⟨V,0,none⟩=some (.slice (some ⟨k,0,none⟩) bl.length bl.length):=by rw[cl];exact a2 _ _ (e _ _ a8)
  clear hle nd no bd rI dt du dv dC dE dT ea eb ec ed a hJ ao ar ht q s u w L cd cS c1 hlen hF a9 a2 J D e hv hx hy hz hA hB hD hE gl gn gC gM gT gV g2 g3 a5 ha hc hk hl
  obtain ⟨_,_,C⟩:=o.op
  obtain ⟨_,_,R⟩:=ad.op
  have hJ:=p
  clear p
  refine cw.of hJ ?_
  repeat refine aa hJ ?_
  refine ag hJ ?_
  simp only[*,go_sem,-h]
  repeat refine aa hJ ?_
  refine ag hJ ?_
  simp only[*,go_sem,-h]
  repeat refine aa hJ ?_
  refine aU hJ ?_
  have g:=e5 h;clear h;obtain ⟨hY,G,hZ⟩:=g;have h:=True.intro
  refine bU hJ [13,14,15,34,35,36,37,38,39,40,41,42,43,44,45,46,47] (fun m fb F'=>∃(i23:Nat) (d17:Option Addr) (I:Nat) (a3:List (Nat×Obj)) (H:(List (List Int))),m=d.length - i23/\i23<=d.length/\bB (vN bl) i23 (d.drop i23) H=some hY/\F'=⟨E,a3⟩/\aW (rL rI) E 46 (.slice d17 H.length I) H a3/\H.length<=I/\slot fb 34= .int .i64 (i23:Int)/\slot fb 13= .slice d17 H.length I) d.length ?_ ?_
  ·refine ⟨0,none,0,[],([]:List (List Int)),(Nat.sub_zero _).symm,Nat.zero_le _,G,rfl,aW.nil _ _ _,Nat.le_refl _,?_⟩
   simp only[*,go_sem,-h]
  ·rintro km Q F' O ⟨i23,d17,I,a3,H,rfl,kn,G,rfl,bj,h0,kp,ks⟩
   have h:=True.intro
   have kt:sz Q=49:=by rw[O.size];simp only[*,go_sem,-h]
   have kv:Q.defers=[]:=by rw[O.defers];simp only[*,go_sem,-h]
   have kx:slot Q 6= .slice none 0 0:=by rw[O.eH 6 (by decide)];simp only[*,go_sem,-h]
   have ky:slot Q 8= .pointer (some ⟨V,0,none⟩):=by rw[O.eH 8 (by decide)];simp only[*,go_sem,-h]
   have k0:slot Q 32= .slice d38 d.length b5:=by rw[O.eH 32 (by decide)];simp only[*,go_sem,-h]
   have k2:slot Q 33= .int .i64 (d.length:Int):=by rw[O.eH 33 (by decide)];simp only[*,go_sem,-h]
   clear O S hd
   repeat refine aa hJ ?_
   refine ag hJ ?_
   simp only[*,go_sem,-h]
   repeat refine aa hJ ?_
   rcases Nat.lt_or_ge i23 d.length with h1|fg
   ·refine bD hJ (by simp only[*,go_sem,-h]) ?_
    refine aE hJ ?_
    obtain ⟨a4,bk⟩:∃x,d[i23]?=some x:=⟨_,List.getElem?_eq_getElem h1⟩
    rw[cN bk] at G
    have g:=e5 G;clear G h;obtain ⟨lb,h,fi⟩:=g
    unfold vN at h
    try dsimp only at h
    obtain ⟨lh,lj,h2,h3,fp⟩:=C _ _ bk
    obtain ⟨hI,rfl,Y⟩:=h3;obtain ⟨d32,ab,rfl,hK,hL,ll⟩:=id Y
    cases h2
    have h4:=fp 0 _ rfl;simp only[go_sem] at h4
    clear fp bk
    repeat refine aa hJ ?_
    refine aU hJ ?_
    repeat refine aa hJ ?_
    refine aL hJ fun ln=>?_
    refine ag hJ ?_
    simp only[*,go_sem,-h]
    repeat refine aa hJ ?_
    refine aL hJ fun lo=>?_
    refine ag hJ ?_
    have g:=e5 h;clear h;obtain ⟨h5,h6,h⟩:=g
    obtain ⟨lr,lv,fr⟩:=cJ h6
    obtain ⟨hG,ev,bb,bc,W⟩:=R _ _ fr
    obtain rfl:ev=[.bool h5]:=bc
    cases bb
    have h7:=W 0 _ rfl;simp only[go_sem] at h7
    clear W fr
    try simp only[*,go_sem,-h]
    have g:=gX h;clear h;rcases g with ⟨bm,h⟩|⟨bm,h⟩
    ·try simp only[Int.ofNat_lt] at bm
     refine bD hJ (by simp only[*,go_sem,-h]) ?_
     refine aL hJ fun h8=>?_
     refine ag hJ ?_
     have g:=e5 h;clear h;obtain ⟨h9,ib,h⟩:=g
     obtain ⟨ic,fs⟩:=cW ib
     simp only[*,go_sem,-h]
     intro ft f45;have ih:=ee f45;have fu:=eU f45
     have ik:=aM.cons fu h8
     try simp only[aj] at fu
     try simp only[*,go_sem,-h]
     refine xT (r:=(rL rI)) (l:=H) (x:=a4) (cs:=#[.slice d32 a4.length ab]) (e2:=46) [(ft,.cells #[.slice d32 a4.length ab] 46)] [] (by first|rfl|simp only[List.append_nil,List.cons_append,List.nil_append,List.append_assoc]|(simp only[List.append_nil,List.cons_append,List.nil_append,List.append_assoc];rfl)) bj ik ic ⟨_,rfl,Y⟩ (by simp only[*,go_sem,-h]) ih rfl rfl jK jK pI pK rfl pJ (by decide) (by decide) (fun lx fv bo il im ly=>?_)
     simp only[List.append_nil,List.cons_append,List.nil_append,List.append_assoc] at im
     subst il
     rw[<-fs] at bo;clear fs
     obtain ⟨d53,iv,rfl,ix⟩:=bo.len
     refine ⟨⟨E,(ft,.cells #[.slice d32 a4.length ab] 46)::fv⟩,Le.refl _,?_⟩
     refine aC ?_
     try simp only[*,go_sem,-h]
     have g:=Option.some.inj h;clear h;subst g
     have h:=True.intro
     have eQ:=b9 (n:=i23) (by have:=ca;omega)
     refine ag hJ ?_
     simp only[*,go_sem,-h]
     refine ⟨d.length - (i23+1),by omega,_,Le.sub (List.Sublist.cons _ (List.Sublist.refl _)),i23+1,d53,iv,fv,h9,rfl,by omega,fi,rfl,bo,ix,?_⟩
     simp only[*,go_sem,-h]
    ·try simp only[Int.ofNat_lt] at bm
     refine bK hJ (by simp only[*,go_sem,-h]) ?_
     refine aE hJ ?_
     have g:=Option.some.inj h;clear h;subst g
     have h:=True.intro
     have eQ:=b9 (n:=i23) (by have:=ca;omega)
     refine ag hJ ?_
     simp only[*,go_sem,-h]
     refine ⟨d.length - (i23+1),by omega,_,Le.sub (List.Sublist.refl _),i23+1,d17,I,a3,H,rfl,by omega,fi,rfl,bj,h0,?_⟩
     simp only[*,go_sem,-h]
   ·have lL:=Nat.not_lt.2 fg
    refine bK hJ (by simp only[*,go_sem,-h]) ?_
    rw[List.drop_eq_nil_of_le fg] at G
    have g:=Option.some.inj G;clear G h;subst g
    have h:=hZ
    dsimp only[aK] at h
    refine bR ?_
    simp only[go_sem]
    repeat refine aa hJ ?_
    refine aL hJ fun l1=>?_
    refine ag hJ ?_
    simp only[*,go_sem,-h]
    have g:=Option.some.inj h;clear h;subst g
    refine aL hJ fun fw=>?_
    obtain ⟨fx,br,l2,gg,jC⟩:=bj.jM (([]:List (Nat×Obj))) [] [] (by first|rfl|simp only[List.append_nil,List.cons_append,List.nil_append,List.append_assoc]|(simp only[List.append_nil,List.cons_append,List.nil_append,List.append_assoc];rfl)) (by first|rfl|simp only[List.append_nil,List.cons_append,List.nil_append,List.append_assoc]|(simp only[List.append_nil,List.cons_append,List.nil_append,List.append_assoc];rfl)) fw (aA.nil _)
    clear fw
    refine cM (F:=⟨fx,([]:List (Nat×Obj))⟩) hJ jC ?_
    obtain ⟨l3,l4,ma⟩:=gg.op
    replace o:=o.mono br;clear C;obtain ⟨_,_,C⟩:=o.op
    replace ad:=ad.mono br;clear R;obtain ⟨_,_,R⟩:=ad.op
    refine av ?_
    exact (j6 (t:=6) rfl (by simp only[*,go_sem]) (by simp only[*,go_sem]) ⟨rfl,fx,hX.trans br,Le.refl _,_,rfl,gg⟩).2
end Go.Proofs.YtipgiooobncfbaaGreatDoor
end
section
namespace Go.Proofs.YtipgiooobncfbaaGreatDoor
open Go Go.Sep Go.Proofs
set_option maxRecDepth 100000
set_option maxHeartbeats 4000000
def vO (u0:an)(b:Int):Option ((List Int)×Int):=
 ah (gy u0 ([(gb b),mo])) fun a=>cond ((a.2 != 0)) (some (([]:(List Int)),a.2)) (ah (qw a.1.book ([([]:(List Int))])) fun c=>ah (rA a.1 b c) fun d=>ah (uk d) fun e=>some (e,0))
theorem GJ {ro:Addr->Option Value}(L:cP ro)(u0:an){s1 g i j:Value}(D:bx ro u0 s1 g i j)(a:Int){r:((List Int)×Int)}(h:vO u0 a=some r):nE Tryz.prog 22 #[bv u0 s1 g i j,.int .i64 a] ro (fun v aH=>∃W,v= .tuple #[W,.int .i64 r.2]/\az rI aH W r.1):=by
 unfold vO at h
 have ba:=D.oc;simp only[bw] at ba
 refine eV.go Tryz.func22 rfl Tryz.ntmps22 Tryz.results22 (by simp) fun Φ hJ A b5 hd hs=>?_
 have ca:=hs 0
 have k1:=hs 1
 clear hs
 refine aa hJ (ag hJ ?_)
 simp only[*,go_sem]
 refine au fun w c bb=>?_;try simp only[aj] at bb
 try simp only[*,go_sem]
 refine aa hJ ?_
 refine aL hJ fun bc=>?_
 refine ag hJ ?_
 revert h;refine bS fun n bd h=>?_
 simp only[*,go_sem]
 refine au fun z X Y=>?_;have Z:=aM.cons Y bc;try simp only[aj] at Y
 try simp only[*,go_sem]
 obtain ⟨B,M,ab⟩:=e8 (b:=z) (o:=(.cells #[.func (.func 84) #[.int .i64 a] #[],.func (.func 85) #[] #[]] 86)) [] ((w,bk u0 s1 g i j)::[]) Z X (aA.cons c (aA.nil _))
 have ad:az (cK) (bI ro z (.cells #[.func (.func 84) #[.int .i64 a] #[],.func (.func 85) #[] #[]] 86)) (.slice (some ⟨z,0,none⟩) 2 2) [(gb a),mo]:=(az.two (r:=(cK)) (e:=86) (v:=.func (.func 84) #[.int .i64 a] #[]) (u:=.func (.func 85) #[] #[]) (x:=(gb a)) (y:=mo) (own:=[(z,.cells #[.func (.func 84) #[.int .i64 a] #[],.func (.func 85) #[] #[]] 86)]) X (by simp[lk]) rfl ⟨84,#[.int .i64 a],#[],rfl,⟨by simp only[go_sem],fun bj bl N _ _ _ _ _ O P Q R h=>by simp only[go_sem];exact s4 a N ⟨O,P,Q,R⟩ h⟩⟩ ⟨85,#[],#[],rfl,⟨by simp only[go_sem],fun bj bl N _ _ _ _ _ O P Q R h=>by simp only[go_sem];exact Dr N ⟨O,P,Q,R⟩ h⟩⟩)
 generalize bI ro z (.cells #[.func (.func 84) #[.int .i64 a] #[],.func (.func 85) #[] #[]] 86)=cb at ad M B ab
 refine fY hJ ab ?_
 replace D:=D.mono B
 replace c:=M.hd
 replace L:=L.mono B
 simp only[bg] at M
 have bm:=aM.tl Z
 refine bX hJ _ (iD L u0 D ([(gb a),mo]) ad bd) fun v ae al ao k=>?_
 obtain ⟨E,F,G,H,I,rfl,d,q⟩:=k
 have bo:=d.oc;simp only[bw] at bo
 have br:=q.oc;simp only[bw] at br
 replace c:=ao.hd
 simp only[bg] at ao
 refine aC ?_
 try simp only[*,go_sem]
 refine au fun J f ar=>?_;have cd:=aM.cons ar bm;try simp only[aj] at ar
 try simp only[*,go_sem]
 refine aa hJ (aa hJ (ag hJ ?_))
 simp only[*,go_sem]
 revert h;refine jC hJ (by simp only[*,go_sem]) (fun bs h=>?_) fun bs h=>?_
 ·obtain rfl:=sI h
  refine aa hJ (ag hJ ?_)
  simp only[*,go_sem]
  refine av ?_
  simp only[*,go_sem]
  exact ⟨_,(B).trans al,Le.sub (List.nil_sublist _),_,rfl,az.nil _ _⟩
 refine aE hJ (aa hJ ?_)
 refine aL hJ fun bz=>?_
 refine dc hJ mixed 4 2 (by simp only[*,go_sem]) (by kernel_rfl) ?_
 revert h;refine bS fun b0 b1 h=>?_
 simp only[*,go_sem]
 refine au fun C a0 a2=>?_;have a3:=aM.cons a2 bz;try simp only[aj] at a2
 try simp only[*,go_sem]
 obtain ⟨m,K,a4⟩:=e8 (b:=C) (o:=(.cells #[.slice none 0 0] 46)) [] ((J,kn n.1 E F G H I)::(w,bk u0 s1 g i j)::[]) a3 a0 (aA.cons f (aA.cons c (aA.nil _)))
 have a5:az (rL rI) (bI ae C (.cells #[.slice none 0 0] 46)) (.slice (some ⟨C,0,none⟩) 1 1) [([]:(List Int))]:=(az.one (r:=(rL rI)) (e:=46) (cs:=#[.slice none 0 0]) (x:=([]:(List Int))) (own:=[(C,.cells #[.slice none 0 0] 46)]) a0 (by simp[lk]) ⟨_,rfl,az.nil _ _⟩)
 generalize bI ae C (.cells #[.slice none 0 0] 46)=cf at a5 K m a4
 refine fY hJ a4 ?_
 replace d:=d.mono m
 replace q:=q.mono m
 replace f:=K.hd
 replace c:=K.tl.hd
 simp only[bg] at K
 have cl:=aM.tl a3
 refine bX hJ _ (yz n.1.book d ([([]:(List Int))]) a5 b1) fun v cy s S k=>?_
 obtain ⟨cS,rfl,a6⟩:=k
 replace d:=d.mono s
 replace q:=q.mono s
 replace f:=S.hd
 replace c:=S.tl.hd
 simp only[bg] at S
 obtain ⟨d92,c0,rfl,da,db,-⟩:=id a6
 have dd:=eu (l:=[(J,kn n.1 E F G H I),(w,bk u0 s1 g i j)]) (m.trans s) (aA.cons f (aA.cons c (aA.nil _)))
 refine ⟨by simp only[*,go_sem],?_⟩
 refine kG ?_
 revert h;refine bS fun b2 b3 h=>?_
 try simp only[*,go_sem]
 refine pW _ (Ay n.1 d.e d.p d.y d.t q a b0 a6 b3) fun v df T U k=>?_
 obtain ⟨dk,rfl,a7⟩:=k
 replace f:=U.hd
 replace c:=U.tl.hd
 simp only[bg] at U
 obtain ⟨d111,dp,rfl,dq,ds,-⟩:=id a7
 have dt:=eu (l:=[(J,kn n.1 E F G H I),(w,bk u0 s1 g i j)]) ((m.trans s).trans T) (aA.cons f (aA.cons c (aA.nil _)))
 refine ⟨by simp only[*,go_sem],?_⟩
 refine kG ?_
 revert h;refine bS fun du b4 h=>?_
 obtain rfl:=sI h
 try simp only[*,go_sem]
 refine bX hJ _ (Dt b2 a7 b4) fun v dv a8 V k=>?_
 obtain ⟨dC,rfl,a9⟩:=k
 replace f:=V.hd
 replace c:=V.tl.hd
 simp only[bg] at V
 obtain ⟨d124,dE,rfl,dT,ea,-⟩:=id a9
 have eb:=eu (l:=[(J,kn n.1 E F G H I),(w,bk u0 s1 g i j)]) (((m.trans s).trans T).trans a8) (aA.cons f (aA.cons c (aA.nil _)))
 refine ⟨by simp only[*,go_sem],?_⟩
 refine kG ?_
 try simp only[*,go_sem]
 refine av ?_
 simp only[*,go_sem]
 exact ⟨_,(((((B).trans al).trans m).trans s).trans T).trans a8,Le.sub (List.nil_sublist _),_,rfl,a9⟩
def vP (u0:an)(c:Int)(a:(cI×Int))(st:(Bool×Int×(List (List Int))×Int)):Option (Fl (Bool×Int×(List (List Int))×Int) ((List Int)×Bool×Int)):=
 cond (decide (st.2.2.2<(IntKind.i64.wrap ((IntKind.i64.wrap (3 - (u0.props.length:Int)))+1)))) (ah (rA a.1 c st.2.2.1) fun b=>cond (decide (0<(b.length:Int))) (ah (bL b 0) fun d=>some (.rt (d,true,0))) (ah (qw a.1.book st.2.2.1) fun e=>some (.nx (st.1,st.2.1,e,(IntKind.i64.wrap (st.2.2.2+1)))))) (some (.bk (st.1,st.2.1,st.2.2.1,st.2.2.2)))
def vQ (u0:an)(b:Int):Option ((List Int)×Bool×Int):=
 ah (gy u0 ([(gb b)])) fun a=>cond ((a.2 != 0)) (some (([]:(List Int)),false,a.2)) (ah (bE (vP u0 b a) fu (false,a.2,([([]:(List Int))]),0)) fun o=>aK o (fun c=>some (([]:(List Int)),false,0)) (fun _ _=>none) (fun r=>some r))
theorem GK {ro:Addr->Option Value}(K:cP ro)(u0:an){s1 S k l:Value}(n:bx ro u0 s1 S k l)(a:Int){r:((List Int)×Bool×Int)}(h:vQ u0 a=some r):nE Tryz.prog 25 #[bv u0 s1 S k l,.int .i64 a] ro (fun v aH=>∃T,v= .tuple #[T,.bool r.2.1,.int .i64 r.2.2]/\az rI aH T r.1):=by
 obtain ⟨d10,L,rfl,ed,eh,-⟩:=id n.p
 unfold vQ at h
 have bm:=n.oc;simp only[bw] at bm
 refine eV.go Tryz.func25 rfl Tryz.ntmps25 Tryz.results25 (by simp) fun Φ hJ A bo hd hs=>?_
 have br:=hs 0
 have k1:=hs 1
 clear hs
 refine aa hJ (ag hJ ?_)
 simp only[*,go_sem]
 refine au fun M C bs=>?_;try simp only[aj] at bs
 try simp only[*,go_sem]
 refine aa hJ ?_
 refine aL hJ fun bz=>?_
 refine ag hJ ?_
 revert h;refine bS fun f b0 h=>?_
 simp only[*,go_sem]
 refine au fun q U V=>?_;have W:=aM.cons V bz;try simp only[aj] at V
 try simp only[*,go_sem]
 obtain ⟨g,N,X⟩:=e8 (b:=q) (o:=(.cells #[.func (.func 84) #[.int .i64 a] #[]] 86)) [] ((M,bk u0 s1 (sl d10 u0.props L) k l)::[]) W U (aA.cons C (aA.nil _))
 have Y:az (cK) (bI ro q (.cells #[.func (.func 84) #[.int .i64 a] #[]] 86)) (.slice (some ⟨q,0,none⟩) 1 1) [(gb a)]:=(az.one (r:=(cK)) (e:=86) (cs:=#[.func (.func 84) #[.int .i64 a] #[]]) (x:=(gb a)) (own:=[(q,.cells #[.func (.func 84) #[.int .i64 a] #[]] 86)]) U (by simp[lk]) ⟨84,#[.int .i64 a],#[],rfl,⟨by simp only[go_sem],fun et ev b1 _ _ _ _ _ b2 b3 b4 b5 h=>by simp only[go_sem];exact s4 a b1 ⟨b2,b3,b4,b5⟩ h⟩⟩)
 generalize bI ro q (.cells #[.func (.func 84) #[.int .i64 a] #[]] 86)=eQ at Y N g X
 refine fY hJ X ?_
 replace n:=n.mono g
 replace C:=N.hd
 replace K:=K.mono g
 simp only[bg] at N
 have ca:=aM.tl W
 refine bX hJ _ (iD K u0 n ([(gb a)]) Y b0) fun v Z O ab s=>?_
 obtain ⟨ad,ae,al,ao,ar,rfl,c,i⟩:=s
 have cb:=c.oc;simp only[bw] at cb
 have cd:=i.oc;simp only[bw] at cd
 replace C:=ab.hd
 simp only[bg] at ab
 refine aC ?_
 try simp only[*,go_sem]
 refine au fun a0 cf a2=>?_;have eS:=aM.cons a2 ca;try simp only[aj] at a2
 try simp only[*,go_sem]
 refine aa hJ (aa hJ (ag hJ ?_))
 simp only[*,go_sem]
 revert h;refine jC hJ (by simp only[*,go_sem]) (fun cl h=>?_) fun cl h=>?_
 ·obtain rfl:=sI h
  refine aa hJ (ag hJ ?_)
  simp only[*,go_sem]
  refine av ?_
  simp only[*,go_sem]
  exact ⟨_,(g).trans O,Le.sub (List.nil_sublist _),_,rfl,az.nil _ _⟩
 refine aE hJ (aa hJ ?_)
 refine aL hJ fun cy=>?_
 refine ag hJ ?_
 simp only[*,go_sem]
 refine au fun j a3 a4=>?_;have e0:=aM.cons a4 cy;try simp only[aj] at a4
 try simp only[*,go_sem]
 refine aa hJ (aa hJ (ag hJ ?_))
 simp only[*,go_sem]
 refine aL hJ fun a5=>?_
 obtain ⟨u,a6,a7⟩:=e8 (b:=j) (o:=(.cells #[.slice none 0 0] 46)) [] ((a0,kn f.1 ad ae al ao ar)::(M,bk u0 s1 (sl d10 u0.props L) k l)::[]) a5 a3 (aA.cons cf (aA.cons C (aA.nil _)))
 clear a5
 have P:az (rL rI) (bI Z j (.cells #[.slice none 0 0] 46)) (.slice (some ⟨j,0,none⟩) 1 1) [([]:(List Int))]:=(az.one (r:=(rL rI)) (e:=46) (cs:=#[.slice none 0 0]) (x:=([]:(List Int))) (own:=[(j,.cells #[.slice none 0 0] 46)]) a3 (by simp[lk]) ⟨_,rfl,az.nil _ _⟩)
 generalize bI Z j (.cells #[.slice none 0 0] 46)=a8 at u a6 a7 P
 refine cM hJ a7 ?_
 obtain ⟨e1,e2,-⟩:=P.op
 replace c:=c.mono u
 replace i:=i.mono u
 simp only[bg] at a6
 refine aU hJ ?_
 revert h;refine bS fun cS D a9=>?_
 refine bU hJ [4,5,6,8,9,27,28,29,30,31,32,33,34,35,36,37,38,39,40,41,42,43] (fun m E F'=>∃(F:Addr->Option Value) (d98:Option Addr) (Q:Nat) (G:Bool) (H:Int) (d:(List (List Int))) (I:Int),bE (vP u0 a f) m (G,H,d,I)=some cS/\F'=⟨F,(a0,kn f.1 ad ae al ao ar)::(M,bk u0 s1 (sl d10 u0.props L) k l)::[]⟩/\Ext a8 F/\az (rL rI) F (.slice d98 d.length Q) d/\slot E 5= .bool G/\slot E 6= .int .i64 H/\slot E 8= .slice d98 d.length Q/\slot E 27= .int .i64 I) fu ?_ ?_
 ·refine ⟨a8,(some ⟨j,0,none⟩),1,false,f.2,([([]:(List Int))]),0,D,rfl,Ext.refl _,P,?_⟩
  simp only[*,go_sem]
 rintro R e3 F' ba ⟨F,d98,Q,G,H,d,I,D,rfl,w,z,fa,fb,fg,fi⟩
 refine fo hJ fun _ c0=>?_
 replace c:=c.mono w
 replace i:=i.mono w
 simp only[bg] at c0
 obtain ⟨fp,fr,-⟩:=z.op
 obtain ⟨da,db,dd⟩:=ba.pick [1,7,26] (by decide)
 simp only[*,go_sem] at da db dd
 clear ba bo hd br k1
 obtain _|R:=R
 ·exact absurd D (by simp only[bE,reduceCtorEq,not_false_eq_true])
 revert D;refine bS fun fs h B=>?_
 unfold vP at h
 try dsimp only at h
 refine aa hJ (ag hJ ?_)
 simp only[*,go_sem]
 refine aa hJ ?_
 revert h;refine jC hJ (by simp only[*,go_sem]) (fun df h=>?_) fun df h=>?_
 ·refine aE hJ (aa hJ ?_)
  refine aU hJ (aa hJ ?_)
  refine aa hJ (ag hJ ?_)
  revert h;refine bS fun ft dk h=>?_
  simp only[*,go_sem]
  refine pW _ (Ay f.1 c.e c.p c.y c.t i a d z dk) fun v fv J dp s=>?_
  obtain ⟨fw,rfl,bb⟩:=s
  replace z:=z.mono J
  replace c:=c.mono J
  simp only[bg] at dp
  obtain ⟨d121,fx,rfl,gg,gl,-⟩:=id bb
  refine aC ?_
  try simp only[*,go_sem]
  refine aa hJ (ag hJ ?_)
  simp only[*,go_sem]
  revert h;refine jC hJ (by simp only[*,go_sem]) (fun dq h=>?_) fun dq h=>?_
  ·refine aa hJ (ag hJ ?_)
   revert h;refine bS fun gn ds h=>?_
   obtain rfl:=sI h
   obtain ⟨gp,gB,bc⟩:=cJ ds
   obtain ⟨gC,gM,dt,du,bd⟩:=bb.el _ _ bc
   obtain ⟨gT,rfl,bj⟩:=du;obtain ⟨d130,gV,rfl,g0,g1,g2⟩:=id bj
   cases dt
   have dv:=bd 0 _ rfl;simp only[go_sem] at dv
   clear bd bc
   try simp only[*,go_sem]
   obtain rfl:=sI B;clear B
   have h:=a9
   dsimp only[aK] at h
   obtain rfl:=sI h
   refine av ?_
   simp only[*,go_sem]
   exact ⟨_,((((g).trans O).trans u).trans w).trans J,Le.sub (List.nil_sublist _),_,rfl,bj⟩
  refine aE hJ (ag hJ ?_)
  revert h;refine bS fun dC dE h=>?_
  obtain rfl:=sI h
  simp only[*,go_sem]
  refine bX hJ _ (yz f.1.book c d z dE) fun v dT ea eb s=>?_
  obtain ⟨g3,rfl,bl⟩:=s
  simp only[bg] at eb
  obtain ⟨d144,ec,rfl,g4,ha,-⟩:=id bl
  refine aC ?_
  try simp only[*,go_sem]
  refine ag hJ ?_
  simp only[*,go_sem]
  refine ⟨R,Nat.lt_succ_self _,_,Le.sub (List.Sublist.refl _),dT,d144,ec,G,H,dC,(IntKind.i64.wrap (I+1)),B,rfl,(w.trans (J.trans ea)),bl,?_⟩
  simp only[*,go_sem]
 obtain rfl:=sI h
 refine bR ?_
 simp only[go_sem]
 obtain rfl:=sI B;clear B
 have h:=a9
 dsimp only[aK] at h
 obtain rfl:=sI h
 refine aa hJ (ag hJ ?_)
 simp only[*,go_sem]
 refine av ?_
 simp only[*,go_sem]
 exact ⟨_,(((g).trans O).trans u).trans w,Le.sub (List.nil_sublist _),_,rfl,az.nil _ _⟩
def vR (a:(Int×Int×Int))(e:(an×Int))(b:((List Int)×Int))(f:(an×Int))(g:(an×Int))(c:(Int×Int))(d:((List Int)×Int)):Option Bool:=
 cond ((a.2.2==0)) (cond ((e.2==0)) (cond ((b.2==0)) (cond ((f.2==9)) (cond ((g.2==0)) (cond ((c.2==0)) (cond ((d.2==0)) (cond ((a.1==0)) (cond ((a.2.1==2)) (ah (k3 b.1 ([11,12])) fun h=>cond (h) (cond ((c.1==2)) (ah (k3 d.1 ([1])) fun i=>some i) (some false)) (some false)) (some false)) (some false)) (some false)) (some false)) (some false)) (some false)) (some false)) (some false)) (some false)
def vS (a:an):Option Bool:=
 ah (ug a) fun d=>ah (k8 0 true) fun e=>ah (qD a e) fun b=>ah (qH b.1 0) fun f=>ah (k8 1 true) fun g=>ah (qD a g) fun h=>ah (oh 12 12) fun i=>ah (uh a 0 i) fun c=>ah (od c.1) fun j=>ah (k8 0 true) fun k=>ah (oo a k) fun l=>ah (k8 1 true) fun m=>ah (oo l m) fun n=>ah (k8 0 false) fun o=>ah (oo n o) fun p=>ah (uw p) fun q=>vR d b f h c j q
def vT (d:an)(f:(Int×Int))(g:(Int×Int))(h:(Int×Int))(i:(Int×Int))(b:(Int×ak×Int))(c:(Int×ak×Int))(a:(ak×ak×Bool×Int)):Option Bool:=
 ah (vO d 2) fun j=>ah (vQ d 2) fun e=>cond ((f.2 != 0)) (some false) (cond ((g.2 != 0)) (some false) (cond ((h.2 != 0)) (some false) (cond ((i.2 != 0)) (some false) (cond ((b.2.2 != 0)) (some false) (cond ((c.2.2 != 0)) (some false) (cond ((a.2.2.2 != 0)) (some false) (cond ((j.2 != 0)) (some false) (cond ((e.2.2 != 0)) (some false) (cond ((f.1 != 0)) (some false) (cond ((g.1 != 2)) (some false) (cond ((h.1 != 0)) (some false) (cond ((i.1 != 1)) (some false) (cond ((b.1 != 0)) (some false) (ah (fB 1 1) fun k=>cond (!((b.2.1.num==k.num)&&(b.2.1.den==k.den))) (some false) (cond ((c.1 != (-1))) (some false) (ah (fB 0 1) fun l=>cond (!((c.2.1.num==l.num)&&(c.2.1.den==l.den))) (some false) (cond (!a.2.2.1) (some false) (ah (fB 3 2) fun m=>cond (!((a.1.num==m.num)&&(a.1.den==m.den))) (some false) (ah (fB 3 2) fun n=>cond (!((a.2.1.num==n.num)&&(a.2.1.den==n.den))) (some false) (ah (k3 j.1 ([11,12,13,14])) fun o=>cond (!o) (some false) (cond (!e.2.1) (some false) (ah (k3 e.1 ([11])) fun p=>cond (!p) (some false) (vS d)))))))))))))))))))))))
def vU (a:an)(b:an):Option Bool:=
 ah (qB a 0) fun c=>ah (qB a 1) fun d=>ah (od a) fun e=>ah (od b) fun f=>ah (qI a) fun g=>ah (qI b) fun h=>ah (uz a) fun i=>vT a c d e f g h i
def vV (b:an)(s:an)(g:(ak×Int))(c:(Int×ak×Int))(h:(ak×Int))(d:(ak×Bool×Int))(e:(ak×Bool×Int))(f:(ak×Bool×Int)):Option Bool:=
 ah (uF b) fun i=>ah (qH b 0) fun j=>ah (uE b 0) fun a=>cond ((g.2 != 0)) (some false) (cond ((c.2.2 != 0)) (some false) (cond ((h.2 != 0)) (some false) (cond ((d.2.2 != 0)) (some false) (cond ((e.2.2 != 0)) (some false) (cond ((f.2.2 != 0)) (some false) (cond ((i.2 != 0)) (some false) (cond ((j.2 != 0)) (some false) (cond ((a.2.2 != 0)) (some false) (ah (fB 13 4) fun k=>cond (!((g.1.num==k.num)&&(g.1.den==k.den))) (some false) (cond ((c.1 != 2)) (some false) (ah (fB 11 8) fun l=>cond (!((c.2.1.num==l.num)&&(c.2.1.den==l.den))) (some false) (ah (fB 1 4) fun m=>cond (!((h.1.num==m.num)&&(h.1.den==m.den))) (some false) (ah (fB 24 13) fun n=>cond (!((d.1.num==n.num)&&(d.1.den==n.den))) (some false) (cond (!d.2.1) (some false) (ah (fB 2 13) fun o=>cond (!((e.1.num==o.num)&&(e.1.den==o.den))) (some false) (cond (e.2.1) (some false) (ah (fB 1 1) fun p=>cond (!((f.1.num==p.num)&&(f.1.den==p.den))) (some false) (cond (!f.2.1) (some false) (cond ((i.1 != 3)) (some false) (ah (k3 j.1 ([10,11,12])) fun t=>cond (!t) (some false) (ah (fB 1 4) fun q=>cond (!((a.1.num==q.num)&&(a.1.den==q.den))) (some false) (ah (fB 1 1) fun r=>cond (!((a.2.1.num==r.num)&&(a.2.1.den==r.den))) (some false) (vU b s)))))))))))))))))))))))
def mX :Option Bool:=
 ah (uJ) fun a=>ah (uI a ([11]) 2) fun b=>ah (me a 5) fun c=>ah (k7 2 11) fun d=>ah (mg a d) fun e=>ah (k7 2 10) fun f=>ah (mh a f) fun g=>ah (k7 2 12) fun h=>ah (mj b h) fun i=>ah (k7 2 12) fun j=>ah (k4 b j) fun k=>ah (k7 2 12) fun l=>ah (k4 a l) fun m=>vV a b c e g i k m
theorem vW:mX=some true:=by decide+kernel
set_option maxHeartbeats 40000000 in
theorem Az {Φ:Goroutine->af->Prop}(hJ:Closed Tryz.prog true (dH Tryz.prog Φ)){A:Act}{ro:Addr->Option Value}(a:(Int×Int×Int))(f:(an×Int))(b:((List Int)×Int))(g:(an×Int))(i:(an×Int))(d:(Int×Int))(c:((List Int)×Int))(Q:cP ro){j:Value}(k:az rI ro j b.1){l:Value}(m:az rI ro l c.1)(q:sz A=439/\A.defers=[]/\slot A 0= .bool false/\slot A 4= .int .i64 a.2.2/\slot A 7= .int .i64 f.2/\slot A 9= .int .i64 b.2/\slot A 12= .int .i64 g.2/\slot A 15= .int .i64 i.2/\slot A 18= .int .i64 d.2/\slot A 20= .int .i64 c.2/\slot A 21=j/\slot A 28= .int .i64 d.1/\slot A 40= .int .i64 a.1/\slot A 41= .int .i64 a.2.1/\slot A 43=l)(h:vR a f b g i d c=some true):Wp (dH Tryz.prog Φ) (bp (bp (bp (bp (bp (bp (bp (bp (bp (bp (bp (bp (bp (bp (bp (bp (bp (bp (bp (bp (bp (bp (bp (bp (bp (bp (bp (bp (bp (bp (bp (bp (Tryz.f7.body.getD .skip))))))))))))))))))))))))))))))))) (gR Tryz.prog [.tmp 0] (fun v _=>v= .bool true)) A ⟨ro,[]⟩:=by
 obtain ⟨R,hd,S,T,U,V,W,X,Y,Z,ab,ad,ae,al,ao⟩:=q
 obtain ⟨ar,a0,rfl,a2,a3,-⟩:=id k
 obtain ⟨a4,a5,rfl,a6,a7,-⟩:=id m
 unfold vR at h
 refine fo hJ fun s t=>?_
 have u:=s.nd
 try simp only[keys,List.map_cons,List.map_nil,List.map_append,List.cons_append,List.nil_append,List.nodup_cons,List.mem_cons,List.mem_append,List.not_mem_nil,or_false,not_or] at u
 simp only[bg] at t
 refine aa hJ ?_
 refine aL hJ fun w=>?_
 refine dS hJ fun K n=>?_
 revert h;refine cS (fun y h=>?_) fun y h=>?_
 ·revert h;refine cS (fun z h=>?_) fun z h=>?_
  ·revert h;refine cS (fun B h=>?_) fun B h=>?_
   ·revert h;refine cS (fun C h=>?_) fun C h=>?_
    ·revert h;refine cS (fun D h=>?_) fun D h=>?_
     ·revert h;refine cS (fun E h=>?_) fun E h=>?_
      ·revert h;refine cS (fun F h=>?_) fun F h=>?_
       ·revert h;refine cS (fun G h=>?_) fun G h=>?_
        ·revert h;refine cS (fun H h=>?_) fun H h=>?_
         ·revert h;refine bS fun a8 I h=>?_
          try simp (maxSteps:=10000000) only[*,go_sem]
          refine au fun a9 J o=>?_;have L:=aM.cons o w;try simp only[aj] at o
          try simp (maxSteps:=10000000) only[*,go_sem]
          refine aJ hJ _ (oa b.1 (k.mono aI) ([11,12]) ((az.flat (r:=rI) (e:=3) (cs:=#[.int .i64 11,.int .i64 12]) (fun x=>[.int .i64 x]) ([11,12]) (fun _=>rfl) J rfl (by simp)).mono (iV (by simp (maxSteps:=10000000) only[*,go_sem]))) I) (aC ?_)
          revert h;refine cS (fun M h=>?_) fun M h=>?_
          ·revert h;refine cS (fun N h=>?_) fun N h=>?_
           ·revert h;refine bS fun ba O h=>?_
            obtain rfl:=sI h
            try simp (maxSteps:=10000000) only[*,go_sem]
            refine au fun bb P p=>?_;have bc:=aM.cons p L;try simp only[aj] at p
            try simp (maxSteps:=10000000) only[*,go_sem]
            refine aJ hJ _ (oa c.1 (m.mono aI) ([1]) ((az.flat (r:=rI) (e:=3) (cs:=#[.int .i64 1]) (fun x=>[.int .i64 x]) ([1]) (fun _=>rfl) P rfl (by simp)).mono (iV (by simp (maxSteps:=10000000) only[*,go_sem]))) O) (aC ?_)
            try simp (maxSteps:=10000000) only[*,go_sem]
            refine n.go ?_;clear n K
            refine av ?_
            try simp only[*,go_sem]
           cases h
          cases h
         cases h
        cases h
       cases h
      cases h
     cases h
    cases h
   cases h
  cases h
 cases h
set_option maxHeartbeats 40000000 in
theorem GL {Φ:Goroutine->af->Prop}(hJ:Closed Tryz.prog true (dH Tryz.prog Φ)){A:Act}{ro:Addr->Option Value}(d:an)(eQ:((List Int)×Int))(eS:(Int×Int))(e0:(Int×Int))(b0:(Int×Int))(e1:(Int×Int))(e2:(Int×ak×Int))(e3:(Int×ak×Int))(fa:(ak×ak×Bool×Int)){i:Nat}(a:cP ro){b1:Value}(fb:az rI ro b1 eQ.1){j k m n:Value}(c:bx ro d j k m n)(fg:sz A=439/\A.defers=[]/\slot A 0= .bool false/\slot A 1= .pointer (some ⟨i,0,none⟩)/\slot A 4= .int .i64 eS.2/\slot A 7= .int .i64 e0.2/\slot A 9= .int .i64 b0.2/\slot A 12= .int .i64 e1.2/\slot A 15= .int .i64 e2.2.2/\slot A 18= .int .i64 e3.2.2/\slot A 20= .int .i64 fa.2.2.2/\slot A 21=b1/\slot A 28= .int .i64 b0.1)(h:vS d=some true):Wp (dH Tryz.prog Φ) (bp (bp (bp (bp (bp (bp (bp (bp (bp (bp (bp (bp (bp (bp (bp (bp (bp (bp (bp (bp (bp (bp (bp (bp (bp (Tryz.f7.body.getD .skip)))))))))))))))))))))))))) (gR Tryz.prog [.tmp 0] (fun v _=>v= .bool true)) A ⟨ro,(i,bk d j k m n)::[]⟩:=by
 obtain ⟨b2,hd,b3,k1,b4,b5,ca,cb,cd,cf,cl,cy,cS⟩:=fg
 obtain ⟨d125,j1,rfl,j2,kh,-⟩:=id fb
 unfold vS at h
 have fi:=c.oc;simp only[bw] at fi
 refine fo hJ fun a2 c0=>?_
 have fp:=a2.nd
 try simp only[keys,List.map_cons,List.map_nil,List.map_append,List.cons_append,List.nil_append,List.nodup_cons,List.mem_cons,List.mem_append,List.not_mem_nil,or_false,not_or] at fp
 replace g:=c0.hd
 simp only[bg] at c0
 refine aa hJ (dS hJ fun K b=>?_)
 revert h;refine bS fun da fr h=>?_
 try simp (maxSteps:=10000000) only[*,go_sem]
 refine aJ hJ _ (Dq (a.mono aI) d (c.mono aI) fr) (aC ?_)
 try simp (maxSteps:=10000000) only[*,go_sem]
 refine b.go ?_;clear b K
 refine aa hJ ?_
 refine jb hJ mixed [] (.rd 0 (.rd 1 (.two 2 (.pure 3 (.pure 4 (.pure 5 (.one 6 (.one 7 (.pure 8 .done)))))) 6 (.one 2 (.pure 3 (.pure 4 (.pure 5 (.one 7 (.pure 8 .done))))))))) ⟨ro,[(i,bk d j k m n)]⟩ (by simp (maxSteps:=10000000) only[*,go_sem]) (by kernel_rfl) fun K b=>?_
 revert h;refine bS fun db fs h=>?_
 try simp (maxSteps:=10000000) only[*,go_sem]
 refine ⟨_,bu hJ fun F u=>jk 0 true fs,bO ?_⟩
 try simp (maxSteps:=10000000) only[*,go_sem]
 refine ja ?_ ?_
 ·revert h;refine bS fun Z ft h=>?_
  try simp (maxSteps:=10000000) only[*,go_sem]
  refine bX hJ _ (qE a d c db ft) fun v kj a3 dd f=>?_
  obtain ⟨df,dk,dp,dq,rfl,ds⟩:=f
  have fu:=ds.oc;simp only[bw] at fu
  replace c:=c.mono a3
  replace g:=dd.hd
  replace a:=a.mono a3
  simp only[bg] at dd
  have kk:=eu (l:=[(i,bk d j k m n)]) a3 (aA.cons g (aA.nil _))
  refine ⟨by simp (maxSteps:=10000000) only[*,go_sem],?_⟩
  refine bO ?_
  try simp (maxSteps:=10000000) only[*,go_sem]
  refine au fun w s dt=>?_;have kl:=aM.cons dt a2;try simp only[aj] at dt
  try simp (maxSteps:=10000000) only[*,go_sem]
  refine b.go ?_;clear b K
  refine aa hJ (dS hJ fun K b=>?_)
  revert h;refine bS fun fv fw h=>?_
  try simp (maxSteps:=10000000) only[*,go_sem]
  refine bX hJ _ (uA a Z.1 ds 0 fw) fun v fx du a4 f=>?_
  obtain ⟨km,rfl,o⟩:=f
  have gg:=o.oc;simp only[bw] at gg
  replace c:=c.mono du
  replace s:=a4.hd
  replace g:=a4.tl.hd
  replace a:=a.mono du
  simp only[bg] at a4
  refine aC ?_
  try simp (maxSteps:=10000000) only[*,go_sem]
  refine b.go ?_;clear b K
  refine aa hJ ?_
  refine jb hJ mixed [] (.rd 0 (.rd 1 (.one 2 (.pure 3 (.pure 4 (.pure 5 (.pure 6 .done))))))) ⟨fx,[(w,bk Z.1 df dk dp dq),(i,bk d j k m n)]⟩ (by simp (maxSteps:=10000000) only[*,go_sem]) (by kernel_rfl) fun K b=>?_
  revert h;refine bS fun gl gn h=>?_
  try simp (maxSteps:=10000000) only[*,go_sem]
  refine ⟨_,bu hJ fun F u=>jk 1 true gn,bO ?_⟩
  revert h;refine bS fun gp gB h=>?_
  try simp (maxSteps:=10000000) only[*,go_sem]
  refine bX hJ _ (qE a d c gl gB) fun v gC ab a5 f=>?_
  obtain ⟨kn,kp,ks,kt,rfl,N⟩:=f
  have gM:=N.oc;simp only[bw] at gM
  replace o:=o.mono ab
  replace c:=c.mono ab
  replace s:=a5.hd
  replace g:=a5.tl.hd
  replace a:=a.mono ab
  simp only[bg] at a5
  obtain ⟨kv,kx,rfl,ky,k0,-⟩:=id N.e
  obtain ⟨k2,lb,rfl,lh,lj,-⟩:=id N.p
  obtain ⟨lk,ll,rfl,ln,lo,-⟩:=id N.y
  obtain ⟨lr,lv,rfl,lx,ly,-⟩:=id N.t
  have lL:=eu (l:=[(w,bk Z.1 df dk dp dq),(i,bk d j k m n)]) ab (aA.cons s (aA.cons g (aA.nil _)))
  refine ⟨by simp (maxSteps:=10000000) only[*,go_sem],?_⟩
  refine bO ?_
  try simp (maxSteps:=10000000) only[*,go_sem]
  refine b.go ?_;clear b K
  refine aa hJ ?_
  refine dU [0,1,4,7,9,12,15,18,20,21,28,40,41,42] fun l1 gT gV g0=>?_
  simp only[*,go_sem] at gT gV g0
  clear b2 hd b3 k1 b4 b5 ca cb cd cf cl cy cS
  refine jb hJ mixed [] (.rd 0 (.rd 1 (.one 2 (.pure 3 (.pure 4 (.pure 5 (.one 6 (.pure 7 .done)))))))) ⟨gC,[(i,bk d j k m n)]⟩ (by simp (maxSteps:=10000000) only[*,go_sem]) (by kernel_rfl) fun K b=>?_
  revert h;refine bS fun g1 g2 h=>?_
  try simp (maxSteps:=10000000) only[*,go_sem]
  refine ⟨_,bu hJ fun F u=>qK 12 12 g2,bO ?_⟩
  revert h;refine bS fun x g3 h=>?_
  try simp (maxSteps:=10000000) only[*,go_sem]
  refine bX hJ _ (yC a d c 0 g1 g3) fun v g4 ad a6 f=>?_
  obtain ⟨O,P,Q,R,rfl,dv⟩:=f
  have ha:=dv.oc;simp only[bw] at ha
  replace o:=o.mono ad
  replace c:=c.mono ad
  replace s:=a6.hd
  replace g:=a6.tl.hd
  replace a:=a.mono ad
  simp only[bg] at a6
  have l2:=eu (l:=[(i,bk d j k m n)]) ad (aA.cons g (aA.nil _))
  refine ⟨by simp (maxSteps:=10000000) only[*,go_sem],?_⟩
  refine bO ?_
  try simp (maxSteps:=10000000) only[*,go_sem]
  refine b.go ?_;clear b K
  refine aa hJ (dS hJ fun K b=>?_)
  revert h;refine bS fun hc hf h=>?_
  try simp (maxSteps:=10000000) only[*,go_sem]
  refine aJ hJ _ (qC (a.mono aI) x.1 (dv.mono aI) hf) (aC ?_)
  try simp (maxSteps:=10000000) only[*,go_sem]
  refine b.go ?_;clear b K
  refine aa hJ ?_
  refine jb hJ mixed [] (.rd 0 (.rd 1 (.one 2 (.rd 3 (.one 4 (.rd 5 (.one 6 (.one 7 (.pure 8 (.pure 9 (.pure 10 (.pure 11 (.pure 12 .done))))))))))))) ⟨g4,[(w,bk x.1 O P Q R),(i,bk d j k m n)]⟩ (by simp (maxSteps:=10000000) only[*,go_sem]) (by kernel_rfl) fun K b=>?_
  revert h;refine bS fun hg hh h=>?_
  try simp (maxSteps:=10000000) only[*,go_sem]
  refine ⟨_,bu hJ fun F u=>jk 0 true hh,bO ?_⟩
  revert h;refine bS fun hi hj h=>?_
  try simp (maxSteps:=10000000) only[*,go_sem]
  refine bX hJ _ (mB d c hg hj) fun v l3 z a7 f=>?_
  obtain ⟨l4,ma,mf,mi,rfl,D⟩:=f
  have hk:=D.oc;simp only[bw] at hk
  replace o:=o.mono z
  replace c:=c.mono z
  replace s:=a7.hd
  replace g:=a7.tl.hd
  replace a:=a.mono z
  simp only[bg] at a7
  obtain ⟨ml,mn,rfl,mr,mx,-⟩:=id D.e
  obtain ⟨my,m1,rfl,m2,na,-⟩:=id D.p
  obtain ⟨nb,nf,rfl,nm,nn,-⟩:=id D.y
  obtain ⟨np,ns,rfl,nx,nz,-⟩:=id D.t
  have nA:=eu (l:=[(w,bk x.1 O P Q R),(i,bk d j k m n)]) z (aA.cons s (aA.cons g (aA.nil _)))
  refine ⟨by simp (maxSteps:=10000000) only[*,go_sem],?_⟩
  refine bO ?_
  revert h;refine bS fun hl hn h=>?_
  try simp (maxSteps:=10000000) only[*,go_sem]
  refine ⟨_,bu hJ fun F u=>jk 1 true hn,bO ?_⟩
  revert h;refine bS fun ho hp h=>?_
  try simp (maxSteps:=10000000) only[*,go_sem]
  refine bX hJ _ (mB hi D hl hp) fun v nH E a8 f=>?_
  obtain ⟨nI,nK,nQ,nR,rfl,G⟩:=f
  have hq:=G.oc;simp only[bw] at hq
  replace o:=o.mono E
  replace c:=c.mono E
  replace s:=a8.hd
  replace g:=a8.tl.hd
  replace a:=a.mono E
  simp only[bg] at a8
  obtain ⟨nT,nV,rfl,nX,nY,-⟩:=id G.e
  obtain ⟨n0,n1,rfl,n2,n3,-⟩:=id G.p
  obtain ⟨oi,oj,rfl,ox,oy,-⟩:=id G.y
  obtain ⟨o0,o1,rfl,o2,o4,-⟩:=id G.t
  have pa:=eu (l:=[(w,bk x.1 O P Q R),(i,bk d j k m n)]) (z.trans E) (aA.cons s (aA.cons g (aA.nil _)))
  refine ⟨by simp (maxSteps:=10000000) only[*,go_sem],?_⟩
  refine bO ?_
  revert h;refine bS fun hr hs h=>?_
  try simp (maxSteps:=10000000) only[*,go_sem]
  refine ⟨_,bu hJ fun F u=>jk 0 false hs,bO ?_⟩
  revert h;refine bS fun ht hv h=>?_
  try simp (maxSteps:=10000000) only[*,go_sem]
  refine bX hJ _ (mB ho G hr hv) fun v pb S a9 f=>?_
  obtain ⟨pd,pf,ph,pj,rfl,H⟩:=f
  have hx:=H.oc;simp only[bw] at hx
  replace o:=o.mono S
  replace c:=c.mono S
  replace s:=a9.hd
  replace g:=a9.tl.hd
  replace a:=a.mono S
  simp only[bg] at a9
  obtain ⟨pk,po,rfl,pr,ps,-⟩:=id H.e
  obtain ⟨pt,pv,rfl,pw,px,-⟩:=id H.p
  obtain ⟨py,pA,rfl,pB,pC,-⟩:=id H.y
  obtain ⟨pD,pT,rfl,p0,p1,-⟩:=id H.t
  have q0:=eu (l:=[(w,bk x.1 O P Q R),(i,bk d j k m n)]) ((z.trans E).trans S) (aA.cons s (aA.cons g (aA.nil _)))
  refine ⟨by simp (maxSteps:=10000000) only[*,go_sem],?_⟩
  refine bO ?_
  revert h;refine bS fun hy hz h=>?_
  try simp (maxSteps:=10000000) only[*,go_sem]
  refine bX hJ _ (yF a ht H hz) fun v q1 ae ba f=>?_
  obtain ⟨ra,rfl,dC⟩:=f
  replace o:=o.mono ae
  replace c:=c.mono ae
  replace s:=ba.hd
  replace g:=ba.tl.hd
  replace a:=a.mono ae
  simp only[bg] at ba
  obtain ⟨rb,re,rfl,rh,rk,-⟩:=id dC
  have rl:=eu (l:=[(w,bk x.1 O P Q R),(i,bk d j k m n)]) (((z.trans E).trans S).trans ae) (aA.cons s (aA.cons g (aA.nil _)))
  refine ⟨by simp (maxSteps:=10000000) only[*,go_sem],?_⟩
  refine bO ?_
  try simp (maxSteps:=10000000) only[*,go_sem]
  refine b.go ?_;clear b K
  show Wp _ _ _ _ _
  exact cM hJ (Le.sub (.cons _ (.cons _ (List.Sublist.refl _)))) (Az hJ da Z fv gp x hc hy a o dC (by simp (maxSteps:=10000000) only[*,go_sem]) h)
 revert h;refine bS fun al hA h=>?_
 try simp (maxSteps:=10000000) only[*,go_sem]
 refine au fun B r dE=>?_;have rn:=aM.cons dE a2;try simp only[aj] at dE
 try simp (maxSteps:=10000000) only[*,go_sem]
 refine bX hJ _ (qE a d c db hA) fun v rp bb bc f=>?_
 obtain ⟨dT,ea,eb,ec,rfl,ed⟩:=f
 have hB:=ed.oc;simp only[bw] at hB
 replace c:=c.mono bb
 replace r:=bc.hd
 replace g:=bc.tl.hd
 replace a:=a.mono bb
 simp only[bg] at bc
 have rr:=eu (l:=[(i,bk d j k m n)]) bb (aA.cons g (aA.nil _))
 refine ⟨by simp (maxSteps:=10000000) only[*,go_sem],?_⟩
 refine bO ?_
 try simp (maxSteps:=10000000) only[*,go_sem]
 refine b.go ?_;clear b K
 refine aa hJ (dS hJ fun K b=>?_)
 revert h;refine bS fun hD hE h=>?_
 try simp (maxSteps:=10000000) only[*,go_sem]
 refine bX hJ _ (uA a al.1 ed 0 hE) fun v hF eh bd f=>?_
 obtain ⟨rv,rfl,q⟩:=f
 have hG:=q.oc;simp only[bw] at hG
 replace c:=c.mono eh
 replace r:=bd.hd
 replace g:=bd.tl.hd
 replace a:=a.mono eh
 simp only[bg] at bd
 refine aC ?_
 try simp (maxSteps:=10000000) only[*,go_sem]
 refine b.go ?_;clear b K
 refine aa hJ ?_
 refine jb hJ mixed [] (.rd 0 (.rd 1 (.one 2 (.pure 3 (.pure 4 (.pure 5 (.pure 6 .done))))))) ⟨hF,[(B,bk al.1 dT ea eb ec),(i,bk d j k m n)]⟩ (by simp (maxSteps:=10000000) only[*,go_sem]) (by kernel_rfl) fun K b=>?_
 revert h;refine bS fun hI hK h=>?_
 try simp (maxSteps:=10000000) only[*,go_sem]
 refine ⟨_,bu hJ fun F u=>jk 1 true hK,bO ?_⟩
 revert h;refine bS fun hL hM h=>?_
 try simp (maxSteps:=10000000) only[*,go_sem]
 refine bX hJ _ (qE a d c hI hM) fun v hN ao bj f=>?_
 obtain ⟨rB,rL,sa,sb,rfl,T⟩:=f
 have hP:=T.oc;simp only[bw] at hP
 replace q:=q.mono ao
 replace c:=c.mono ao
 replace r:=bj.hd
 replace g:=bj.tl.hd
 replace a:=a.mono ao
 simp only[bg] at bj
 obtain ⟨sc,sf,rfl,sg,sh,-⟩:=id T.e
 obtain ⟨sl,sm,rfl,ss,sy,-⟩:=id T.p
 obtain ⟨sI,sT,rfl,tb,te,-⟩:=id T.y
 obtain ⟨ti,tk,rfl,tm,tp,-⟩:=id T.t
 have ts:=eu (l:=[(B,bk al.1 dT ea eb ec),(i,bk d j k m n)]) ao (aA.cons r (aA.cons g (aA.nil _)))
 refine ⟨by simp (maxSteps:=10000000) only[*,go_sem],?_⟩
 refine bO ?_
 try simp (maxSteps:=10000000) only[*,go_sem]
 refine b.go ?_;clear b K
 refine aa hJ ?_
 refine dU [0,1,4,7,9,12,15,18,20,21,28,40,41,42] fun tt hQ hR hS=>?_
 simp only[*,go_sem] at hQ hR hS
 clear b2 hd b3 k1 b4 b5 ca cb cd cf cl cy cS
 refine jb hJ mixed [] (.rd 0 (.rd 1 (.one 2 (.pure 3 (.pure 4 (.pure 5 (.one 6 (.pure 7 .done)))))))) ⟨hN,[(i,bk d j k m n)]⟩ (by simp (maxSteps:=10000000) only[*,go_sem]) (by kernel_rfl) fun K b=>?_
 revert h;refine bS fun hT hV h=>?_
 try simp (maxSteps:=10000000) only[*,go_sem]
 refine ⟨_,bu hJ fun F u=>qK 12 12 hV,bO ?_⟩
 revert h;refine bS fun C hX h=>?_
 try simp (maxSteps:=10000000) only[*,go_sem]
 refine bX hJ _ (yC a d c 0 hT hX) fun v hY ar bl f=>?_
 obtain ⟨U,V,W,X,rfl,et⟩:=f
 have hZ:=et.oc;simp only[bw] at hZ
 replace q:=q.mono ar
 replace c:=c.mono ar
 replace r:=bl.hd
 replace g:=bl.tl.hd
 replace a:=a.mono ar
 simp only[bg] at bl
 have tx:=eu (l:=[(i,bk d j k m n)]) ar (aA.cons g (aA.nil _))
 refine ⟨by simp (maxSteps:=10000000) only[*,go_sem],?_⟩
 refine bO ?_
 try simp (maxSteps:=10000000) only[*,go_sem]
 refine b.go ?_;clear b K
 refine aa hJ (dS hJ fun K b=>?_)
 revert h;refine bS fun h0 h1 h=>?_
 try simp (maxSteps:=10000000) only[*,go_sem]
 refine aJ hJ _ (qC (a.mono aI) C.1 (et.mono aI) h1) (aC ?_)
 try simp (maxSteps:=10000000) only[*,go_sem]
 refine b.go ?_;clear b K
 refine aa hJ ?_
 refine jb hJ mixed [] (.rd 0 (.rd 1 (.one 2 (.rd 3 (.one 4 (.rd 5 (.one 6 (.one 7 (.pure 8 (.pure 9 (.pure 10 (.pure 11 (.pure 12 .done))))))))))))) ⟨hY,[(B,bk C.1 U V W X),(i,bk d j k m n)]⟩ (by simp (maxSteps:=10000000) only[*,go_sem]) (by kernel_rfl) fun K b=>?_
 revert h;refine bS fun h2 h3 h=>?_
 try simp (maxSteps:=10000000) only[*,go_sem]
 refine ⟨_,bu hJ fun F u=>jk 0 true h3,bO ?_⟩
 revert h;refine bS fun h4 h5 h=>?_
 try simp (maxSteps:=10000000) only[*,go_sem]
 refine bX hJ _ (mB d c h2 h5) fun v tz I bm f=>?_
 obtain ⟨tI,tM,tW,ub,rfl,J⟩:=f
 have h6:=J.oc;simp only[bw] at h6
 replace q:=q.mono I
 replace r:=bm.hd
 replace g:=bm.tl.hd
 replace a:=a.mono I
 simp only[bg] at bm
 obtain ⟨ui,u1,rfl,u2,u3,-⟩:=id J.e
 obtain ⟨u4,va,rfl,vd,vs,-⟩:=id J.p
 obtain ⟨vx,vy,rfl,v3,wa,-⟩:=id J.y
 obtain ⟨wb,wc,rfl,wi,wx,-⟩:=id J.t
 have wy:=eu (l:=[(B,bk C.1 U V W X),(i,bk d j k m n)]) I (aA.cons r (aA.cons g (aA.nil _)))
 refine ⟨by simp (maxSteps:=10000000) only[*,go_sem],?_⟩
 refine bO ?_
 revert h;refine bS fun h7 h8 h=>?_
 try simp (maxSteps:=10000000) only[*,go_sem]
 refine ⟨_,bu hJ fun F u=>jk 1 true h8,bO ?_⟩
 revert h;refine bS fun h9 ib h=>?_
 try simp (maxSteps:=10000000) only[*,go_sem]
 refine bX hJ _ (mB h4 J h7 ib) fun v w0 Y bo f=>?_
 obtain ⟨xa,xc,xf,xi,rfl,L⟩:=f
 have ic:=L.oc;simp only[bw] at ic
 replace q:=q.mono Y
 replace r:=bo.hd
 replace g:=bo.tl.hd
 replace a:=a.mono Y
 simp only[bg] at bo
 obtain ⟨xn,xr,rfl,xt,xv,-⟩:=id L.e
 obtain ⟨x0,x1,rfl,yi,yk,-⟩:=id L.p
 obtain ⟨yn,yr,rfl,ys,yv,-⟩:=id L.y
 obtain ⟨y0,y1,rfl,zc,zr,-⟩:=id L.t
 have zs:=eu (l:=[(B,bk C.1 U V W X),(i,bk d j k m n)]) (I.trans Y) (aA.cons r (aA.cons g (aA.nil _)))
 refine ⟨by simp (maxSteps:=10000000) only[*,go_sem],?_⟩
 refine bO ?_
 revert h;refine bS fun ih ik h=>?_
 try simp (maxSteps:=10000000) only[*,go_sem]
 refine ⟨_,bu hJ fun F u=>jk 0 false ik,bO ?_⟩
 revert h;refine bS fun il im h=>?_
 try simp (maxSteps:=10000000) only[*,go_sem]
 refine bX hJ _ (mB h9 L ih im) fun v zt a0 br f=>?_
 obtain ⟨At,BF,B0,Cy,rfl,M⟩:=f
 have iv:=M.oc;simp only[bw] at iv
 replace q:=q.mono a0
 replace r:=br.hd
 replace g:=br.tl.hd
 replace a:=a.mono a0
 simp only[bg] at br
 obtain ⟨CY,Ex,rfl,Fl,F0,-⟩:=id M.e
 obtain ⟨Gp,Gr,rfl,Ha,Hb,-⟩:=id M.p
 obtain ⟨Hc,Hd,rfl,Hk,Hm,-⟩:=id M.y
 obtain ⟨Hn,H0,rfl,H2,H3,-⟩:=id M.t
 have H4:=eu (l:=[(B,bk C.1 U V W X),(i,bk d j k m n)]) ((I.trans Y).trans a0) (aA.cons r (aA.cons g (aA.nil _)))
 refine ⟨by simp (maxSteps:=10000000) only[*,go_sem],?_⟩
 refine bO ?_
 revert h;refine bS fun ix jC h=>?_
 try simp (maxSteps:=10000000) only[*,go_sem]
 refine bX hJ _ (yF a il M jC) fun v H5 bs bz f=>?_
 obtain ⟨Is,rfl,ev⟩:=f
 replace q:=q.mono bs
 replace r:=bz.hd
 replace g:=bz.tl.hd
 replace a:=a.mono bs
 simp only[bg] at bz
 obtain ⟨IH,JF,rfl,Kd,Lk,-⟩:=id ev
 have Lw:=eu (l:=[(B,bk C.1 U V W X),(i,bk d j k m n)]) (((I.trans Y).trans a0).trans bs) (aA.cons r (aA.cons g (aA.nil _)))
 refine ⟨by simp (maxSteps:=10000000) only[*,go_sem],?_⟩
 refine bO ?_
 try simp (maxSteps:=10000000) only[*,go_sem]
 refine b.go ?_;clear b K
 show Wp _ _ _ _ _
 exact cM hJ (Le.sub (.cons _ (.cons _ (List.Sublist.refl _)))) (Az hJ da al hD hL C h0 ix a q ev (by simp (maxSteps:=10000000) only[*,go_sem]) h)
set_option maxHeartbeats 40000000 in
theorem GM {Φ:Goroutine->af->Prop}(hJ:Closed Tryz.prog true (dH Tryz.prog Φ)){A:Act}{ro:Addr->Option Value}(g:an)(q:((List Int)×Int))(N:(ak×ak×Int))(k:(Int×Int))(l:(Int×Int))(m:(Int×Int))(n:(Int×Int))(c:(Int×ak×Int))(d:(Int×ak×Int))(a:(ak×ak×Bool×Int)){s t u w y:Nat}(i:cP ro){I:Value}(j:az rI ro I q.1){z B C D:Value}(f:bx ro g z B C D)(O:sz A=439/\A.defers=[]/\slot A 0= .bool false/\slot A 1= .pointer (some ⟨y,0,none⟩)/\slot A 4= .int .i64 k.2/\slot A 7= .int .i64 l.2/\slot A 9= .int .i64 m.2/\slot A 12= .int .i64 n.2/\slot A 15= .int .i64 c.2.2/\slot A 18= .int .i64 d.2.2/\slot A 20= .int .i64 a.2.2.2/\slot A 21=I/\slot A 22= .int .i64 q.2/\slot A 25= .int .i64 N.2.2/\slot A 26= .int .i64 k.1/\slot A 27= .int .i64 l.1/\slot A 28= .int .i64 m.1/\slot A 29= .int .i64 n.1/\slot A 30= .int .i64 c.1/\slot A 31= .pointer (some ⟨w,0,none⟩)/\slot A 32= .int .i64 d.1/\slot A 33= .pointer (some ⟨u,0,none⟩)/\slot A 34= .pointer (some ⟨t,0,none⟩)/\slot A 35= .pointer (some ⟨s,0,none⟩)/\slot A 36= .bool a.2.2.1)(h:vT g k l m n c d a=some true):Wp (dH Tryz.prog Φ) (bp (bp (bp (bp (bp (bp (bp (bp (bp (bp (bp (bp (bp (bp (bp (bp (bp (bp (bp (bp (bp (Tryz.f7.body.getD .skip)))))))))))))))))))))) (gR Tryz.prog [.tmp 0] (fun v _=>v= .bool true)) A ⟨ro,(s,rt a.2.1.num a.2.1.den)::(t,rt a.1.num a.1.den)::(u,rt d.2.1.num d.2.1.den)::(w,rt c.2.1.num c.2.1.den)::(y,bk g z B C D)::[]⟩:=by
 obtain ⟨P,hd,Q,k1,R,S,T,U,V,W,X,Y,Z,ab,ad,ae,al,ao,ar,a0,a2,a3,a4,a5,a6⟩:=O
 unfold vT at h
 have a7:=f.oc;simp only[bw] at a7
 have a8:=j.oc;simp only[bw] at a8
 refine fo hJ fun a9 ba=>?_
 have bb:=a9.nd
 try simp only[keys,List.map_cons,List.map_nil,List.map_append,List.cons_append,List.nil_append,List.nodup_cons,List.mem_cons,List.mem_append,List.not_mem_nil,or_false,not_or] at bb
 simp only[bg] at ba
 refine aa hJ (dS hJ fun K b=>?_)
 revert h;refine bS fun bc bd h=>?_
 try simp (maxSteps:=10000000) only[*,go_sem]
 refine pW _ (GJ i g f 2 bd) fun v e0 E bj G=>?_
 obtain ⟨e1,rfl,o⟩:=G
 have bl:=o.oc;simp only[bw] at bl
 replace j:=j.mono E
 replace f:=f.mono E
 replace i:=i.mono E
 simp only[bg] at bj
 refine aC ?_
 try simp (maxSteps:=10000000) only[*,go_sem]
 refine b.go ?_;clear b K
 refine aa hJ (dS hJ fun K b=>?_)
 revert h;refine bS fun bm bo h=>?_
 try simp (maxSteps:=10000000) only[*,go_sem]
 refine pW _ (GK i g f 2 bo) fun v br p bs G=>?_
 obtain ⟨e2,rfl,J⟩:=G
 have bz:=J.oc;simp only[bw] at bz
 replace j:=j.mono p
 replace f:=f.mono p
 replace o:=o.mono p
 replace i:=i.mono p
 simp only[bg] at bs
 refine aC ?_
 try simp (maxSteps:=10000000) only[*,go_sem]
 refine b.go ?_;clear b K
 refine aa hJ (aa hJ (dS hJ fun K b=>?_))
 revert h;refine cS (fun b0 h=>?_) fun b0 h=>?_
 ·cases h
 revert h;refine cS (fun b1 h=>?_) fun b1 h=>?_
 ·cases h
 revert h;refine cS (fun b2 h=>?_) fun b2 h=>?_
 ·cases h
 revert h;refine cS (fun b3 h=>?_) fun b3 h=>?_
 ·cases h
 revert h;refine cS (fun b4 h=>?_) fun b4 h=>?_
 ·cases h
 revert h;refine cS (fun b5 h=>?_) fun b5 h=>?_
 ·cases h
 revert h;refine cS (fun ca h=>?_) fun ca h=>?_
 ·cases h
 revert h;refine cS (fun cb h=>?_) fun cb h=>?_
 ·cases h
 try simp (maxSteps:=10000000) only[*,go_sem]
 revert h;refine cS (fun cd h=>?_) fun cd h=>?_
 ·cases h
 refine b.go ?_;clear b K
 refine bK hJ (by simp (maxSteps:=10000000) only[*,go_sem]) ?_
 refine aE hJ (aa hJ ?_)
 refine aa hJ ?_
 refine dU [0,1,4,7,9,12,15,18,20,21,26,27,28,29,30,31,32,33,34,35,36,37,38,39] fun e3 cf cl cy=>?_
 simp only[*,go_sem] at cf cl cy
 clear P hd Q k1 R S T U V W X Y Z ab ad ae al ao ar a0 a2 a3 a4 a5 a6
 refine aL hJ fun c0=>?_
 refine jb hJ mixed [] (.pure 0 (.pure 1 (.pure 2 (.pure 3 (.pure 4 (.pure 5 (.pure 6 (.pure 7 (.pure 8 (.pure 9 (.pure 10 (.pure 11 (.pure 12 (.pure 13 (.pure 14 (.pure 15 (.pure 16 (.pure 17 (.pure 18 (.rd 19 (.rd 20 (.pure 21 (.pure 22 (.pure 23 (.pure 24 (.pure 25 (.pure 26 (.pure 27 (.rd 28 (.rd 29 (.pure 30 (.pure 31 (.pure 32 (.pure 33 (.pure 34 (.pure 35 (.pure 36 (.rd 37 (.rd 38 (.pure 39 (.pure 40 (.pure 41 (.rd 42 (.rd 43 (.pure 44 (.pure 45 (.pure 46 (.pure 47 (.one 48 (.one 49 (.pure 50 (.pure 51 (.pure 52 (.pure 53 (.pure 54 (.pure 55 (.pure 56 (.pure 57 (.one 58 (.one 59 (.pure 60 (.pure 61 .done)))))))))))))))))))))))))))))))))))))))))))))))))))))))))))))) ⟨br,[(s,rt a.2.1.num a.2.1.den),(t,rt a.1.num a.1.den),(u,rt d.2.1.num d.2.1.den),(w,rt c.2.1.num c.2.1.den),(y,bk g z B C D)]⟩ (by simp (maxSteps:=10000000) only[*,go_sem]) (by kernel_rfl) fun K b=>?_
 revert h;refine cS (fun da h=>?_) fun da h=>?_
 ·cases h
 revert h;refine cS (fun db h=>?_) fun db h=>?_
 ·cases h
 revert h;refine cS (fun dd h=>?_) fun dd h=>?_
 ·cases h
 revert h;refine cS (fun df h=>?_) fun df h=>?_
 ·cases h
 revert h;refine cS (fun dk h=>?_) fun dk h=>?_
 ·cases h
 revert h;refine bS fun fa dp h=>?_
 try simp (maxSteps:=10000000) only[*,go_sem]
 refine ⟨_,bu hJ fun F H=>gd 1 1 dp,bO ?_⟩
 revert h;refine cS (fun dq h=>?_) fun dq h=>?_
 ·cases h
 revert h;refine cS (fun ds h=>?_) fun ds h=>?_
 ·cases h
 revert h;refine bS fun fb dt h=>?_
 try simp (maxSteps:=10000000) only[*,go_sem]
 refine ⟨_,bu hJ fun F H=>gd 0 1 dt,bO ?_⟩
 revert h;refine cS (fun du h=>?_) fun du h=>?_
 ·cases h
 revert h;refine cS (fun dv h=>?_) fun dv h=>?_
 ·cases h
 revert h;refine bS fun fg dC h=>?_
 try simp (maxSteps:=10000000) only[*,go_sem]
 refine ⟨_,bu hJ fun F H=>gd 3 2 dC,bO ?_⟩
 revert h;refine cS (fun dE h=>?_) fun dE h=>?_
 ·cases h
 revert h;refine bS fun fi dT h=>?_
 try simp (maxSteps:=10000000) only[*,go_sem]
 refine ⟨_,bu hJ fun F H=>gd 3 2 dT,bO ?_⟩
 revert h;refine cS (fun ea h=>?_) fun ea h=>?_
 ·cases h
 revert h;refine bS fun fp eb h=>?_
 try simp (maxSteps:=10000000) only[*,go_sem]
 refine au fun fr ec L=>?_;have ed:=aM.cons L c0;try simp only[aj] at L
 try simp (maxSteps:=10000000) only[*,go_sem]
 refine aJ hJ _ (oa bc.1 (o.mono aI) ([11,12,13,14]) ((az.flat (r:=rI) (e:=3) (cs:=#[.int .i64 11,.int .i64 12,.int .i64 13,.int .i64 14]) (fun x=>[.int .i64 x]) ([11,12,13,14]) (fun _=>rfl) ec rfl (by simp)).mono (iV (by simp (maxSteps:=10000000) only[*,go_sem]))) eb) ⟨by simp (maxSteps:=10000000) only[*,go_sem],bO ?_⟩
 revert h;refine cS (fun eh h=>?_) fun eh h=>?_
 ·cases h
 revert h;refine cS (fun et h=>?_) fun et h=>?_
 ·cases h
 revert h;refine bS fun fs ev h=>?_
 try simp (maxSteps:=10000000) only[*,go_sem]
 refine au fun ft eQ M=>?_;have fu:=aM.cons M ed;try simp only[aj] at M
 try simp (maxSteps:=10000000) only[*,go_sem]
 refine aJ hJ _ (oa bm.1 (J.mono aI) ([11]) ((az.flat (r:=rI) (e:=3) (cs:=#[.int .i64 11]) (fun x=>[.int .i64 x]) ([11]) (fun _=>rfl) eQ rfl (by simp)).mono (iV (by simp (maxSteps:=10000000) only[*,go_sem]))) ev) ⟨by simp (maxSteps:=10000000) only[*,go_sem],bO ?_⟩
 try simp (maxSteps:=10000000) only[*,go_sem]
 revert h;refine cS (fun eS h=>?_) fun eS h=>?_
 ·cases h
 refine b.go ?_;clear b K
 refine bK hJ (by simp (maxSteps:=10000000) only[*,go_sem]) ?_
 refine aE hJ ?_
 show Wp _ _ _ _ _
 exact cM hJ (Le.sub (.cons _ (.cons _ (.cons _ (.cons _ (.cons _ (.cons _ (.cons₂ _ (List.Sublist.refl _))))))))) (GL hJ g q k l m n c d a i j f (by simp (maxSteps:=10000000) only[*,go_sem]) h)
set_option maxHeartbeats 40000000 in
theorem GN {Φ:Goroutine->af->Prop}(hJ:Closed Tryz.prog true (dH Tryz.prog Φ)){A:Act}{ro:Addr->Option Value}(c:an)(g:an)(G:(ak×Int))(H:(Int×ak×Int))(I:(ak×Int))(J:(ak×Bool×Int))(L:(ak×Bool×Int))(M:(ak×Bool×Int))(N:(Int×Int))(i:((List Int)×Int))(j:(ak×ak×Int)){k l:Nat}(d:cP ro){m:Value}(n:az rI ro m i.1){o q r s:Value}(f:bx ro g o q r s){u w x z:Value}(b:bx ro c u w x z)(O:sz A=439/\A.defers=[]/\slot A 0= .bool false/\slot A 1= .pointer (some ⟨l,0,none⟩)/\slot A 2= .pointer (some ⟨k,0,none⟩)/\slot A 4= .int .i64 G.2/\slot A 7= .int .i64 H.2.2/\slot A 9= .int .i64 I.2/\slot A 12= .int .i64 J.2.2/\slot A 15= .int .i64 L.2.2/\slot A 18= .int .i64 M.2.2/\slot A 20= .int .i64 N.2/\slot A 21=m/\slot A 22= .int .i64 i.2/\slot A 25= .int .i64 j.2.2)(h:vU c g=some true):Wp (dH Tryz.prog Φ) (bp (bp (bp (bp (bp (bp (bp (bp (bp (bp (bp (bp (bp (bp (Tryz.f7.body.getD .skip))))))))))))))) (gR Tryz.prog [.tmp 0] (fun v _=>v= .bool true)) A ⟨ro,(k,bk g o q r s)::(l,bk c u w x z)::[]⟩:=by
 obtain ⟨P,hd,Q,k1,R,S,T,U,V,W,X,Y,Z,ab,ad⟩:=O
 obtain ⟨d45,b1,rfl,b2,b3,-⟩:=id f.e
 obtain ⟨d52,b4,rfl,b5,ca,-⟩:=id f.p
 obtain ⟨d59,cb,rfl,cd,cf,-⟩:=id f.y
 obtain ⟨d66,cl,rfl,cy,cS,-⟩:=id f.t
 obtain ⟨d8,c0,rfl,da,db,-⟩:=id b.e
 obtain ⟨d15,dd,rfl,df,dk,-⟩:=id b.p
 obtain ⟨d22,dp,rfl,dq,ds,-⟩:=id b.y
 obtain ⟨d29,dt,rfl,du,dv,-⟩:=id b.t
 unfold vU at h
 have ae:=f.oc;simp only[bw] at ae
 have al:=b.oc;simp only[bw] at al
 have ao:=n.oc;simp only[bw] at ao
 refine fo hJ fun B ar=>?_
 have a0:=B.nd
 try simp only[keys,List.map_cons,List.map_nil,List.map_append,List.cons_append,List.nil_append,List.nodup_cons,List.mem_cons,List.mem_append,List.not_mem_nil,or_false,not_or] at a0
 simp only[bg] at ar
 refine aa hJ (dS hJ fun K a=>?_)
 revert h;refine bS fun a2 a3 h=>?_
 try simp (maxSteps:=10000000) only[*,go_sem]
 refine aJ hJ _ (yB (d.mono aI) c (b.mono aI) 0 a3) (aC ?_)
 try simp (maxSteps:=10000000) only[*,go_sem]
 refine a.go ?_;clear a K
 refine aa hJ (dS hJ fun K a=>?_)
 revert h;refine bS fun a4 a5 h=>?_
 try simp (maxSteps:=10000000) only[*,go_sem]
 refine aJ hJ _ (yB (d.mono aI) c (b.mono aI) 1 a5) (aC ?_)
 try simp (maxSteps:=10000000) only[*,go_sem]
 refine a.go ?_;clear a K
 refine aa hJ (dS hJ fun K a=>?_)
 revert h;refine bS fun a6 a7 h=>?_
 try simp (maxSteps:=10000000) only[*,go_sem]
 refine aJ hJ _ (qC (d.mono aI) c (b.mono aI) a7) (aC ?_)
 try simp (maxSteps:=10000000) only[*,go_sem]
 refine a.go ?_;clear a K
 refine aa hJ (dS hJ fun K a=>?_)
 revert h;refine bS fun a8 a9 h=>?_
 try simp (maxSteps:=10000000) only[*,go_sem]
 refine aJ hJ _ (qC (d.mono aI) g (f.mono aI) a9) (aC ?_)
 try simp (maxSteps:=10000000) only[*,go_sem]
 refine a.go ?_;clear a K
 refine aa hJ (dS hJ fun K a=>?_)
 revert h;refine bS fun ba bb h=>?_
 try simp (maxSteps:=10000000) only[*,go_sem]
 refine aJ hJ _ (yG (d.mono aI) c (b.mono aI) bb) (aC ?_)
 try simp (maxSteps:=10000000) only[*,go_sem]
 refine au fun dC dE C=>?_;have bc:=aM.cons C B;try simp only[aj] at C
 try simp (maxSteps:=10000000) only[*,go_sem]
 refine a.go ?_;clear a K
 refine aa hJ ?_
 refine dU [0,1,2,4,7,9,12,15,18,20,21,22,25,26,27,28,29,30,31] fun dT bd bj bl=>?_
 simp only[*,go_sem] at bd bj bl
 clear P hd Q k1 R S T U V W X Y Z ab ad
 refine dS hJ fun K a=>?_
 revert h;refine bS fun bm bo h=>?_
 try simp (maxSteps:=10000000) only[*,go_sem]
 refine aJ hJ _ (yG (d.mono aI) g (f.mono aI) bo) (aC ?_)
 try simp (maxSteps:=10000000) only[*,go_sem]
 refine au fun ea eb D=>?_;have br:=aM.cons D bc;try simp only[aj] at D
 try simp (maxSteps:=10000000) only[*,go_sem]
 refine a.go ?_;clear a K
 refine aa hJ (dS hJ fun K a=>?_)
 revert h;refine bS fun bs bz h=>?_
 try simp (maxSteps:=10000000) only[*,go_sem]
 refine aJ hJ _ (Du (d.mono aI) c (b.mono aI) bz) (aC ?_)
 try simp (maxSteps:=10000000) only[*,go_sem]
 refine au fun ec ed E=>?_;have b0:=aM.cons E br;try simp only[aj] at E
 refine au fun eh et F=>?_;have ev:=aM.cons F b0;try simp only[aj] at F
 try simp (maxSteps:=10000000) only[*,go_sem]
 refine a.go ?_;clear a K
 show Wp _ _ _ _ _
 exact cM hJ (Le.sub (.cons₂ _ (.cons₂ _ (.cons₂ _ (.cons₂ _ (.cons _ (.cons₂ _ (List.Sublist.refl _)))))))) (GM hJ c i j a2 a4 a6 a8 ba bm bs d n b (by simp (maxSteps:=10000000) only[*,go_sem]) h)
set_option maxHeartbeats 40000000 in
theorem GO {Φ:Goroutine->af->Prop}(hJ:Closed Tryz.prog true (dH Tryz.prog Φ)){A:Act}{ro:Addr->Option Value}(b:an)(n:an)(i:(ak×Int))(c:(Int×ak×Int))(j:(ak×Int))(d:(ak×Bool×Int))(f:(ak×Bool×Int))(g:(ak×Bool×Int)){q s t u w y z B:Nat}(m:cP ro){C D E G:Value}(p:bx ro n C D E G){H I J L:Value}(k:bx ro b H I J L)(T:sz A=439/\A.defers=[]/\slot A 0= .bool false/\slot A 1= .pointer (some ⟨B,0,none⟩)/\slot A 2= .pointer (some ⟨z,0,none⟩)/\slot A 3= .pointer (some ⟨y,0,none⟩)/\slot A 4= .int .i64 i.2/\slot A 5= .int .i64 c.1/\slot A 6= .pointer (some ⟨w,0,none⟩)/\slot A 7= .int .i64 c.2.2/\slot A 8= .pointer (some ⟨u,0,none⟩)/\slot A 9= .int .i64 j.2/\slot A 10= .pointer (some ⟨t,0,none⟩)/\slot A 11= .bool d.2.1/\slot A 12= .int .i64 d.2.2/\slot A 13= .pointer (some ⟨s,0,none⟩)/\slot A 14= .bool f.2.1/\slot A 15= .int .i64 f.2.2/\slot A 16= .pointer (some ⟨q,0,none⟩)/\slot A 17= .bool g.2.1/\slot A 18= .int .i64 g.2.2)(h:vV b n i c j d f g=some true):Wp (dH Tryz.prog Φ) (bp (bp (bp (bp (bp (bp (bp (bp (bp (Tryz.f7.body.getD .skip)))))))))) (gR Tryz.prog [.tmp 0] (fun v _=>v= .bool true)) A ⟨ro,(q,rt g.1.num g.1.den)::(s,rt f.1.num f.1.den)::(t,rt d.1.num d.1.den)::(u,rt j.1.num j.1.den)::(w,rt c.2.1.num c.2.1.den)::(y,rt i.1.num i.1.den)::(z,bk n C D E G)::(B,bk b H I J L)::[]⟩:=by
 obtain ⟨U,hd,V,k1,W,X,Y,Z,ab,ad,ae,al,ao,ar,a0,a2,a3,a4,a5,a6,a7⟩:=T
 unfold vV at h
 have a8:=p.oc;simp only[bw] at a8
 have a9:=k.oc;simp only[bw] at a9
 refine fo hJ fun O ba=>?_
 have bb:=O.nd
 try simp only[keys,List.map_cons,List.map_nil,List.map_append,List.cons_append,List.nil_append,List.nodup_cons,List.mem_cons,List.mem_append,List.not_mem_nil,or_false,not_or] at bb
 simp only[bg] at ba
 refine aa hJ (dS hJ fun K a=>?_)
 revert h;refine bS fun bc bd h=>?_
 try simp (maxSteps:=10000000) only[*,go_sem]
 refine aJ hJ _ (Dy (m.mono aI) b (k.mono aI) bd) (aC ?_)
 try simp (maxSteps:=10000000) only[*,go_sem]
 refine a.go ?_;clear a K
 refine aa hJ (dS hJ fun K a=>?_)
 revert h;refine bS fun P bj h=>?_
 try simp (maxSteps:=10000000) only[*,go_sem]
 refine bX hJ _ (uA m b k 0 bj) fun v bl M bm bo=>?_
 obtain ⟨e3,rfl,N⟩:=bo
 have br:=N.oc;simp only[bw] at br
 replace k:=k.mono M
 replace p:=p.mono M
 replace m:=m.mono M
 simp only[bg] at bm
 refine aC ?_
 try simp (maxSteps:=10000000) only[*,go_sem]
 refine a.go ?_;clear a K
 refine aa hJ (dS hJ fun K a=>?_)
 revert h;refine bS fun o bs h=>?_
 try simp (maxSteps:=10000000) only[*,go_sem]
 refine aJ hJ _ (Dv (m.mono aI) b (k.mono aI) 0 bs) (aC ?_)
 try simp (maxSteps:=10000000) only[*,go_sem]
 refine au fun bz fa Q=>?_;have b0:=aM.cons Q O;try simp only[aj] at Q
 refine au fun b1 fb R=>?_;have fg:=aM.cons R b0;try simp only[aj] at R
 try simp (maxSteps:=10000000) only[*,go_sem]
 refine a.go ?_;clear a K
 refine aa hJ (aa hJ (dS hJ fun K a=>?_))
 revert h;refine cS (fun b2 h=>?_) fun b2 h=>?_
 ·cases h
 revert h;refine cS (fun b3 h=>?_) fun b3 h=>?_
 ·cases h
 revert h;refine cS (fun b4 h=>?_) fun b4 h=>?_
 ·cases h
 revert h;refine cS (fun b5 h=>?_) fun b5 h=>?_
 ·cases h
 revert h;refine cS (fun ca h=>?_) fun ca h=>?_
 ·cases h
 revert h;refine cS (fun cb h=>?_) fun cb h=>?_
 ·cases h
 revert h;refine cS (fun cd h=>?_) fun cd h=>?_
 ·cases h
 revert h;refine cS (fun cf h=>?_) fun cf h=>?_
 ·cases h
 try simp (maxSteps:=10000000) only[*,go_sem]
 revert h;refine cS (fun cl h=>?_) fun cl h=>?_
 ·cases h
 refine a.go ?_;clear a K
 refine bK hJ (by simp (maxSteps:=10000000) only[*,go_sem]) ?_
 refine aE hJ (aa hJ ?_)
 refine aa hJ ?_
 refine dU [0,1,2,3,4,5,6,7,8,9,10,11,12,13,14,15,16,17,18,19,20,21,22,23,24,25] fun fi cy c0 da=>?_
 simp only[*,go_sem] at cy c0 da
 clear U hd V k1 W X Y Z ab ad ae al ao ar a0 a2 a3 a4 a5 a6 a7
 refine aL hJ fun db=>?_
 refine jb hJ mixed [] (.rd 0 (.rd 1 (.pure 2 (.pure 3 (.pure 4 (.pure 5 (.pure 6 (.pure 7 (.rd 8 (.rd 9 (.pure 10 (.pure 11 (.pure 12 (.rd 13 (.rd 14 (.pure 15 (.pure 16 (.pure 17 (.rd 18 (.rd 19 (.pure 20 (.pure 21 (.pure 22 (.pure 23 (.pure 24 (.pure 25 (.pure 26 (.rd 27 (.rd 28 (.pure 29 (.pure 30 (.pure 31 (.pure 32 (.pure 33 (.pure 34 (.rd 35 (.rd 36 (.pure 37 (.pure 38 (.pure 39 (.pure 40 (.pure 41 (.pure 42 (.pure 43 (.pure 44 (.pure 45 (.pure 46 (.pure 47 (.pure 48 (.one 49 (.one 50 (.pure 51 (.pure 52 (.pure 53 (.rd 54 (.rd 55 (.pure 56 (.pure 57 (.pure 58 (.rd 59 (.rd 60 (.pure 61 (.pure 62 .done))))))))))))))))))))))))))))))))))))))))))))))))))))))))))))))) ⟨bl,[(b1,rt o.2.1.num o.2.1.den),(bz,rt o.1.num o.1.den),(q,rt g.1.num g.1.den),(s,rt f.1.num f.1.den),(t,rt d.1.num d.1.den),(u,rt j.1.num j.1.den),(w,rt c.2.1.num c.2.1.den),(y,rt i.1.num i.1.den),(z,bk n C D E G),(B,bk b H I J L)]⟩ (by simp (maxSteps:=10000000) only[*,go_sem]) (by kernel_rfl) fun K a=>?_
 revert h;refine bS fun fp dd h=>?_
 try simp (maxSteps:=10000000) only[*,go_sem]
 refine ⟨_,bu hJ fun F l=>gd 13 4 dd,bO ?_⟩
 revert h;refine cS (fun df h=>?_) fun df h=>?_
 ·cases h
 revert h;refine cS (fun dk h=>?_) fun dk h=>?_
 ·cases h
 revert h;refine bS fun fr dp h=>?_
 try simp (maxSteps:=10000000) only[*,go_sem]
 refine ⟨_,bu hJ fun F l=>gd 11 8 dp,bO ?_⟩
 revert h;refine cS (fun dq h=>?_) fun dq h=>?_
 ·cases h
 revert h;refine bS fun fs ds h=>?_
 try simp (maxSteps:=10000000) only[*,go_sem]
 refine ⟨_,bu hJ fun F l=>gd 1 4 ds,bO ?_⟩
 revert h;refine cS (fun dt h=>?_) fun dt h=>?_
 ·cases h
 revert h;refine bS fun ft du h=>?_
 try simp (maxSteps:=10000000) only[*,go_sem]
 refine ⟨_,bu hJ fun F l=>gd 24 13 du,bO ?_⟩
 revert h;refine cS (fun dv h=>?_) fun dv h=>?_
 ·cases h
 revert h;refine cS (fun dC h=>?_) fun dC h=>?_
 ·cases h
 revert h;refine bS fun fu dE h=>?_
 try simp (maxSteps:=10000000) only[*,go_sem]
 refine ⟨_,bu hJ fun F l=>gd 2 13 dE,bO ?_⟩
 revert h;refine cS (fun dT h=>?_) fun dT h=>?_
 ·cases h
 revert h;refine cS (fun ea h=>?_) fun ea h=>?_
 ·cases h
 revert h;refine bS fun fv eb h=>?_
 try simp (maxSteps:=10000000) only[*,go_sem]
 refine ⟨_,bu hJ fun F l=>gd 1 1 eb,bO ?_⟩
 revert h;refine cS (fun ec h=>?_) fun ec h=>?_
 ·cases h
 revert h;refine cS (fun ed h=>?_) fun ed h=>?_
 ·cases h
 revert h;refine cS (fun eh h=>?_) fun eh h=>?_
 ·cases h
 revert h;refine bS fun fw et h=>?_
 try simp (maxSteps:=10000000) only[*,go_sem]
 refine au fun fx ev S=>?_;have gg:=aM.cons S db;try simp only[aj] at S
 try simp (maxSteps:=10000000) only[*,go_sem]
 refine aJ hJ _ (oa P.1 (N.mono aI) ([10,11,12]) ((az.flat (r:=rI) (e:=3) (cs:=#[.int .i64 10,.int .i64 11,.int .i64 12]) (fun x=>[.int .i64 x]) ([10,11,12]) (fun _=>rfl) ev rfl (by simp)).mono (iV (by simp (maxSteps:=10000000) only[*,go_sem]))) et) ⟨by simp (maxSteps:=10000000) only[*,go_sem],bO ?_⟩
 revert h;refine cS (fun eQ h=>?_) fun eQ h=>?_
 ·cases h
 revert h;refine bS fun gl eS h=>?_
 try simp (maxSteps:=10000000) only[*,go_sem]
 refine ⟨_,bu hJ fun F l=>gd 1 4 eS,bO ?_⟩
 revert h;refine cS (fun e0 h=>?_) fun e0 h=>?_
 ·cases h
 revert h;refine bS fun gn e1 h=>?_
 try simp (maxSteps:=10000000) only[*,go_sem]
 refine ⟨_,bu hJ fun F l=>gd 1 1 e1,bO ?_⟩
 try simp (maxSteps:=10000000) only[*,go_sem]
 revert h;refine cS (fun e2 h=>?_) fun e2 h=>?_
 ·cases h
 refine a.go ?_;clear a K
 refine bK hJ (by simp (maxSteps:=10000000) only[*,go_sem]) ?_
 refine aE hJ ?_
 show Wp _ _ _ _ _
 exact cM hJ (Le.sub (.cons _ (.cons _ (.cons _ (.cons _ (.cons _ (.cons _ (.cons _ (.cons _ (.cons _ (.cons₂ _ (.cons₂ _ (List.Sublist.refl _))))))))))))) (GN hJ b n i c j d f g bc P o m N p k (by simp (maxSteps:=10000000) only[*,go_sem]) h)
set_option maxHeartbeats 40000000 in
theorem GP {ro:Addr->Option Value}(d:cP ro){r:Bool}(I:r=true)(h:mX=some r):eV Tryz.prog 7 #[] ⟨ro,[]⟩ (fun v _=>v= .bool r):=by
 subst I
 unfold mX at h
 refine eV.go Tryz.func7 rfl Tryz.ntmps7 Tryz.results7 (by simp) fun Φ hJ A J hd hs=>?_
 clear hs
 refine aa hJ (dS hJ fun K a=>?_)
 try simp (maxSteps:=10000000) only[*,go_sem]
 refine a.go ?_;clear a K
 refine aa hJ (dS hJ fun K a=>?_)
 revert h;refine bS fun g L h=>?_
 try simp (maxSteps:=10000000) only[*,go_sem]
 refine bX hJ _ (DG L) fun v n M b5 k=>?_
 obtain ⟨N,O,P,Q,rfl,f⟩:=k
 have R:=f.oc;simp only[bw] at R
 replace d:=d.mono M
 refine aC ?_
 try simp (maxSteps:=10000000) only[*,go_sem]
 refine au fun S T U=>?_;try simp only[aj] at U
 try simp (maxSteps:=10000000) only[*,go_sem]
 refine a.go ?_;clear a K
 refine aa hJ ?_
 refine aL hJ fun V=>?_
 refine dS hJ fun K a=>?_
 revert h;refine bS fun l W h=>?_
 try simp (maxSteps:=10000000) only[*,go_sem]
 refine au fun i p q=>?_;have s:=aM.cons q V;try simp only[aj] at q
 try simp (maxSteps:=10000000) only[*,go_sem]
 obtain ⟨m,t,u⟩:=e8 (b:=i) (o:=(ic 11)) [] ((S,bk g N O P Q)::[]) s p (aA.cons T (aA.nil _))
 have w:az rI (bI n i (ic 11)) (.slice (some ⟨i,0,none⟩) 1 1) [11]:=(az.flat (r:=rI) (e:=3) (cs:=#[.int .i64 11]) (fun x=>[.int .i64 x]) ([11]) (fun _=>rfl) p rfl (by simp))
 generalize bI n i (ic 11)=ca at w t m u
 refine fY hJ u ?_
 replace f:=f.mono m
 replace d:=d.mono m
 simp only[bg] at t
 have X:=aM.tl s
 refine bX hJ _ (DF g f ([11]) w 2 W) fun v cb y Y k=>?_
 obtain ⟨cd,cf,cl,cy,rfl,j⟩:=k
 have Z:=j.oc;simp only[bw] at Z
 replace f:=f.mono y
 replace d:=d.mono y
 simp only[bg] at Y
 refine aC ?_
 try simp (maxSteps:=10000000) only[*,go_sem]
 refine au fun cS c0 z=>?_;have ab:=aM.cons z X;try simp only[aj] at z
 try simp (maxSteps:=10000000) only[*,go_sem]
 refine a.go ?_;clear a K
 refine aa hJ (dS hJ fun K a=>?_)
 revert h;refine bS fun ad ae h=>?_
 try simp (maxSteps:=10000000) only[*,go_sem]
 refine aJ hJ _ (yq (d.mono aI) g (f.mono aI) 5 ae) (aC ?_)
 try simp (maxSteps:=10000000) only[*,go_sem]
 refine au fun da db B=>?_;have al:=aM.cons B ab;try simp only[aj] at B
 try simp (maxSteps:=10000000) only[*,go_sem]
 refine a.go ?_;clear a K
 refine aa hJ ?_
 refine nO hJ mixed 7 3 (by simp (maxSteps:=10000000) only[*,go_sem]) (by kernel_rfl) fun K a=>?_
 revert h;refine bS fun ao ar h=>?_
 try simp (maxSteps:=10000000) only[*,go_sem]
 refine ⟨_,bu hJ fun F c=>om 2 11 ar,b6 ?_⟩
 revert h;refine bS fun a0 a2 h=>?_
 try simp (maxSteps:=10000000) only[*,go_sem]
 refine ⟨_,bu hJ fun F c=>yt (d.mono (bM c)) g (f.mono (bM c)) ao a2,b6 ?_⟩
 try simp (maxSteps:=10000000) only[*,go_sem]
 refine au fun dd df C=>?_;have a3:=aM.cons C al;try simp only[aj] at C
 try simp (maxSteps:=10000000) only[*,go_sem]
 refine a.go ?_;clear a K
 refine aa hJ ?_
 refine nO hJ mixed 6 4 (by simp (maxSteps:=10000000) only[*,go_sem]) (by kernel_rfl) fun K a=>?_
 revert h;refine bS fun a4 a5 h=>?_
 try simp (maxSteps:=10000000) only[*,go_sem]
 refine ⟨_,bu hJ fun F c=>om 2 10 a5,b6 ?_⟩
 revert h;refine bS fun a6 a7 h=>?_
 try simp (maxSteps:=10000000) only[*,go_sem]
 refine ⟨_,bu hJ fun F c=>yu (d.mono (bM c)) g (f.mono (bM c)) a4 a7,b6 ?_⟩
 try simp (maxSteps:=10000000) only[*,go_sem]
 refine au fun dk dp D=>?_;have a8:=aM.cons D a3;try simp only[aj] at D
 try simp (maxSteps:=10000000) only[*,go_sem]
 refine a.go ?_;clear a K
 refine aa hJ ?_
 refine dU [0,1,2,3,4,5,6,7,8,9] fun dq a9 ba bb=>?_
 simp only[*,go_sem] at a9 ba bb
 clear J hd
 refine nO hJ mixed 7 5 (by simp (maxSteps:=10000000) only[*,go_sem]) (by kernel_rfl) fun K a=>?_
 revert h;refine bS fun bc bd h=>?_
 try simp (maxSteps:=10000000) only[*,go_sem]
 refine ⟨_,bu hJ fun F c=>om 2 12 bd,b6 ?_⟩
 revert h;refine bS fun bj bl h=>?_
 try simp (maxSteps:=10000000) only[*,go_sem]
 refine ⟨_,bu hJ fun F c=>yw (d.mono (bM c)) l (j.mono (bM c)) bc bl,b6 ?_⟩
 try simp (maxSteps:=10000000) only[*,go_sem]
 refine au fun ds dt E=>?_;have bm:=aM.cons E a8;try simp only[aj] at E
 try simp (maxSteps:=10000000) only[*,go_sem]
 refine a.go ?_;clear a K
 refine aa hJ ?_
 refine nO hJ mixed 7 6 (by simp (maxSteps:=10000000) only[*,go_sem]) (by kernel_rfl) fun K a=>?_
 revert h;refine bS fun bo br h=>?_
 try simp (maxSteps:=10000000) only[*,go_sem]
 refine ⟨_,bu hJ fun F c=>om 2 12 br,b6 ?_⟩
 revert h;refine bS fun bs bz h=>?_
 try simp (maxSteps:=10000000) only[*,go_sem]
 refine ⟨_,bu hJ fun F c=>tB (d.mono (bM c)) l (j.mono (bM c)) bo bz,b6 ?_⟩
 try simp (maxSteps:=10000000) only[*,go_sem]
 refine au fun du dv G=>?_;have b0:=aM.cons G bm;try simp only[aj] at G
 try simp (maxSteps:=10000000) only[*,go_sem]
 refine a.go ?_;clear a K
 refine aa hJ ?_
 refine nO hJ mixed 7 7 (by simp (maxSteps:=10000000) only[*,go_sem]) (by kernel_rfl) fun K a=>?_
 revert h;refine bS fun b1 b2 h=>?_
 try simp (maxSteps:=10000000) only[*,go_sem]
 refine ⟨_,bu hJ fun F c=>om 2 12 b2,b6 ?_⟩
 revert h;refine bS fun b3 b4 h=>?_
 try simp (maxSteps:=10000000) only[*,go_sem]
 refine ⟨_,bu hJ fun F c=>tB (d.mono (bM c)) g (f.mono (bM c)) b1 b4,b6 ?_⟩
 try simp (maxSteps:=10000000) only[*,go_sem]
 refine au fun dC dE H=>?_;have dT:=aM.cons H b0;try simp only[aj] at H
 try simp (maxSteps:=10000000) only[*,go_sem]
 refine a.go ?_;clear a K
 show Wp _ _ _ _ _
 exact cM hJ (Le.sub (.cons₂ _ (.cons₂ _ (.cons₂ _ (.cons₂ _ (.cons₂ _ (.cons₂ _ (.cons₂ _ (.cons₂ _ (List.Sublist.refl _)))))))))) (GO hJ g l ad a0 a6 bj bs b3 d j f (by simp (maxSteps:=10000000) only[*,go_sem]) h)
theorem AA {ro:Addr->Option Value}(a:cP ro){r:Bool}(h:mX=some r):eV Tryz.prog 7 #[] ⟨ro,[]⟩ (fun v _=>v= .bool r):=
 GP a (Option.some.inj (h.symm.trans vW)) h
def rC (u0:an)(l:Int)(a:aP):Option Bool:=
 ah (k6 u0) fun m=>cond (m) (ah (mX) fun n=>some n) (ah (me u0 l) fun h=>ah (ow u0 l) fun i=>ah (mg u0 a) fun b=>ah (oz u0 a) fun c=>ah (jh u0) fun o=>ah (jl u0) fun p=>cond ((o != p)) (some false) (cond (!((h.1.num==i.1.num)&&(h.1.den==i.1.den))) (some false) (cond ((h.2 != i.2)) (some false) (cond ((b.1 != c.1)) (some false) (cond (!((b.2.1.num==c.2.1.num)&&(b.2.1.den==c.2.1.den))) (some false) (cond ((b.2.2 != c.2.2)) (some false) (ah (mh u0 a) fun j=>ah (oA u0 a) fun k=>ah (mj u0 a) fun d=>ah (oB u0 a) fun e=>cond (!((j.1.num==k.1.num)&&(j.1.den==k.1.den))) (some false) (cond ((j.2 != k.2)) (some false) (cond (!((d.1.num==e.1.num)&&(d.1.den==e.1.den))) (some false) (cond (!(d.2.1==e.2.1)) (some false) (cond ((d.2.2 != e.2.2)) (some false) (ah (k4 u0 a) fun f=>ah (oC u0 a) fun g=>cond (((f.1.num==g.1.num)&&(f.1.den==g.1.den))) (cond ((f.2.1==g.2.1)) (cond ((f.2.2==g.2.2)) (ah (mX) fun q=>some q) (some false)) (some false)) (some false)))))))))))))
theorem GQ {u:an}(h:k6 u=some false):u.aB.length<=20/\u.props.length<=20/\u.aR.length<=20/\u.told.length<=20:=by
 unfold k6 at h
 rcases gX h with ⟨a,h⟩|⟨a,h⟩
 ·cases h
 rcases gX h with ⟨b,h⟩|⟨b,h⟩
 ·cases h
 rcases gX h with ⟨c,h⟩|⟨c,h⟩
 ·cases h
 have d:=Option.some.inj h
 simp only[decide_eq_false_iff_not] at a b c d
 omega
theorem GR (u:an):∃b,k6 u=some b:=by
 unfold k6
 cases decide (20<(u.aB.length:Int))<;>cases decide (20<(u.props.length:Int))<;>cases decide (20<(u.aR.length:Int))<;>exact ⟨_,rfl⟩
theorem GU (u:an)(p:Int)(s:aP):rC u p s=some true:=by
 unfold rC
 obtain ⟨b,hb⟩:=GR u
 rw[hb]
 cases b with
 |true=>
  simp only[ah,cond_true,vW]
 |false=>
  obtain ⟨h0,h1,h2,h3⟩:=GQ hb
  obtain ⟨g,a,d⟩:=D3 u h0 h1 h2 h3 p
  obtain ⟨e,e1,e2⟩:=Ek u h0 h1 h2 h3 s
  obtain ⟨k,k1,f⟩:=El u h0 h1 h2 h3 s
  obtain ⟨v,v1,v2⟩:=Em u h0 h1 h2 h3 s
  obtain ⟨w,w1,w2⟩:=En u h0 h1 h2 h3 s
  obtain ⟨h,c,c1⟩:=uS u h0 h1 h2 h3
  have c2:jl u=some c:=by rw[<-h,c1]
  simp only[ah,cond_false,a,d,e1,e2,k1,f,v1,v2,w1,w2,c1,c2,bne_self_eq_false,beq_self_eq_true,Bool.and_self,Bool.not_true,cond_true,vW]
end Go.Proofs.YtipgiooobncfbaaGreatDoor
end

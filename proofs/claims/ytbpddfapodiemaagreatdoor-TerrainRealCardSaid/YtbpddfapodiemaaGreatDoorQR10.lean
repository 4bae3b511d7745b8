/- A part of the proof: QR10. -/
import Derived.Test.YtbpddfapodiemaaGreatDoorQR9
import Derived.Conc.AtomicLaws2
import Derived.Conc.WgArith
set_option linter.all false
section
namespace Go.Sep
open Go Go.Conc
open Go.ConcN (sumTo upd upd_ne upd_same)
open Go.ConcM (MuAt muA msA muBlock OsLater)
open Go.ConcR (WgAt wgBlock stA smA)
section
variable {c:Cy}{i:Nat}{ph:Ph}{ops:Array Oper}{j n:Nat}{Q:Act->af->Ph->Prop}{a:Act}{F:af}{f fi:FuncId}{d:Option Tmp}
theorem ei {s:Sh}:s.ms<=s.ms/\s.ws<=s.ws:=⟨Int.le_refl _,Int.le_refl _⟩
theorem zM (g:Entry c.P f (fun _=>do mark .disable;pure Extern.Race.none_)){vals:List Value}(l:At ops j a f vals d)(m:ph.gp≠ .gone)(p:ph.gp≠ .new)
  (h:ak (WJ c i) fi ops (j+1) n Q (bB a d (.tuple #[])) F {ph with deaf:=ph.deaf+1}):ak (WJ c i) fi ops j (n+1) Q a F ph:=by
 obtain ⟨o,cR,dN,e,hg,q,_,rfl⟩:=l
 refine gi e m fun w s k φ p0 _ hs hi he r=>.inr ⟨.tuple #[],w,_,s,_,fun b t cs hb=>?_,hs,.refl _ _,r.Ek hi he p _,LD,.inr ei,h⟩
 obtain ⟨fn,f1,f2,f3,f4,f5⟩:=g.ex
 exact stepG_mark0 .disable au e (cA hg) hb.kind q f1 f2 f3 f4 f5
theorem vB (l:Entry c.P f (fun _=>do mark .enable;pure Extern.Race.none_)){vals:List Value}(m:At ops j a f vals d)(p:ph.gp≠ .gone)(q:ph.gp≠ .new){e:Nat}(hd:ph.deaf=e+1)
  (h:ak (WJ c i) fi ops (j+1) n Q (bB a d (.tuple #[])) F {ph with deaf:=e}):ak (WJ c i) fi ops j (n+1) Q a F ph:=by
 obtain ⟨o,cR,dN,g,hg,r,_,rfl⟩:=m
 refine gi g p fun w s k φ p0 _ hs hi he t=>.inr ⟨.tuple #[],w,_,s,_,fun b u cs hb=>?_,hs,.refl _ _,t.Ek hi he q _,LF hd,.inr ei,h⟩
 obtain ⟨fn,f1,f2,f3,f4,f5⟩:=l.ex
 exact stepG_mark0 .enable au g (cA hg) hb.kind r f1 f2 f3 f4 f5
theorem qf {k:Nat}{φ:Nat->Ph}{p0:P0}{s:Sh}(he:φ i=ph)(a:Inv c.n c.bs k φ p0 s):Inv c.n c.bs k (upd φ i ph) p0 s:=by rw[<-he,zH];exact a
theorem El (l:Entry c.P f (Extern.Race.marked .acquire))(m:At ops j a f [.pointer (some (muA c.Mu))] d)(e:ph.gp= .cnt)
  (h:ak (WJ c i) fi ops (j+1) n Q (bB a d (.tuple #[])) F ph):ak (WJ c i) fi ops j (n+1) Q a F ph:=by
 obtain ⟨o,cR,dN,g,hg,p,q,rfl⟩:=m
 obtain ⟨x,rfl,r⟩:=kO q
 refine gi g (by rw[e];simp) fun w s k φ p0 _ hs hi he t=>.inr ⟨.tuple #[],w,_,s,ph,fun b u cs hb=>?_,hs,.refl _ _,qf he t,.word (.acquire (muA c.Mu)) rfl (.inl rfl) rfl ⟨e,e⟩,.inr ei,h⟩
 obtain ⟨fn,f1,f2,f3,f4,f5⟩:=l.ex
 exact stepG_markAt .acquire au g (cA hg) hb.kind p f1 f2 f3 f4 f5 (by simp[eZ,r])
theorem LG (l:Entry c.P f (Extern.Race.marked .releaseMerge))(m:At ops j a f [.pointer (some (muA c.Mu))] d)(e:ph.gp= .cnt)
  (h:ak (WJ c i) fi ops (j+1) n Q (bB a d (.tuple #[])) F ph):ak (WJ c i) fi ops j (n+1) Q a F ph:=by
 obtain ⟨o,cR,dN,g,hg,p,q,rfl⟩:=m
 obtain ⟨x,rfl,r⟩:=kO q
 refine gi g (by rw[e];simp) fun w s k φ p0 _ hs hi he t=>.inr ⟨.tuple #[],w,_,s,ph,fun b u cs hb=>?_,hs,.refl _ _,qf he t,.word (.releaseMerge (muA c.Mu)) rfl (.inr rfl) rfl ⟨e,e⟩,.inr ei,h⟩
 obtain ⟨fn,f1,f2,f3,f4,f5⟩:=l.ex
 exact stepG_markAt .releaseMerge au g (cA hg) hb.kind p f1 f2 f3 f4 f5 (by simp[eZ,r])
theorem LH (q:Entry c.P f (Extern.Race.marked .releaseMerge))(r:At ops j a f [.pointer (some (stA c.Wg))] d)(g:ph.gp= .cnt)
  (hd:ph.deaf=0) (t:ph.mp= .idle\/ph.mp= .fin) (u:ph.stored=c.bs i)
  (h:ak (WJ c i) fi ops (j+1) n Q (bB a d (.tuple #[])) F {mp:=.fin,gp:=.rel,stored:=ph.stored,deaf:=0}):ak (WJ c i) fi ops j (n+1) Q a F ph:=by
 obtain ⟨o,cR,dN,p,hg,v,y,rfl⟩:=r
 obtain ⟨x,rfl,z⟩:=kO y
 refine gi p (by rw[g];simp) fun w s k φ p0 _ hs hi he l=>.inr ⟨.tuple #[],w,_,s,{mp:=.fin,gp:=.rel,stored:=ph.stored,deaf:=0},fun b A cs hb=>?_,hs,.refl _ _,?_,.rel rfl ⟨hd,rfl⟩ g,.inr ei,h⟩
 .obtain ⟨fn,f1,f2,f3,f4,f5⟩:=q.ex
  exact stepG_markAt .releaseMerge au p (cA hg) hb.kind v f1 f2 f3 f4 f5 (by simp[eZ,z])
 .obtain ⟨C,S,W,L,m,hm⟩:=l.m
  refine l.kL hi he (by rw[g];simp) au ⟨C,S,W,L,m,oq hm hi _ ?_⟩ (vo l.w hi _ (.inr ⟨by rw[he];exact g,rfl⟩)) ?_ (fun _=>⟨u,rfl⟩)
  .rw[he];rcases t with e|e
   .exact .inr ⟨e,rfl⟩
   .exact .inl e.symm
  .have:=l.i.all i hi
   rw[he] at this
   exact (zL this).symm
theorem vC (old nw:Int)(I:Entry c.P f (Extern.Atomic.casT (.int .i32)))(aL:c.Mu≠c.Wg/\c.Mu≠c.Is/\c.Wg≠c.Is)(J:At ops j a f [.pointer (some (muA c.Mu)),.int .i32 old,.int .i32 nw] d)
  (e:ph.gp= .cnt) (B:0<ph.deaf)
  (K:∀φ ms C S W L m,φ i=ph->i<c.n->cL c.n φ old ms C S W L m->∃mp,(∃g h l p q,cL c.n (upd φ i {ph with mp:=mp}) nw ms g h l p q)/\ak (WJ c i) fi ops (j+1) n Q (bB a d (.bool true)) F {ph with mp:=mp})
  (M:∀φ mu ms C S W L m,φ i=ph->i<c.n->cL c.n φ mu ms C S W L m->mu≠old->∃mp,(∃g h l p q,cL c.n (upd φ i {ph with mp:=mp}) mu ms g h l p q)/\ak (WJ c i) fi ops (j+1) n Q (bB a d (.bool false)) F {ph with mp:=mp}):ak (WJ c i) fi ops j (n+1) Q a F ph:=by
 obtain ⟨o,cR,dN,r,hg,D,N,rfl⟩:=J
 obtain ⟨x,y,z,rfl,E,G,H⟩:=sF N
 obtain ⟨fn,f1,f2,f3,f4,f5⟩:=I.ex
 refine gi r (by rw[e];simp) fun w s k φ p0 _ hs hi he t=>.inr ?_
 obtain ⟨C,S,W,L,m,hm⟩:=t.m
 by_cases u:s.mu=old
 .subst u
  obtain ⟨mp,v,A⟩:=K φ s.ms C S W L m he hi hm
  exact ⟨.bool true,_,_,{s with mu:=nw},{ph with mp:=mp},fun b O cs hb=>stepG_cas_hit r (cA hg) hb.kind D f1 f2 f3 f4 .i32 f5 E G H hs.mu.1 hs.mu.2,hs.Eh aL nw,.set _ (.inl rfl),t.mutex hi he e v,zJ rfl Iff.rfl B (.inr ⟨rfl,e⟩),.inr ei,A⟩
 .obtain ⟨mp,v,A⟩:=M φ s.mu s.ms C S W L m he hi hm u
  exact ⟨.bool false,_,_,{s with mu:=s.mu},{ph with mp:=mp},fun b O cs hb=>stepG_cas_miss r (cA hg) hb.kind D f1 f2 f3 f4 .i32 f5 E G H hs.mu.1 hs.mu.2 u,hs,.refl _ _,t.mutex hi he e v,zI false rfl Iff.rfl B (.inr ⟨rfl,e⟩),.inr ei,A⟩
theorem zN (dl:Int)(q:Entry c.P f (Extern.Atomic.update (Op.intArith .add) .i32 true))(aL:c.Mu≠c.Wg/\c.Mu≠c.Is/\c.Wg≠c.Is)(r:At ops j a f [.pointer (some (muA c.Mu)),.int .i32 dl] d)
  (g:ph.gp= .cnt) (t:0<ph.deaf)
  (h:∀φ mu ms C S W L m,φ i=ph->i<c.n->cL c.n φ mu ms C S W L m->∃mp nw,IntKind.i32.wrap (mu+dl)=nw/\(∃u v z A B,cL c.n (upd φ i {ph with mp:=mp}) nw ms u v z A B)/\ak (WJ c i) fi ops (j+1) n Q (bB a d (.int .i32 nw)) F {ph with mp:=mp}):
  ak (WJ c i) fi ops j (n+1) Q a F ph:=by
 obtain ⟨o,cR,dN,l,hg,D,E,rfl⟩:=r
 obtain ⟨x,y,rfl,G,H⟩:=sE E
 obtain ⟨fn,f1,f2,f3,f4,f5⟩:=q.ex
 refine gi l (by rw[g];simp) fun w s k φ p0 _ hs hi he p=>.inr ?_
 obtain ⟨C,S,W,L,m,hm⟩:=p.m
 obtain ⟨mp,nw,e,I,J⟩:=h φ s.mu s.ms C S W L m he hi hm
 exact ⟨.int .i32 nw,_,_,{s with mu:=nw},{ph with mp:=mp},fun b K cs hb=>by rw[<-e];exact stepG_add_atomic l (cA hg) hb.kind D f1 f2 f3 f4 .i32 f5 G H hs.mu.1 hs.mu.2,by rw[<-e];exact hs.Eh aL _,.set _ (.inl rfl),p.mutex hi he g I,zJ rfl Iff.rfl t (.inr ⟨rfl,g⟩),.inr ei,J⟩
theorem qg {ty:TypeId}(p:(c.P.funcs[fi]?).any (·.norace)=true)(e:c.P.underlying ty=some (.int .i32)){x:Operand}(q:ou ops j a (.load ty x) d)(f:ph.gp= .cnt)(r:ev a x= .pointer (some (muA c.Mu)))
  (h:∀φ mu ms C S W L m,φ i=ph->i<c.n->cL c.n φ mu ms C S W L m->∃mp,(∃t u v y z,cL c.n (upd φ i {ph with mp:=mp}) mu ms t u v y z)/\ak (WJ c i) fi ops (j+1) n Q (bB a d (.int .i32 mu)) F {ph with mp:=mp}):
  ak (WJ c i) fi ops j (n+1) Q a F ph:=by
 obtain ⟨o,g,hg,A,rfl⟩:=q
 refine gi g (by rw[f];simp) fun w s k φ p0 _ hs hi he l=>.inr ?_
 obtain ⟨C,S,W,L,m,hm⟩:=l.m
 obtain ⟨mp,B,D⟩:=h φ s.mu s.ms C S W L m he hi hm
 have e1:execOp a.eval o=(do pure (.value (<-loadVar ty (muA c.Mu))):Sem Next):=by
  unfold execOp
  simp only[A,eZ,r]
  rfl
 have E:(execOp a.eval o).run c.P w= .ok (.value (.int .i32 s.mu)) w:=by
  rw[e1]
  have:=hs.mu.1
  simp[loadVar,isAgg,run_underlying e,this]
 have G:(execOp a.eval o).events c.P w #[]=#[⟨.cell (muA c.Mu),false,false⟩]:=by
  rw[e1]
  have:=hs.mu.1
  simp[loadVar,isAgg,run_underlying e,events_load,this]
 have H:seen c.P fi #[⟨.cell (muA c.Mu),false,false⟩]=#[]:=by rw[seen_def];simp[seenStep,p]
 refine ⟨.int .i32 s.mu,w,#[],{s with mu:=s.mu},{ph with mp:=mp},fun b I cs hb=>?_,hs,.refl _ _,l.mutex hi he f B,ov rfl Iff.rfl,.inr ei,D⟩
 rw[stepG_value g (cA hg) hb.kind E]
 unfold listed
 rw[G,hb.fn,H]
end
section
variable {c:Cy}{i:Nat}{ph:Ph}{ops:Array Oper}{j n:Nat}{Q:Act->af->Ph->Prop}{a:Act}{F:af}{f fi:FuncId}{d:Option Tmp}
theorem LI (t u:Value)(v:Entry c.P f Extern.Sync.semacquire)(aL:c.Mu≠c.Wg/\c.Mu≠c.Is/\c.Wg≠c.Is)(A:At ops j a f [.pointer (some (msA c.Mu)),t,u] d)
  (e:ph.gp= .cnt) {G:Nat} (hm:ph.mp= .jk G) (h:ak (WJ c i) fi ops (j+1) n Q (bB a d (.tuple #[])) F {ph with mp:=.kJ G}):ak (WJ c i) fi ops j (n+1) Q a F ph:=by
 obtain ⟨o,cR,dN,g,hg,p,B,rfl⟩:=A
 obtain ⟨x,y,z,rfl,q,_,_⟩:=sF B
 obtain ⟨fn,f1,f2,f3,f4,f5⟩:=v.ex
 refine gi g (by rw[e];simp) fun w s k φ p0 _ hs hi he r=>?_
 by_cases l:s.ms=0
 .refine .inl ⟨by rw[hm];rfl,l,fun b D cs=>stepG_semacquire_wait g (cA hg) p f1 f2 f3 f4 f5 (ad:=msA c.Mu) (by simp[eZ,q]) (by rw[hs.ms.1,l])⟩
 .obtain ⟨C,S,W,L,m,hM⟩:=r.m
  have hc:=hM.cnt
  refine .inr ⟨.tuple #[],_,_,{s with ms:=s.ms - 1},{ph with mp:=.kJ G},fun b D cs hb=>stepG_semacquire g (cA hg) hb.kind p f1 f2 f3 f4 f5 (by simp[eZ,q]) hs.ms.1 l hs.ms.2,hs.Ei aL _,.set _ (.inl rfl),
   r.mutex hi he e ⟨C,S,W,L,m - 1,KM hM hi _ (by rw[he];exact hm) rfl aa⟩,zK rfl Iff.rfl (.inr ⟨rfl,e⟩),.inr ⟨by simp only;omega,Int.le_refl _⟩,h⟩
theorem Em (t u:Value)(l:Entry c.P f Extern.Sync.semrelease)(aL:c.Mu≠c.Wg/\c.Mu≠c.Is/\c.Wg≠c.Is)(v:At ops j a f [.pointer (some (msA c.Mu)),t,u] d)
  (e:ph.gp= .cnt) (hm:ph.mp= .pZ\/ph.mp= .p5) (h:ak (WJ c i) fi ops (j+1) n Q (bB a d (.tuple #[])) F {ph with mp:=.fin}):ak (WJ c i) fi ops j (n+1) Q a F ph:=by
 obtain ⟨o,cR,dN,p,hg,q,A,rfl⟩:=v
 obtain ⟨x,y,z,rfl,g,_,_⟩:=sF A
 obtain ⟨fn,f1,f2,f3,f4,f5⟩:=l.ex
 refine gi p (by rw[e];simp) fun w s k φ p0 _ hs hi he r=>.inr ?_
 obtain ⟨C,S,W,L,m,hM⟩:=r.m
 have hc:=hM.cnt
 have hb:=hM.st.w
 have D:=hM.st.s
 have E:m<=1:=by
  rcases Nat.lt_or_ge S 1 with y|y
  .have:=hM.norm aa;omega
  .have:=hM.gG aa;omega
 have B:IntKind.u32.wrap (s.ms+1)=s.ms+1:=by
  unfold IntKind.wrap
  simp[IntKind.bits,IntKind.signed]
  omega
 refine ⟨.tuple #[],_,_,{s with ms:=s.ms+1},{ph with mp:=.fin},fun b G cs hb=>stepG_semrelease p (cA hg) hb.kind q f1 f2 f3 f4 f5 (by simp[eZ,g]) hs.ms.1 hs.ms.2,by rw[B];exact hs.Ei aL _,.set _ (.inl rfl),
  r.mutex hi he e ⟨C,S,W,L,m+1,KS hM hi _ (by rw[he];exact hm) rfl⟩,zK rfl Iff.rfl (.inr ⟨rfl,e⟩),.inl ⟨_,q,fun x g=>?_⟩,h⟩
 cases g
 exact ⟨f,rfl,l.D8⟩
theorem En (l:Entry c.P f Extern.OsHooks.nano)(e:(c.P.funcs[f]?).any (·.norace)=true){vals:List Value}(m:At ops j a f vals d)
  (p:ph.gp≠ .gone) (h:∀x:Int,ak (WJ c i) fi ops (j+1) n Q (bB a d (.int .i64 x)) F ph):ak (WJ c i) fi ops j (n+1) Q a F ph:=by
 obtain ⟨o,cR,dN,g,hg,q,_,rfl⟩:=m
 obtain ⟨fn,f1,f2,f3,f4,f5⟩:=l.ex
 refine gi g p fun w s k φ p0 _ hs hi he r=>.inr ⟨_,w.later,#[],s,ph,fun b t cs hb=>stepG_nanotime g (cA hg) hb.kind q f1 f2 f3 f4 f5 (by rw[f1] at e;simpa using e),hs,⟨rfl,rfl,rfl,⟨w.tick,rfl⟩,fun _ _=>rfl⟩,qf he r,ov rfl Iff.rfl,.inr ei,h _⟩
theorem LJ (it:Int)(m:Entry c.P f Extern.Sync.canSpin)(p:At ops j a f [.int .i64 it] d)
  (q:ph.gp≠ .gone) (h:∀t:Bool,(t=true->it<4)->ak (WJ c i) fi ops (j+1) n Q (bB a d (.bool t)) F ph):ak (WJ c i) fi ops j (n+1) Q a F ph:=by
 obtain ⟨o,cR,dN,e,hg,g,r,rfl⟩:=p
 obtain ⟨x,rfl,u⟩:=kO r
 obtain ⟨fn,f1,f2,f3,f4,f5⟩:=m.ex
 have hm:(#[x]:Array Operand).map a.eval=#[.int .i64 it]:=by simp[eZ,u]
 refine gi e q fun w s k φ p0 _ hs hi he l=>.inr ?_
 by_cases v:4<=it
 .exact ⟨_,w,#[],s,ph,fun b y cs hb=>stepG_canSpin_no e (cA hg) hb.kind g f1 f2 f3 f4 f5 hm v,hs,.refl _ _,qf he l,ov rfl Iff.rfl,.inr ei,h false au⟩
 .exact ⟨_,w.asked,#[],s,ph,fun b y cs hb=>stepG_canSpin_ask e (cA hg) hb.kind g f1 f2 f3 f4 f5 hm aa,hs,⟨rfl,rfl,rfl,.refl _,fun _ _=>rfl⟩,qf he l,ov rfl Iff.rfl,.inr ei,h _ (fun _=>aa)⟩
end
theorem ak.entry {P:Program}{main:Bool}{S:Type}{JF:S->Goroutine->af->Prop}{fi f:FuncId}{ops:Array Oper}{j n:Nat}{Q:Act->af->S->Prop}{a:Act}{F:af}{ph:S}{d:Option Tmp}(v:Value)(hM:eF P main (JF ph))(e:Entry P f (fun _=>pure v))
  {vals:List Value} (g:At ops j a f vals d) (h:ak JF fi ops (j+1) n Q (bB a d v) F ph):ak JF fi ops j (n+1) Q a F ph:=fun b c cs hb i=>by
 obtain ⟨fn,f1,f2,f3,f4,f5⟩:=e.ex
 obtain ⟨o,cR,dN,k,hg,l,_,rfl⟩:=g
 rw[List.range'_succ,e6 hb.round]
 refine hM.move (fr':=b.at (a.put o.dst v) (.inRegion ops (List.range' (j+1) n)::c)) (fun w=>stepG_entry_pure v k (cA hg) hb.kind l f1 f2 f3 f4 f5) (by rw[<-e6 hb.round];exact h b c cs hb i)
section
variable {c:Cy}{i:Nat}{ph:Ph}{ops:Array Oper}{j n:Nat}{Q:Act->af->Ph->Prop}{a:Act}{F:af}{f fi:FuncId}{d:Option Tmp}
theorem vD (ad:Addr){src dst t:TypeId}(hs:c.P.underlying src=some (.pointer t))(hd:c.P.underlying dst=some .unsafePointer)(e:(c.P.info? t).map (fun i=>decide (i.size=0))=some false){x:Operand}
  (m:ou ops j a (.convert src dst x) d) (p:ph.gp≠ .gone) (q:ev a x= .pointer (some ad)) (hc:∀w s,cQ c w s->∃v,w.cell? ad=some v) (h:ak (WJ c i) fi ops (j+1) n Q (bB a d (.pointer (some ad))) F ph):ak (WJ c i) fi ops j (n+1) Q a F ph:=by
 obtain ⟨o,f,hg,r,rfl⟩:=m
 refine gi f p fun w s k φ p0 _ g hi he u=>.inr ⟨_,w,#[],s,ph,fun b A cs hb=>?_,g,.refl _ _,qf he u,ov rfl Iff.rfl,.inr ei,h⟩
 obtain ⟨v,l⟩:=hc w s g
 have e1:execOp a.eval o=(do pure (.value (<-convert src dst (.pointer (some ad)))):Sem Next):=by
  unfold execOp
  simp only[r,eZ,q]
 have y:(execOp a.eval o).run c.P w= .ok (.value (.pointer (some ad))) w:=by
  rw[e1];simp[run_convert_to_unsafe hs hd e l]
 have z:(execOp a.eval o).events c.P w #[]=#[]:=by
  rw[e1];simp[events_convert_to_unsafe hs hd e l]
 rw[stepG_value f (cA hg) hb.kind y]
 unfold listed
 rw[z,seen_none]
theorem LK {ty:TypeId}(J:c.P.underlying ty=some .bool)(z:cj c.P ty=some 1)(A:(c.P.funcs[fi]?).any (·.norace)=false)(aL:c.Mu≠c.Wg/\c.Mu≠c.Is/\c.Wg≠c.Is){x y:Operand}
  (B:ou ops j a (.store ty x y) d) (e:ph.gp= .cnt) (g:ev a x= .pointer (some ⟨c.Is,i,none⟩)) (l:ev a y= .bool true) (h:ak (WJ c i) fi ops (j+1) n Q (bB a d undef) F {ph with stored:=true}):ak (WJ c i) fi ops j (n+1) Q a F ph:=by
 obtain ⟨o,p,hg,q,rfl⟩:=B
 refine gi p (by rw[e];simp) fun w s k φ p0 _ hs hi he f=>.inr ?_
 have hlen:=f.i.len
 have r:w.cell? ⟨c.Is,i,none⟩=some (.bool (s.is[i]'aa)):=by
  have:=hs.2.2
  simp[World.cell?,this,hlen,hi]
 have t:w.frozen? ⟨c.Is,i,none⟩=false:=by
  have:=hs.2.2
  simp[World.frozen?,this]
 have u:(sizeOf ty).run c.P w= .ok 1 w:=by
  obtain ⟨inf,e,D⟩:=Option.map_eq_some_iff.1 z
  simp[Go.sizeOf,typeInfo,e,D]
 have v:Instr.sureAddr (.pointer (some ⟨c.Is,i,none⟩))=(Pure.pure ⟨c.Is,i,none⟩:Sem Addr):=rfl
 have E:(execOp a.eval o).run c.P w= .ok .skip (w.setCell ⟨c.Is,i,none⟩ (.bool true)):=by
  unfold execOp
  simp only[q,eZ,g,l]
  simp[Instr.storeAt,v,storeVar,u,Value.cells,storeCells,Addr.add,r,t,run_store c.P w ⟨c.Is,i,none⟩ (.bool true) .plain rfl,Result.andThen]
 have G:(execOp a.eval o).events c.P w #[]=#[⟨.cell ⟨c.Is,i,none⟩,true,false⟩]:=by
  unfold execOp
  simp only[q,eZ,g,l]
  simp[Instr.storeAt,v,storeVar,u,Value.cells,storeCells,Addr.add,r,t,events_store c.P w _ ⟨c.Is,i,none⟩ (.bool true) .plain rfl,run_store c.P w ⟨c.Is,i,none⟩ (.bool true) .plain rfl,Result.evThen]
 have H:seen c.P fi #[⟨.cell ⟨c.Is,i,none⟩,true,false⟩]=#[⟨.cell ⟨c.Is,i,none⟩,true,false⟩]:=by rw[seen_def];simp[seenStep,A]
 obtain ⟨C,S,W,L,m,hm⟩:=f.m
 refine ⟨undef,_,_,{s with is:=s.is.set i true},{ph with stored:=true},fun b K cs hb=>?_,hs.LC aL i true,.set _ (.inr (.inr rfl)),?_,.store rfl rfl ⟨e,e⟩,.inr ei,h⟩
 .rw[stepG_none p (cA hg) hb.kind E]
  unfold listed
  rw[G,hb.fn,H]
 .exact f.kL hi he (by rw[e];simp) (by simp[e]) ⟨C,S,W,L,m,oq hm hi _ (.inl (by rw[he]))⟩ (vo f.w hi _ (.inl (by rw[he]))) rfl (fun I=>absurd e I)
end
theorem ak.shr {P:Program}{main:Bool}{S:Type}{JF:S->Goroutine->af->Prop}{fi:FuncId}{ops:Array Oper}{j n:Nat}{Q:Act->af->S->Prop}{a:Act}{F:af}{ph:S}{d:Option Tmp}{t f:TypeId}{k b:IntKind}{u m:Int}(v:Int)(hM:eF P main (JF ph)){x y:Operand}
  (g:ou ops j a (.binOp .shr t x y f) d) (i:ev a x= .int k u) (l:ev a y= .int b m) (hm:0<=m) (c:u.fdiv (2 ^ min m.toNat k.bits)=v) (h:ak JF fi ops (j+1) n Q (bB a d (.int k v)) F ph):ak JF fi ops j (n+1) Q a F ph:=by
 obtain ⟨o,p,hg,q,rfl⟩:=g
 have e:¬m<0:=aa
 have e1:execOp a.eval o=(do eqGuard .shr t x y (.int k u) (.int b m);pure (.value (<-binOp .shr t (.int k u) (.int b m))):Sem Next):=by
  unfold execOp
  simp only[q,eZ,i,l]
  simp
 refine ak.plain hM (.int k v) p hg (fun w=>?_) (fun w=>?_) h
 .rw[e1];subst c;simp[eqGuard,binOp,Op.shift,e]
 .rw[e1];subst c;simp[eqGuard,binOp,Op.shift,e]
theorem ak.ow {P:Program}{main:Bool}{S:Type}{JF:S->Goroutine->af->Prop}{fi:FuncId}{ops:Array Oper}{j n:Nat}{Q:Act->af->S->Prop}{a:Act}{F:af}{ph:S}{d:Option Tmp}{t b:TypeId}(u v:Int)(hM:eF P main (JF ph)){x y:Operand}
  (c:ou ops j a (.binOp .shr t x y b) d) (e:ev a x= .int .i32 u) (f:ev a y= .int .u64 3) (g:u.fdiv 8=v) (h:ak JF fi ops (j+1) n Q (bB a d (.int .i32 v)) F ph):ak JF fi ops j (n+1) Q a F ph:=
 ak.shr v hM c e f aB g h
end Go.Sep
end
section
namespace Go.Proofs.YtbpddfapodiemaaGreatDoor
open Go Go.Sep Go.Proofs Go.Conc
open Go.ConcN (upd upd_same)
open Go.ConcM (muA msA)
open Go.ConcR (stA smA)
set_option maxRecDepth 100000
set_option maxHeartbeats 4000000
attribute [local go_sem] Int.reduceBEq Int.reduceBNe muA msA stA smA
section
variable {Mu Wg Is n base T0 i:Nat}{bs:Nat->Bool}{st:Bool}{F:af}
theorem zO (w:World)(s:Sh)(h:cQ (CY Mu Wg Is n bs base T0) w s):∃v,w.cell? ⟨Mu,0,none⟩=some v:=⟨_,h.mu.1⟩
theorem LL (aL:Mu≠Wg/\Mu≠Is/\Wg≠Is)
  (a:cX Tryz.prog (WJ (CY Mu Wg Is n bs base T0) i) 186 #[.pointer (some (muA Mu))] F ⟨.idle,.cnt,st,1⟩ (fun v F' aU=>v= .tuple #[]/\F'=F/\aU=⟨.held,.cnt,st,0⟩)):
  cX Tryz.prog (WJ (CY Mu Wg Is n bs base T0) i) 165 #[.pointer (some (muA Mu))] F ⟨.idle,.cnt,st,0⟩ (fun v F' aU=>v= .tuple #[]/\F'=F/\aU=⟨.held,.cnt,st,0⟩):=by
 have hM:=WJ.eR (CY Mu Wg Is n bs base T0) i
 have hJ:∀ph:Ph,ph.gp= .cnt->Go.Sep.Closed Tryz.prog false (WJ (CY Mu Wg Is n bs base T0) i ph):=fun ph h=>Wk.closed (CY Mu Wg Is n bs base T0) i ph h
 refine cX.go (main:=false) hM Tryz.func165 rfl Tryz.ntmps165 au fun A c hd hs=>?_
 have d:=hs 0
 clear hs
 repeat apply aI (hM _)
 refine dB hM ?_
 refine zM sD ⟨_,_,_,rfl,(by first|rfl|simp only[*,go_sem]),rfl,by first|(simp only[*,go_sem];done)|(simp only[*,go_sem];rfl),rfl⟩ au au ?_
 refine ak.nil hM ?_;try simp only[go_sem]
 repeat apply aI (hM _)
 refine dB hM ?_
 refine ak.bK (hJ _ rfl) 3 (n:=1) _ rfl rfl ?_;apply ag _
 refine vC 0 1 vw aL ⟨_,_,_,rfl,(by first|rfl|simp only[*,go_sem]),rfl,by first|(simp only[*,go_sem];done)|(simp only[*,go_sem];rfl),rfl⟩ (by rfl) au (fun φ ms C S W L m he hi hm=>⟨.held,⟨0,0,0,1,m,KG hm hi _ (by rw[he]) rfl rfl⟩,?_⟩) (fun φ mu ms C S W L m he hi hm e=>⟨.idle,⟨C,S,W,L,m,oq hm hi _ (.inl (by rw[he]))⟩,?_⟩)
 .refine ak.nil hM ?_;try simp only[go_sem]
  repeat apply aI (hM _)
  refine dA (hM _) aN ?_
  repeat apply aI (hM _)
  refine dA (hM _) aN ?_
  repeat apply aI (hM _)
  refine dB hM ?_
  refine vB mP ⟨_,_,_,rfl,(by first|rfl|simp only[*,go_sem]),rfl,by first|(simp only[*,go_sem];done)|(simp only[*,go_sem];rfl),rfl⟩ au au rfl ?_
  refine ak.nil hM ?_;try simp only[go_sem]
  repeat apply aI (hM _)
  refine dB hM ?_
  refine ak.bK (hJ _ rfl) 1 (n:=2) _ rfl rfl ?_;apply ag _
  refine vD ⟨Mu,0,none⟩ zD mQ zF ⟨_,rfl,(by first|rfl|simp only[*,go_sem]),rfl,rfl⟩ au aN zO ?_
  refine El vv ⟨_,_,_,rfl,(by first|rfl|simp only[*,go_sem]),rfl,by first|(simp only[*,go_sem];done)|(simp only[*,go_sem];rfl),rfl⟩ (by rfl) ?_
  refine ak.nil hM ?_;try simp only[go_sem]
  refine gh ?_;try simp only[go_sem]
  exact qc rfl aN ⟨rfl,rfl,rfl⟩
 .refine ak.nil hM ?_;try simp only[go_sem]
  repeat apply aI (hM _)
  refine cV (hM _) aN ?_
  apply cY (hM _);try simp only[go_sem]
  repeat apply aI (hM _)
  refine dB hM ?_
  refine ak.bK (hJ _ rfl) 1 (n:=1) _ rfl rfl ?_;apply ag _
  refine ak.gJ (hM _) rfl rfl rfl Gq (by simp only[*,go_sem,muA]) a fun v F' aU b=>?_
  obtain ⟨rfl,rfl,rfl⟩:=b
  refine ak.nil hM ?_
  exact mN rfl aN ⟨rfl,rfl,rfl⟩
def jX (C S W:Nat)(nw:Int)(G:Nat):Mp:=if S=1 then .p5 else if 0<C/\W=0 then .g5 nw G else .fin
def LM (Mu n:Nat)(st:Bool)(F:af)(m:Nat)(a:Act)(F':af)(aU:Ph):Prop:=
 ∃(old:Int) (C S W L G:Nat),F'=F/\slot a 0= .pointer (some ⟨Mu,0,none⟩)/\slot a 4= .int .i32 old/\sz a=43/\a.defers=[]/\Wd old C S W L/\C<=3*n/\G<=m/\
   ((S=0/\L=0/\W=0/\0<C/\aU=⟨.g5 old G,.cnt,st,1⟩)\/(¬(S=0/\L=0/\W=0/\0<C)/\aU=⟨.fin,.cnt,st,1⟩))
theorem LN (aL:Mu≠Wg/\Mu≠Is/\Wg≠Is)(Y:n<67108864){nw:Int}{C S W G:Nat}(hw:Wd nw C S W 0)(hC:C<=3*n):
  cX Tryz.prog (WJ (CY Mu Wg Is n bs base T0) i) 188 #[.pointer (some (muA Mu)),.int .i32 nw] F ⟨jX C S W nw G,.cnt,st,1⟩ (fun v F' aU=>v= .tuple #[]/\F'=F/\aU=⟨.fin,.cnt,st,1⟩):=by
 have hM:=WJ.eR (CY Mu Wg Is n bs base T0) i
 have hJ:∀ph:Ph,ph.gp= .cnt->Go.Sep.Closed Tryz.prog false (WJ (CY Mu Wg Is n bs base T0) i ph):=fun ph h=>Wk.closed (CY Mu Wg Is n bs base T0) i ph h
 refine cX.go (main:=false) hM Tryz.func188 rfl Tryz.ntmps188 au fun A r hd hs=>?_
 have t:=hs 0
 have k1:=hs 1
 clear hs
 have u:=hw.st.s
 have hW:=hw.st.w
 have w1:IntKind.i32.wrap (nw+1)=nw+1:=by have e0:=hw.st.eq;exact jm aa aa
 have y:Wd (nw+1) C S W 1:=by have e0:=hw.st.eq;exact wd ⟨aa,aa,hW,u⟩ aa
 have I:eE (nw+1) 1=1:=y.a1
 repeat apply aI (hM _)
 refine dB hM ?_
 refine ak.bK (hJ _ rfl) 4 (n:=0) _ rfl rfl ?_;apply ag _
 refine ak.nil hM ?_;try simp only[go_sem]
 repeat apply aI (hM _)
 refine cV (hM _) aN ?_
 apply cY (hM _);try simp only[go_sem]
 rcases (by omega:S=1\/S=0) with rfl|rfl
 ·
  have b4:eE nw 4=4:=hw.a4
  repeat apply aI (hM _)
  refine dB hM ?_
  refine ak.bK (hJ _ rfl) 3 (n:=0) _ rfl rfl ?_;apply ag _
  refine ak.nil hM ?_;try simp only[go_sem]
  repeat apply aI (hM _)
  refine cV (hM _) aN ?_
  repeat apply aI (hM _)
  refine dB hM ?_
  refine ak.bK (hJ _ rfl) 3 (n:=1) _ rfl rfl ?_;apply ag _
  refine Em (.bool true) (.int .i64 2) Ea aL ⟨_,_,_,rfl,(by first|rfl|simp only[*,go_sem]),rfl,by first|(simp only[*,go_sem];done)|(simp only[*,go_sem];rfl),rfl⟩ (by rfl) (by simp[jX]) ?_
  refine ak.nil hM ?_;try simp only[go_sem]
  exact mN rfl aN ⟨rfl,rfl,rfl⟩
 .have b4:eE nw 4=0:=hw.a4
  repeat apply aI (hM _)
  refine dB hM ?_
  refine ak.bK (hJ _ rfl) 3 (n:=0) _ rfl rfl ?_;apply ag _
  refine ak.nil hM ?_;try simp only[go_sem]
  repeat apply aI (hM _)
  refine dA (hM _) aN ?_
  repeat apply aI (hM _)
  refine dB hM ?_
  refine ak.bK (hJ _ rfl) 2 (n:=0) _ rfl rfl ?_;apply ag _
  refine ak.nil hM ?_;try simp only[go_sem]
  repeat apply aI (hM _)
  refine kM hM ?_
  refine sC hM (fun m J F' aU=>LM Mu n st F m J F' aU) G ?_ ?_
  .refine ⟨nw,C,0,W,0,G,rfl,by simp only[*,go_sem,muA],aN,aN,aN,hw,hC,Nat.le_refl _,?_⟩
   by_cases hc:0<C/\W=0
   .exact .inl ⟨rfl,rfl,hc.2,hc.1,by simp[jX,hc]⟩
   .exact .inr ⟨fun x=>hc ⟨x.2.2.2,x.2.2.1⟩,by simp[jX,hc]⟩
  .clear hw hC b4 I y w1 u hW t k1 r hd
   rintro m A F' aU ⟨old,C,S,W,L,G,rfl,t,Z,r,hd,hw,hC,ab,K⟩
   repeat apply aI (hM _)
   refine kM hM ?_
   have sh:old.fdiv 8=(C:Int):=hw.sh
   rcases K with ⟨rfl,rfl,rfl,f,rfl⟩|⟨ad,rfl⟩
   ·
    have M:eE old 7=0:=hw.a7
    have z:((C:Int)==0)=false:=by simp;omega
    repeat apply aI (hM _)
    refine dB hM ?_
    refine ak.bK (hJ _ rfl) 1 (n:=7) _ rfl rfl ?_;apply ag _
    refine ak.ow old (C:Int) (hM _) ⟨_,rfl,(by first|rfl|simp only[*,go_sem]),rfl,rfl⟩ aN aN hw.sh ?_
    refine ak.bK (hJ _ rfl) 6 (n:=0) _ rfl rfl ?_;apply ag _
    refine ak.nil hM ?_;try simp only[go_sem]
    repeat apply aI (hM _)
    refine cV (hM _) aN ?_
    apply cY (hM _);try simp only[go_sem]
    have ae:IntKind.i32.wrap (old - 8)=old - 8:=by have e0:=hw.st.eq;exact jm aa aa
    have N:Wd (old - 8) (C - 1) 0 0 0:=by have e0:=hw.st.eq;exact wd ⟨aa,aa,aa,aa⟩ aa
    have o2:jS (old - 8) 2=old - 8+2:=N.o2
    repeat apply aI (hM _)
    refine dB hM ?_
    refine ak.bK (hJ _ rfl) 4 (n:=0) _ rfl rfl ?_;apply ag _
    refine ak.nil hM ?_;try simp only[go_sem]
    repeat apply aI (hM _)
    refine dB hM ?_
    refine ak.bK (hJ _ rfl) 5 (n:=1) _ rfl rfl ?_;apply ag _
    refine vC old (old - 8+2) vw aL ⟨_,_,_,rfl,(by first|rfl|simp only[*,go_sem]),rfl,by first|(simp only[*,go_sem];done)|(simp only[*,go_sem];rfl),rfl⟩ (by rfl) au (fun φ ms O P Q R g he hi hm=>?_) (fun φ mu ms O P Q R g he hi hm T=>?_)
    .obtain ⟨rfl,rfl,rfl,rfl⟩:=hm.st.uniq hw.st
     refine ⟨.pZ,⟨_,_,_,_,g,KQ hm hi _ (by rw[he]) rfl rfl rfl rfl f⟩,?_⟩
     refine ak.nil hM ?_;try simp only[go_sem]
     repeat apply aI (hM _)
     refine dA (hM _) aN ?_
     repeat apply aI (hM _)
     refine dB hM ?_
     refine ak.bK (hJ _ rfl) 3 (n:=1) _ rfl rfl ?_;apply ag _
     refine Em (.bool false) (.int .i64 2) Ea aL ⟨_,_,_,rfl,(by first|rfl|simp only[*,go_sem]),rfl,by first|(simp only[*,go_sem];done)|(simp only[*,go_sem];rfl),rfl⟩ (by rfl) au ?_
     refine ak.nil hM ?_;try simp only[go_sem]
     refine gh ?_;try simp only[go_sem]
     exact qc rfl aN ⟨rfl,rfl,rfl⟩
    .obtain ⟨U,al,V⟩:=KR hm hi {mp:=.g5 mu (b8 n φ ms),gp:=.cnt,stored:=st,deaf:=1} (by rw[he]) rfl
     have ao:b8 n φ ms<G:=V T
     refine ⟨.g5 mu (b8 n φ ms),⟨_,_,_,_,g,U⟩,?_⟩
     refine ak.nil hM ?_;try simp only[go_sem]
     repeat apply aI (hM _)
     refine cV (hM _) aN ?_
     apply cY (hM _);try simp only[go_sem]
     repeat apply aI (hM _)
     refine dB hM ?_
     refine ak.bK (hJ _ rfl) 3 (n:=2) _ rfl rfl ?_;apply ag _
     refine qg LB qd ⟨_,rfl,(by first|rfl|simp only[*,go_sem]),rfl,rfl⟩ (by rfl) aN (fun b e c j k l o B D E d=>?_)
     have H:=wd d.st (by have:=d.bound;simp only[CY] at this;omega)
     by_cases a:k=0/\o=0/\l=0/\0<j
     .obtain ⟨p,q,_⟩:=DK d E {mp:=.g5 e (b8 n b c),gp:=.cnt,stored:=st,deaf:=1} (by rw[D]) (.inl ⟨a.1,a.2.1,a.2.2.1,a.2.2.2,rfl⟩)
      have X:b8 n b c<=b8 n φ ms:=q
      refine ⟨.g5 e (b8 n b c),⟨_,_,_,_,B,p⟩,?_⟩
      refine ak.bK (hJ _ rfl) 1 (n:=0) _ rfl rfl ?_;apply ag _
      refine ak.nil hM ?_;try simp only[go_sem]
      exact ⟨b8 n b c,aa,e,j,k,l,o,b8 n b c,rfl,aN,aN,aN,aN,H,d.bound,Nat.le_refl _,.inl ⟨a.1,a.2.1,a.2.2.1,a.2.2.2,rfl⟩⟩
     .obtain ⟨p,q,_⟩:=DK d E {mp:=.fin,gp:=.cnt,stored:=st,deaf:=1} (by rw[D]) (.inr ⟨a,rfl⟩)
      have X:b8 n b c<=b8 n φ ms:=q
      refine ⟨.fin,⟨_,_,_,_,B,p⟩,?_⟩
      refine ak.bK (hJ _ rfl) 1 (n:=0) _ rfl rfl ?_;apply ag _
      refine ak.nil hM ?_;try simp only[go_sem]
      exact ⟨b8 n b c,aa,e,j,k,l,o,b8 n b c,rfl,aN,aN,aN,aN,H,d.bound,Nat.le_refl _,.inr ⟨a,rfl⟩⟩
   ·
    by_cases f:C=0
    .have z:((C:Int)==0)=true:=by simp[f]
     repeat apply aI (hM _)
     refine dB hM ?_
     refine ak.bK (hJ _ rfl) 1 (n:=7) _ rfl rfl ?_;apply ag _
     refine ak.ow old (C:Int) (hM _) ⟨_,rfl,(by first|rfl|simp only[*,go_sem]),rfl,rfl⟩ aN aN hw.sh ?_
     refine ak.bK (hJ _ rfl) 6 (n:=0) _ rfl rfl ?_;apply ag _
     refine ak.nil hM ?_;try simp only[go_sem]
     repeat apply aI (hM _)
     refine dA (hM _) aN ?_
     refine gh ?_;try simp only[go_sem]
     exact qc rfl aN ⟨rfl,rfl,rfl⟩
    .have z:((C:Int)==0)=false:=by simp;omega
     have M:=hw.a7
     have ar:(((4*S+(2*W+L):Nat):Int) != 0)=true:=by simp;omega
     repeat apply aI (hM _)
     refine dB hM ?_
     refine ak.bK (hJ _ rfl) 1 (n:=7) _ rfl rfl ?_;apply ag _
     refine ak.ow old (C:Int) (hM _) ⟨_,rfl,(by first|rfl|simp only[*,go_sem]),rfl,rfl⟩ aN aN hw.sh ?_
     refine ak.bK (hJ _ rfl) 6 (n:=0) _ rfl rfl ?_;apply ag _
     refine ak.nil hM ?_;try simp only[go_sem]
     repeat apply aI (hM _)
     refine dA (hM _) aN ?_
     refine gh ?_;try simp only[go_sem]
     exact qc rfl aN ⟨rfl,rfl,rfl⟩
theorem LO (aL:Mu≠Wg/\Mu≠Is/\Wg≠Is)(g:n<67108864):
  cX Tryz.prog (WJ (CY Mu Wg Is n bs base T0) i) 166 #[.pointer (some (muA Mu))] F ⟨.held,.cnt,st,0⟩ (fun v F' aU=>v= .tuple #[]/\F'=F/\aU=⟨.fin,.cnt,st,0⟩):=by
 have hM:=WJ.eR (CY Mu Wg Is n bs base T0) i
 have hJ:∀ph:Ph,ph.gp= .cnt->Go.Sep.Closed Tryz.prog false (WJ (CY Mu Wg Is n bs base T0) i ph):=fun ph h=>Wk.closed (CY Mu Wg Is n bs base T0) i ph h
 refine cX.go (main:=false) hM Tryz.func166 rfl Tryz.ntmps166 au fun A u hd hs=>?_
 have x:=hs 0
 clear hs
 repeat apply aI (hM _)
 refine dA (hM _) aN ?_
 repeat apply aI (hM _)
 refine dB hM ?_
 refine ak.bK (hJ _ rfl) 3 (n:=1) _ rfl rfl ?_;apply ag _
 refine qg LA qd ⟨_,rfl,(by first|rfl|simp only[*,go_sem]),rfl,rfl⟩ (by rfl) aN (fun y z B D E G H j k l o=>⟨.held,⟨_,_,_,_,j,oq o l _ (.inl (by rw[k]))⟩,?_⟩)
 refine ak.nil hM ?_;try simp only[go_sem]
 repeat apply aI (hM _)
 refine dB hM ?_
 refine ak.bK (hJ _ rfl) 1 (n:=2) _ rfl rfl ?_;apply ag _
 refine vD ⟨Mu,0,none⟩ zD mQ zF ⟨_,rfl,(by first|rfl|simp only[*,go_sem]),rfl,rfl⟩ au aN zO ?_
 refine LG D9 ⟨_,_,_,rfl,(by first|rfl|simp only[*,go_sem]),rfl,by first|(simp only[*,go_sem];done)|(simp only[*,go_sem];rfl),rfl⟩ (by rfl) ?_
 refine ak.nil hM ?_;try simp only[go_sem]
 repeat apply aI (hM _)
 refine dB hM ?_
 refine zM sD ⟨_,_,_,rfl,(by first|rfl|simp only[*,go_sem]),rfl,by first|(simp only[*,go_sem];done)|(simp only[*,go_sem];rfl),rfl⟩ au au ?_
 refine ak.nil hM ?_;try simp only[go_sem]
 repeat apply aI (hM _)
 refine dB hM ?_
 refine ak.bK (hJ _ rfl) 3 (n:=2) _ rfl rfl ?_;apply ag _
 refine zN (-1) zB aL ⟨_,_,_,rfl,(by first|rfl|simp only[*,go_sem]),rfl,by first|(simp only[*,go_sem];done)|(simp only[*,go_sem];rfl),rfl⟩ (by rfl) au (fun φ mu ms C S W L m he hi hm=>?_)
 have p:=DJ hm hi (by rw[he])
 subst p
 have hb:C<=3*n:=hm.bound
 have q:=hm.st.s
 have hW:=hm.st.w
 have c:IntKind.i32.wrap (mu+ -1)=mu - 1:=by have e0:=hm.st.eq;exact jm aa aa
 have f:St (mu - 1) C S W 0:=⟨by have e0:=hm.st.eq;omega,aa,hW,q⟩
 have hw:Wd (mu - 1) C S W 0:=wd f aa
 have d:cL n (upd φ i ⟨jX C S W (mu - 1) (sm n φ Mp.wt+2*m),.cnt,st,1⟩) (mu - 1) ms C S W 0 m:=by
  refine KP hm hi _ (by rw[he]) ?_
  by_cases a:S=1
  .exact .inl ⟨a,by simp[jX,a]⟩
  .by_cases b:0<C/\W=0
   .exact .inr (.inl ⟨aa,b.1,b.2,by simp[jX,a,b]⟩)
   .exact .inr (.inr ⟨aa,aa,by simp[jX,a,b]⟩)
 refine ⟨jX C S W (mu - 1) (sm n φ Mp.wt+2*m),mu - 1,c,⟨_,_,_,_,m,d⟩,?_⟩
 refine ak.bK (hJ _ rfl) 1 (n:=0) _ rfl rfl ?_;apply ag _
 refine ak.nil hM ?_;try simp only[go_sem]
 by_cases e:mu - 1=0
 .have e0:=f.eq
  have r:jX C S W (mu - 1) (sm n φ Mp.wt+2*m)= .fin:=by
   have:C=0:=aa
   have:S=0:=aa
   simp[jX, *]
  clear hw d c e0
  rw[r]
  rw[e]
  repeat apply aI (hM _)
  refine dB hM ?_
  refine ak.bK (hJ _ rfl) 2 (n:=0) _ rfl rfl ?_;apply ag _
  refine ak.nil hM ?_;try simp only[go_sem]
  repeat apply aI (hM _)
  refine cV (hM _) aN ?_
  apply cY (hM _);try simp only[go_sem]
  repeat apply aI (hM _)
  refine dB hM ?_
  refine vB mP ⟨_,_,_,rfl,(by first|rfl|simp only[*,go_sem]),rfl,by first|(simp only[*,go_sem];done)|(simp only[*,go_sem];rfl),rfl⟩ au au rfl ?_
  refine ak.nil hM ?_;try simp only[go_sem]
  exact mN rfl aN ⟨rfl,rfl,rfl⟩
 .have I:(mu - 1 != 0)=true:=by simpa using e
  clear d c e
  repeat apply aI (hM _)
  refine dB hM ?_
  refine ak.bK (hJ _ rfl) 2 (n:=0) _ rfl rfl ?_;apply ag _
  refine ak.nil hM ?_;try simp only[go_sem]
  repeat apply aI (hM _)
  refine dA (hM _) aN ?_
  repeat apply aI (hM _)
  refine dB hM ?_
  refine ak.bK (hJ _ rfl) 2 (n:=1) _ rfl rfl ?_;apply ag _
  refine ak.gJ (hM _) rfl rfl rfl Gs (by simp only[*,go_sem,muA]) (LN aL g hw hb) fun v F' aU t=>?_
  obtain ⟨rfl,rfl,rfl⟩:=t
  refine ak.nil hM ?_;try simp only[go_sem]
  repeat apply aI (hM _)
  refine dB hM ?_
  refine vB mP ⟨_,_,_,rfl,(by first|rfl|simp only[*,go_sem]),rfl,by first|(simp only[*,go_sem];done)|(simp only[*,go_sem];rfl),rfl⟩ au au rfl ?_
  refine ak.nil hM ?_;try simp only[go_sem]
  exact mN rfl aN ⟨rfl,rfl,rfl⟩
end
end Go.Proofs.YtbpddfapodiemaaGreatDoor
end
section
namespace Go.Sep
open Go Go.Conc
def vE {S:Type}(b:Act->af->S->Prop)(Q:Ex->Act->af->S->Prop):Ex->Act->af->S->Prop
 | .normal,a,F,ph=>b a F ph
 |e,a,F,ph=>Q e a F ph
attribute [go_sem] vE
theorem lQ {P:Program}{main:Bool}{S:Type}{JF:S->Goroutine->af->Prop}{fi:FuncId}{Q:Ex->Act->af->S->Prop}{a:Act}{F:af}{ph:S}(hM:∀ph,eF P main (JF ph)){x y:Code}(b:Act->af->S->Prop)
  (c:c9 JF fi x (vE b Q) a F ph) (d:∀a F ph,b a F ph->c9 JF fi y Q a F ph):c9 JF fi (.seq x y) Q a F ph:=
 aI (hM _) (c.mono fun e a F ph h=>by
  cases e with
  |normal=>exact d a F ph h
  |exit i=>exact h
  |ret=>exact h)
theorem vF {P:Program}{main:Bool}{S:Type}{JF:S->Goroutine->af->Prop}{fi:FuncId}{Q:Ex->Act->af->S->Prop}{a:Act}{F:af}{ph:S}(hM:∀ph,eF P main (JF ph)){x:Code}(b:Act->af->S->Prop)
  (c:c9 JF fi x (vE b Q) a F ph) (d:∀a F ph,b a F ph->Q .normal a F ph):c9 JF fi x Q a F ph:=
 c.mono fun e a F ph h=>by
  cases e with
  |normal=>exact d a F ph h
  |exit i=>exact h
  |ret=>exact h
theorem bE {P:Program}{main:Bool}{S:Type}{JF:S->Goroutine->af->Prop}{fi:FuncId}{Q:Ex->Act->af->S->Prop}{a:Act}{F:af}{ph:S}(hM:∀ph,eF P main (JF ph)){id:Nat}{ops:Array Oper}
  (h:∀K:Act->af->S->Prop,(∀a F ph,Q .normal a F ph->K a F ph)->ak JF fi ops 0 ops.size K a F ph):c9 JF fi (.region id ops false) Q a F ph:=dB hM (h _ fun _ _ _ h=>h)
theorem eX {S:Type}{b:Act->af->S->Prop}{Q:Ex->Act->af->S->Prop}{a:Act}{F:af}{ph:S}(h:b a F ph):vE b Q .normal a F ph:=h
theorem jL {S:Type}{I:Nat->Act->af->S->Prop}{n:Nat}{Q:Ex->Act->af->S->Prop}{a:Act}{F:af}{ph:S}(h:∃m,m<n/\I m a F ph):zz I n Q .normal a F ph:=h
theorem LP {x:Int}(a: -9223372036854775808<=x)(b:x<9223372036854775808):IntKind.i64.wrap x=x:=by
 unfold IntKind.wrap;simp[IntKind.bits,IntKind.signed];omega
end Go.Sep
namespace Go.Proofs.YtbpddfapodiemaaGreatDoor
open Go Go.Sep Go.Proofs Go.Conc
open Go.ConcN (upd upd_same)
open Go.ConcM (muA msA)
open Go.ConcR (stA smA)
set_option maxRecDepth 100000
set_option maxHeartbeats 8000000
set_option linter.all false
attribute [local go_sem] Int.reduceBEq Int.reduceBNe muA msA stA smA
def vG (Mu n:Nat)(st:Bool)(F:af)(m:Nat)(a:Act)(F':af)(ph:Ph):Prop:=
 ∃(wt it old:Int) (sv aw:Bool) (C S W L G:Nat),F'=F/\slot a 0= .pointer (some ⟨Mu,0,none⟩)/\slot a 2= .int .i64 wt/\slot a 3= .bool sv/\slot a 4= .bool aw/\slot a 5= .int .i64 it/\slot a 6= .int .i32 old/\sz a=139/\a.defers=[]/\
  Wd old C S W L/\C<=3*n/\0<=it/\it<=4/\(sv=true->aw=true)/\(aw=true->S=0/\W=1)/\8*G+(5 - it).toNat<=m/\ph=⟨.want aw old G,.cnt,st,1⟩
def vH (Mu:Nat)(st:Bool)(F:af)(a:Act)(F':af)(ph:Ph):Prop:=F'=F/\slot a 0= .pointer (some ⟨Mu,0,none⟩)/\sz a=139/\a.defers=[]/\ph=⟨.held,.cnt,st,1⟩
def LQ (Mu:Nat)(st:Bool)(F:af)(wt it:Int)(sv:Bool)(G:Nat)(a:Act)(F':af)(ph:Ph):Prop:=
 ∃(aw:Bool) (o:Int) (b:Nat),F'=F/\slot a 0= .pointer (some ⟨Mu,0,none⟩)/\slot a 2= .int .i64 wt/\slot a 3= .bool sv/\slot a 4= .bool aw/\slot a 5= .int .i64 it/\sz a=139/\a.defers=[]/\(sv=true->aw=true)/\b<=G/\ph=⟨.want aw o b,.cnt,st,1⟩
def sG (Mu:Nat)(st:Bool)(F:af)(wt it old:Int)(x:Option Int)(sv aw:Bool)(G:Nat)(a:Act)(F':af)(ph:Ph):Prop:=
 F'=F/\slot a 0= .pointer (some ⟨Mu,0,none⟩)/\slot a 2= .int .i64 wt/\slot a 3= .bool sv/\slot a 4= .bool aw/\slot a 5= .int .i64 it/\slot a 6= .int .i32 old/\(∀y,x=some y->slot a 7= .int .i32 y)/\sz a=139/\a.defers=[]/\ph=⟨.want aw old G,.cnt,st,1⟩
def Eo (Mu:Nat)(st:Bool)(F:af)(sv:Bool)(mp:Mp)(a:Act)(F':af)(ph:Ph):Prop:=
 ∃wt:Int,F'=F/\slot a 0= .pointer (some ⟨Mu,0,none⟩)/\slot a 2= .int .i64 wt/\slot a 3= .bool sv/\sz a=139/\a.defers=[]/\ph=⟨mp,.cnt,st,1⟩
def Ep (Mu:Nat)(st:Bool)(F:af)(mp:Mp)(a:Act)(F':af)(ph:Ph):Prop:=
 ∃(wt:Int) (sv:Bool),F'=F/\slot a 0= .pointer (some ⟨Mu,0,none⟩)/\slot a 2= .int .i64 wt/\slot a 3= .bool sv/\sz a=139/\a.defers=[]/\ph=⟨mp,.cnt,st,1⟩
def LR (Mu:Nat)(st:Bool)(F:af)(y:Bool)(a:Act)(F':af)(ph:Ph):Prop:=
 ∃e:Bool,F'=F/\slot a 0= .pointer (some ⟨Mu,0,none⟩)/\slot a 9= .int .i32 (-7)/\slot a 123= .bool e/\sz a=139/\a.defers=[]/\(e=false->y=true)/\ph=⟨.lN y,.cnt,st,1⟩
section
variable {Mu Wg Is n base T0 i:Nat}{bs:Nat->Bool}{st:Bool}{F:af}
theorem LS (aL:Mu≠Wg/\Mu≠Is/\Wg≠Is)(ev:n<67108864):
  cX Tryz.prog (WJ (CY Mu Wg Is n bs base T0) i) 186 #[.pointer (some (muA Mu))] F ⟨.idle,.cnt,st,1⟩ (fun v F' aU=>v= .tuple #[]/\F'=F/\aU=⟨.held,.cnt,st,0⟩):=by
 have hM:=WJ.eR (CY Mu Wg Is n bs base T0) i
 have hJ:∀ph:Ph,ph.gp= .cnt->Go.Sep.Closed Tryz.prog false (WJ (CY Mu Wg Is n bs base T0) i ph):=fun ph h=>Wk.closed (CY Mu Wg Is n bs base T0) i ph h
 refine cX.go (main:=false) hM Tryz.func186 rfl Tryz.ntmps186 au fun A b hd hs=>?_
 have c:=hs 0
 clear hs
 repeat apply aI (hM _)
 refine bE hM fun K hK=>?_
 refine ak.bK (hJ _ rfl) 1 (n:=0) _ rfl rfl ?_;apply b9 _
 refine ak.nil hM (hK _ _ _ ?_);clear hK K
 repeat apply aI (hM _)
 refine bE hM fun K hK=>?_
 refine ak.bK (hJ _ rfl) 1 (n:=0) _ rfl rfl ?_;apply b9 _
 refine ak.nil hM (hK _ _ _ ?_);clear hK K
 repeat apply aI (hM _)
 refine bE hM fun K hK=>?_
 refine ak.bK (hJ _ rfl) 1 (n:=0) _ rfl rfl ?_;apply b9 _
 refine ak.nil hM (hK _ _ _ ?_);clear hK K
 repeat apply aI (hM _)
 refine bE hM fun K hK=>?_
 refine ak.bK (hJ _ rfl) 1 (n:=0) _ rfl rfl ?_;apply b9 _
 refine ak.nil hM (hK _ _ _ ?_);clear hK K
 repeat apply aI (hM _)
 refine bE hM fun K hK=>?_
 refine ak.bK (hJ _ rfl) 3 (n:=2) _ rfl rfl ?_;apply b9 _
 refine qg vz qd ⟨_,rfl,cE,rfl,rfl⟩ (by rfl) ep (fun φ mu ms C S W L m he hi hm=>⟨.want false mu (b8 n φ ms),⟨_,_,_,_,m,KH hm hi _ (by rw[he]) rfl⟩,?_⟩)
 have hw:=wd hm.st (by have:C<=3*n:=hm.bound;omega)
 have hC:C<=3*n:=hm.bound
 refine ak.bK (hJ _ rfl) 1 (n:=0) _ rfl rfl ?_;apply b9 _
 refine ak.nil hM (hK _ _ _ ?_);clear hK K
 refine lQ hM (vH Mu st F) ?_ ?_
 .repeat apply aI (hM _)
  refine kM hM ?_
  refine sC hM (vG Mu n st F) (8*b8 n φ ms+5) ?_ ?_
  .exact ⟨0,0,mu,false,false,C,S,W,L,b8 n φ ms,rfl,ay,ay,ay,ay,ay,ay,ay,ay,hw,hC,aa,aa,au,au,au,rfl⟩
  .clear hw hC hm hi he b hd c
   rintro m A F' aU ⟨wt,it,old,sv,aw,C,S,W,L,G,rfl,c,g,j,u,x,E,b,hd,hw,hC,eQ,eS,T,U,e3,rfl⟩
   have cS:S=0\/S=1:=by have:=hw.st.s;omega
   have ar:L=0\/L=1:=by have:=hw.st.l;omega
   have ba:W=0\/W=1:=by have:=hw.st.w;omega
   repeat apply aI (hM _)
   refine kM hM ?_
   refine lQ hM (sG Mu st F' wt it old none sv aw G) ?_ ?_
   ·
    by_cases V:S=0/\L=1
    .obtain ⟨rfl,rfl⟩:=V
     have b5:eE old 5=1:=hw.a5
     repeat apply aI (hM _)
     refine bE hM fun K hK=>?_
     refine ak.bK (hJ _ rfl) 5 (n:=2) _ rfl rfl ?_;apply b9 _
     refine LJ it Lq ⟨_,_,_,rfl,cE,rfl,ej,rfl⟩ au fun t ht=>?_
     refine ak.bK (hJ _ rfl) 1 (n:=0) _ rfl rfl ?_;apply b9 _
     refine ak.nil hM (hK _ _ _ ?_);clear hK K
     cases t
     .repeat apply aI (hM _)
      refine cV (hM _) ay ?_
      apply cY (hM _)
      exact eX ⟨rfl,ay,ay,ay,ay,ay,ay,au,ay,ay,rfl⟩
     .have fa:=ht rfl
      repeat apply aI (hM _)
      refine dA (hM _) ay ?_
      refine lQ hM (LQ Mu st F' wt it sv G) ?_ ?_
      .cases aw
       .obtain rfl:sv=false:=by cases sv<;>simp_all
        rcases ba with rfl|rfl
        .have b2:eE old 2=0:=hw.a2
         by_cases du:C=0
         .have bl:((C:Int) != 0)=false:=by simp[du]
          repeat apply aI (hM _)
          refine bE hM fun K hK=>?_
          refine ak.bK (hJ _ rfl) 9 (n:=12) _ rfl rfl ?_;apply b9 _
          refine ak.ow old (C:Int) (hM _) ⟨_,rfl,cE,rfl,rfl⟩ ep ep hw.sh ?_
          refine ak.bK (hJ _ rfl) 11 (n:=0) _ rfl rfl ?_;apply b9 _
          refine ak.nil hM (hK _ _ _ ?_);clear hK K
          repeat apply aI (hM _)
          refine cV (hM _) ay ?_
          apply cY (hM _)
          exact eX ⟨false,old,G,rfl,ay,ay,ay,ay,ay,ay,ay,au,Nat.le_refl _,rfl⟩
         .have bl:((C:Int) != 0)=true:=by simp;omega
          have o2:jS old 2=old+2:=hw.o2
          repeat apply aI (hM _)
          refine bE hM fun K hK=>?_
          refine ak.bK (hJ _ rfl) 9 (n:=12) _ rfl rfl ?_;apply b9 _
          refine ak.ow old (C:Int) (hM _) ⟨_,rfl,cE,rfl,rfl⟩ ep ep hw.sh ?_
          refine ak.bK (hJ _ rfl) 9 (n:=2) _ rfl rfl ?_;apply b9 _
          refine vC old (old+2) vw aL ⟨_,_,_,rfl,cE,rfl,ej,rfl⟩ (by rfl) au (fun φ ms bm ad bo X k he hi hm=>?_) (fun φ mu ms bm ad bo X k he hi hm da=>?_)
          .obtain ⟨rfl,rfl,rfl,rfl⟩:=hm.st.uniq hw.st
           refine ⟨.want true old G,⟨_,_,_,_,k,KI hm hi _ (by rw[he]) rfl rfl rfl rfl rfl⟩,?_⟩
           refine ak.bK (hJ _ rfl) 1 (n:=0) _ rfl rfl ?_;apply b9 _
           refine ak.nil hM (hK _ _ _ ?_);clear hK K
           repeat apply aI (hM _)
           refine dA (hM _) ay ?_
           repeat apply aI (hM _)
           refine bE hM fun K hK=>?_
           refine ak.bK (hJ _ rfl) 1 (n:=0) _ rfl rfl ?_;apply b9 _
           refine ak.nil hM (hK _ _ _ ?_);clear hK K
           exact eX ⟨true,old,G,rfl,ay,ay,ay,ay,ay,ay,ay,au,Nat.le_refl _,rfl⟩
          .obtain ⟨H,a0,bb⟩:=vm hm hi {mp:=.want false mu (b8 n φ ms),gp:=.cnt,stored:=st,deaf:=1} (by rw[he]) rfl
           refine ⟨.want false mu (b8 n φ ms),⟨_,_,_,_,k,H⟩,?_⟩
           refine ak.bK (hJ _ rfl) 1 (n:=0) _ rfl rfl ?_;apply b9 _
           refine ak.nil hM (hK _ _ _ ?_);clear hK K
           repeat apply aI (hM _)
           refine cV (hM _) ay ?_
           apply cY (hM _)
           exact eX ⟨false,mu,b8 n φ ms,rfl,ay,ay,ay,ay,ay,ay,ay,au,a0,rfl⟩
        .have b2:eE old 2=2:=hw.a2
         repeat apply aI (hM _)
         refine bE hM fun K hK=>?_
         refine ak.bK (hJ _ rfl) 21 (n:=0) _ rfl rfl ?_;apply b9 _
         refine ak.nil hM (hK _ _ _ ?_);clear hK K
         repeat apply aI (hM _)
         refine cV (hM _) ay ?_
         apply cY (hM _)
         exact eX ⟨false,old,G,rfl,ay,ay,ay,ay,ay,ay,ay,au,Nat.le_refl _,rfl⟩
       .repeat apply aI (hM _)
        refine bE hM fun K hK=>?_
        refine ak.bK (hJ _ rfl) 21 (n:=0) _ rfl rfl ?_;apply b9 _
        refine ak.nil hM (hK _ _ _ ?_);clear hK K
        repeat apply aI (hM _)
        refine cV (hM _) ay ?_
        apply cY (hM _)
        exact eX ⟨true,old,G,rfl,ay,ay,ay,ay,ay,ay,ay,au,Nat.le_refl _,rfl⟩
      .clear c g j u x E b hd b5
       rintro A a Y ⟨bc,o2,dv,rfl,c,g,j,u,x,b,hd,dC,fb,rfl⟩
       have ff:IntKind.i64.wrap (it+1)=it+1:=LP aa aa
       repeat apply aI (hM _)
       refine bE hM fun K hK=>?_
       refine ak.entry _ (hM _) Lr ⟨_,_,_,rfl,cE,rfl,ej,rfl⟩ ?_
       refine ak.nil hM (hK _ _ _ ?_);clear hK K
       repeat apply aI (hM _)
       refine bE hM fun K hK=>?_
       refine ak.bK (hJ _ rfl) 3 (n:=0) _ rfl rfl ?_;apply b9 _
       refine ak.nil hM (hK _ _ _ ?_);clear hK K
       repeat apply aI (hM _)
       refine bE hM fun K hK=>?_
       refine ak.bK (hJ _ rfl) 3 (n:=2) _ rfl rfl ?_;apply b9 _
       refine qg vz qd ⟨_,rfl,cE,rfl,rfl⟩ (by rfl) ep (fun φ mu ms N S3 bd br bz he hi hm=>?_)
       obtain ⟨H,a0,bb⟩:=vm hm hi {mp:=.want bc mu (b8 n φ ms),gp:=.cnt,stored:=st,deaf:=1} (by rw[he]) rfl
       have Z:=wd hm.st (by have:N<=3*n:=hm.bound;omega)
       have a6:N<=3*n:=hm.bound
       have bS:b8 n φ ms<=dv:=a0
       have b0:bc=true->S3=0/\bd=1:=fun e=>by subst e;exact DH hm hi (by rw[he])
       refine ⟨.want bc mu (b8 n φ ms),⟨_,_,_,_,bz,H⟩,?_⟩
       refine ak.bK (hJ _ rfl) 1 (n:=0) _ rfl rfl ?_;apply b9 _
       refine ak.nil hM (hK _ _ _ ?_);clear hK K
       refine qb ?_
       change ∃k,k<m/\vG Mu n st a k _ _ _
       exact ⟨8*b8 n φ ms+(5 - (it+1)).toNat,aa,wt,it+1,mu,sv,bc,N,S3,bd,br,b8 n φ ms,rfl,ay,ay,ay,ay,ay,ay,ay,ay,Z,a6,aa,aa,dC,b0,Nat.le_refl _,rfl⟩
    .have b5:=hw.a5
     have b1:(((4*S+L:Nat):Int)==1)=false:=by simp;omega
     repeat apply aI (hM _)
     refine bE hM fun K hK=>?_
     refine ak.bK (hJ _ rfl) 7 (n:=0) _ rfl rfl ?_;apply b9 _
     refine ak.nil hM (hK _ _ _ ?_);clear hK K
     repeat apply aI (hM _)
     refine cV (hM _) ay ?_
     apply cY (hM _)
     exact eX ⟨rfl,ay,ay,ay,ay,ay,ay,au,ay,ay,rfl⟩
   .clear c g j u x E b hd
    rintro A a Y ⟨rfl,c,g,j,u,x,E,o,b,hd,rfl⟩
    clear o
    repeat apply aI (hM _)
    refine bE hM fun K hK=>?_
    refine ak.bK (hJ _ rfl) 2 (n:=0) _ rfl rfl ?_;apply b9 _
    refine ak.nil hM (hK _ _ _ ?_);clear hK K
    obtain ⟨O,f,p⟩:∃O:Int,(S=0->O=old+1 - L)/\(S=1->O=old):=⟨if S=0 then old+1 - L else old,fun e=>by simp[e],fun e=>by simp[e]⟩
    refine lQ hM (sG Mu st a wt it old (some O) sv aw G) ?_ ?_
    .rcases cS with rfl|rfl
     .have b4:eE old 4=0:=hw.a4
      have o1:jS old 1=O:=by rw[f rfl,hw.o1];omega
      clear f p
      repeat apply aI (hM _)
      refine bE hM fun K hK=>?_
      refine ak.bK (hJ _ rfl) 3 (n:=0) _ rfl rfl ?_;apply b9 _
      refine ak.nil hM (hK _ _ _ ?_);clear hK K
      repeat apply aI (hM _)
      refine dA (hM _) ay ?_
      repeat apply aI (hM _)
      refine bE hM fun K hK=>?_
      refine ak.bK (hJ _ rfl) 3 (n:=0) _ rfl rfl ?_;apply b9 _
      refine ak.nil hM (hK _ _ _ ?_);clear hK K
      exact eX ⟨rfl,ay,ay,ay,ay,ay,ay,fun y d=>by cases d;simp only[*,go_sem,-hM,-hJ],ay,ay,rfl⟩
     .have b4:eE old 4=4:=hw.a4
      obtain rfl:=p rfl
      clear f p
      repeat apply aI (hM _)
      refine bE hM fun K hK=>?_
      refine ak.bK (hJ _ rfl) 3 (n:=0) _ rfl rfl ?_;apply b9 _
      refine ak.nil hM (hK _ _ _ ?_);clear hK K
      repeat apply aI (hM _)
      refine cV (hM _) ay ?_
      apply cY (hM _)
      exact eX ⟨rfl,ay,ay,ay,ay,ay,ay,fun y d=>by cases d;simp only[*,go_sem,-hM,-hJ],ay,ay,rfl⟩
    clear c g j u x E b hd
    rintro A a Y ⟨rfl,c,g,j,u,x,E,o,b,hd,rfl⟩
    replace o:=o _ rfl
    obtain ⟨P,r,z⟩:∃P:Int,(S=1\/L=1->P=O+8)/\(S=0->L=0->P=O):=⟨if S=1\/L=1 then O+8 else O,fun e=>by simp[e],fun e ca=>by simp[e,ca]⟩
    refine lQ hM (sG Mu st a wt it old (some P) sv aw G) ?_ ?_
    .by_cases V:S=1\/L=1
     .have b5:=hw.a5
      have b1:(((4*S+L:Nat):Int) != 0)=true:=by simp;omega
      have fg:IntKind.i32.wrap (O+8)=P:=by
       have e0:=hw.st.eq
       rw[r V]
       refine jm ?_ ?_<;>rcases cS with rfl|rfl<;>first|(have:=f rfl;omega)|(have:=p rfl;omega)
      clear f p r z V
      repeat apply aI (hM _)
      refine bE hM fun K hK=>?_
      refine ak.bK (hJ _ rfl) 3 (n:=0) _ rfl rfl ?_;apply b9 _
      refine ak.nil hM (hK _ _ _ ?_);clear hK K
      repeat apply aI (hM _)
      refine dA (hM _) ay ?_
      repeat apply aI (hM _)
      refine bE hM fun K hK=>?_
      refine ak.bK (hJ _ rfl) 3 (n:=0) _ rfl rfl ?_;apply b9 _
      refine ak.nil hM (hK _ _ _ ?_);clear hK K
      exact eX ⟨rfl,ay,ay,ay,ay,ay,ay,fun y d=>by cases d;simp only[*,go_sem,-hM,-hJ],ay,ay,rfl⟩
     .obtain rfl:S=0:=aa
      obtain rfl:L=0:=aa
      have b5:eE old 5=0:=hw.a5
      obtain rfl:=z rfl rfl
      clear f p r z V
      repeat apply aI (hM _)
      refine bE hM fun K hK=>?_
      refine ak.bK (hJ _ rfl) 3 (n:=0) _ rfl rfl ?_;apply b9 _
      refine ak.nil hM (hK _ _ _ ?_);clear hK K
      repeat apply aI (hM _)
      refine cV (hM _) ay ?_
      apply cY (hM _)
      exact eX ⟨rfl,ay,ay,ay,ay,ay,ay,fun y d=>by cases d;simp only[*,go_sem,-hM,-hJ],ay,ay,rfl⟩
    clear c g j u x E o b hd
    rintro A a Y ⟨rfl,c,g,j,u,x,E,o,b,hd,rfl⟩
    replace o:=o _ rfl
    obtain ⟨I,J,q⟩:∃I:Int,(sv=true->L=1->I=P+4)/\(¬(sv=true/\L=1)->I=P):=⟨if sv=true/\L=1 then P+4 else P,fun e ca=>by simp[e,ca],fun e=>by simp[e]⟩
    refine lQ hM (sG Mu st a wt it old (some I) sv aw G) ?_ ?_
    .cases sv
     .obtain rfl:=q au
      clear f p r z J q
      repeat apply aI (hM _)
      refine bE hM fun K hK=>?_
      refine ak.bK (hJ _ rfl) 6 (n:=0) _ rfl rfl ?_;apply b9 _
      refine ak.nil hM (hK _ _ _ ?_);clear hK K
      repeat apply aI (hM _)
      refine cV (hM _) ay ?_
      apply cY (hM _)
      exact eX ⟨rfl,ay,ay,ay,ay,ay,ay,fun y d=>by cases d;simp only[*,go_sem,-hM,-hJ],ay,ay,rfl⟩
     .obtain rfl:aw=true:=T rfl
      rcases ar with rfl|rfl
      .have dE:eE old 1=0:=hw.a1
       obtain rfl:=q au
       clear f p r z J q
       repeat apply aI (hM _)
       refine bE hM fun K hK=>?_
       refine ak.bK (hJ _ rfl) 6 (n:=0) _ rfl rfl ?_;apply b9 _
       refine ak.nil hM (hK _ _ _ ?_);clear hK K
       repeat apply aI (hM _)
       refine cV (hM _) ay ?_
       apply cY (hM _)
       exact eX ⟨rfl,ay,ay,ay,ay,ay,ay,fun y d=>by cases d;simp only[*,go_sem,-hM,-hJ],ay,ay,rfl⟩
      .have dE:eE old 1=1:=hw.a1
       have o4:jS P 4=I:=by
        have e0:=hw.st.eq
        obtain ⟨rfl,rfl⟩:=U rfl
        have e1:=f rfl
        have e2:=r (.inr rfl)
        rw[J rfl rfl,(wd (C:=C+1) (S:=0) (W:=1) (L:=1) ⟨aa,aa,aa,aa⟩ aa).o4]
        omega
       clear f p r z J q
       repeat apply aI (hM _)
       refine bE hM fun K hK=>?_
       refine ak.bK (hJ _ rfl) 6 (n:=0) _ rfl rfl ?_;apply b9 _
       refine ak.nil hM (hK _ _ _ ?_);clear hK K
       repeat apply aI (hM _)
       refine dA (hM _) ay ?_
       repeat apply aI (hM _)
       refine bE hM fun K hK=>?_
       refine ak.bK (hJ _ rfl) 3 (n:=0) _ rfl rfl ?_;apply b9 _
       refine ak.nil hM (hK _ _ _ ?_);clear hK K
       exact eX ⟨rfl,ay,ay,ay,ay,ay,ay,fun y d=>by cases d;simp only[*,go_sem,-hM,-hJ],ay,ay,rfl⟩
    clear c g j u x E o b hd
    rintro A a Y ⟨rfl,c,g,j,u,x,E,o,b,hd,rfl⟩
    replace o:=o _ rfl
    obtain ⟨ab,Q,R⟩:∃ab:Int,(aw=true->ab=I - 2)/\(aw=false->ab=I):=⟨if aw then I - 2 else I,fun e=>by simp[e],fun e=>by simp[e]⟩
    refine lQ hM (sG Mu st a wt it old (some ab) sv aw G) ?_ ?_
    .cases aw
     .obtain rfl:=R rfl
      clear f p r z J q Q R
      repeat apply aI (hM _)
      refine bE hM fun K hK=>?_
      refine ak.bK (hJ _ rfl) 1 (n:=0) _ rfl rfl ?_;apply b9 _
      refine ak.nil hM (hK _ _ _ ?_);clear hK K
      repeat apply aI (hM _)
      refine cV (hM _) ay ?_
      apply cY (hM _)
      exact eX ⟨rfl,ay,ay,ay,ay,ay,ay,fun y d=>by cases d;simp only[*,go_sem,-hM,-hJ],ay,ay,rfl⟩
     .obtain ⟨rfl,rfl⟩:=U rfl
      have Z:∃N S3,Wd I N S3 1 1:=by
       have e0:=hw.st.eq
       have e1:=f rfl
       rcases ar with rfl|rfl
       .have e2:=z rfl rfl
        have ae:=q au
        exact ⟨C,0,wd ⟨aa,aa,aa,aa⟩ aa⟩
       .have e2:=r (.inr rfl)
        cases sv
        .have ae:=q au
         exact ⟨C+1,0,wd ⟨aa,aa,aa,aa⟩ aa⟩
        .have ae:=J rfl rfl
         exact ⟨C+1,1,wd ⟨aa,aa,aa,aa⟩ aa⟩
      obtain ⟨N,S3,Z⟩:=Z
      have b2:eE I 2=2:=Z.a2
      have n2:sB I 2=ab:=by rw[Q rfl,Z.n2];rfl
      clear f p r z J q Q R
      repeat apply aI (hM _)
      refine bE hM fun K hK=>?_
      refine ak.bK (hJ _ rfl) 1 (n:=0) _ rfl rfl ?_;apply b9 _
      refine ak.nil hM (hK _ _ _ ?_);clear hK K
      repeat apply aI (hM _)
      refine dA (hM _) ay ?_
      repeat apply aI (hM _)
      refine bE hM fun K hK=>?_
      refine ak.bK (hJ _ rfl) 3 (n:=0) _ rfl rfl ?_;apply b9 _
      refine ak.nil hM (hK _ _ _ ?_);clear hK K
      repeat apply aI (hM _)
      refine cV (hM _) ay ?_
      apply cY (hM _)
      repeat apply aI (hM _)
      refine bE hM fun K hK=>?_
      refine ak.bK (hJ _ rfl) 3 (n:=0) _ rfl rfl ?_;apply b9 _
      refine ak.nil hM (hK _ _ _ ?_);clear hK K
      exact eX ⟨rfl,ay,ay,ay,ay,ay,ay,fun y d=>by cases d;simp only[*,go_sem,-hM,-hJ],ay,ay,rfl⟩
    clear c g j u x E o b hd
    rintro A a Y ⟨rfl,c,g,j,u,x,E,o,b,hd,rfl⟩
    replace o:=o _ rfl
    repeat apply aI (hM _)
    refine bE hM fun K hK=>?_
    refine ak.bK (hJ _ rfl) 5 (n:=1) _ rfl rfl ?_;apply b9 _
    refine vC old ab vw aL ⟨_,_,_,rfl,cE,rfl,ej,rfl⟩ (by rfl) au (fun φ ms bm ad bo X k he hi hm=>?_) (fun φ mu ms bm ad bo X k he hi hm da=>?_)
    .obtain ⟨rfl,rfl,rfl,rfl⟩:=hm.st.uniq hw.st
     by_cases V:ad=0/\X=0
     .obtain ⟨rfl,rfl⟩:=V
      have M:ab=old+1 - (if aw then 2 else 0):=by
       have e1:=f rfl
       have e2:=z rfl rfl
       have ae:=q au
       cases aw
       .have M:=R rfl
        simp;omega
       .have M:=Q rfl
        simp;omega
      have b5:eE old 5=0:=hw.a5
      refine ⟨.held,by rw[M];exact ⟨_,_,_,_,k,KJ hm hi _ (by rw[he]) rfl rfl rfl (fun e=>(U e).2)⟩,?_⟩
      clear f p r z J q Q R M he hi hm T U cS ar ba
      refine ak.nil hM (hK _ _ _ ?_);clear hK K
      repeat apply aI (hM _)
      refine dA (hM _) ay ?_
      repeat apply aI (hM _)
      refine bE hM fun K hK=>?_
      refine ak.bK (hJ _ rfl) 3 (n:=0) _ rfl rfl ?_;apply b9 _
      refine ak.nil hM (hK _ _ _ ?_);clear hK K
      repeat apply aI (hM _)
      refine dA (hM _) ay ?_
      refine qb ?_
      change vH Mu st a _ _ _
      exact ⟨rfl,ay,ay,ay,rfl⟩
     .have cb:ad=1\/X=1:=aa
      have M:ab=old+8+(if sv then 4 else 0) - (if aw then 2 else 0):=by
       have e2:=r cb
       rcases cS with rfl|rfl
       .have e1:=f rfl
        obtain rfl:X=1:=aa
        cases sv
        .have ae:=q au
         cases aw
         .have M:=R rfl
          simp;omega
         .have M:=Q rfl
          simp;omega
        .obtain rfl:aw=true:=T rfl
         have ae:=J rfl rfl
         have M:=Q rfl
         simp;omega
       .have dT:aw=false:=by
         cases aw
         .rfl
         .exact absurd (U rfl).1 aa
        subst dT
        have ea:sv=false:=by
         cases sv
         .rfl
         .exact absurd (T rfl) au
        subst ea
        have e1:=p rfl
        have ae:=q au
        have M:=R rfl
        simp;omega
      have db:sv=true->aw=true/\X=1:=fun e=>⟨T e,by have:=U (T e);omega⟩
      have dd:b8 n φ ms<=G:=(hm.seen i hi (some old) G (by rw[he];rfl)).1
      have b5:=hw.a5
      have b1:(((4*ad+X:Nat):Int)==0)=false:=by simp;omega
      refine ⟨.jk (b8 n φ ms),by rw[M];exact ⟨_,_,_,_,k,KL hm hi _ (by rw[he]) rfl cb db⟩,?_⟩
      clear f p r z J q Q R M he hi hm T U cS ar ba V cb db
      revert dd
      generalize b8 n φ ms=B
      intro dd
      refine ak.nil hM (hK _ _ _ ?_);clear hK K
      repeat apply aI (hM _)
      refine dA (hM _) ay ?_
      repeat apply aI (hM _)
      refine bE hM fun K hK=>?_
      refine ak.bK (hJ _ rfl) 3 (n:=0) _ rfl rfl ?_;apply b9 _
      refine ak.nil hM (hK _ _ _ ?_);clear hK K
      repeat apply aI (hM _)
      refine cV (hM _) ay ?_
      apply cY (hM _)
      repeat apply aI (hM _)
      refine bE hM fun K hK=>?_
      refine ak.bK (hJ _ rfl) 3 (n:=0) _ rfl rfl ?_;apply b9 _
      refine ak.nil hM (hK _ _ _ ?_);clear hK K
      repeat apply aI (hM _)
      refine bE hM fun K hK=>?_
      refine ak.bK (hJ _ rfl) 2 (n:=0) _ rfl rfl ?_;apply b9 _
      refine ak.nil hM (hK _ _ _ ?_);clear hK K
      first|refine lQ hM (Eo Mu st a sv (.jk B)) ?_ ?_|refine vF hM (Eo Mu st a sv (.jk B)) ?_ ?_
      .cases fi:(wt==0)
       .repeat apply aI (hM _)
        refine cV (hM _) ay ?_
        apply cY (hM _)
        exact eX ⟨wt,rfl,ay,ay,ay,ay,ay,rfl⟩
       .repeat apply aI (hM _)
        refine dA (hM _) ay ?_
        repeat apply aI (hM _)
        refine bE hM fun K hK=>?_
        refine En Eb Eg ⟨_,_,_,rfl,cE,rfl,ej,rfl⟩ au fun t=>?_
        refine ak.bK (hJ _ rfl) 1 (n:=0) _ rfl rfl ?_;apply b9 _
        refine ak.nil hM (hK _ _ _ ?_);clear hK K
        exact eX ⟨t,rfl,ay,ay,ay,ay,ay,rfl⟩
      clear c g j u x E o b hd b5 b1
      rintro A a Y ⟨df,rfl,c,g,j,b,hd,rfl⟩
      repeat apply aI (hM _)
      refine bE hM fun K hK=>?_
      refine ak.bK (hJ _ rfl) 4 (n:=1) _ rfl rfl ?_;apply b9 _
      refine LI (slot A 8) (.int .i64 2) Lp aL ⟨_,_,_,rfl,cE,rfl,ej,rfl⟩ (by rfl) rfl ?_
      refine ak.nil hM (hK _ _ _ ?_);clear hK K
      first|refine lQ hM (Ep Mu st a (.kJ B)) ?_ ?_|refine vF hM (Ep Mu st a (.kJ B)) ?_ ?_
      .cases sv
       .repeat apply aI (hM _)
        refine bE hM fun K hK=>?_
        refine ak.bK (hJ _ rfl) 2 (n:=6) _ rfl rfl ?_;apply b9 _
        refine En Eb Eg ⟨_,_,_,rfl,cE,rfl,ej,rfl⟩ au fun t=>?_
        refine ak.bK (hJ _ rfl) 5 (n:=0) _ rfl rfl ?_;apply b9 _
        refine ak.nil hM (hK _ _ _ ?_);clear hK K
        exact eX ⟨df,_,rfl,ay,ay,(by simp only[*,go_sem,-hM,-hJ];rfl),ay,ay,rfl⟩
       .repeat apply aI (hM _)
        refine bE hM fun K hK=>?_
        refine ak.bK (hJ _ rfl) 8 (n:=0) _ rfl rfl ?_;apply b9 _
        refine ak.nil hM (hK _ _ _ ?_);clear hK K
        exact eX ⟨df,true,rfl,ay,ay,ay,ay,ay,rfl⟩
      clear c g j b hd
      rintro A a Y ⟨eb,dk,rfl,c,g,j,b,hd,rfl⟩
      repeat apply aI (hM _)
      refine bE hM fun K hK=>?_
      refine ak.bK (hJ _ rfl) 3 (n:=2) _ rfl rfl ?_;apply b9 _
      refine qg vz qd ⟨_,rfl,cE,rfl,rfl⟩ (by rfl) ep (fun φ mu ms D a7 cd cf bj he hi hm=>?_)
      have dp:D<=3*n:=hm.bound
      have al:=wd hm.st aa
      rcases (by have:=hm.st.s;omega:a7=0\/a7=1) with rfl|rfl
      .obtain ⟨H,rfl,cl⟩:=KN hm hi {mp:=.want true mu (b8 n φ ms),gp:=.cnt,stored:=st,deaf:=1} (by rw[he]) rfl rfl
       have fl:b8 n φ ms<B:=cl
       refine ⟨.want true mu (b8 n φ ms),⟨_,_,_,_,bj,H⟩,?_⟩
       have b4:eE mu 4=0:=al.a4
       clear H cl
       refine ak.bK (hJ _ rfl) 1 (n:=0) _ rfl rfl ?_;apply b9 _
       refine ak.nil hM (hK _ _ _ ?_);clear hK K
       repeat apply aI (hM _)
       refine bE hM fun K hK=>?_
       refine ak.bK (hJ _ rfl) 3 (n:=0) _ rfl rfl ?_;apply b9 _
       refine ak.nil hM (hK _ _ _ ?_);clear hK K
       repeat apply aI (hM _)
       refine cV (hM _) ay ?_
       apply cY (hM _)
       repeat apply aI (hM _)
       refine bE hM fun K hK=>?_
       refine ak.bK (hJ _ rfl) 1 (n:=0) _ rfl rfl ?_;apply b9 _
       refine ak.nil hM (hK _ _ _ ?_);clear hK K
       repeat apply aI (hM _)
       refine bE hM fun K hK=>?_
       refine ak.bK (hJ _ rfl) 1 (n:=0) _ rfl rfl ?_;apply b9 _
       refine ak.nil hM (hK _ _ _ ?_);clear hK K
       change ∃k,k<m/\vG Mu n st a k _ _ _
       exact ⟨8*b8 n φ ms+5,aa,eb,0,mu,dk,true,D,0,1,cf,b8 n φ ms,rfl,ay,ay,ay,ay,ay,ay,ay,ay,al,dp,aa,aa,fun _=>rfl,fun _=>⟨rfl,rfl⟩,au,rfl⟩
      .obtain ⟨H,rfl,rfl,ec⟩:=KO hm hi {mp:=.lN (decide (2<=D)),gp:=.cnt,stored:=st,deaf:=1} (by rw[he]) rfl rfl
       refine ⟨.lN (decide (2<=D)),⟨_,_,_,_,bj,H⟩,?_⟩
       have b4:eE mu 4=4:=al.a4
       have b3:eE mu 3=0:=al.a3
       have bl:((D:Int)==0)=false:=by simp;omega
       have cy:=al.sh
       obtain ⟨y,d⟩:∃y,decide (2<=D)=y:=⟨_,rfl⟩
       have ao:((D:Int)==1)=false->y=true:=fun e=>by rw[<-d];simp at e ⊢;omega
       rw[d]
       clear H he hi hm al dp ec d
       refine ak.bK (hJ _ rfl) 1 (n:=0) _ rfl rfl ?_;apply b9 _
       refine ak.nil hM (hK _ _ _ ?_);clear hK K
       repeat apply aI (hM _)
       refine bE hM fun K hK=>?_
       refine ak.bK (hJ _ rfl) 3 (n:=0) _ rfl rfl ?_;apply b9 _
       refine ak.nil hM (hK _ _ _ ?_);clear hK K
       repeat apply aI (hM _)
       refine dA (hM _) ay ?_
       repeat apply aI (hM _)
       refine bE hM fun K hK=>?_
       refine ak.bK (hJ _ rfl) 5 (n:=3) _ rfl rfl ?_;apply b9 _
       refine ak.ow mu (D:Int) (hM _) ⟨_,rfl,cE,rfl,rfl⟩ ep ep cy ?_
       refine ak.bK (hJ _ rfl) 2 (n:=0) _ rfl rfl ?_;apply b9 _
       refine ak.nil hM (hK _ _ _ ?_);clear hK K
       repeat apply aI (hM _)
       refine cV (hM _) ay ?_
       apply cY (hM _)
       repeat apply aI (hM _)
       refine bE hM fun K hK=>?_
       refine ak.bK (hJ _ rfl) 1 (n:=0) _ rfl rfl ?_;apply b9 _
       refine ak.nil hM (hK _ _ _ ?_);clear hK K
       repeat apply aI (hM _)
       refine vF hM (LR Mu st a y) ?_ ?_
       .cases dk
        .repeat apply aI (hM _)
         refine bE hM fun K hK=>?_
         refine ak.bK (hJ _ rfl) 7 (n:=0) _ rfl rfl ?_;apply b9 _
         refine ak.nil hM (hK _ _ _ ?_);clear hK K
         exact eX ⟨true,rfl,ay,ay,ay,ay,ay,au,rfl⟩
        .repeat apply aI (hM _)
         refine bE hM fun K hK=>?_
         refine ak.bK (hJ _ rfl) 4 (n:=3) _ rfl rfl ?_;apply b9 _
         refine ak.ow mu (D:Int) (hM _) ⟨_,rfl,cE,rfl,rfl⟩ ep ep cy ?_
         refine ak.bK (hJ _ rfl) 2 (n:=0) _ rfl rfl ?_;apply b9 _
         refine ak.nil hM (hK _ _ _ ?_);clear hK K
         exact eX ⟨(D:Int)==1,rfl,ay,ay,ay,ay,ay,ao,rfl⟩
       clear c g j b hd b4 b3 bl cy ao
       rintro A a Y ⟨e,rfl,c,fp,fq,b,hd,ao,rfl⟩
       cases e
       .obtain rfl:=ao rfl
        clear ao
        repeat apply aI (hM _)
        refine cV (hM _) ay ?_
        apply cY (hM _)
        repeat apply aI (hM _)
        refine bE hM fun K hK=>?_
        refine ak.bK (hJ _ rfl) 4 (n:=1) _ rfl rfl ?_;apply b9 _
        refine zN (-7) zB aL ⟨_,_,_,rfl,cE,rfl,ej,rfl⟩ (by rfl) au (fun φ mu ms N S3 bd br bz he hi hm=>⟨.held,_,?_,⟨_,_,_,_,_,DI hm hi {mp:=.held,gp:=.cnt,stored:=st,deaf:=1} false (by rw[he]) rfl (fun _=>rfl)⟩,?_⟩)
        .have e0:=hm.st.eq
         have a6:N<=3*n:=hm.bound
         have ed:=hm.st.s
         have eh:=hm.st.w
         have et:=hm.st.l
         rw[jm aa aa]
         simp;omega
        refine ak.nil hM (hK _ _ _ ?_);clear hK K
        refine qb ?_
        change vH Mu st a _ _ _
        exact ⟨rfl,ay,ay,ay,rfl⟩
       .clear ao
        repeat apply aI (hM _)
        refine dA (hM _) ay ?_
        repeat apply aI (hM _)
        refine bE hM fun K hK=>?_
        refine ak.bK (hJ _ rfl) 3 (n:=0) _ rfl rfl ?_;apply b9 _
        refine ak.nil hM (hK _ _ _ ?_);clear hK K
        repeat apply aI (hM _)
        refine bE hM fun K hK=>?_
        refine ak.bK (hJ _ rfl) 4 (n:=1) _ rfl rfl ?_;apply b9 _
        refine zN (-11) zB aL ⟨_,_,_,rfl,cE,rfl,ej,rfl⟩ (by rfl) au (fun φ mu ms N S3 bd br bz he hi hm=>⟨.held,_,?_,⟨_,_,_,_,_,DI hm hi {mp:=.held,gp:=.cnt,stored:=st,deaf:=1} true (by rw[he]) rfl au⟩,?_⟩)
        .have e0:=hm.st.eq
         have a6:N<=3*n:=hm.bound
         have ed:=hm.st.s
         have eh:=hm.st.w
         have et:=hm.st.l
         rw[jm aa aa]
         simp;omega
        refine ak.nil hM (hK _ _ _ ?_);clear hK K
        refine qb ?_
        change vH Mu st a _ _ _
        exact ⟨rfl,ay,ay,ay,rfl⟩
    .obtain ⟨H,a0,bb⟩:=vm hm hi {mp:=.want aw mu (b8 n φ ms),gp:=.cnt,stored:=st,deaf:=1} (by rw[he]) rfl
     have cl:b8 n φ ms<G:=bb da
     refine ⟨.want aw mu (b8 n φ ms),⟨_,_,_,_,k,H⟩,?_⟩
     clear f p r z J q Q R H a0 bb he hi hm U cS ar ba
     refine ak.nil hM (hK _ _ _ ?_);clear hK K
     repeat apply aI (hM _)
     refine cV (hM _) ay ?_
     repeat apply aI (hM _)
     refine bE hM fun K hK=>?_
     refine ak.bK (hJ _ rfl) 3 (n:=2) _ rfl rfl ?_;apply b9 _
     refine qg vz qd ⟨_,rfl,cE,rfl,rfl⟩ (by rfl) ep (fun a8 c0 a9 D a7 cd cf bj dq ds bk=>?_)
     obtain ⟨bS,dt,_⟩:=vm bk ds {mp:=.want aw c0 (b8 n a8 a9),gp:=.cnt,stored:=st,deaf:=1} (by rw[dq]) rfl
     have fr:b8 n a8 a9<=b8 n φ ms:=dt
     have a6:D<=3*n:=bk.bound
     have Z:=wd bk.st aa
     have b0:aw=true->a7=0/\cd=1:=fun e=>by subst e;exact DH bk ds (by rw[dq])
     refine ⟨.want aw c0 (b8 n a8 a9),⟨_,_,_,_,bj,bS⟩,?_⟩
     clear bS dt
     refine ak.bK (hJ _ rfl) 1 (n:=0) _ rfl rfl ?_;apply b9 _
     refine ak.nil hM (hK _ _ _ ?_);clear hK K
     change ∃k,k<m/\vG Mu n st a k _ _ _
     exact ⟨8*b8 n a8 a9+(5 - it).toNat,aa,wt,it,c0,sv,aw,D,a7,cd,cf,b8 n a8 a9,rfl,ay,ay,ay,ay,ay,ay,ay,ay,Z,a6,aa,aa,T,b0,Nat.le_refl _,rfl⟩
 .rintro A F' aU ⟨rfl,c,b,hd,rfl⟩
  repeat apply aI (hM _)
  refine dA (hM _) ay ?_
  repeat apply aI (hM _)
  refine bE hM fun K hK=>?_
  refine vB mP ⟨_,_,_,rfl,cE,rfl,ej,rfl⟩ au au rfl ?_
  refine ak.nil hM (hK _ _ _ ?_);clear hK K
  repeat apply aI (hM _)
  refine bE hM fun K hK=>?_
  refine ak.bK (hJ _ rfl) 1 (n:=2) _ rfl rfl ?_;apply b9 _
  refine vD ⟨Mu,0,none⟩ zD mQ zF ⟨_,rfl,cE,rfl,rfl⟩ au ep zO ?_
  refine El vv ⟨_,_,_,rfl,cE,rfl,ej,rfl⟩ (by rfl) ?_
  refine ak.nil hM (hK _ _ _ ?_);clear hK K
  exact mN rfl ay ⟨rfl,rfl,rfl⟩
end
end Go.Proofs.YtbpddfapodiemaaGreatDoor
end
section
namespace Go.Proofs.YtbpddfapodiemaaGreatDoor
open Go Go.Sep Go.Proofs Go.Conc
open Go.ConcN (upd upd_same)
open Go.ConcM (muA msA)
open Go.ConcR (stA smA)
set_option maxRecDepth 100000
set_option maxHeartbeats 4000000
attribute [local go_sem] Int.reduceBEq Int.reduceBNe muA msA stA smA
section
variable {Mu Wg Is n base T0 i:Nat}{bs:Nat->Bool}{st:Bool}{F:af}
theorem LU (aL:Mu≠Wg/\Mu≠Is/\Wg≠Is)(a:n<67108864):
  cX Tryz.prog (WJ (CY Mu Wg Is n bs base T0) i) 131 #[.pointer (some (muA Mu))] F ⟨.idle,.cnt,st,0⟩ (fun v F' aU=>v= .tuple #[]/\F'=F/\aU=⟨.held,.cnt,st,0⟩):=by
 have hM:=WJ.eR (CY Mu Wg Is n bs base T0) i
 have hJ:∀ph:Ph,ph.gp= .cnt->Go.Sep.Closed Tryz.prog false (WJ (CY Mu Wg Is n bs base T0) i ph):=fun ph h=>Wk.closed (CY Mu Wg Is n bs base T0) i ph h
 refine cX.go (main:=false) hM Tryz.func131 rfl Tryz.ntmps131 au fun A c hd hs=>?_
 have d:=hs 0
 clear hs
 repeat apply aI (hM _)
 refine dB hM ?_
 refine ak.bK (hJ _ rfl) 3 (n:=1) _ rfl rfl ?_;apply ag _
 refine ak.gJ (hM _) rfl rfl rfl Gl (by simp only[*,go_sem,muA]) (LL aL (LS aL a)) fun v F' aU b=>?_
 obtain ⟨rfl,rfl,rfl⟩:=b
 refine ak.nil hM ?_
 exact mN rfl aN ⟨rfl,rfl,rfl⟩
theorem LV (aL:Mu≠Wg/\Mu≠Is/\Wg≠Is)(a:n<67108864):
  cX Tryz.prog (WJ (CY Mu Wg Is n bs base T0) i) 132 #[.pointer (some (muA Mu))] F ⟨.held,.cnt,st,0⟩ (fun v F' aU=>v= .tuple #[]/\F'=F/\aU=⟨.fin,.cnt,st,0⟩):=by
 have hM:=WJ.eR (CY Mu Wg Is n bs base T0) i
 have hJ:∀ph:Ph,ph.gp= .cnt->Go.Sep.Closed Tryz.prog false (WJ (CY Mu Wg Is n bs base T0) i ph):=fun ph h=>Wk.closed (CY Mu Wg Is n bs base T0) i ph h
 refine cX.go (main:=false) hM Tryz.func132 rfl Tryz.ntmps132 au fun A c hd hs=>?_
 have d:=hs 0
 clear hs
 repeat apply aI (hM _)
 refine dB hM ?_
 refine ak.bK (hJ _ rfl) 3 (n:=1) _ rfl rfl ?_;apply ag _
 refine ak.gJ (hM _) rfl rfl rfl Gm (by simp only[*,go_sem,muA]) (LO aL a) fun v F' aU b=>?_
 obtain ⟨rfl,rfl,rfl⟩:=b
 refine ak.nil hM ?_
 exact mN rfl aN ⟨rfl,rfl,rfl⟩
end
end Go.Proofs.YtbpddfapodiemaaGreatDoor
end
section
namespace Go.Sep
open Go Go.Conc
def vI (op:BinOp)(u v:Value):Option Value:=match op with
 | .shl=>match u,v with
  | .int k a,.int _ b=>if b<0 then none else some (.int k (k.wrap (a*2 ^ min b.toNat k.bits)))
  |_,_=>none
 | .shr=>match u,v with
  | .int k a,.int _ b=>if b<0 then none else some (.int k (a.fdiv (2 ^ min b.toNat k.bits)))
  |_,_=>none
 |_=>oE op u v
def qh (P:Program)(op:Op)(a:Act):Option Value:=match op with
 | .move x| .assign x=>some (ev a x)
 | .nilCheck x=>match ev a x with
  | .pointer (some ad)=>some (.pointer (some ad))
  |_=>none
 | .pick c x y=>match ev a c with
  | .bool b=>some (if b then ev a x else ev a y)
  |_=>none
 | .binOp op t x y _=>vI op (ev a x) (ev a y)
 | .unOp op _ x=>mZ op (ev a x)
 | .convert src dst x=>m5 P src dst (ev a x)
 | .fieldAddr s x n=>match ev a x with
  | .pointer (some ad)=>match dc P s n with
   |some k=>some (.pointer (some (ad.add k)))
   |none=>none
  |_=>none
 |_=>none
theorem LW {P:Program}{op:BinOp}{t:TypeId}{x y:Operand}{u v r:Value}(h:vI op u v=some r)(w:World):
  (do eqGuard op t x y u v;pure (.value (<-binOp op t u v)):Sem Next).run P w= .ok (.value r) w/\(do eqGuard op t x y u v;pure (.value (<-binOp op t u v)):Sem Next).events P w #[]=#[]:=by
 unfold vI at h
 split at h
 .split at h
  case h_2=>cases h
  split at h
  .cases h
  .rename_i hb;cases h;simp[eqGuard,binOp,Op.shift,hb]
 .split at h
  case h_2=>cases h
  split at h
  .cases h
  .rename_i hb;cases h;simp[eqGuard,binOp,Op.shift,hb]
 .rename_i n1 n2
  unfold oE at h
  split at h
  case h_2=>cases h
  rename_i k a d b
  split at h
  case isFalse=>cases h
  rename_i c
  subst c
  cases op<;>simp only[binOp,ne_eq,not_true_eq_false,if_false,Op.intArith,Op.intDiv,Op.intCmp,Op.intBits,Op.shift,eqGuard] at h ⊢<;>first
   |(cases h;done)
   |(exact absurd rfl n1)
   |(exact absurd rfl n2)
   |(cases h;simp;done)
   |(split at h
     .cases h
     .rename_i hb;cases h;simp[hb])
theorem Er {P:Program}{o:Oper}{a:Act}{v:Value}(h:qh P o.op a=some v)(w:World):(execOp a.eval o).run P w= .ok (.value v) w/\(execOp a.eval o).events P w #[]=#[]:=by
 obtain ⟨dst,op,type,pos,after,guard⟩:=o;unfold execOp;simp only[eZ] at h ⊢;unfold qh at h;cases op<;>simp only[reduceCtorEq] at h ⊢
 case move x=>cases h;simp
 case assign x=>cases h;simp
 case nilCheck x=>
  split at h
  .rename_i ad e;cases h;simp[e]
  .cases h
 case pick c x y=>
  split at h
  .rename_i b hb;cases h;simp[hb,asBool]
  .cases h
 case binOp op t x y r=>have:=LW (P:=P) (t:=t) (x:=x) (y:=y) h w;simpa using this
 case unOp op t x=>
  revert h;cases ev a x<;>cases op<;>simp only[mZ,reduceCtorEq,false_implies,Option.some.injEq]<;>intro h<;>subst h<;>simp[Op.unary,Op.intArith]
 case convert src dst x=>
  revert h;cases e:ev a x<;>simp only[m5,reduceCtorEq,false_implies];intro h;split at h
  .rename_i k1 A i j;cases h;simp[convert,run_underlying i,run_underlying j,Conv.intToInt]
  .cases h
 case fieldAddr s x n=>
  split at h
  case h_2=>cases h
  rename_i ad l;split at h
  case h_2=>cases h
  rename_i k d;cases h;unfold dc at d;split at d
  case h_2=>cases d
  rename_i fs g;split at d
  case h_2=>cases d
  rename_i f p;split at d
  case h_2=>cases d
  rename_i m hm;cases d;obtain ⟨inf,q,u⟩:=Option.map_eq_some_iff.1 hm;have z:Instr.sureAddr (.pointer (some ad))=(Pure.pure ad:Sem Addr):=rfl;simp[Instr.fieldAt,run_underlying g,g,p,l,z,fieldPlace,Go.sizeOf,typeInfo,q,u,Result.andThen,Result.evThen]
def js (P:Program)(ops:Array Oper)(K:Act->Prop):List Oper->Act->Prop
 |[],a=>K a
 |o::rest,a=>match cT ops o a with
  |some true=>match qh P o.op a with
   |some v=>js P ops K rest (bB a o.dst v)
   |none=>False
  |some false=>js P ops K rest (bB a o.dst undef)
  |none=>False
theorem LX {P:Program}{ops:Array Oper}{K:Act->Prop}{a:Act}:js P ops K [] a=K a:=(Eq.refl _).trans (Eq.refl _)
theorem LY {P:Program}{ops:Array Oper}{K:Act->Prop}{o:Oper}{rest:List Oper}{a:Act}:js P ops K (o::rest) a=match cT ops o a with
  |some true=>match qh P o.op a with
   |some v=>js P ops K rest (bB a o.dst v)
   |none=>False
  |some false=>js P ops K rest (bB a o.dst undef)
  |none=>False:=(Eq.refl _).trans (Eq.refl _)
attribute [go_sem] LX LY qh vI
section
variable {P:Program}{main:Bool}{S:Type}{JF:S->Goroutine->af->Prop}{fi:FuncId}{ops:Array Oper}{F:af}{ph:S}{Q:Act->af->S->Prop}
theorem zP (hM:eF P main (JF ph)):∀(l:List Oper) (i n:Nat) (a:Act),(∀j o,l[j]?=some o->ops[i+j]?=some o)->js P ops (fun b=>ak JF fi ops (i+l.length) n Q b F ph) l a->ak JF fi ops i (l.length+n) Q a F ph
 |[],i,n,a,_,h=>by rw[List.length_nil,Nat.zero_add];exact h
 |o::rest,i,n,a,g,h=>by
  have k:ops[i]?=some o:=g 0 o rfl
  have m:∀j x,rest[j]?=some x->ops[i+1+j]?=some x:=fun j x p=>by rw[Nat.add_assoc,Nat.add_comm 1 j];exact g (j+1) x p
  have e:(o::rest).length+n=(rest.length+n)+1:=by rw[List.length_cons];omega
  have e2:∀b,ak JF fi ops (i+(o::rest).length) n Q b F ph->ak JF fi ops (i+1+rest.length) n Q b F ph:=fun b x=>by
   rw[show i+1+rest.length=i+(o::rest).length by rw[List.length_cons];omega];exact x
  rw[e]
  have mono:∀(l:List Oper) (a:Act) {K d:Act->Prop},(∀a,K a->d a)->js P ops K l a->js P ops d l a:=by
   intro l
   induction l with
   |nil=>intro a K d f h;exact f a h
   |cons o l ih=>
    intro a K d f h
    unfold js at h ⊢
    cases hg:cT ops o a with
    |none=>rw[hg] at h;exact h.elim
    |some t=>
     rw[hg] at h
     cases t with
     |false=>exact ih _ f h
     |true=>
      simp only at h ⊢
      cases c:qh P o.op a with
      |none=>rw[c] at h;exact h.elim
      |some v=>rw[c] at h;exact ih _ f h
  unfold js at h
  split at h
  .rename_i hg
   split at h
   .rename_i v c
    exact ak.plain hM v k hg (fun w=>(Er c w).1) (fun w=>(Er c w).2) (zP hM rest (i+1) n _ m (mono _ _ e2 h))
   .exact h.elim
  .rename_i hg
   exact ak.skip hM k hg (zP hM rest (i+1) n _ m (mono _ _ e2 h))
  .exact h.elim
theorem ak.pure (hM:eF P main (JF ph))(m:Nat){i n:Nat}{a:Act}(l:List Oper)(c:(ops.toList.drop i).take m=l)(hm:l.length=m)(h:js P ops (fun d=>ak JF fi ops (i+m) n Q d F ph) l a):ak JF fi ops i (m+n) Q a F ph:=by
 subst hm;refine zP hM l i n a (fun j o b=>?_) h;rw[<-c] at b;have e:j<l.length:=by
  rcases Nat.lt_or_ge j l.length with x|x
  .exact x
  .rw[c,List.getElem?_eq_none x] at b;cases b
 rw[List.getElem?_take,if_pos e,List.getElem?_drop] at b;simpa using b
end
end Go.Sep
end
section
namespace Go.Sep
open Go Go.Conc
open Go.ConcN (sumTo upd upd_ne upd_same)
open Go.ConcM (MuAt muA msA muBlock OsLater)
open Go.ConcR (WgAt wgBlock stA smA)
section
variable {c:Cy}{i:Nat}{ph:Ph}{ops:Array Oper}{j n:Nat}{Q:Act->af->Ph->Prop}{a:Act}{F:af}{f fi:FuncId}{d:Option Tmp}
theorem Inv.group {k:Nat}{φ:Nat->Ph}{p0:P0}{s:Sh}(h:Inv c.n c.bs k φ p0 s)(hi:i<c.n)(he:φ i=ph)(a:ph.gp≠ .new)(b:ph.gp≠ .cnt){gp:Gp}(d:gp≠ .new){wg ws:Int}
  (hw:dY c.n (upd φ i {ph with gp:=gp}) p0 wg ws):Inv c.n c.bs k (upd φ i {ph with gp:=gp}) p0 {s with wg:=wg,ws:=ws}:=by
 obtain ⟨C,S,W,L,m,hm⟩:=h.m
 refine h.kL hi he a d ⟨C,S,W,L,m,oq hm hi _ (.inl (by rw[he]))⟩ hw ?_ (fun _=>?_)
 .have:=h.i.all i hi
  rw[he] at this
  exact (zL this).symm
 .have:=h.i.done i hi (by rw[he];exact b) (by rw[he];exact a)
  rw[he] at this
  exact this
theorem LZ (m:Entry c.P f (Extern.Atomic.update (Op.intArith .add) .u64 true))(aL:c.Mu≠c.Wg/\c.Mu≠c.Is/\c.Wg≠c.Is)(H:c.n<67108864)(p:At ops j a f [.pointer (some (stA c.Wg)),.int .u64 18446744069414584320] d)
  (e:ph.gp= .rel) (q:0<ph.deaf)
  (h:∀v t:Nat,v<=c.n->t<=1->ak (WJ c i) fi ops (j+1) n Q (bB a d (.int .u64 ((v:Int)*4294967296+t))) F {ph with gp:=if v=0/\t=1 then .ld else .gone}):
  ak (WJ c i) fi ops j (n+1) Q a F ph:=by
 obtain ⟨o,cR,dN,l,hg,r,u,rfl⟩:=p
 obtain ⟨x,y,rfl,z,A⟩:=sE u
 obtain ⟨fn,f1,f2,f3,f4,f5⟩:=m.ex
 refine gi l (by rw[e];simp) fun w s k φ p0 _ hs hi he g=>.inr ?_
 obtain ⟨v,t,e1,ht,B,_⟩:=DL g.w hi ph (by rw[he];exact e)
 obtain ⟨C,D,E,I,_,hw⟩:=DL g.w hi {ph with gp:=if v=0/\t=1 then .ld else .gone} (by rw[he];exact e)
 obtain ⟨rfl,rfl⟩:v=C/\t=D:=by simp only[dy] at e1 E;omega
 have e2:IntKind.u64.wrap (s.wg+18446744069414584320)=(v:Int)*4294967296+t:=by
  rw[e1]
  unfold IntKind.wrap
  simp only[IntKind.bits,IntKind.signed,dy]
  simp
  omega
 have G:s.wg - dy=(v:Int)*4294967296+t:=by rw[e1];simp only[dy];omega
 refine ⟨.int .u64 ((v:Int)*4294967296+t),_,_,{s with wg:=(v:Int)*4294967296+t},{ph with gp:=if v=0/\t=1 then .ld else .gone},fun b J cs hb=>by rw[<-e2];exact stepG_add_atomic l (cA hg) hb.kind r f1 f2 f3 f4 .u64 f5 z A hs.wg.1 hs.wg.2,by rw[<-e2];exact hs.vA aL _,.set _ (.inr (.inl rfl)),?_,zJ rfl ?_ q (.inl rfl),.inr ei,h v t B ht⟩
 .refine g.group hi he (by rw[e];simp) (by rw[e];simp) (by split<;>simp) ?_
  rw[<-G]
  exact hw rfl
 .simp only[e];split<;>simp
theorem L0 (m:Entry c.P f (Extern.Atomic.loadT (.int .u64)))(p:At ops j a f [.pointer (some (stA c.Wg))] d)(e:ph.gp= .ld)(q:0<ph.deaf)
  (h:ak (WJ c i) fi ops (j+1) n Q (bB a d (.int .u64 1)) F {ph with gp:=.st}):ak (WJ c i) fi ops j (n+1) Q a F ph:=by
 obtain ⟨o,cR,dN,g,hg,r,t,rfl⟩:=p
 obtain ⟨x,rfl,u⟩:=kO t
 obtain ⟨fn,f1,f2,f3,f4,f5⟩:=m.ex
 refine gi g (by rw[e];simp) fun w s k φ p0 _ hs hi he l=>.inr ?_
 obtain ⟨e1,hw⟩:=KU l.w hi {ph with gp:=.st} (by rw[he];exact e) rfl
 exact ⟨.int .u64 1,_,_,s,{ph with gp:=.st},fun b v cs hb=>by rw[<-e1];exact stepG_load_atomic g (cA hg) hb.kind r f1 f2 f3 f4 .u64 f5 u hs.wg.1,hs,.refl _ _,l.group hi he (by rw[e];simp) (by rw[e];simp) au hw,zI false rfl (by simp[e]) q (.inl rfl),.inr ei,h⟩
theorem L1 (m:Entry c.P f Extern.Atomic.storeT)(aL:c.Mu≠c.Wg/\c.Mu≠c.Is/\c.Wg≠c.Is)(p:At ops j a f [.pointer (some (stA c.Wg)),.int .u64 0] d)(e:ph.gp= .st)(q:0<ph.deaf)
  (h:ak (WJ c i) fi ops (j+1) n Q (bB a d (.tuple #[])) F {ph with gp:=.sm}):ak (WJ c i) fi ops j (n+1) Q a F ph:=by
 obtain ⟨o,cR,dN,g,hg,r,t,rfl⟩:=p
 obtain ⟨x,y,rfl,u,v⟩:=sE t
 obtain ⟨fn,f1,f2,f3,f4,f5⟩:=m.ex
 refine gi g (by rw[e];simp) fun w s k φ p0 _ hs hi he l=>.inr ?_
 obtain ⟨e1,hw⟩:=KV l.w hi {ph with gp:=.sm} (by rw[he];exact e) rfl
 exact ⟨.tuple #[],_,_,{s with wg:=0},{ph with gp:=.sm},fun b z cs hb=>stepG_store_atomic g (cA hg) hb.kind r f1 f2 f3 f4 f5 u v hs.wg.1 hs.wg.2,hs.vA aL _,.set _ (.inr (.inl rfl)),l.group hi he (by rw[e];simp) (by rw[e];simp) au hw,zI true rfl (by simp[e]) q (.inl rfl),.inr ei,h⟩
theorem L2 (r t:Value)(l:Entry c.P f Extern.Sync.semrelease)(aL:c.Mu≠c.Wg/\c.Mu≠c.Is/\c.Wg≠c.Is)(u:At ops j a f [.pointer (some (smA c.Wg)),r,t] d)(e:ph.gp= .sm)
  (h:ak (WJ c i) fi ops (j+1) n Q (bB a d (.tuple #[])) F {ph with gp:=.gone}):ak (WJ c i) fi ops j (n+1) Q a F ph:=by
 obtain ⟨o,cR,dN,m,hg,p,v,rfl⟩:=u
 obtain ⟨x,y,z,rfl,g,_,_⟩:=sF v
 obtain ⟨fn,f1,f2,f3,f4,f5⟩:=l.ex
 refine gi m (by rw[e];simp) fun w s k φ p0 _ hs hi he q=>.inr ?_
 obtain ⟨e1,hw⟩:=KW q.w hi {ph with gp:=.gone} (by rw[he];exact e) rfl
 have A:IntKind.u32.wrap (s.ws+1)=s.ws+1:=by rw[e1];decide
 refine ⟨.tuple #[],_,_,{s with ws:=s.ws+1},{ph with gp:=.gone},fun b B cs hb=>stepG_semrelease m (cA hg) hb.kind p f1 f2 f3 f4 f5 (by simp[eZ,g]) hs.ws.1 hs.ws.2,by rw[A];exact hs.Ej aL _,.set _ (.inr (.inl rfl)),
  q.group hi he (by rw[e];simp) (by rw[e];simp) au hw,zK rfl (by simp[e]) (.inl rfl),.inl ⟨_,p,fun x g=>?_⟩,h⟩
 cases g
 exact ⟨f,rfl,l.D8⟩
end
end Go.Sep
end
section
namespace Go.Sep
open Go Go.Conc
open Go.ConcN (sumTo upd upd_ne upd_same)
theorem ak.defer {P:Program}{main:Bool}{S:Type}{JF:S->Goroutine->af->Prop}{fi f:FuncId}{ops:Array Oper}{j n:Nat}{Q:Act->af->S->Prop}{a:Act}{F:af}{ph:S}(hM:eF P main (JF ph)){o:Oper}{cR:Array Operand}{dN:Array TypeId}{vals:Array Value}
  (e:ops[j]?=some o) (hg:cT ops o a=some true) (g:o.op= .defer {callee:=.value (.func f),args:=cR,argTypes:=dN}) (hd:o.dst=none) (k:cR.map a.eval=vals)
  (h:∀c:Act,(∀i,slot c i=slot a i)->sz c=sz a->c.defers=dcall f vals::a.defers->ak JF fi ops (j+1) n Q c F ph):ak JF fi ops j (n+1) Q a F ph:=fun b d cs hb l=>by
 rw[List.range'_succ,e6 hb.round]
 refine hM.move (fr':=b.at (Act.put ⟨a.tmps,dcall f (cR.map a.eval)::a.defers⟩ o.dst undef) (.inRegion ops (List.range' (j+1) n)::d)) (fun w=>stepG_defer e (cA hg) hb.kind g) ?_
 rw[<-e6 hb.round,hd,k]
 exact h ⟨a.tmps,dcall f vals::a.defers⟩ (fun _=>rfl) rfl rfl b d cs hb l
section
variable {c:Cy}{i:Nat}{ph:Ph}{F:af}{f:FuncId}
theorem L3 (g:Entry c.P f (fun _=>do mark .enable;pure Extern.Race.none_))(hg:ph.gp= .gone){d:Nat}(hd:ph.deaf=d+1){b:Frame}{a:Act}{todo:List Item}{cs:List Frame}{e:List Deferred}(j:a.defers=dcall f #[]::e)
  (h:WJ c i {ph with deaf:=d} (G {b.at ⟨a.tmps,e⟩ todo with mode:=.returning} cs) F):WJ c i ph (G {b.at a todo with mode:=.returning} cs) F:=by
 obtain ⟨F0,r,hle,hW⟩:=h
 obtain ⟨q,_,k⟩:=hW.left hg
 obtain ⟨fn,f1,f2,f3,f4,f5⟩:=g.ex
 refine Wk.gone (q:=q+1) hg (QuitsD.unwind_mark .enable rfl au j f1 f2 f3 f4 f5 ?_)
 rw[hd]
 exact k
def lR (f:FuncId)(R:Value->af->Ph->Prop):Ex->Act->af->Ph->Prop
 | .exit _,_,_,_=>False
 |_,a,F,ph=>a.defers=[dcall f #[]]/\ph.gp= .gone/\∃b,ph.deaf=b+1/\R (.tuple #[]) F {ph with deaf:=b}
theorem cX.L4 {f0:FuncId}(o:Entry c.P f (fun _=>do mark .enable;pure Extern.Race.none_)){fn:Func}{cd:Code}{n:Nat}{args:Array Value}{R:Value->af->Ph->Prop}(k:c.P.funcs[f0]?=some fn)(hb:fn.body=some cd)(l:fn.results=#[])(m:fn.ntmps=n)(u:args.size<=n)
  (h:∀A:Act,sz A=n->A.defers=[]->(∀i,slot A i=args.getD i undef)->c9 (WJ c i) f0 cd (lR f R) A F ph):cX c.P (WJ c i) f0 args F ph R:=by
 intro d cs p
 let b:Frame:={(default:Frame) with fn:=f0,kind:=.normal}
 have q:b.roundOf=none:=rfl
 have r:Frame.enter c.P f0 args .normal=on b {tmps:=args++Array.replicate (fn.ntmps - args.size) undef,defers:=[]} [.code cd]:=by
  simp[Frame.enter,on,k,hb,b]
  rfl
 rw[r]
 have hM:=WJ.eR c i
 have leave:∀(a:Act) (todo:List Item) F' (aU:Ph),(a.defers=[dcall f #[]]/\aU.gp= .gone/\∃g,aU.deaf=g+1/\R (.tuple #[]) F' {aU with deaf:=g})->WJ c i aU (G {on b a todo with mode:=.returning} (d::cs)) F':=by
  intro a todo F' aU ⟨hd,hg,g,s,t⟩
  rw[e6 q]
  refine L3 o hg s hd ((hM _).move (fr':=d.finish (.tuple #[])) (cs':=cs) (fun w=>?_) (p _ F' _ t))
  exact stepG_leave rfl rfl k (results_none l _ c.P w) (events_results_none l _ _)
 refine h _ (by simp[sz,m];omega) rfl (fun i=>?_) b [] (d::cs) ⟨by simp[b],rfl,rfl⟩ fun e a F' aU j=>?_
 .simp only[slot,m,Array.getD_eq_getD_getElem?]
  rcases Nat.lt_or_ge i args.size with hi|hi
  .rw[Array.getElem?_append_left hi]
  .rw[Array.getElem?_append_right hi,Array.getElem?_replicate,Array.getElem?_eq_none hi]
   split<;>rfl
 .cases e with
  |normal=>exact (hM aU).move (fun _=>mU rfl) (leave a _ F' aU j)
  |exit i=>exact j.elim
  |ret=>exact fun v=>(hM aU).move (fun _=>stepG_ret' rfl) (leave a _ F' aU j)
def zQ (R:af->Ph->Prop):Ex->Act->af->Ph->Prop
 | .exit _,_,_,_=>False
 |_,a,F,ph=>a.defers=[]/\R F ph
theorem L5 {f0:FuncId}{fn:Func}{cd:Code}{n:Nat}{args:Array Value}{R:af->Ph->Prop}(j:c.P.funcs[f0]?=some fn)(o:(fn.name== "runtime.NumGoroutine")=false)(hb:fn.body=some cd)(k:fn.results=#[])(l:fn.ntmps=n)(s:args.size<=n)
  {b:Frame} {a:Act} {todo:List Item} {cs:List Frame} {f:List Deferred} (p:a.defers=dcall f0 args::f)
  (h:∀A:Act,sz A=n->A.defers=[]->(∀i,slot A i=args.getD i undef)->c9 (WJ c i) f0 cd (zQ R) A F ph)
  (q:∀F' aU,R F' aU->WJ c i aU (G {b.at ⟨a.tmps,f⟩ todo with mode:=.returning} cs) F'):WJ c i ph (G {b.at a todo with mode:=.returning} cs) F:=by
 have hM:=WJ.eR c i
 refine (hM ph).move (fun w=>stepG_unwind_enter p j o hb) ?_
 have leave:∀(d:Act) (m:List Item) F' (aU:Ph),(d.defers=[]/\R F' aU)->WJ c i aU (G {(baseD f0).at d m with mode:=.returning} ({b.at ⟨a.tmps,f⟩ todo with mode:=.returning}::cs)) F':=by
  intro d m F' aU ⟨hd,r⟩
  exact (hM _).move (fun w=>stepG_leave_deferred rfl hd j (results_none k _ c.P w) (events_results_none k _ _) rfl) (q F' aU r)
 have:=h {tmps:=args++Array.replicate (fn.ntmps - args.size) undef,defers:=[]} (by simp[sz,l];omega) rfl (fun i=>?_) (baseD f0) [] ({b.at ⟨a.tmps,f⟩ todo with mode:=.returning}::cs) ⟨by simp[baseD],rfl,rfl⟩ fun e d F' aU g=>?_
 .rw[e6 rfl] at this;exact this
 .simp only[slot,l,Array.getD_eq_getD_getElem?]
  rcases Nat.lt_or_ge i args.size with hi|hi
  .rw[Array.getElem?_append_left hi]
  .rw[Array.getElem?_append_right hi,Array.getElem?_replicate,Array.getElem?_eq_none hi]
   split<;>rfl
 .cases e with
  |normal=>exact (hM aU).move (fun _=>mU rfl) (leave d _ F' aU g)
  |exit i=>exact g.elim
  |ret=>exact fun t=>(hM aU).move (fun _=>stepG_ret' rfl) (leave d _ F' aU g)
end
attribute [go_sem] lR zQ
end Go.Sep
end
section
namespace Go.Sep
open Go
def lS (x y:Int):Int:=IntKind.u64.wrap ((BitVec.ofInt 64 x&&& BitVec.ofInt 64 y).toNat:Int)
@[go_sem] theorem TW (x y:Int):IntKind.u64.wrap ((@HAnd.hAnd (BitVec 64) (BitVec 64) (BitVec 64) (@instHAndOfAndOp (BitVec IntKind.u64.bits) (@BitVec.instAndOp IntKind.u64.bits)) (BitVec.ofInt 64 x) (BitVec.ofInt 64 y)).toNat:Int)=lS x y:=rfl
theorem zR (v t:Nat)(a:v<2147483648)(ht:t<=1):lS ((v:Int)*4294967296+(t:Int)) 2147483648=0:=Go.ConcN.st_flag v t a ht
theorem zS (v t:Nat)(a:v<2147483648)(ht:t<=1):lS ((v:Int)*4294967296+(t:Int)) 2147483647=(t:Int):=Go.ConcN.st_waiters v t a ht
theorem zT (v t:Nat)(ht:t<=1):((v:Int)*4294967296+(t:Int)).fdiv 4294967296=v:=by
 rw[Int.fdiv_eq_ediv_of_nonneg _ aB];omega
end Go.Sep
namespace Go.Proofs.YtbpddfapodiemaaGreatDoor
open Go Go.Sep Go.Proofs Go.Conc
open Go.ConcN (upd upd_same)
open Go.ConcM (muA msA)
open Go.ConcR (stA smA)
set_option maxRecDepth 100000
set_option maxHeartbeats 4000000
set_option linter.all false
attribute [local go_sem] Int.reduceBEq Int.reduceBNe muA msA stA smA
section
variable {Mu Wg Is n base T0 i:Nat}{bs:Nat->Bool}{st:Bool}{F:af}
theorem L6 (w:World)(s:Sh)(h:cQ (CY Mu Wg Is n bs base T0) w s):∃v,w.cell? ⟨Wg,0,none⟩=some v:=⟨_,h.wg.1⟩
theorem L7 (aL:Mu≠Wg/\Mu≠Is/\Wg≠Is)(a:n<67108864){mp:Mp}:
  cX Tryz.prog (WJ (CY Mu Wg Is n bs base T0) i) 158 #[.pointer (some (stA Wg)),.int .u64 18446744069414584320] F ⟨mp,.rel,st,1⟩
   (fun r F' aU=>F'=F/\∃v t:Nat,v<=n/\t<=1/\r= .int .u64 ((v:Int)*4294967296+(t:Int))/\aU=⟨mp,if v=0/\t=1 then .ld else .gone,st,1⟩):=by
 have hM:=WJ.eR (CY Mu Wg Is n bs base T0) i
 refine cX.go (main:=false) hM Tryz.func158 rfl Tryz.ntmps158 au fun A c hd hs=>?_
 have d:=hs 0
 have k1:=hs 1
 clear hs
 repeat apply aI (hM _)
 refine dB hM ?_
 refine ak.pure (hM _) 1 (n:=0) _ rfl rfl ?_;apply ag _
 refine ak.nil hM ?_;try simp only[go_sem]
 repeat apply aI (hM _)
 refine dB hM ?_
 refine ak.pure (hM _) 4 (n:=2) _ rfl rfl ?_;apply ag _
 refine LZ Ec aL a ⟨_,_,_,rfl,(by first|rfl|simp only[*,go_sem]),rfl,by first|(simp only[*,go_sem];done)|(simp only[*,go_sem];rfl),rfl⟩ (by rfl) au fun v t b ht=>?_
 refine ak.pure (hM _) 1 (n:=0) _ rfl rfl ?_;apply ag _
 refine ak.nil hM ?_;try simp only[go_sem]
 refine gh ?_;try simp only[go_sem]
 exact (mO rfl aN aN ⟨rfl,v,t,b,ht,rfl,rfl⟩).2
theorem L8 {mp:Mp}:
  cX Tryz.prog (WJ (CY Mu Wg Is n bs base T0) i) 160 #[.pointer (some (stA Wg))] F ⟨mp,.ld,st,1⟩
   (fun r F' aU=>F'=F/\r= .int .u64 1/\aU=⟨mp,.st,st,1⟩):=by
 have hM:=WJ.eR (CY Mu Wg Is n bs base T0) i
 refine cX.go (main:=false) hM Tryz.func160 rfl Tryz.ntmps160 au fun A a hd hs=>?_
 have b:=hs 0
 clear hs
 repeat apply aI (hM _)
 refine dB hM ?_
 refine ak.pure (hM _) 1 (n:=0) _ rfl rfl ?_;apply ag _
 refine ak.nil hM ?_;try simp only[go_sem]
 repeat apply aI (hM _)
 refine dB hM ?_
 refine ak.pure (hM _) 3 (n:=2) _ rfl rfl ?_;apply ag _
 refine L0 zC ⟨_,_,_,rfl,(by first|rfl|simp only[*,go_sem]),rfl,by first|(simp only[*,go_sem];done)|(simp only[*,go_sem];rfl),rfl⟩ (by rfl) au ?_
 refine ak.pure (hM _) 1 (n:=0) _ rfl rfl ?_;apply ag _
 refine ak.nil hM ?_;try simp only[go_sem]
 refine gh ?_;try simp only[go_sem]
 exact (mO rfl aN aN ⟨rfl,rfl,rfl⟩).2
theorem L9 (aL:Mu≠Wg/\Mu≠Is/\Wg≠Is){mp:Mp}:
  cX Tryz.prog (WJ (CY Mu Wg Is n bs base T0) i) 161 #[.pointer (some (stA Wg)),.int .u64 0] F ⟨mp,.st,st,1⟩
   (fun r F' aU=>F'=F/\r= .tuple #[]/\aU=⟨mp,.sm,st,1⟩):=by
 have hM:=WJ.eR (CY Mu Wg Is n bs base T0) i
 refine cX.go (main:=false) hM Tryz.func161 rfl Tryz.ntmps161 au fun A a hd hs=>?_
 have b:=hs 0
 have k1:=hs 1
 clear hs
 repeat apply aI (hM _)
 refine dB hM ?_
 refine ak.pure (hM _) 4 (n:=1) _ rfl rfl ?_;apply ag _
 refine L1 Lt aL ⟨_,_,_,rfl,(by first|rfl|simp only[*,go_sem]),rfl,by first|(simp only[*,go_sem];done)|(simp only[*,go_sem];rfl),rfl⟩ (by rfl) au ?_
 refine ak.nil hM ?_;try simp only[go_sem]
 exact mN rfl aN ⟨rfl,rfl,rfl⟩
end
end Go.Proofs.YtbpddfapodiemaaGreatDoor
end
section
namespace Go.Sep
open Go Go.Conc
open Go.ConcN (sumTo upd upd_ne upd_same)
open Go.ConcM (MuAt muA msA muBlock OsLater)
open Go.ConcR (WgAt wgBlock stA smA)
structure X where
 Mu:Nat
 Wg:Nat
 Is:Nat
 n:Nat
 bs:Nat->Bool
 base:Nat
 T0:Nat
 B0:Nat
inductive Z where
 |free
 |co (x:X) (k:Nat) (p:P0) (d:Nat)
structure PT where
 P:Program
 tM:TypeId
 tW:TypeId
 tI:TypeId
abbrev X.cy (x:X)(T:PT):Cy:=⟨T.P,x.Mu,x.Wg,x.Is,T.tM,T.tW,T.tI,x.n,x.bs,x.base,x.T0⟩
def ZJ (T:PT)(Φ:Goroutine->af->Prop):Z->Goroutine->af->Prop
 | .free=>jr T.P Φ
 | .co x k p d=>fun g F=>(p= .reg->k=x.n)/\eP (x.cy T) x.B0 (jr T.P Φ) k p d g F
section
variable {T:PT}{Φ:Goroutine->af->Prop}{x:X}{k d:Nat}{p:P0}{ops:Array Oper}{j n:Nat}{Q:Act->af->Z->Prop}{a:Act}{F:af}{o:Oper}{f fi:FuncId}{dt:Option Tmp}
theorem Es {c:Cy}:Ev0 c d d #[]:=⟨au,rfl⟩
theorem Ma {c:Cy}:Ev0 c d (d+1) #[c5 .disable]:=⟨fun e he=>by simp at he;exact .inl he,rfl⟩
theorem Et {c:Cy}:Ev0 c (d+1) d #[c5 .enable]:=⟨fun e he=>by simp at he;exact .inr (.inl he),rfl⟩
theorem zU {c:Cy}{ad:Addr}(y:Bool)(h:ad.block=c.Wg):Ev0 c d d #[⟨.cell ad,y,true⟩]:=⟨fun e he=>by simp at he;exact .inr (.inr ⟨ad,h,.inl ⟨y,he⟩⟩),by simp[deafBehind]⟩
theorem Eu {c:Cy}{ad:Addr}(h:ad.block=c.Wg):Ev0 c d d #[⟨.cell ad,false,true⟩,⟨.cell ad,true,true⟩]:=
 ⟨fun e he=>by simp at he;rcases he with he|he<;>exact .inr (.inr ⟨ad,h,.inl ⟨_,he⟩⟩),by simp[deafBehind]⟩
theorem Mb {c:Cy}{ad:Addr}(h:ad.block=c.Wg):Ev0 c d d #[c5 (.read ad)]:=⟨fun e he=>by simp at he;exact .inr (.inr ⟨ad,h,.inr (.inl he)⟩),by simp[deafBehind,c5]⟩
theorem Mc {c:Cy}{ad:Addr}(h:ad.block=c.Wg):Ev0 c d d #[c5 (.write ad)]:=⟨fun e he=>by simp at he;exact .inr (.inr ⟨ad,h,.inr (.inr he)⟩),by simp[deafBehind,c5]⟩
theorem Md {c:Cy}{ad:Addr}(h:ad.block=c.Wg):Ev0 c d d (semEvents ad):=by
 refine ⟨fun e he=>?_,by simp[deafBehind,semEvents]⟩;simp[semEvents] at he;rcases he with rfl|rfl|rfl|rfl
 .exact .inl rfl
 .exact .inr (.inr ⟨ad,h,.inl ⟨_,rfl⟩⟩)
 .exact .inr (.inr ⟨ad,h,.inl ⟨_,rfl⟩⟩)
 .exact .inr (.inl rfl)
theorem ZJ.eR (T:PT)(Φ:Goroutine->af->Prop)(z:Z):eF T.P true (ZJ T Φ z):=by
 cases z with
 |free=>exact Closed.eR (D2 T.P Φ)
 |co x k p d=>
  refine ⟨fun {fr fr' cs cs' F} hs h=>⟨h.1,eP.zx (c:=x.cy T) rfl rfl h.1 fun w s φ e a b=>?_⟩⟩;exact ⟨_,w,#[],s,p,d,hs w,a,.refl _ _,b,Es,.inr ei,h.2⟩
theorem ZJ.closed (T:PT)(Φ:Goroutine->af->Prop){z:Z}(b:∀x k d,z≠ .co x k .reg d):Closed T.P true (ZJ T Φ z):=by
 cases z with
 |free=>exact D2 T.P Φ
 |co x k p d=>
  have a:p≠ .reg:=fun e=>b x k d (by rw[e]);have hC:=eP.closed (x.cy T) x.B0 (jr T.P Φ) k p d a
  exact ⟨fun hle h=>⟨h.1,hC.mono hle h.2⟩,fun {fr cs F} h=>⟨fun e=>absurd e a,hC.step fun w hw=>by
   obtain ⟨g',w',es,F',k1,c,f,g,i⟩:=h w hw
   exact ⟨g',w',es,F',k1,c,f,g,i.2⟩⟩⟩
theorem lT (A:ops[j]?=some o)(i:p= .reg->k=x.n)
  (h:∀(w:World) (s:Sh) (φ:Nat->Ph),Has F w->cQ (x.cy T) w s->Inv x.n x.bs k φ p s->
   ∃(v:Value) (w':World) (es:Array Event) (s':Sh) (f:P0) (g:Nat),(∀(b:Frame) (e:List Item) (cs:List Frame),BF fi b->
    stepG T.P true (G (b.at a (.inRegion ops (j::List.range' (j+1) n)::e)) cs) w= .go (G (b.at (a.put o.dst v) (.inRegion ops (List.range' (j+1) n)::e)) cs) w' es)/\cQ (x.cy T) w' s'/\iV (x.cy T) w w'/\Inv x.n x.bs k φ f s'/\Ev0 (x.cy T) d g es/\
    (s'.ms<=s.ms/\s'.ws<=s.ws)/\ak (ZJ T Φ) fi ops (j+1) n Q (a.put o.dst v) F (.co x k f g)):ak (ZJ T Φ) fi ops j (n+1) Q a F (.co x k p d):=fun b e cs hb l=>by
 rw[List.range'_succ,e6 hb.round]
 refine ⟨i,eP.zx (c:=x.cy T) rfl rfl i fun w s φ e1 e2 m=>?_⟩
 obtain ⟨v,w',es,s',f,g,k1,q,r,t,u,y,z⟩:=h w s φ e1 e2 m
 have:=z b e cs hb l
 rw[e6 hb.round] at this
 exact ⟨_,w',es,s',f,g,k1 b e cs hb,q,r,t,u,.inr y,this.2⟩
theorem qi {k:Nat}{φ:Nat->Ph}{p a:P0}{s:Sh}(h:Inv x.n x.bs k φ p s){wg ws:Int}(hw:dY x.n φ a wg ws):Inv x.n x.bs k φ a {s with wg:=wg,ws:=ws}:=⟨h.m,hw,h.i⟩
theorem Ev (i:Entry T.P f (fun _=>do mark .disable;pure Extern.Race.none_)){vals:List Value}(l:At ops j a f vals dt)(m:p= .reg->k=x.n)(c:P0)(q:∀φ wg ws,dY x.n φ p wg ws->dY x.n φ c wg ws)
  (h:ak (ZJ T Φ) fi ops (j+1) n Q (bB a dt (.tuple #[])) F (.co x k c (d+1))):ak (ZJ T Φ) fi ops j (n+1) Q a F (.co x k p d):=by
 obtain ⟨o,cR,dN,e,hg,r,_,rfl⟩:=l
 obtain ⟨fn,f1,f2,f3,f4,f5⟩:=i.ex
 exact lT e m fun w s φ _ hs g=>⟨.tuple #[],w,_,s,c,d+1,fun b t cs hb=>stepG_mark0 .disable au e (cA hg) hb.kind r f1 f2 f3 f4 f5,hs,.refl _ _,qi g (q _ _ _ g.w),Ma,ei,h⟩
theorem Ew (e:Entry T.P f (fun _=>do mark .enable;pure Extern.Race.none_)){vals:List Value}(g:At ops j a f vals dt)(i:p= .reg->k=x.n)
  (h:ak (ZJ T Φ) fi ops (j+1) n Q (bB a dt (.tuple #[])) F (.co x k p d)):ak (ZJ T Φ) fi ops j (n+1) Q a F (.co x k p (d+1)):=by
 obtain ⟨o,cR,dN,c,hg,l,_,rfl⟩:=g
 obtain ⟨fn,f1,f2,f3,f4,f5⟩:=e.ex
 exact lT c i fun w s φ _ hs m=>⟨.tuple #[],w,_,s,p,d,fun b q cs hb=>stepG_mark0 .enable au c (cA hg) hb.kind l f1 f2 f3 f4 f5,hs,.refl _ _,m,Et,ei,h⟩
theorem Me (e:Entry T.P f (Extern.Race.marked .read))(g:At ops j a f [.pointer (some (smA x.Wg))] dt)(i:p= .reg->k=x.n)
  (h:ak (ZJ T Φ) fi ops (j+1) n Q (bB a dt (.tuple #[])) F (.co x k p d)):ak (ZJ T Φ) fi ops j (n+1) Q a F (.co x k p d):=by
 obtain ⟨o,cR,dN,c,hg,l,m,rfl⟩:=g
 obtain ⟨y,rfl,q⟩:=kO m
 obtain ⟨fn,f1,f2,f3,f4,f5⟩:=e.ex
 exact lT c i fun w s φ _ hs r=>⟨.tuple #[],w,_,s,p,d,fun b t cs hb=>stepG_markAt .read au c (cA hg) hb.kind l f1 f2 f3 f4 f5 (by simp[eZ,q]),hs,.refl _ _,r,Mb (ad:=smA x.Wg) rfl,ei,h⟩
theorem Mf (e:Entry T.P f (Extern.Race.marked .write))(g:At ops j a f [.pointer (some (smA x.Wg))] dt)(i:p= .reg->k=x.n)
  (h:ak (ZJ T Φ) fi ops (j+1) n Q (bB a dt (.tuple #[])) F (.co x k p d)):ak (ZJ T Φ) fi ops j (n+1) Q a F (.co x k p d):=by
 obtain ⟨o,cR,dN,c,hg,l,m,rfl⟩:=g
 obtain ⟨y,rfl,q⟩:=kO m
 obtain ⟨fn,f1,f2,f3,f4,f5⟩:=e.ex
 exact lT c i fun w s φ _ hs r=>⟨.tuple #[],w,_,s,p,d,fun b t cs hb=>stepG_markAt .write au c (cA hg) hb.kind l f1 f2 f3 f4 f5 (by simp[eZ,q]),hs,.refl _ _,r,Mc (ad:=smA x.Wg) rfl,ei,h⟩
theorem vJ (ad:Addr){src dst t:TypeId}(hs:T.P.underlying src=some (.pointer t))(hd:T.P.underlying dst=some .unsafePointer)(c:(T.P.info? t).map (fun i=>decide (i.size=0))=some false){y:Operand}
  (l:ou ops j a (.convert src dst y) dt) (m:p= .reg->k=x.n) (q:ev a y= .pointer (some ad)) (hc:∀w s,cQ (x.cy T) w s->∃v,w.cell? ad=some v) (h:ak (ZJ T Φ) fi ops (j+1) n Q (bB a dt (.pointer (some ad))) F (.co x k p d)):ak (ZJ T Φ) fi ops j (n+1) Q a F (.co x k p d):=by
 obtain ⟨o,e,hg,r,rfl⟩:=l
 refine lT e m fun w s φ _ f u=>⟨_,w,#[],s,p,d,fun b B cs hb=>?_,f,.refl _ _,u,Es,ei,h⟩
 obtain ⟨v,g⟩:=hc w s f
 have e1:execOp a.eval o=(do pure (.value (<-convert src dst (.pointer (some ad)))):Sem Next):=by
  unfold execOp
  simp only[r,eZ,q]
 have z:(execOp a.eval o).run T.P w= .ok (.value (.pointer (some ad))) w:=by
  rw[e1];simp[run_convert_to_unsafe hs hd c g]
 have A:(execOp a.eval o).events T.P w #[]=#[]:=by
  rw[e1];simp[events_convert_to_unsafe hs hd c g]
 rw[stepG_value e (cA hg) hb.kind z]
 unfold listed
 rw[A,seen_none]
theorem Mg (i:Entry T.P f (Extern.Atomic.update (Op.intArith .add) .u64 true))(aL:x.Mu≠x.Wg/\x.Mu≠x.Is/\x.Wg≠x.Is)(A:x.n<67108864)(l:At ops j a f [.pointer (some (stA x.Wg)),.int .u64 4294967296] dt)
  (h:∀v:Nat,v<=x.n->ak (ZJ T Φ) fi ops (j+1) n Q (bB a dt (.int .u64 (((v+1:Nat):Int)*4294967296+((0:Nat):Int)))) F (.co x k (.opn 1) d)):ak (ZJ T Φ) fi ops j (n+1) Q a F (.co x k (.opn 0) d):=by
 obtain ⟨o,cR,dN,c,hg,m,p,rfl⟩:=l
 obtain ⟨y,z,rfl,q,r⟩:=sE p
 obtain ⟨fn,f1,f2,f3,f4,f5⟩:=i.ex
 refine lT c (fun e=>by cases e) fun w s φ _ hs g=>?_
 obtain ⟨v,e1,t,hw⟩:=KX g.w
 have e2:IntKind.u64.wrap (s.wg+4294967296)=((v+1:Nat):Int)*4294967296+((0:Nat):Int):=by
  rw[e1]
  unfold IntKind.wrap
  simp only[IntKind.bits,IntKind.signed,dy]
  simp
  omega
 have u:s.wg+dy=((v+1:Nat):Int)*4294967296+((0:Nat):Int):=by rw[e1];simp only[dy];omega
 rw[u] at hw
 exact ⟨_,_,_,{s with wg:=((v+1:Nat):Int)*4294967296+((0:Nat):Int)},.opn 1,d,fun b B cs hb=>by rw[<-e2];exact stepG_add_atomic c (cA hg) hb.kind m f1 f2 f3 f4 .u64 f5 q r hs.wg.1 hs.wg.2,by rw[<-e2];exact hs.vA aL _,.set _ (.inr (.inl rfl)),qi g hw,Eu rfl,ei,h v t⟩
theorem Mh (i:Entry T.P f (Extern.Atomic.loadT (.int .u64)))(l:At ops j a f [.pointer (some (stA x.Wg))] dt){u:Nat}
  (h:∀v:Nat,v<=u->ak (ZJ T Φ) fi ops (j+1) n Q (bB a dt (.int .u64 ((v:Int)*4294967296+((0:Nat):Int)))) F (.co x k (if v=0 then .fC else .look v) d)):ak (ZJ T Φ) fi ops j (n+1) Q a F (.co x k (.look u) d):=by
 obtain ⟨o,cR,dN,c,hg,m,p,rfl⟩:=l
 obtain ⟨y,rfl,q⟩:=kO p
 obtain ⟨fn,f1,f2,f3,f4,f5⟩:=i.ex
 refine lT c (fun e=>by cases e) fun w s φ _ hs g=>?_
 obtain ⟨v,e1,r,hw⟩:=K0 g.w
 have e2:s.wg=(v:Int)*4294967296+((0:Nat):Int):=by rw[e1];simp only[dy];omega
 exact ⟨_,_,_,s,_,d,fun b t cs hb=>by rw[<-e2];exact stepG_load_atomic c (cA hg) hb.kind m f1 f2 f3 f4 .u64 f5 q hs.wg.1,hs,.refl _ _,qi g hw,zU false rfl,ei,h v r⟩
theorem Mi (i:Entry T.P f (Extern.Atomic.loadT (.int .u64)))(l:At ops j a f [.pointer (some (stA x.Wg))] dt)
  (h:ak (ZJ T Φ) fi ops (j+1) n Q (bB a dt (.int .u64 0)) F (.co x k .fC d)):ak (ZJ T Φ) fi ops j (n+1) Q a F (.co x k .fC d):=by
 obtain ⟨o,cR,dN,c,hg,m,p,rfl⟩:=l
 obtain ⟨y,rfl,q⟩:=kO p
 obtain ⟨fn,f1,f2,f3,f4,f5⟩:=i.ex
 refine lT c (fun e=>by cases e) fun w s φ _ hs g=>?_
 have e2:s.wg=0:=(DN g.w).1
 exact ⟨_,_,_,s,_,d,fun b r cs hb=>by rw[<-e2];exact stepG_load_atomic c (cA hg) hb.kind m f1 f2 f3 f4 .u64 f5 q hs.wg.1,hs,.refl _ _,g,zU false rfl,ei,h⟩
theorem Mj (q:Entry T.P f (Extern.Atomic.casT (.int .u64)))(aL:x.Mu≠x.Wg/\x.Mu≠x.Is/\x.Wg≠x.Is){v:Nat}(r:0<v)(G:k=x.n)(t:At ops j a f [.pointer (some (stA x.Wg)),.int .u64 ((v:Int)*4294967296+((0:Nat):Int)),.int .u64 ((v:Int)*4294967296+((0:Nat):Int)+1)] dt)
  (u:ak (ZJ T Φ) fi ops (j+1) n Q (bB a dt (.bool true)) F (.co x k .reg d)) (A:ak (ZJ T Φ) fi ops (j+1) n Q (bB a dt (.bool false)) F (.co x k (.look (v - 1)) d)):ak (ZJ T Φ) fi ops j (n+1) Q a F (.co x k (.look v) d):=by
 obtain ⟨o,cR,dN,g,hg,h,B,rfl⟩:=t
 obtain ⟨y,z,H,rfl,i,l,m⟩:=sF B
 obtain ⟨fn,f1,f2,f3,f4,f5⟩:=q.ex
 refine lT g (fun e=>by cases e) fun w s φ _ hs c=>?_
 by_cases e:s.wg=(v:Int)*4294967296+((0:Nat):Int)
 .have e1:s.wg=(v:Int)*dy:=by rw[e];simp only[dy];omega
  have hw:=c.w
  rw[e1] at hw
  have p:=K1 hw r
  have C:(v:Int)*dy+1=(v:Int)*4294967296+((0:Nat):Int)+1:=by simp only[dy];omega
  rw[C] at p
  exact ⟨.bool true,_,_,{s with wg:=(v:Int)*4294967296+((0:Nat):Int)+1},.reg,d,fun b D cs hb=>stepG_cas_hit g (cA hg) hb.kind h f1 f2 f3 f4 .u64 f5 i l m (by rw[<-e];exact hs.wg.1) hs.wg.2,hs.vA aL _,.set _ (.inr (.inl rfl)),qi c p,Eu rfl,ei,u⟩
 .have e1:s.wg≠(v:Int)*dy:=fun E=>e (by rw[E];simp only[dy];omega)
  exact ⟨.bool false,_,_,s,.look (v - 1),d,fun b D cs hb=>stepG_cas_miss g (cA hg) hb.kind h f1 f2 f3 f4 .u64 f5 i l m hs.wg.1 hs.wg.2 e,hs,.refl _ _,qi c (K2 c.w e1).2,zU false rfl,ei,A⟩
theorem Mk (q:Value)(r:Entry T.P f Extern.Sync.semacquire)(aL:x.Mu≠x.Wg/\x.Mu≠x.Is/\x.Wg≠x.Is)(g:k=x.n)(t:At ops j a f [.pointer (some (smA x.Wg)),q] dt)
  (h:ak (ZJ T Φ) fi ops (j+1) n Q (bB a dt (.tuple #[])) F (.co x k .fC d)):ak (ZJ T Φ) fi ops j (n+1) Q a F (.co x k .reg d):=fun b u cs hb v=>by
 obtain ⟨o,cR,dN,i,hg,l,A,rfl⟩:=t
 obtain ⟨y,z,rfl,m,_⟩:=sE A
 obtain ⟨fn,f1,f2,f3,f4,f5⟩:=r.ex
 rw[List.range'_succ,e6 hb.round]
 refine ⟨fun _=>g,eP.act (c:=x.cy T) rfl rfl (fun _=>⟨g,fun w s hs e=>?_⟩) fun w s φ e1 hs p B=>?_⟩
 .exact stepG_semacquire_wait i (cA hg) l f1 f2 f3 f4 f5 (ad:=smA x.Wg) (by simp[eZ,m]) (by rw[hs.ws.1,e])
 .have e:=B rfl
  obtain ⟨C,D,hw⟩:=K3 p.w e
  have:=h b u cs hb v
  rw[e6 hb.round] at this
  exact ⟨_,_,_,{s with ws:=s.ws - 1},.fC,d,stepG_semacquire i (cA hg) hb.kind l f1 f2 f3 f4 f5 (by simp[eZ,m]) hs.ws.1 e hs.ws.2,hs.Ej aL _,.set _ (.inr (.inl rfl)),qi p hw,Md rfl,.inr ⟨Int.le_refl _,by simp only;omega⟩,this.2⟩
theorem Ey (d:Entry T.P f (Extern.Race.marked .acquire))(e:k=x.n)(g:At ops j a f [.pointer (some (stA x.Wg))] dt)
  (h:ak (ZJ T Φ) fi ops (j+1) n Q (bB a dt (.tuple #[])) ⟨F.ro,(x.Is,(x.cy T).fin)::F.own⟩ .free):ak (ZJ T Φ) fi ops j (n+1) Q a F (.co x k .fC 0):=fun b i cs hb l=>by
 obtain ⟨o,cR,dN,m,hg,p,q,rfl⟩:=g
 obtain ⟨y,rfl,r⟩:=kO q
 obtain ⟨fn,f1,f2,f3,f4,f5⟩:=d.ex
 rw[List.range'_succ,e6 hb.round]
 subst e
 have:=h b i cs hb l
 rw[e6 hb.round] at this
 exact ⟨fun _=>rfl,eP.join (c:=x.cy T) rfl rfl fun w hw=>⟨_,stepG_markAt .acquire au m (cA hg) hb.kind p f1 f2 f3 f4 f5 (by simp[eZ,r]),rfl,this⟩⟩
theorem Ml (i:k<x.n){d:Deferred}{fv:Operand}{g:Fn}{caps:Array Value}(l:ops[j]?=some o)(hg:cT ops o a=some true)(f:∀w,(execOp a.eval o).run T.P w= .ok (.spawn d) w/\(execOp a.eval o).events T.P w #[]=#[])(hd:d.target= .fn g caps)
  (hW:Wk (x.cy T) k ⟨.idle,.cnt,false,0⟩ (born T.P d) ⟨F.ro,[]⟩) (h:ak (ZJ T Φ) fi ops (j+1) n Q (bB a o.dst undef) F (.co x (k+1) (.opn 0) 0)):ak (ZJ T Φ) fi ops j (n+1) Q a F (.co x k (.opn 1) 0):=fun b m cs hb p=>by
 rw[List.range'_succ,e6 hb.round]
 have:=h b m cs hb p
 rw[e6 hb.round] at this
 refine ⟨fun e=>(by cases e),eP.spawn (c:=x.cy T) rfl rfl i fun w hw=>⟨_,_,?_,hW,rfl,rfl,this.2⟩⟩
 rw[stepG_spawn l (cA hg) hb.kind (f w).1 hd]
 unfold listed
 rw[(f w).2,seen_none]
 rfl
end
section
variable {T:PT}{Φ:Goroutine->af->Prop}{fi f:FuncId}
theorem Mm {cd:Code}{Q:Ex->Act->af->Z->Prop}{a:Act}{F:af}(c:af)(Mu Wg Is n:Nat)(bs:Nat->Bool)
  (hle:Le ⟨c.ro,(Mu,muBlock T.tM 0 0)::(Wg,wgBlock T.tW 0 0)::(Is,.cells (List.replicate n (Value.bool false)).toArray T.tI)::c.own⟩ F)
  (h:∀base B0 T0,0<base->(Mu≠Wg/\Mu≠Is/\Wg≠Is)->c9 (ZJ T Φ) fi cd Q a c (.co ⟨Mu,Wg,Is,n,bs,base,T0,B0⟩ 0 (.opn 0) 0)):c9 (ZJ T Φ) fi cd Q a F .free:=fun b k cs hb d=>
 jr.found bs rfl rfl hle fun base B0 T0 e aL=>(h base B0 T0 e aL b k cs hb d).2
theorem Mn (l:Entry T.P f (fun _=>do mark .enable;pure Extern.Race.none_)){x:X}{k d:Nat}{p:P0}{F:af}(e:p= .reg->k=x.n){b:Frame}{a:Act}{todo:List Item}{cs:List Frame}{i:List Deferred}(m:a.defers=dcall f #[]::i)
  (h:ZJ T Φ (.co x k p d) (G {b.at ⟨a.tmps,i⟩ todo with mode:=.returning} cs) F):ZJ T Φ (.co x k p (d+1)) (G {b.at a todo with mode:=.returning} cs) F:=by
 obtain ⟨fn,f1,f2,f3,f4,f5⟩:=l.ex
 refine ⟨e,eP.zx (c:=x.cy T) rfl rfl e fun w s φ e1 hs o=>⟨_,w,#[c5 .enable],s,p,d,?_,hs,.refl _ _,o,Et,.inr ei,h.2⟩⟩
 exact stepG_unwind_entry (v:=.tuple #[]) m f1 f2 f3 f4 f5 (by simp[Extern.Race.none_]) (by simp[c5]) (by
  intro y j
  simp[c5] at j
  subst j
  exact ⟨rfl,fun g h=>by cases h⟩)
def zV (f:FuncId)(R:Value->af->Z->Prop):Ex->Act->af->Z->Prop
 | .exit _,_,_,_=>False
 |_,a,F,z=>a.defers=[dcall f #[]]/\∃x k p d,(p= .reg->k=x.n)/\z= .co x k p (d+1)/\R (.tuple #[]) F (.co x k p d)
theorem cX.Mo {f0:FuncId}(q:Entry T.P f (fun _=>do mark .enable;pure Extern.Race.none_)){fn:Func}{cd:Code}{n:Nat}{args:Array Value}{R:Value->af->Z->Prop}{F:af}{z:Z}(l:T.P.funcs[f0]?=some fn)(hb:fn.body=some cd)(m:fn.results=#[])(o:fn.ntmps=n)(B:args.size<=n)
  (h:∀A:Act,sz A=n->A.defers=[]->(∀i,slot A i=args.getD i undef)->c9 (ZJ T Φ) f0 cd (zV f R) A F z):cX T.P (ZJ T Φ) f0 args F z R:=by
 intro g cs r
 let b:Frame:={(default:Frame) with fn:=f0,kind:=.normal}
 have s:b.roundOf=none:=rfl
 have t:Frame.enter T.P f0 args .normal=on b {tmps:=args++Array.replicate (fn.ntmps - args.size) undef,defers:=[]} [.code cd]:=by
  simp[Frame.enter,on,l,hb,b]
  rfl
 rw[t]
 have hM:=ZJ.eR T Φ
 have leave:∀(c:Act) (todo:List Item) F' (a:Z),(c.defers=[dcall f #[]]/\∃x k p d,(p= .reg->k=x.n)/\a= .co x k p (d+1)/\R (.tuple #[]) F' (.co x k p d))->ZJ T Φ a (G {on b c todo with mode:=.returning} (g::cs)) F':=by
  intro c todo F' a ⟨hd,x,k,p,d,u,v,y⟩
  subst v
  rw[e6 s]
  refine Mn q u hd ((hM _).move (fr':=g.finish (.tuple #[])) (cs':=cs) (fun w=>?_) (r _ F' _ y))
  exact stepG_leave rfl rfl l (results_none m _ T.P w) (events_results_none m _ _)
 refine h _ (by simp[sz,o];omega) rfl (fun i=>?_) b [] (g::cs) ⟨by simp[b],rfl,rfl⟩ fun e c F' a j=>?_
 .simp only[slot,o,Array.getD_eq_getD_getElem?]
  rcases Nat.lt_or_ge i args.size with hi|hi
  .rw[Array.getElem?_append_left hi]
  .rw[Array.getElem?_append_right hi,Array.getElem?_replicate,Array.getElem?_eq_none hi]
   split<;>rfl
 .cases e with
  |normal=>exact (hM a).move (fun _=>mU rfl) (leave c _ F' a j)
  |exit i=>exact j.elim
  |ret=>exact fun C=>(hM a).move (fun _=>stepG_ret' rfl) (leave c _ F' a j)
theorem gv.Mq {args:Array Value}{ro:Addr->Option Value}{R:Value->af->Prop}(h:∀Φ,cX T.P (ZJ T Φ) f args ⟨ro,[]⟩ .free (fun v F' z=>z= .free/\R v F')):gv T.P f args ⟨ro,[]⟩ R:=
 gv.Lo fun Φ c cs hK=>h Φ c cs fun v F' z ⟨a,b⟩=>by subst a;exact hK v F' b
end
end Go.Sep
end
section
namespace Go.Proofs.YtbpddfapodiemaaGreatDoor
open Go Go.Sep Go.Proofs Go.Conc
open Go.ConcN (upd upd_same)
open Go.ConcM (muA msA)
open Go.ConcR (stA smA)
set_option maxRecDepth 100000
set_option maxHeartbeats 4000000
attribute [local go_sem] Int.reduceBEq Int.reduceBNe muA msA stA smA
noncomputable abbrev TT:PT:=⟨Tryz.prog,179,186,4⟩
theorem Mr {f:FuncId}{R:Value->af->Z->Prop}{a:Act}{F:af}{x:X}{k d:Nat}{p:P0}(hd:a.defers=[dcall f #[]])(b:p= .reg->k=x.n)(c:R (.tuple #[]) F (.co x k p d)):zV f R .ret a F (.co x k p (d+1)):=⟨hd,x,k,p,d,b,rfl,c⟩
section
variable {Φ:Goroutine->af->Prop}{x:X}{F:af}{k:Nat}
theorem Ez (w:World)(s:Sh)(h:cQ (x.cy TT) w s):∃v,w.cell? ⟨x.Wg,0,none⟩=some v:=⟨_,h.wg.1⟩
theorem EA (w:World)(s:Sh)(h:cQ (x.cy TT) w s):∃v,w.cell? ⟨x.Wg,1,none⟩=some v:=⟨_,h.ws.1⟩
theorem Ms (aL:x.Mu≠x.Wg/\x.Mu≠x.Is/\x.Wg≠x.Is)(a:x.n<67108864):
  cX Tryz.prog (ZJ TT Φ) 158 #[.pointer (some (stA x.Wg)),.int .u64 4294967296] F (.co x k (.opn 0) 1)
   (fun r F' b=>F'=F/\∃v:Nat,v<=x.n/\r= .int .u64 (((v+1:Nat):Int)*4294967296+((0:Nat):Int))/\b= .co x k (.opn 1) 1):=by
 have hM:=ZJ.eR TT Φ
 have hJ:True:=trivial
 refine cX.go (main:=true) hM Tryz.func158 rfl Tryz.ntmps158 au fun A d hd hs=>?_
 have e:=hs 0
 have k1:=hs 1
 clear hs
 repeat apply aI (hM _)
 refine bE hM fun K hK=>?_
 refine ak.pure (hM _) 1 (n:=0) _ rfl rfl ?_;simp only[*,go_sem,-hK,-hM]
 refine ak.nil hM (hK _ _ _ ?_);clear hK K
 repeat apply aI (hM _)
 refine bE hM fun K hK=>?_
 refine ak.pure (hM _) 4 (n:=2) _ rfl rfl ?_;simp only[*,go_sem,-hK,-hM]
 refine Mg Ec aL a ⟨_,_,_,rfl,cE,rfl,ej,rfl⟩ fun v c=>?_
 refine ak.pure (hM _) 1 (n:=0) _ rfl rfl ?_;simp only[*,go_sem,-hK,-hM]
 refine ak.nil hM (hK _ _ _ ?_);clear hK K
 exact gh (mO rfl ay ay ⟨rfl,v,c,rfl,rfl⟩).2
theorem Mt {u:Nat}:
  cX Tryz.prog (ZJ TT Φ) 160 #[.pointer (some (stA x.Wg))] F (.co x k (.look u) 1)
   (fun r F' a=>F'=F/\∃v:Nat,v<=u/\r= .int .u64 ((v:Int)*4294967296+((0:Nat):Int))/\a= .co x k (if v=0 then .fC else .look v) 1):=by
 have hM:=ZJ.eR TT Φ
 have hJ:True:=trivial
 refine cX.go (main:=true) hM Tryz.func160 rfl Tryz.ntmps160 au fun A c hd hs=>?_
 have d:=hs 0
 clear hs
 repeat apply aI (hM _)
 refine bE hM fun K hK=>?_
 refine ak.pure (hM _) 1 (n:=0) _ rfl rfl ?_;simp only[*,go_sem,-hK,-hM]
 refine ak.nil hM (hK _ _ _ ?_);clear hK K
 repeat apply aI (hM _)
 refine bE hM fun K hK=>?_
 refine ak.pure (hM _) 3 (n:=2) _ rfl rfl ?_;simp only[*,go_sem,-hK,-hM]
 refine Mh zC ⟨_,_,_,rfl,cE,rfl,ej,rfl⟩ fun v b=>?_
 refine ak.pure (hM _) 1 (n:=0) _ rfl rfl ?_;simp only[*,go_sem,-hK,-hM]
 refine ak.nil hM (hK _ _ _ ?_);clear hK K
 exact gh (mO rfl ay ay ⟨rfl,v,b,rfl,rfl⟩).2
theorem Mv:
  cX Tryz.prog (ZJ TT Φ) 160 #[.pointer (some (stA x.Wg))] F (.co x k .fC 1)
   (fun r F' a=>F'=F/\r= .int .u64 0/\a= .co x k .fC 1):=by
 have hM:=ZJ.eR TT Φ
 have hJ:True:=trivial
 refine cX.go (main:=true) hM Tryz.func160 rfl Tryz.ntmps160 au fun A b hd hs=>?_
 have c:=hs 0
 clear hs
 repeat apply aI (hM _)
 refine bE hM fun K hK=>?_
 refine ak.pure (hM _) 1 (n:=0) _ rfl rfl ?_;simp only[*,go_sem,-hK,-hM]
 refine ak.nil hM (hK _ _ _ ?_);clear hK K
 repeat apply aI (hM _)
 refine bE hM fun K hK=>?_
 refine ak.pure (hM _) 3 (n:=2) _ rfl rfl ?_;simp only[*,go_sem,-hK,-hM]
 refine Mi zC ⟨_,_,_,rfl,cE,rfl,ej,rfl⟩ ?_
 refine ak.pure (hM _) 1 (n:=0) _ rfl rfl ?_;simp only[*,go_sem,-hK,-hM]
 refine ak.nil hM (hK _ _ _ ?_);clear hK K
 exact gh (mO rfl ay ay ⟨rfl,rfl,rfl⟩).2
theorem Mw (aL:x.Mu≠x.Wg/\x.Mu≠x.Is/\x.Wg≠x.Is){v:Nat}(b:0<v):
  cX Tryz.prog (ZJ TT Φ) 169 #[.pointer (some (stA x.Wg)),.int .u64 ((v:Int)*4294967296+((0:Nat):Int)),.int .u64 ((v:Int)*4294967296+((0:Nat):Int)+1)] F (.co x x.n (.look v) 1)
   (fun r F' a=>F'=F/\((r= .bool true/\a= .co x x.n .reg 1)\/(r= .bool false/\a= .co x x.n (.look (v - 1)) 1))):=by
 have hM:=ZJ.eR TT Φ
 have hJ:True:=trivial
 refine cX.go (main:=true) hM Tryz.func169 rfl Tryz.ntmps169 au fun A c hd hs=>?_
 have d:=hs 0
 have k1:=hs 1
 have e:=hs 2
 clear hs
 repeat apply aI (hM _)
 refine bE hM fun K hK=>?_
 refine ak.pure (hM _) 1 (n:=0) _ rfl rfl ?_;simp only[*,go_sem,-hK,-hM]
 refine ak.nil hM (hK _ _ _ ?_);clear hK K
 repeat apply aI (hM _)
 refine bE hM fun K hK=>?_
 refine ak.pure (hM _) 5 (n:=2) _ rfl rfl ?_;simp only[*,go_sem,-hK,-hM]
 refine Mj Ls aL b rfl ⟨_,_,_,rfl,cE,rfl,ej,rfl⟩ ?_ ?_
 .refine ak.pure (hM _) 1 (n:=0) _ rfl rfl ?_;simp only[*,go_sem,-hK,-hM]
  refine ak.nil hM (hK _ _ _ ?_);clear hK K
  exact gh (mO rfl ay ay ⟨rfl,.inl ⟨rfl,rfl⟩⟩).2
 .refine ak.pure (hM _) 1 (n:=0) _ rfl rfl ?_;simp only[*,go_sem,-hK,-hM]
  refine ak.nil hM (hK _ _ _ ?_);clear hK K
  exact gh (mO rfl ay ay ⟨rfl,.inr ⟨rfl,rfl⟩⟩).2
end
attribute [local go_sem] Int.reduceBEq Int.reduceBNe muA msA stA smA
def Mx (Wg:Nat)(F:af)(z:Z)(v:Int)(a:Act)(F':af)(b:Z):Prop:=
 F'=F/\slot a 1= .int .i64 1/\slot a 7= .int .i32 v/\slot a 8= .int .u32 0/\sz a=117/\a.defers=[dcall 153 #[]]/\b=z
section
variable {Φ:Goroutine->af->Prop}{x:X}{F:af}{k:Nat}
theorem My (aL:x.Mu≠x.Wg/\x.Mu≠x.Is/\x.Wg≠x.Is)(l:x.n<67108864):
  cX Tryz.prog (ZJ TT Φ) 126 #[.pointer (some (stA x.Wg)),.int .i64 1] F (.co x k (.opn 0) 0)
   (fun r F' d=>r= .tuple #[]/\F'=F/\d= .co x k (.opn 1) 0):=by
 have hM:=ZJ.eR TT Φ
 have hJ:True:=trivial
 refine cX.Mo mP Tryz.func126 rfl rfl Tryz.ntmps126 au fun A f hd hs=>?_
 have m:=hs 0
 have k1:=hs 1
 clear hs
 have c1:decide ((1:Int)<0)=false:=aB
 have c2:decide ((1:Int)>0)=true:=aB
 repeat apply aI (hM _)
 refine dA (hM _) ay ?_
 repeat apply aI (hM _)
 refine bE hM fun K hK=>?_
 refine ak.pure (hM _) 2 (n:=0) _ rfl rfl ?_;simp only[*,go_sem,-hK,-hM]
 refine ak.nil hM (hK _ _ _ ?_);clear hK K
 repeat apply aI (hM _)
 refine cV (hM _) ay ?_
 apply cY (hM _)
 repeat apply aI (hM _)
 refine bE hM fun K hK=>?_
 refine Ev sD ⟨_,_,_,rfl,cE,rfl,ej,rfl⟩ (fun e=>by cases e) (.opn 0) (fun _ _ _ h=>h) ?_
 refine ak.nil hM (hK _ _ _ ?_);clear hK K
 repeat apply aI (hM _)
 refine bE hM fun K hK=>?_
 refine ak.defer (hM _) rfl cE rfl rfl (by simp;rfl) fun b e1 e2 g=>?_
 have l0:slot b 0= .pointer (some ⟨x.Wg,0,none⟩):=(e1 0).trans ay
 have i:slot b 1= .int .i64 1:=(e1 1).trans ay
 replace f:sz b=117:=e2.trans ay
 replace hd:b.defers=[dcall 153 #[]]:=g.trans ay
 clear e1 e2 g m k1
 refine ak.nil hM (hK _ _ _ ?_);clear hK K
 repeat apply aI (hM _)
 refine bE hM fun K hK=>?_
 refine ak.pure (hM _) 1 (n:=0) _ rfl rfl ?_;simp only[*,go_sem,-hK,-hM]
 refine ak.nil hM (hK _ _ _ ?_);clear hK K
 repeat apply aI (hM _)
 refine bE hM fun K hK=>?_
 refine ak.entry (.bool false) (hM _) Ed ⟨_,_,_,rfl,cE,rfl,ej,rfl⟩ ?_
 refine ak.nil hM (hK _ _ _ ?_);clear hK K
 repeat apply aI (hM _)
 refine cV (hM _) ay ?_
 apply cY (hM _)
 have w1:IntKind.u64.wrap 1=1:=aB
 have w2:IntKind.u64.wrap (1*2 ^ min 32 64)=4294967296:=aB
 repeat apply aI (hM _)
 refine bE hM fun K hK=>?_
 refine ak.pure (hM _) 6 (n:=2) _ rfl rfl ?_;simp only[*,go_sem,-hK,-hM]
 refine ak.gJ (hM _) rfl cE rfl Bn ep (Ms aL l) fun r F' aU o=>?_
 obtain ⟨rfl,v,p,rfl,rfl⟩:=o
 obtain ⟨y,a⟩:∃y:Int,y=((v+1:Nat):Int)*4294967296+((0:Nat):Int):=⟨_,rfl⟩
 rw[<-a]
 have a1:ja y 2147483648=0:=by show lS y 2147483648=0;rw[a];exact zR (v+1) 0 aa aa
 have a2:ja y 2147483647=0:=by show lS y 2147483647=0;rw[a];exact zS (v+1) 0 aa aa
 obtain ⟨V,j⟩:∃V:Int,V=((v+1:Nat):Int):=⟨_,rfl⟩
 have a3:y.fdiv (2 ^ min 32 64)=V:=by rw[a,j];exact zT (v+1) 0 aa
 have a4:IntKind.i32.wrap V=V:=jm aa aa
 have a5:IntKind.u32.wrap 0=0:=aB
 have t:IntKind.i32.wrap 1=1:=aB
 have c3:decide (V<0)=false:=by simp;omega
 have c4:decide (V>0)=true:=by simp;omega
 have c:(V==1)=true\/(V==1)=false:=by cases (V==1)<;>simp
 clear a j p
 refine ak.pure (hM _) 1 (n:=0) _ rfl rfl ?_;simp only[*,go_sem,-hK,-hM]
 refine ak.nil hM (hK _ _ _ ?_);clear hK K
 repeat apply aI (hM _)
 refine bE hM fun K hK=>?_
 refine ak.pure (hM _) 7 (n:=0) _ rfl rfl ?_;simp only[*,go_sem,-hK,-hM]
 refine ak.nil hM (hK _ _ _ ?_);clear hK K
 repeat apply aI (hM _)
 refine cV (hM _) ay ?_
 apply cY (hM _)
 repeat apply aI (hM _)
 refine bE hM fun K hK=>?_
 refine ak.pure (hM _) 4 (n:=0) _ rfl rfl ?_;simp only[*,go_sem,-hK,-hM]
 refine ak.nil hM (hK _ _ _ ?_);clear hK K
 repeat apply aI (hM _)
 refine bE hM fun K hK=>?_
 refine ak.pure (hM _) 4 (n:=0) _ rfl rfl ?_;simp only[*,go_sem,-hK,-hM]
 refine ak.nil hM (hK _ _ _ ?_);clear hK K
 repeat apply aI (hM _)
 refine bE hM fun K hK=>?_
 refine ak.pure (hM _) 10 (n:=0) _ rfl rfl ?_;simp only[*,go_sem,-hK,-hM]
 refine ak.nil hM (hK _ _ _ ?_);clear hK K
 repeat apply aI (hM _)
 refine vF hM (Mx x.Wg F' (.co x k (.opn 1) 1) V) ?_ ?_
 .rcases c with c|c
  .repeat apply aI (hM _)
   refine dA (hM _) ay ?_
   repeat apply aI (hM _)
   refine bE hM fun K hK=>?_
   refine ak.pure (hM _) 3 (n:=2) _ rfl rfl ?_;simp only[*,go_sem,-hK,-hM]
   refine vJ ⟨x.Wg,1,none⟩ Ee mQ Ef ⟨_,rfl,cE,rfl,rfl⟩ (fun e=>by cases e) ep EA ?_
   refine Me Lu ⟨_,_,_,rfl,cE,rfl,ej,rfl⟩ (fun e=>by cases e) ?_
   refine ak.nil hM (hK _ _ _ ?_);clear hK K
   exact eX ⟨rfl,ay,ay,ay,ay,ay,rfl⟩
  .repeat apply aI (hM _)
   refine cV (hM _) ay ?_
   apply cY (hM _)
   exact eX ⟨rfl,ay,ay,ay,ay,ay,rfl⟩
 clear c l0 i f hd a1 a2 a3
 rintro A q u ⟨rfl,i,w,z,f,hd,rfl⟩
 repeat apply aI (hM _)
 refine bE hM fun K hK=>?_
 refine ak.pure (hM _) 2 (n:=0) _ rfl rfl ?_;simp only[*,go_sem,-hK,-hM]
 refine ak.nil hM (hK _ _ _ ?_);clear hK K
 repeat apply aI (hM _)
 refine cV (hM _) ay ?_
 apply cY (hM _)
 repeat apply aI (hM _)
 refine bE hM fun K hK=>?_
 refine ak.pure (hM _) 12 (n:=0) _ rfl rfl ?_;simp only[*,go_sem,-hK,-hM]
 refine ak.nil hM (hK _ _ _ ?_);clear hK K
 repeat apply aI (hM _)
 refine cV (hM _) ay ?_
 apply cY (hM _)
 repeat apply aI (hM _)
 refine bE hM fun K hK=>?_
 refine ak.pure (hM _) 6 (n:=0) _ rfl rfl ?_;simp only[*,go_sem,-hK,-hM]
 refine ak.nil hM (hK _ _ _ ?_);clear hK K
 repeat apply aI (hM _)
 refine dA (hM _) ay ?_
 exact gh (show zV 153 (fun r s d=>r= .tuple #[]/\s=q/\d= .co x k (.opn 1) 0) .ret _ _ _ from Mr ay (fun e=>by cases e) ⟨rfl,rfl,rfl⟩)
end
attribute [local go_sem] Int.reduceBEq Int.reduceBNe muA msA stA smA
def EB (x:X)(F:af)(m:Nat)(a:Act)(F':af)(z:Z):Prop:=
 ∃u:Nat,u<=m/\u<=x.n/\F'=F/\slot a 0= .pointer (some ⟨x.Wg,0,none⟩)/\sz a=84/\a.defers=[]/\z= .co x x.n (.look u) 1
section
variable {Φ:Goroutine->af->Prop}{x:X}{F:af}{k:Nat}
theorem Mz (aL:x.Mu≠x.Wg/\x.Mu≠x.Is/\x.Wg≠x.Is)(t:x.n<67108864):
  cX Tryz.prog (ZJ TT Φ) 133 #[.pointer (some (stA x.Wg))] F (.co x x.n (.opn 0) 0)
   (fun r F' b=>r= .tuple #[]/\F'=⟨F.ro,(x.Is,(x.cy TT).fin)::F.own⟩/\b= .free):=by
 have hM:=ZJ.eR TT Φ
 have hJ:True:=trivial
 refine cX.go (main:=true) hM Tryz.func133 rfl Tryz.ntmps133 au fun A k hd hs=>?_
 have l:=hs 0
 clear hs
 repeat apply aI (hM _)
 refine dA (hM _) ay ?_
 repeat apply aI (hM _)
 refine bE hM fun K hK=>?_
 refine Ev sD ⟨_,_,_,rfl,cE,rfl,ej,rfl⟩ (fun e=>by cases e) (.look x.n) (fun _ _ _ h=>KZ h) ?_
 refine ak.nil hM (hK _ _ _ ?_);clear hK K
 repeat apply aI (hM _)
 refine kM hM ?_
 refine sC hM (EB x F) x.n ?_ ?_
 .exact ⟨x.n,Nat.le_refl _,Nat.le_refl _,rfl,ay,ay,ay,rfl⟩
 .clear k hd l
  rintro m A F' b ⟨u,w,z,rfl,l,k,hd,rfl⟩
  repeat apply aI (hM _)
  refine kM hM ?_
  repeat apply aI (hM _)
  refine bE hM fun K hK=>?_
  refine ak.pure (hM _) 3 (n:=2) _ rfl rfl ?_;simp only[*,go_sem,-hK,-hM]
  refine ak.gJ (hM _) rfl cE rfl wY ep Mt fun r i B c=>?_
  obtain ⟨rfl,v,q,rfl,rfl⟩:=c
  obtain ⟨y,a⟩:∃y:Int,y=(v:Int)*4294967296+((0:Nat):Int):=⟨_,rfl⟩
  rw[<-a]
  have a1:ja y 2147483648=0:=by show lS y 2147483648=0;rw[a];exact zR v 0 aa aa
  have a2:ja y 2147483647=0:=by show lS y 2147483647=0;rw[a];exact zS v 0 aa aa
  obtain ⟨V,f⟩:∃V:Int,V=(v:Int):=⟨_,rfl⟩
  have a3:y.fdiv (2 ^ min 32 64)=V:=by rw[a,f];exact zT v 0 aa
  have a4:IntKind.i32.wrap V=V:=jm aa aa
  have a5:IntKind.u32.wrap 0=0:=aB
  have C:IntKind.u64.wrap (y+1)=y+1:=by
   unfold IntKind.wrap
   simp only[IntKind.bits,IntKind.signed]
   simp
   omega
  by_cases g:v=0
  ·
   have c1:(V==0)=true:=by rw[f,g];rfl
   have d:(if v=0 then P0.fC else .look v)= .fC:=if_pos g
   rw[d]
   clear d a f q g
   refine ak.pure (hM _) 1 (n:=0) _ rfl rfl ?_;simp only[*,go_sem,-hK,-hM]
   refine ak.nil hM (hK _ _ _ ?_);clear hK K
   repeat apply aI (hM _)
   refine bE hM fun K hK=>?_
   refine ak.pure (hM _) 4 (n:=0) _ rfl rfl ?_;simp only[*,go_sem,-hK,-hM]
   refine ak.nil hM (hK _ _ _ ?_);clear hK K
   repeat apply aI (hM _)
   refine bE hM fun K hK=>?_
   refine ak.pure (hM _) 4 (n:=0) _ rfl rfl ?_;simp only[*,go_sem,-hK,-hM]
   refine ak.nil hM (hK _ _ _ ?_);clear hK K
   repeat apply aI (hM _)
   refine bE hM fun K hK=>?_
   refine ak.pure (hM _) 2 (n:=0) _ rfl rfl ?_;simp only[*,go_sem,-hK,-hM]
   refine ak.nil hM (hK _ _ _ ?_);clear hK K
   repeat apply aI (hM _)
   refine dA (hM _) ay ?_
   repeat apply aI (hM _)
   refine dA (hM _) ay ?_
   repeat apply aI (hM _)
   refine bE hM fun K hK=>?_
   refine Ew mP ⟨_,_,_,rfl,cE,rfl,ej,rfl⟩ (fun e=>by cases e) ?_
   refine ak.nil hM (hK _ _ _ ?_);clear hK K
   repeat apply aI (hM _)
   refine bE hM fun K hK=>?_
   refine ak.pure (hM _) 1 (n:=2) _ rfl rfl ?_;simp only[*,go_sem,-hK,-hM]
   refine vJ ⟨x.Wg,0,none⟩ zE mQ zG ⟨_,rfl,cE,rfl,rfl⟩ (fun e=>by cases e) ep Ez ?_
   refine Ey vv rfl ⟨_,_,_,rfl,cE,rfl,ej,rfl⟩ ?_
   refine ak.nil hM (hK _ _ _ ?_);clear hK K
   repeat apply aI (hM _)
   refine bE hM fun K hK=>?_
   refine ak.pure (hM _) 11 (n:=0) _ rfl rfl ?_;simp only[*,go_sem,-hK,-hM]
   refine ak.nil hM (hK _ _ _ ?_);clear hK K
   repeat apply aI (hM _)
   refine cV (hM _) ay ?_
   apply cY (hM _)
   exact gh (show kN Tryz.prog Tryz.f133 (fun (r:Value) (F':af) (b:Z)=>r= .tuple #[]/\F'=⟨i.ro,(x.Is,(x.cy TT).fin)::i.own⟩/\b=Z.free) .ret _ _ _ from qc rfl ay ⟨rfl,rfl,rfl⟩)
  .have c1:(V==0)=false:=by simp;omega
   have d:(if v=0 then P0.fC else .look v)= .look v:=if_neg g
   rw[d]
   have j:=Mw (Φ:=Φ) (F:=i) aL (v:=v) aa
   rw[<-a] at j
   clear d a f
   refine ak.pure (hM _) 1 (n:=0) _ rfl rfl ?_;simp only[*,go_sem,-hK,-hM]
   refine ak.nil hM (hK _ _ _ ?_);clear hK K
   repeat apply aI (hM _)
   refine bE hM fun K hK=>?_
   refine ak.pure (hM _) 4 (n:=0) _ rfl rfl ?_;simp only[*,go_sem,-hK,-hM]
   refine ak.nil hM (hK _ _ _ ?_);clear hK K
   repeat apply aI (hM _)
   refine bE hM fun K hK=>?_
   refine ak.pure (hM _) 4 (n:=0) _ rfl rfl ?_;simp only[*,go_sem,-hK,-hM]
   refine ak.nil hM (hK _ _ _ ?_);clear hK K
   repeat apply aI (hM _)
   refine bE hM fun K hK=>?_
   refine ak.pure (hM _) 2 (n:=0) _ rfl rfl ?_;simp only[*,go_sem,-hK,-hM]
   refine ak.nil hM (hK _ _ _ ?_);clear hK K
   repeat apply aI (hM _)
   refine cV (hM _) ay ?_
   apply cY (hM _)
   repeat apply aI (hM _)
   refine bE hM fun K hK=>?_
   refine ak.pure (hM _) 6 (n:=1) _ rfl rfl ?_;simp only[*,go_sem,-hK,-hM]
   refine ak.gJ (hM _) rfl cE rfl Gn ep j fun r s D c=>?_
   clear j
   obtain ⟨rfl,⟨rfl,rfl⟩|⟨rfl,rfl⟩⟩:=c
   ·
    refine ak.nil hM (hK _ _ _ ?_);clear hK K
    repeat apply aI (hM _)
    refine dA (hM _) ay ?_
    repeat apply aI (hM _)
    refine bE hM fun K hK=>?_
    refine ak.pure (hM _) 4 (n:=0) _ rfl rfl ?_;simp only[*,go_sem,-hK,-hM]
    refine ak.nil hM (hK _ _ _ ?_);clear hK K
    repeat apply aI (hM _)
    refine dA (hM _) ay ?_
    repeat apply aI (hM _)
    refine bE hM fun K hK=>?_
    refine ak.pure (hM _) 3 (n:=2) _ rfl rfl ?_;simp only[*,go_sem,-hK,-hM]
    refine vJ ⟨x.Wg,1,none⟩ Ee mQ Ef ⟨_,rfl,cE,rfl,rfl⟩ (fun _=>rfl) ep EA ?_
    refine Mf Lv ⟨_,_,_,rfl,cE,rfl,ej,rfl⟩ (fun _=>rfl) ?_
    refine ak.nil hM (hK _ _ _ ?_);clear hK K
    repeat apply aI (hM _)
    refine bE hM fun K hK=>?_
    refine ak.pure (hM _) 1 (n:=0) _ rfl rfl ?_;simp only[*,go_sem,-hK,-hM]
    refine ak.nil hM (hK _ _ _ ?_);clear hK K
    repeat apply aI (hM _)
    refine bE hM fun K hK=>?_
    refine ak.pure (hM _) 6 (n:=0) _ rfl rfl ?_;simp only[*,go_sem,-hK,-hM]
    refine ak.nil hM (hK _ _ _ ?_);clear hK K
    repeat apply aI (hM _)
    refine cV (hM _) ay ?_
    apply cY (hM _)
    repeat apply aI (hM _)
    refine bE hM fun K hK=>?_
    refine ak.pure (hM _) 4 (n:=1) _ rfl rfl ?_;simp only[*,go_sem,-hK,-hM]
    refine Mk (.bool false) Lx aL rfl ⟨_,_,_,rfl,cE,rfl,ej,rfl⟩ ?_
    refine ak.nil hM (hK _ _ _ ?_);clear hK K
    repeat apply aI (hM _)
    refine bE hM fun K hK=>?_
    refine ak.pure (hM _) 3 (n:=3) _ rfl rfl ?_;simp only[*,go_sem,-hK,-hM]
    refine ak.gJ (hM _) rfl cE rfl wY ep Mv fun r o E c=>?_
    obtain ⟨rfl,rfl,rfl⟩:=c
    refine ak.pure (hM _) 2 (n:=0) _ rfl rfl ?_;simp only[*,go_sem,-hK,-hM]
    refine ak.nil hM (hK _ _ _ ?_);clear hK K
    repeat apply aI (hM _)
    refine dA (hM _) ay ?_
    repeat apply aI (hM _)
    refine bE hM fun K hK=>?_
    refine Ew mP ⟨_,_,_,rfl,cE,rfl,ej,rfl⟩ (fun e=>by cases e) ?_
    refine ak.nil hM (hK _ _ _ ?_);clear hK K
    repeat apply aI (hM _)
    refine bE hM fun K hK=>?_
    refine ak.pure (hM _) 1 (n:=2) _ rfl rfl ?_;simp only[*,go_sem,-hK,-hM]
    refine vJ ⟨x.Wg,0,none⟩ zE mQ zG ⟨_,rfl,cE,rfl,rfl⟩ (fun e=>by cases e) ep Ez ?_
    refine Ey vv rfl ⟨_,_,_,rfl,cE,rfl,ej,rfl⟩ ?_
    refine ak.nil hM (hK _ _ _ ?_);clear hK K
    repeat apply aI (hM _)
    refine bE hM fun K hK=>?_
    refine ak.pure (hM _) 1 (n:=0) _ rfl rfl ?_;simp only[*,go_sem,-hK,-hM]
    refine ak.nil hM (hK _ _ _ ?_);clear hK K
    repeat apply aI (hM _)
    refine cV (hM _) ay ?_
    apply cY (hM _)
    exact gh (show kN Tryz.prog Tryz.f133 (fun (r:Value) (F':af) (b:Z)=>r= .tuple #[]/\F'=⟨o.ro,(x.Is,(x.cy TT).fin)::o.own⟩/\b=Z.free) .ret _ _ _ from qc rfl ay ⟨rfl,rfl,rfl⟩)
   ·
    refine ak.nil hM (hK _ _ _ ?_);clear hK K
    repeat apply aI (hM _)
    refine cV (hM _) ay ?_
    apply cY (hM _)
    change ∃p,p<m/\EB x s p _ _ _
    exact ⟨v - 1,aa,v - 1,Nat.le_refl _,aa,rfl,ay,ay,ay,rfl⟩
end
end Go.Proofs.YtbpddfapodiemaaGreatDoor
end
section
namespace Go.Sep
open Go Go.Conc
variable {P:Program}
theorem MA {t e:TypeId}{i:TypeInfo}{n:Nat}{R:Value->af->Prop}{F:af}(hu:P.underlying t=some (.slice e))(hi:P.info? e=some i)(hb:i.bytes=1)(hs:cj P e=some 1)(d:zeroOf P e=some (.bool false))(f:n<1048576)
  (h:∀b,eB F b->R (.slice (some ⟨b,0,none⟩) n n) (F.push b (.cells (List.replicate n (Value.bool false)).toArray e))):e7 P (Instr.makeSlice t (.int .i64 n) (.int .i64 n)) R F:=by
 unfold e7
 have hw:IntKind.i64.wrap (n:Int)=(n:Int):=by
  unfold IntKind.wrap
  simp[IntKind.bits,IntKind.signed]
  omega
 have e1:¬((n:Int)<0\/(1:Int)*(n:Int)>2 ^ 48):=by
  have:((2:Int) ^ 48)=281474976710656:=aB
  omega
 simp only[Instr.makeSlice,bH,dP,hu,AK,qv,hi,hb,hw]
 have e2:(((n:Int)<0||decide (((1:Nat):Int)*(n:Int)>2 ^ 48))||decide ((n:Int)<0)||decide ((n:Int)>(n:Int)))=false:=by
  have:((2:Int) ^ 48)=281474976710656:=aB
  simp only[Bool.or_eq_false_iff,decide_eq_false_iff_not]
  omega
 rw[if_neg (by rw[e2];simp)]
 simp only[bH]
 refine wD _ ?_
 simp only[bH,eY,hs,Int.toNat_natCast,Nat.mul_one]
 have fin:∀zero:Array Value,(n≠0->zero=#[.bool false])->bu P (newRow e ((Array.range n).map (fun j=>zero[j % zero.size]!))) (fun a G=>bu P (Pure.pure (Value.slice (some a) n n)) R G) F:=fun zero hzero=>by
  simp only[newRow,bH,qu,bT]
  have hc:((Array.range n).map (fun j=>zero[j % zero.size]!))=(List.replicate n (Value.bool false)).toArray:=by
   rcases Nat.eq_zero_or_pos n with rfl|g
   .simp
   .rw[hzero aa]
    rw[<-Array.toList_inj]
    simp only[Array.toList_map,Array.toList_range]
    apply List.ext_getElem
    .simp
    .intro i k l
     simp[Nat.mod_one]
  rw[hc]
  exact ⟨rfl,h⟩
 by_cases c:n=0
 .rw[if_pos c]
  exact fin #[] (fun x=>absurd c x)
 .rw[if_neg c]
  rw[bH,mW,d]
  exact fin #[.bool false] (fun _=>rfl)
section
variable {T:PT}{Φ:Goroutine->af->Prop}{fi:FuncId}
def zW:Z->Bool| .co _ _ .reg _=>false|_=>true
theorem ZJ.MB (T:PT)(Φ:Goroutine->af->Prop)(z:Z)(h:zW z=true):Closed T.P true (ZJ T Φ z):=ZJ.closed T Φ fun x k d e=>by subst e;simp[zW] at h
theorem EC {P:Program}{main:Bool}{S:Type}{JF:S->Goroutine->af->Prop}{ph:S}(hJ:Closed P main (JF ph)){c:Code}{Q:Ex->Act->af->S->Prop}{a:Act}{F F':af}(hle:Le F F')(h:c9 JF fi c Q a F ph):c9 JF fi c Q a F' ph:=
 fun b k cs hb d=>hJ.mono hle (h b k cs hb d)
theorem zX {P:Program}{main:Bool}{S:Type}{JF:S->Goroutine->af->Prop}{ph:S}(hJ:Closed P main (JF ph)){c:Code}{Q:Ex->Act->af->S->Prop}{a:Act}{F:af}(h:aZ (keys F.own)->aK F.ro F.own->c9 JF fi c Q a F ph):c9 JF fi c Q a F ph:=by
 intro b k cs hb d;by_cases hw:∃w,Has F w
 .obtain ⟨w,hw⟩:=hw;refine h ⟨hw.nodup⟩ (fun b hb off sp=>?_) b k cs hb d;cases e:F.ro ⟨b,off,sp⟩ with
  |none=>rfl
  |some v=>exact absurd hb (hw.apart _ v e)
 .exact hJ.step fun w f=>absurd ⟨w,f⟩ hw
end
theorem oz {ro:Addr->Option Value}{b a off:Nat}{sp:Option Nat}{o:Obj}(h:ro ⟨a,off,sp⟩=none)(aL:a≠b):b7 ro b o ⟨a,off,sp⟩=none:=by simp[b7,h,aL]
theorem MC {ro:Addr->Option Value}{b3 b4 b a I M W:Nat}{i o4 g c d e f:Obj}(p:aZ (keys [(W,f),(M,e),(a,c),(I,d),(b,g),(b4,o4),(b3,i)]))(l:aK ro [(W,f),(M,e),(a,c),(I,d),(b,g),(b4,o4),(b3,i)]):
  ∃j,Ext ro j/\Le ⟨j,[(M,e),(W,f),(I,d)]⟩ ⟨ro,[(W,f),(M,e),(a,c),(I,d),(b,g),(b4,o4),(b3,i)]⟩/\
   (∀off v,cellOf i off=some v->j ⟨b3,off,none⟩=some v)/\(∀off v,cellOf o4 off=some v->j ⟨b4,off,none⟩=some v)/\(∀off v,cellOf g off=some v->j ⟨b,off,none⟩=some v)/\(∀off v,cellOf c off=some v->j ⟨a,off,none⟩=some v):=by
 have hd:=p.1
 simp only[keys,List.map_cons,List.map_nil,List.nodup_cons,List.mem_cons,List.not_mem_nil,not_or] at hd
 obtain ⟨⟨-,a1,-,a2,a3,a4,-⟩,⟨G,-,H,J,K,-⟩,⟨c1,c2,c3,c4,-⟩,⟨i1,i2,i3,-⟩,⟨e1,e2,-⟩,⟨r,-⟩,-⟩:=hd
 have r3:∀off sp,ro ⟨b3,off,sp⟩=none:=l b3 (by simp[keys])
 have s:∀off sp,ro ⟨b4,off,sp⟩=none:=l b4 (by simp[keys])
 have t:∀off sp,ro ⟨b,off,sp⟩=none:=l b (by simp[keys])
 have u:∀off sp,ro ⟨a,off,sp⟩=none:=l a (by simp[keys])
 clear l p
 have w:b4≠b3:=r
 have x:b≠b3:=e2
 have y:b≠b4:=e1
 have z:a≠b3:=c4
 have A:a≠b4:=c3
 have B:a≠b:=c2
 let s1:=b7 ro b3 i
 let s2:=b7 s1 b4 o4
 let k:=b7 s2 b g
 let n:=b7 k a c
 have C:Ext ro s1:=gO _ _ _
 have q:Ext s1 s2:=gO _ _ _
 have o:Ext s2 k:=gO _ _ _
 have m:Ext k n:=gO _ _ _
 have t4:∀off sp,s1 ⟨b4,off,sp⟩=none:=fun off sp=>oz (s off sp) w
 have t7:∀off sp,s2 ⟨b,off,sp⟩=none:=fun off sp=>oz (oz (t off sp) x) y
 have t8:∀off sp,k ⟨a,off,sp⟩=none:=fun off sp=>oz (oz (oz (u off sp) z) A) B
 have k1:Le ⟨s1,[(W,f),(M,e),(a,c),(I,d),(b,g),(b4,o4)]⟩ ⟨ro,[(W,f),(M,e),(a,c),(I,d),(b,g),(b4,o4),(b3,i)]⟩:=
  kU (by simp[lk, *]) au (by simp[av,Ne.symm, *])
 have D:Le ⟨s2,[(W,f),(M,e),(a,c),(I,d),(b,g)]⟩ ⟨s1,[(W,f),(M,e),(a,c),(I,d),(b,g),(b4,o4)]⟩:=
  kU (by simp[lk, *]) au (by simp[av,Ne.symm, *])
 have E:Le ⟨k,[(W,f),(M,e),(a,c),(I,d)]⟩ ⟨s2,[(W,f),(M,e),(a,c),(I,d),(b,g)]⟩:=
  kU (by simp[lk, *]) au (by simp[av,Ne.symm, *])
 have F:Le ⟨n,[(W,f),(M,e),(I,d)]⟩ ⟨k,[(W,f),(M,e),(a,c),(I,d)]⟩:=
  kU (by simp[lk, *]) au (by simp[av,Ne.symm, *])
 refine ⟨n,((C.trans q).trans o).trans m,Bp.trans (((F.trans E).trans D).trans k1),fun off v h=>?_,fun off v h=>?_,fun off v h=>?_,fun off v h=>?_⟩
 .exact m _ _ (o _ _ (q _ _ ((fF r3).trans h)))
 .exact m _ _ (o _ _ ((fF t4).trans h))
 .exact m _ _ ((fF t7).trans h)
 .exact (fF t8).trans h
theorem MD {ro:Addr->Option Value}{a b2:Nat}{o1 o2:Obj}(d:aZ (keys [(b2,o2),(a,o1)]))(c:aK ro [(b2,o2),(a,o1)]):
  ∃b,Ext ro b/\Le ⟨b,[]⟩ ⟨ro,[(b2,o2),(a,o1)]⟩/\(∀off v,cellOf o1 off=some v->b ⟨a,off,none⟩=some v)/\(∀off v,cellOf o2 off=some v->b ⟨b2,off,none⟩=some v):=by
 have hd:=d.1
 simp only[keys,List.map_cons,List.map_nil,List.nodup_cons,List.mem_cons,List.not_mem_nil,not_or] at hd
 have r1:∀off sp,ro ⟨a,off,sp⟩=none:=c a (by simp[keys])
 have r2:∀off sp,ro ⟨b2,off,sp⟩=none:=c b2 (by simp[keys])
 have e:b2≠a:=by obtain ⟨⟨z,-⟩,-⟩:=hd;exact z
 have t2:∀off sp,b7 ro a o1 ⟨b2,off,sp⟩=none:=fun off sp=>oz (r2 off sp) e
 have k1:Le ⟨b7 ro a o1,[(b2,o2)]⟩ ⟨ro,[(b2,o2),(a,o1)]⟩:=kU (by simp[lk, *]) au (by simp[av,Ne.symm, *])
 have f:Le ⟨b7 (b7 ro a o1) b2 o2,[]⟩ ⟨b7 ro a o1,[(b2,o2)]⟩:=kU (by simp only[lk];simp) au trivial
 exact ⟨_,(gO _ _ _).trans (gO _ _ _),f.trans k1,fun off v h=>gO _ _ _ _ _ ((fF r1).trans h),fun off v h=>(fF t2).trans h⟩
theorem ME {T:PT}{Φ:Goroutine->af->Prop}{x:X}{k:Nat}{ops:Array Oper}{j n:Nat}{Q:Act->af->Z->Prop}{a:Act}{F:af}{fi:FuncId}(b:k<x.n){y:Operand}{f0:FuncId}{dN:Array TypeId}{caps:Array Value}(c:ou ops j a (.go {callee:=.value y,args:=#[],argTypes:=dN}) none)(d:ev a y= .func (.func f0) #[] caps)
  (hW:Wk (x.cy T) k ⟨.idle,.cnt,false,0⟩ (born T.P {target:=.fn (.func f0) caps,args:=#[]}) ⟨F.ro,[]⟩) (h:ak (ZJ T Φ) fi ops (j+1) n Q (bB a none undef) F (.co x (k+1) (.opn 0) 0)):ak (ZJ T Φ) fi ops j (n+1) Q a F (.co x k (.opn 1) 0):=by
 obtain ⟨o,e,hg,f,hd⟩:=c
 have e1:execOp a.eval o=(pure (.spawn {target:=.fn (.func f0) caps,args:=#[]}):Sem Next):=by
  unfold execOp
  have e0:(#[]:Array Value)++Array.map (ev a) #[]=#[]:=au
  simp only[f,resolve,eZ,d,Deferred.ofValue,e0]
  rfl
 refine Ml (fv:=y) b e hg (fun w=>?_) rfl hW (by rw[hd];exact h)
 rw[e1]
 exact ⟨rfl,rfl⟩
end Go.Sep
end
section
namespace Go.Proofs.YtbpddfapodiemaaGreatDoor
open Go Go.Sep Go.Proofs Go.Conc
open Go.ConcN (upd upd_same)
open Go.ConcM (muA msA)
open Go.ConcR (stA smA)
set_option maxRecDepth 100000
set_option maxHeartbeats 4000000
attribute [local go_sem] Int.reduceBEq Int.reduceBNe muA msA stA smA
def MF (Wg:Nat)(st:Bool)(F:af)(m:Nat)(a:Act)(F':af)(ph:Ph):Prop:=
 ∃t8:Int,F'=F/\slot a 0= .pointer (some ⟨Wg,0,none⟩)/\slot a 8= .int .u32 t8/\sz a=117/\a.defers=[dcall 153 #[]]/\((m=1/\t8=1/\ph=⟨.fin,.sm,st,1⟩)\/(m=0/\t8=0/\ph=⟨.fin,.gone,st,1⟩))
theorem MG {f:FuncId}{R:Value->af->Ph->Prop}{a:Act}{F:af}{ph:Ph}{b:Nat}(hd:a.defers=[dcall f #[]])(hg:ph.gp= .gone)(h:ph.deaf=b+1)(c:R (.tuple #[]) F {ph with deaf:=b}):lR f R .normal a F ph:=⟨hd,hg,b,h,c⟩
theorem vK {f:FuncId}{R:Value->af->Ph->Prop}{a:Act}{F:af}{ph:Ph}{b:Nat}(hd:a.defers=[dcall f #[]])(hg:ph.gp= .gone)(h:ph.deaf=b+1)(c:R (.tuple #[]) F {ph with deaf:=b}):lR f R .ret a F ph:=⟨hd,hg,b,h,c⟩
section
variable {Mu Wg Is n base T0 i:Nat}{bs:Nat->Bool}{st:Bool}{F:af}
theorem MH (aL:Mu≠Wg/\Mu≠Is/\Wg≠Is)(p:n<67108864){mp:Mp}(q:mp= .idle\/mp= .fin)(s:st=bs i):
  cX Tryz.prog (WJ (CY Mu Wg Is n bs base T0) i) 126 #[.pointer (some (stA Wg)),.int .i64 (-1)] F ⟨mp,.cnt,st,0⟩
   (fun r F' aU=>r= .tuple #[]/\F'=F/\aU=⟨.fin,.gone,st,0⟩):=by
 have hM:=WJ.eR (CY Mu Wg Is n bs base T0) i
 refine cX.L4 mP Tryz.func126 rfl rfl Tryz.ntmps126 au fun A f hd hs=>?_
 have hJ:True:=trivial
 have u:=hs 0
 have k1:=hs 1
 clear hs
 subst s
 have c1:decide ((-1:Int)<0)=true:=aB
 have c2:decide ((-1:Int)>0)=false:=aB
 repeat apply aI (hM _)
 refine dA (hM _) ay ?_
 repeat apply aI (hM _)
 refine bE hM fun K hK=>?_
 refine ak.pure (hM _) 2 (n:=0) _ rfl rfl ?_;simp only[*,go_sem,-hK,-hM]
 refine ak.nil hM (hK _ _ _ ?_);clear hK K
 repeat apply aI (hM _)
 refine dA (hM _) ay ?_
 repeat apply aI (hM _)
 refine bE hM fun K hK=>?_
 refine ak.pure (hM _) 1 (n:=2) _ rfl rfl ?_;simp only[*,go_sem,-hK,-hM]
 refine vD ⟨Wg,0,none⟩ zE mQ zG ⟨_,rfl,cE,rfl,rfl⟩ au ep L6 ?_
 refine LH D9 ⟨_,_,_,rfl,cE,rfl,ej,rfl⟩ rfl rfl q rfl ?_
 refine ak.nil hM (hK _ _ _ ?_);clear hK K
 repeat apply aI (hM _)
 refine bE hM fun K hK=>?_
 refine zM sD ⟨_,_,_,rfl,cE,rfl,ej,rfl⟩ au au ?_
 refine ak.nil hM (hK _ _ _ ?_);clear hK K
 repeat apply aI (hM _)
 refine bE hM fun K hK=>?_
 refine ak.defer (hM _) rfl cE rfl rfl (by simp;rfl) fun d e1 e2 j=>?_
 have l0:slot d 0= .pointer (some ⟨Wg,0,none⟩):=(e1 0).trans ay
 have w:slot d 1= .int .i64 (-1):=(e1 1).trans ay
 replace f:sz d=117:=e2.trans ay
 replace hd:d.defers=[dcall 153 #[]]:=j.trans ay
 clear e1 e2 j u k1
 refine ak.nil hM (hK _ _ _ ?_);clear hK K
 repeat apply aI (hM _)
 refine bE hM fun K hK=>?_
 refine ak.pure (hM _) 1 (n:=0) _ rfl rfl ?_;simp only[*,go_sem,-hK,-hM]
 refine ak.nil hM (hK _ _ _ ?_);clear hK K
 repeat apply aI (hM _)
 refine bE hM fun K hK=>?_
 refine ak.entry (.bool false) (hM _) Ed ⟨_,_,_,rfl,cE,rfl,ej,rfl⟩ ?_
 refine ak.nil hM (hK _ _ _ ?_);clear hK K
 repeat apply aI (hM _)
 refine cV (hM _) ay ?_
 apply cY (hM _)
 have w1:IntKind.u64.wrap (-1)=18446744073709551615:=aB
 have w2:IntKind.u64.wrap (18446744073709551615*2 ^ min 32 64)=18446744069414584320:=aB
 repeat apply aI (hM _)
 refine bE hM fun K hK=>?_
 refine ak.pure (hM _) 6 (n:=2) _ rfl rfl ?_;simp only[*,go_sem,-hK,-hM]
 refine ak.gJ (hM _) rfl cE rfl Bn ep (L7 aL p) fun r F' aU c=>?_
 obtain ⟨rfl,v,t,k,ht,rfl,rfl⟩:=c
 obtain ⟨x,b⟩:∃x:Int,x=(v:Int)*4294967296+(t:Int):=⟨_,rfl⟩
 rw[<-b]
 have a1:ja x 2147483648=0:=by show lS x 2147483648=0;rw[b];exact zR v t aa ht
 have a2:ja x 2147483647=(t:Int):=by show lS x 2147483647=(t:Int);rw[b];exact zS v t aa ht
 have a3:x.fdiv (2 ^ min 32 64)=(v:Int):=by rw[b];exact zT v t ht
 have a4:IntKind.i32.wrap (v:Int)=(v:Int):=jm aa aa
 have a5:IntKind.u32.wrap (t:Int)=(t:Int):=by
  unfold IntKind.wrap
  simp[IntKind.bits,IntKind.signed]
  omega
 have g:v=0->t=1->((1:Int) != x)=false:=fun e y=>by rw[b,e,y];rfl
 clear b
 refine ak.pure (hM _) 1 (n:=0) _ rfl rfl ?_;simp only[*,go_sem,-hK,-hM]
 refine ak.nil hM (hK _ _ _ ?_);clear hK K
 repeat apply aI (hM _)
 refine bE hM fun K hK=>?_
 refine ak.pure (hM _) 7 (n:=0) _ rfl rfl ?_;simp only[*,go_sem,-hK,-hM]
 refine ak.nil hM (hK _ _ _ ?_);clear hK K
 repeat apply aI (hM _)
 refine cV (hM _) ay ?_
 apply cY (hM _)
 repeat apply aI (hM _)
 refine bE hM fun K hK=>?_
 refine ak.pure (hM _) 4 (n:=0) _ rfl rfl ?_;simp only[*,go_sem,-hK,-hM]
 refine ak.nil hM (hK _ _ _ ?_);clear hK K
 repeat apply aI (hM _)
 refine bE hM fun K hK=>?_
 refine ak.pure (hM _) 4 (n:=0) _ rfl rfl ?_;simp only[*,go_sem,-hK,-hM]
 refine ak.nil hM (hK _ _ _ ?_);clear hK K
 repeat apply aI (hM _)
 refine bE hM fun K hK=>?_
 refine ak.pure (hM _) 10 (n:=0) _ rfl rfl ?_;simp only[*,go_sem,-hK,-hM]
 refine ak.nil hM (hK _ _ _ ?_);clear hK K
 repeat apply aI (hM _)
 refine cV (hM _) ay ?_
 apply cY (hM _)
 have c3:decide ((v:Int)<0)=false:=au
 repeat apply aI (hM _)
 refine bE hM fun K hK=>?_
 refine ak.pure (hM _) 2 (n:=0) _ rfl rfl ?_;simp only[*,go_sem,-hK,-hM]
 refine ak.nil hM (hK _ _ _ ?_);clear hK K
 repeat apply aI (hM _)
 refine cV (hM _) ay ?_
 apply cY (hM _)
 have l:t=0\/t=1:=aa
 by_cases hC:v=0/\t=1
 ·
  obtain ⟨rfl,rfl⟩:=hC
  have z:((1:Int) != x)=false:=g rfl rfl
  have hg:(if (0:Nat)=0/\(1:Nat)=1 then Gp.ld else Gp.gone)= .ld:=rfl
  rw[hg]
  have B:((1:Nat):Int)=1:=rfl
  clear hg g l k ht
  repeat apply aI (hM _)
  refine bE hM fun K hK=>?_
  refine ak.pure (hM _) 12 (n:=0) _ rfl rfl ?_;simp only[*,go_sem,-hK,-hM]
  refine ak.nil hM (hK _ _ _ ?_);clear hK K
  repeat apply aI (hM _)
  refine cV (hM _) ay ?_
  apply cY (hM _)
  repeat apply aI (hM _)
  refine bE hM fun K hK=>?_
  refine ak.pure (hM _) 6 (n:=0) _ rfl rfl ?_;simp only[*,go_sem,-hK,-hM]
  refine ak.nil hM (hK _ _ _ ?_);clear hK K
  repeat apply aI (hM _)
  refine cV (hM _) ay ?_
  apply cY (hM _)
  repeat apply aI (hM _)
  refine bE hM fun K hK=>?_
  refine ak.pure (hM _) 3 (n:=3) _ rfl rfl ?_;simp only[*,go_sem,-hK,-hM]
  refine ak.gJ (hM _) rfl cE rfl wY ep L8 fun r F' aU c=>?_
  obtain ⟨rfl,rfl,rfl⟩:=c
  refine ak.pure (hM _) 2 (n:=0) _ rfl rfl ?_;simp only[*,go_sem,-hK,-hM]
  refine ak.nil hM (hK _ _ _ ?_);clear hK K
  repeat apply aI (hM _)
  refine cV (hM _) ay ?_
  apply cY (hM _)
  repeat apply aI (hM _)
  refine bE hM fun K hK=>?_
  refine ak.pure (hM _) 3 (n:=1) _ rfl rfl ?_;simp only[*,go_sem,-hK,-hM]
  refine ak.gJ (hM _) rfl cE rfl Gk ep (L9 aL) fun r F' aU c=>?_
  obtain ⟨rfl,rfl,rfl⟩:=c
  refine ak.nil hM (hK _ _ _ ?_);clear hK K
  repeat apply aI (hM _)
  refine bE hM fun K hK=>?_
  refine ak.pure (hM _) 1 (n:=0) _ rfl rfl ?_;simp only[*,go_sem,-hK,-hM]
  refine ak.nil hM (hK _ _ _ ?_);clear hK K
  repeat apply aI (hM _)
  refine cV (hM _) ay ?_
  apply cY (hM _)
  repeat apply aI (hM _)
  refine kM hM ?_
  refine sC hM (MF Wg (bs i) F') 1 ?_ ?_
  .exact ⟨1,rfl,ay,ay,ay,ay,.inl ⟨rfl,rfl,rfl⟩⟩
  .clear l0 w f hd c1 c2 c3 z a1 a2 a3 a4 a5 w1 w2 B
   rintro m A C E ⟨t8,rfl,l0,G,f,hd,⟨rfl,rfl,rfl⟩|⟨rfl,rfl,rfl⟩⟩
   .have D:((1:Int) != 0)=true:=rfl
    have w3:IntKind.u32.wrap (1 - 1)=0:=aB
    repeat apply aI (hM _)
    refine bE hM fun K hK=>?_
    refine ak.pure (hM _) 2 (n:=0) _ rfl rfl ?_;simp only[*,go_sem,-hK,-hM]
    refine ak.nil hM (hK _ _ _ ?_);clear hK K
    repeat apply aI (hM _)
    refine dA (hM _) ay ?_
    apply cY (hM _)
    repeat apply aI (hM _)
    refine kM hM ?_
    repeat apply aI (hM _)
    refine bE hM fun K hK=>?_
    refine ak.pure (hM _) 3 (n:=1) _ rfl rfl ?_;simp only[*,go_sem,-hK,-hM]
    refine L2 (.bool false) (.int .i64 0) Ly aL ⟨_,_,_,rfl,cE,rfl,ej,rfl⟩ (by rfl) ?_
    refine ak.nil hM (hK _ _ _ ?_);clear hK K
    repeat apply aI (hM _)
    refine bE hM fun K hK=>?_
    refine ak.pure (hM _) 3 (n:=0) _ rfl rfl ?_;simp only[*,go_sem,-hK,-hM]
    refine ak.nil hM (hK _ _ _ ?_);clear hK K
    exact ⟨0,aa,0,rfl,ay,ay,ay,ay,.inr ⟨rfl,rfl,rfl⟩⟩
   .have D:((0:Int) != 0)=false:=rfl
    repeat apply aI (hM _)
    refine bE hM fun K hK=>?_
    refine ak.pure (hM _) 2 (n:=0) _ rfl rfl ?_;simp only[*,go_sem,-hK,-hM]
    refine ak.nil hM (hK _ _ _ ?_);clear hK K
    repeat apply aI (hM _)
    refine cV (hM _) ay ?_
    exact qb (show lR 153 (fun r a aU=>r= .tuple #[]/\a=C/\aU=⟨.fin,.gone,bs i,0⟩) .normal _ _ _ from MG ay rfl rfl ⟨rfl,rfl,rfl⟩)
 ·
  rw[if_neg hC]
  have o:(0<v/\decide ((v:Int)>0)=true)\/(v=0/\decide ((v:Int)>0)=false/\((t:Int)==0)=true):=by
   rcases Nat.eq_zero_or_pos v with e|e
   .refine .inr ⟨e,by simp[e],?_⟩
    obtain rfl:t=0:=aa
    rfl
   .exact .inl ⟨e,by simp;omega⟩
  have a7:((t:Int) != 0)=false\/((t:Int) != 0)=true:=by cases ((t:Int) != 0)<;>simp
  clear g hC k ht l
  rcases a7 with a7|a7
  .repeat apply aI (hM _)
   refine bE hM fun K hK=>?_
   refine ak.pure (hM _) 12 (n:=0) _ rfl rfl ?_;simp only[*,go_sem,-hK,-hM]
   refine ak.nil hM (hK _ _ _ ?_);clear hK K
   repeat apply aI (hM _)
   refine cV (hM _) ay ?_
   apply cY (hM _)
   rcases o with ⟨_,h⟩|⟨_,h,b2⟩
   .repeat apply aI (hM _)
    refine bE hM fun K hK=>?_
    refine ak.pure (hM _) 6 (n:=0) _ rfl rfl ?_;simp only[*,go_sem,-hK,-hM]
    refine ak.nil hM (hK _ _ _ ?_);clear hK K
    repeat apply aI (hM _)
    refine dA (hM _) ay ?_
    exact gh (show lR 153 (fun r a aU=>r= .tuple #[]/\a=F'/\aU=⟨.fin,.gone,bs i,0⟩) .ret _ _ _ from vK ay rfl rfl ⟨rfl,rfl,rfl⟩)
   .repeat apply aI (hM _)
    refine bE hM fun K hK=>?_
    refine ak.pure (hM _) 6 (n:=0) _ rfl rfl ?_;simp only[*,go_sem,-hK,-hM]
    refine ak.nil hM (hK _ _ _ ?_);clear hK K
    repeat apply aI (hM _)
    refine dA (hM _) ay ?_
    exact gh (show lR 153 (fun r a aU=>r= .tuple #[]/\a=F'/\aU=⟨.fin,.gone,bs i,0⟩) .ret _ _ _ from vK ay rfl rfl ⟨rfl,rfl,rfl⟩)
  .repeat apply aI (hM _)
   refine bE hM fun K hK=>?_
   refine ak.pure (hM _) 12 (n:=0) _ rfl rfl ?_;simp only[*,go_sem,-hK,-hM]
   refine ak.nil hM (hK _ _ _ ?_);clear hK K
   repeat apply aI (hM _)
   refine cV (hM _) ay ?_
   apply cY (hM _)
   rcases o with ⟨_,h⟩|⟨_,h,b2⟩
   .repeat apply aI (hM _)
    refine bE hM fun K hK=>?_
    refine ak.pure (hM _) 6 (n:=0) _ rfl rfl ?_;simp only[*,go_sem,-hK,-hM]
    refine ak.nil hM (hK _ _ _ ?_);clear hK K
    repeat apply aI (hM _)
    refine dA (hM _) ay ?_
    exact gh (show lR 153 (fun r a aU=>r= .tuple #[]/\a=F'/\aU=⟨.fin,.gone,bs i,0⟩) .ret _ _ _ from vK ay rfl rfl ⟨rfl,rfl,rfl⟩)
   .repeat apply aI (hM _)
    refine bE hM fun K hK=>?_
    refine ak.pure (hM _) 6 (n:=0) _ rfl rfl ?_;simp only[*,go_sem,-hK,-hM]
    refine ak.nil hM (hK _ _ _ ?_);clear hK K
    repeat apply aI (hM _)
    refine dA (hM _) ay ?_
    exact gh (show lR 153 (fun r a aU=>r= .tuple #[]/\a=F'/\aU=⟨.fin,.gone,bs i,0⟩) .ret _ _ _ from vK ay rfl rfl ⟨rfl,rfl,rfl⟩)
end
end Go.Proofs.YtbpddfapodiemaaGreatDoor
end
section
namespace Go.Sep
open Go Go.Conc
open Go.ConcN (sumTo upd upd_ne upd_same)
def jY (P:Program):Frame:={(default:Frame) with fn:=P.funcs.size,defers:=[],mode:=.panicking [goexitEntry]}
section
variable {P:Program}{f:FuncId}{fn:Func}{cd:Code}{w:World}{caps args:Array Value}
theorem MI (a:P.funcs[f]?=some fn)(b:(fn.name== "runtime.NumGoroutine")=false)(hb:fn.body=some cd):
  stepG P false (born P {target:=.fn (.func f) caps,args:=args}) w= .go (G ((baseD f).at {tmps:=args++caps++Array.replicate (fn.ntmps - (args++caps).size) undef,defers:=[]} [.code cd]) [jY P]) w #[]:=by
 have c:¬fn.name= "runtime.NumGoroutine":=by simpa using b
 rw[<-enter_atD (args++caps) a hb]
 simp[born,G,stepG,unwind,callDeferred,invoke,callFunc,a,c,hb,GStep.after,seen_none,jY]
theorem MJ {b:Frame}{a:Act}{todo:List Item}(d:b.kind= .deferred)(hd:a.defers=[])(e:P.funcs[b.fn]?=some fn)(c:fn.results=#[]):
  stepG P false (G {b.at a todo with mode:=.returning} [jY P]) w= .go (G (jY P) []) w #[]:=by
 have he:(results fn a.tmps).events P w #[]=#[]:=events_results_none c _ _
 have f:(results fn a.tmps).run P w= .ok (.tuple #[]) w:=results_none c _ P w
 simp[G,stepG,unwind,doReturn,Frame.at,d,hd,e,f,he,jY,goexitEntry,seen_none,GStep.after]
theorem MK:stepG P false (G (jY P) []) w= .go {frame:=jY P,callers:=[],status:=.finished,dying:=none} w #[]:=by
 have e:(default:Frame).todo=[]:=rfl;simp[G,stepG,unwind,jY,goexitEntry,Frame.catches,e]
end
section
variable {c:Cy}{i:Nat}{F:af}{f fd:FuncId}
def zY (c:Cy)(i:Nat)(fd:FuncId)(v:Value):Ex->Act->af->Ph->Prop
 | .exit _,_,_,_=>False
 |_,a,_,ph=>a.defers=[dcall fd #[v]]/\(ph.mp= .idle\/ph.mp= .fin)/\ph.gp= .cnt/\ph.stored=c.bs i/\ph.deaf=0
theorem worker {fn b:Func}{cd l:Code}{n nd:Nat}{v:Value}(m:c.P.funcs[f]?=some fn)(y:(fn.name== "runtime.NumGoroutine")=false)(hb:fn.body=some cd)(z:fn.results=#[])(o:fn.ntmps=n){caps:Array Value}(Q:caps.size<=n)
  (B:c.P.funcs[fd]?=some b) (C:(b.name== "runtime.NumGoroutine")=false) (D:b.body=some l) (E:b.results=#[]) (H:b.ntmps=nd) (I:1<=nd)
  (hd:∀(mp:Mp) (F:af),mp= .idle\/mp= .fin->∀A:Act,sz A=nd->A.defers=[]->(∀j,slot A j=(#[v]:Array Value).getD j undef)->c9 (WJ c i) fd l (zQ fun F' aU=>aU=⟨.fin,.gone,c.bs i,0⟩) A F ⟨mp,.cnt,c.bs i,0⟩)
  (h:∀A:Act,sz A=n->A.defers=[]->(∀j,slot A j=caps.getD j undef)->c9 (WJ c i) f cd (zY c i fd v) A F ⟨.idle,.cnt,false,0⟩):
  Wk c i ⟨.idle,.cnt,false,0⟩ (born c.P {target:=.fn (.func f) caps,args:=#[]}) F:=by
 have hM:=WJ.eR c i
 have e0:∀w,stepG c.P false (born c.P {target:=.fn (.func f) caps,args:=#[]}) w= .go (G ((baseD f).at {tmps:=caps++Array.replicate (fn.ntmps - caps.size) undef,defers:=[]} [.code cd]) [jY c.P]) w #[]:=fun w=>by
  have:=MI (P:=c.P) (w:=w) (caps:=caps) (args:=#[]) m y hb
  simpa using this
 refine Wk.act (c:=c) (i:=i) rfl rfl au fun w s k φ p0 e1 e2 R J K=>.inr ⟨_,w,#[],s,⟨.idle,.cnt,false,0⟩,e0 w,e2,.refl _ _,?_,ov rfl Iff.rfl,.inr ei,?_⟩
 .rw[<-J,zH];exact K
 have out:∀(a:Act) (p:List Item) F' (aU:Ph),(a.defers=[dcall fd #[v]]/\(aU.mp= .idle\/aU.mp= .fin)/\aU.gp= .cnt/\aU.stored=c.bs i/\aU.deaf=0)->WJ c i aU (G {(baseD f).at a p with mode:=.returning} [jY c.P]) F':=by
  intro a p F' aU ⟨k1,r,t,u,x⟩
  obtain ⟨mp,gp,st,S⟩:=aU
  simp only at r t u x
  subst t u x
  refine L5 B C D E H (by simpa using I) k1 (fun A L M N=>hd mp F' r A L M N) fun T U O=>?_
  subst O
  refine Wk.gone (q:=2) rfl (QuitsD.ctl rfl (fun w=>MJ rfl rfl m z) (QuitsD.ctl rfl (fun w=>MK) ⟨rfl,rfl⟩))
 have:=h {tmps:=caps++Array.replicate (fn.ntmps - caps.size) undef,defers:=[]} (by simp[sz,o];omega) rfl (fun j=>?_) (baseD f) [] [jY c.P] ⟨by simp[baseD],rfl,rfl⟩ fun e a F' aU g=>?_
 .rw[e6 rfl] at this;exact this
 .simp only[slot,o,Array.getD_eq_getD_getElem?]
  rcases Nat.lt_or_ge j caps.size with d|d
  .rw[Array.getElem?_append_left d]
  .rw[Array.getElem?_append_right d,Array.getElem?_replicate,Array.getElem?_eq_none d]
   split<;>rfl
 .cases e with
  |normal=>exact (hM aU).move (fun _=>mU rfl) (out a _ F' aU g)
  |exit i=>exact g.elim
  |ret=>exact fun V=>(hM aU).move (fun _=>stepG_ret' rfl) (out a _ F' aU g)
end
attribute [go_sem] zY
end Go.Sep
end
section
namespace Go.Proofs.YtbpddfapodiemaaGreatDoor
open Go Go.Sep Go.Proofs Go.Conc
open Go.ConcN (upd upd_same)
open Go.ConcM (muA msA)
open Go.ConcR (stA smA)
set_option maxRecDepth 100000
set_option maxHeartbeats 4000000
attribute [local go_sem] Int.reduceBEq Int.reduceBNe muA msA stA smA
theorem ML:(Tryz.prog.funcs[127]?).any (·.norace)=false:=aj
section
variable {Mu Wg Is n base T0 i:Nat}{bs:Nat->Bool}
theorem MM (aL:Mu≠Wg/\Mu≠Is/\Wg≠Is)(w:n<67108864)(a4:i<n){ro:Addr->Option Value}(u0:di){s1:Value}(m:aH fH ro s1 u0.book.aE){J:Value}(o:aH eU ro J u0.book.props){K:Value}(q:aH fo ro K u0.book.aF){L:Value}(r:aH dG ro L u0.book.told)
  (x:Int) (z:List Int) {M:Value} (s:aH rI ro M z) (B:List bA) {N:Value} (f:aH jG ro N B) {d b2 b3 b4 O P:Nat}
  (g0:ro ⟨d,0,none⟩=some (.int .i64 u0.book.bV)) (Q:ro ⟨d,1,none⟩=some (.int .i64 u0.book.bU)) (R:ro ⟨d,2,none⟩=some (.int .i64 u0.book.bq.num)) (S:ro ⟨d,3,none⟩=some (.int .i64 u0.book.bq.den)) (T:ro ⟨d,4,none⟩=some s1) (U:ro ⟨d,5,none⟩=some J) (V:ro ⟨d,6,none⟩=some K) (W:ro ⟨d,7,none⟩=some L)
  (X:ro ⟨b2,0,none⟩=some (.int .i64 x)) (Y:ro ⟨b3,0,none⟩=some M) (Z:ro ⟨b4,0,none⟩=some N) (C:ro ⟨O,0,none⟩=some (.slice (some ⟨Is,0,none⟩) n n)) (D:ro ⟨P,0,none⟩=some (.int .i64 i))
  (h:ai (uw u0.book x z) (fun b=>uh b B)=some (bs i)):
  Wk (CY Mu Wg Is n bs base T0) i ⟨.idle,.cnt,false,0⟩ (born Tryz.prog {target:=.fn (.func 127) #[.pointer (some ⟨Wg,0,none⟩),.pointer (some ⟨d,0,none⟩),.pointer (some ⟨b2,0,none⟩),.pointer (some ⟨b3,0,none⟩),.pointer (some ⟨b4,0,none⟩),.pointer (some ⟨Mu,0,none⟩),.pointer (some ⟨O,0,none⟩),.pointer (some ⟨P,0,none⟩)],args:=#[]}) ⟨ro,[]⟩:=by
 have hM:=WJ.eR (CY Mu Wg Is n bs base T0) i
 have hJ:∀ph:Ph,ph.gp= .cnt->Go.Sep.Closed Tryz.prog false (WJ (CY Mu Wg Is n bs base T0) i ph):=fun ph h=>Wk.closed (CY Mu Wg Is n bs base T0) i ph h
 refine worker (c:=CY Mu Wg Is n bs base T0) (i:=i) (fd:=128) (v:=.pointer (some ⟨Wg,0,none⟩)) Tryz.func127 rfl rfl rfl Tryz.ntmps127 au Tryz.func128 rfl rfl rfl Tryz.ntmps128 au ?_ ?_
 .intro mp F a5 A E hd hs
  have u:=hs 0
  clear hs h g0 Q R S T U V W X Y Z C D m o q r s f hJ a4
  repeat apply aI (hM _)
  refine dB hM ?_
  refine ak.pure (hM _) 1 (n:=1) _ rfl rfl ?_;apply ag _
  refine ak.gJ (hM _) rfl rfl rfl Bm (by simp only[*,go_sem,stA]) (MH aL w a5 rfl) fun v F' aU g=>?_
  obtain ⟨rfl,rfl,rfl⟩:=g
  refine ak.nil hM ?_
  exact ⟨aN,rfl⟩
 .intro ab E hd hs
  have u:=hs 0
  have k1:=hs 1
  have ad:=hs 2
  have ae:=hs 3
  have al:=hs 4
  have ao:=hs 5
  have ar:=hs 6
  have a0:=hs 7
  clear hs
  repeat apply aI (hM _)
  refine dB hM ?_
  refine ak.defer (hM _) (vals:=#[.pointer (some ⟨Wg,0,none⟩)]) rfl (by rfl) rfl rfl (by simp only[List.map_toArray,List.map_cons,List.map_nil];rw[show ab.eval (.tmp 0)=slot ab 0 from rfl,u];rfl) fun A e1 e2 G=>?_
  replace u:=(e1 0).trans u
  replace k1:=(e1 1).trans k1
  replace ad:=(e1 2).trans ad
  replace ae:=(e1 3).trans ae
  replace al:=(e1 4).trans al
  replace ao:=(e1 5).trans ao
  replace ar:=(e1 6).trans ar
  replace a0:=(e1 7).trans a0
  replace E:sz A=20:=e2.trans E
  rw[hd] at G
  replace hd:=G
  clear e1 e2 G
  refine ak.nil hM ?_;try simp only[go_sem]
  obtain ⟨d3,c4,rfl,a6,a7,a8⟩:=id m
  obtain ⟨d10,dp,rfl,a9,ba,bb⟩:=id o
  obtain ⟨d17,dq,rfl,bc,bd,bj⟩:=id q
  obtain ⟨d24,ds,rfl,bk,bl,bm⟩:=id r
  obtain ⟨d38,dt,rfl,bo,br,bz⟩:=id s
  obtain ⟨d45,du,rfl,bS,b0,H⟩:=id f
  repeat apply aI (hM _)
  have k:=hJ ⟨.idle,.cnt,false,0⟩ rfl
  refine c9.of k ?_
  refine Gu k mixed [0,1,2,3,5] [4,6] ⟨ro,[]⟩ dI aj ?_
  have b1:=gy h;clear h;obtain ⟨b5,a2,h⟩:=b1
  simp only[*,go_sem,-h,-hJ,-hM]
  refine wP k _ (HY u0.book ⟨m,o,q,r⟩ x z s a2) fun v dv l ca g=>?_
  obtain ⟨dC,dE,dT,ea,rfl,j⟩:=g
  replace f:=f.mono l;clear H;obtain ⟨_,_,H⟩:=f.op
  obtain ⟨d63,eb,rfl,cb,cd,cf⟩:=id j.e
  obtain ⟨d68,ec,rfl,cl,cy,cS⟩:=id j.p
  obtain ⟨d73,ed,rfl,c0,da,db⟩:=id j.y
  obtain ⟨d78,eh,rfl,dd,df,dk⟩:=id j.t
  replace C:=l _ _ C
  replace D:=l _ _ D
  clear g0 Q R S T U V W X Y Z
  refine ⟨⟨l,fun a I=>by simp[keys] at I,trivial⟩,l6 ?_⟩
  simp only[*,go_sem,-h,-hJ,-hM]
  refine bf k _ (HN b5 (j.mono bn) B (f.mono bn) h) ?_
  refine ⟨⟨l,fun a I=>by simp[keys] at I,trivial⟩,?_⟩
  clear m o q r s f j a8 bb bj bm bz H cf cS db dk h a2 a6 a9 bc bk bo bS cb cl c0 dd a7 ba bd bl br b0 cd cy da df k ca
  have i0:(0:Int)<=(i:Int):=aa
  have i1:(i:Int)<(n:Int):=aa
  cases a3:bs i
  .repeat apply aI (hM _)
   refine cV (hM _) aN ?_
   apply cY (hM _)
   exact ⟨aN,.inl rfl,rfl,a3.symm,rfl⟩
  .repeat apply aI (hM _)
   refine dA (hM _) aN ?_
   repeat apply aI (hM _)
   refine dB hM ?_
   refine ak.gJ (hM _) rfl (by rfl) rfl Gh aN (LU aL w) fun v F' aU g=>?_
   obtain ⟨rfl,rfl,rfl⟩:=g
   refine ak.nil hM ?_;try simp only[go_sem]
   repeat apply aI (hM _)
   refine dB hM ?_
   refine ak.bK (hJ _ rfl) 3 (n:=1) _ rfl rfl ?_;apply ag _
   refine LK Lz Bf ML aL ⟨_,rfl,(by first|rfl|simp only[*,go_sem]),rfl,rfl⟩ (by rfl) aN aN ?_
   refine ak.nil hM ?_;try simp only[go_sem]
   repeat apply aI (hM _)
   refine dB hM ?_
   refine ak.gJ (hM _) rfl (by rfl) rfl Gi aN (LV aL w) fun v F' aU g=>?_
   obtain ⟨rfl,rfl,rfl⟩:=g
   refine ak.nil hM ?_
   exact (show zY _ _ _ _ .normal _ _ _ from ⟨aN,.inr rfl,rfl,a3.symm,rfl⟩)
end
end Go.Proofs.YtbpddfapodiemaaGreatDoor
end
section
namespace Go.Proofs.YtbpddfapodiemaaGreatDoor
open Go Go.Sep Go.Proofs Go.Conc
open Go.ConcN (upd upd_same)
open Go.ConcM (muA msA muBlock)
open Go.ConcR (stA smA wgBlock)
set_option maxRecDepth 100000
set_option maxHeartbeats 4000000
attribute [local go_sem] Int.reduceBEq Int.reduceBNe muA msA stA smA
def MN (u0:di)(a:Int)(c:List bA)(d:List Int):Option Bool:=ai (uw u0.book a d) fun b=>uh b c
def sH (f:List Int->Option Bool):List (List Int)->Option (List Bool)
 |[]=>some []
 |x::l=>ai (f x) fun b=>ai (sH f l) fun r=>some (b::r)
def zZ (a:List Bool)(i23:Nat)(b:List Int)(st:List (List Int)):Option (Fl (List (List Int)) (List (List Int))):=
 ai (bD a (i23:Int)) fun c=>cond (c) (ai (de st ([b])) fun d=>some (.nx d)) (some (.nx st))
def vL (u0:di)(b:Int)(a:List (List Int)):Option (List (List Int)):=
 cond (decide (a.length<1048576)) (ai (uJ u0) fun c=>ai (sH (MN u0 b c) a) fun bl=>ai (bR (zZ bl) 0 a ([]:List (List Int))) fun o=>aJ o (fun d=>some d) (fun _ _=>none) (fun r=>some r)) none
theorem ED {f:List Int->Option Bool}:∀{l:List (List Int)} {bl:List Bool},sH f l=some bl->bl.length=l.length/\∀(i:Nat) (a:List Int),l[i]?=some a->f a=some (bl[i]?.getD false)
 |[],bl,h=>by
  simp[sH] at h;subst h
  exact ⟨rfl,fun i a hi=>by simp at hi⟩
 |x::l,bl,h=>by
  unfold sH at h
  obtain ⟨b,hb,h⟩:=gy h
  obtain ⟨r,c,h⟩:=gy h
  have h:=Option.some.inj h
  subst h
  obtain ⟨e1,e2⟩:=ED c
  refine ⟨by simp[e1],fun i a hi=>?_⟩
  cases i with
  |zero=>simp at hi;subst hi;simpa using hb
  |succ i=>simp at hi;simpa using e2 i a hi
def EE (x:X)(d:Addr->Option Value)(b3 b4 e f:Nat)(b:Value)(m:Nat)(a:Act)(F:af)(z:Z):Prop:=
 ∃(i:Nat) (c:Addr->Option Value),m=x.n - i/\i<=x.n/\F=⟨c,[]⟩/\Ext d c/\slot a 2=b/\slot a 3= .pointer (some ⟨b3,0,none⟩)/\slot a 4= .pointer (some ⟨b4,0,none⟩)/\slot a 6= .slice none 0 0/\slot a 7= .pointer (some ⟨e,0,none⟩)/\slot a 8= .pointer (some ⟨f,0,none⟩)/\slot a 9= .pointer (some ⟨x.Mu,0,none⟩)/\slot a 10= .pointer (some ⟨x.Wg,0,none⟩)/\slot a 21=b/\slot a 22= .int .i64 x.n/\slot a 23= .int .i64 i/\sz a=49/\a.defers=[]/\z= .co x i (.opn 0) 0
theorem MO (l:List Bool):(l.map fun b=>[Value.bool b]).flatten=l.map Value.bool:=by
 induction l with
 |nil=>rfl
 |cons b l ih=>simp only[List.map_cons,List.flatten_cons,ih];rfl
theorem MP:Tryz.prog.underlying 172=some (.slice 4):=aj
theorem MQ:Tryz.prog.info? 4=some ((Tryz.prog.info? 4).getD default):=aj
theorem EF {ro:Addr->Option Value}(u0:di){s1:Value}(o:aH fH ro s1 u0.book.aE){bk:Value}(p:aH eU ro bk u0.book.props){bm:Value}(q:aH fo ro bm u0.book.aF){bo:Value}(s:aH dG ro bo u0.book.told){br:Value}(a2:aH iK ro br u0.all)(ab:Int)(a:List (List Int)){bs:Value}(g:aH (rL rI) ro bs a){r:List (List Int)}(h:vL u0 ab a=some r):
  qP Tryz.prog 71 #[.agg #[.int .i64 u0.book.bV,.int .i64 u0.book.bU,.int .i64 u0.book.bq.num,.int .i64 u0.book.bq.den,s1,bk,bm,bo,br],.int .i64 ab,bs] ro (fun v aW=>∃bz,v=bz/\aH (rL rI) aW bz r):=by
 refine gv.Mq (T:=TT) fun Φ=>?_
 obtain ⟨d3,c4,rfl,fs,ft,fu⟩:=id o
 obtain ⟨d10,fv,rfl,fw,fx,P⟩:=id p
 obtain ⟨d17,G,rfl,fz,fP,fQ⟩:=id q
 obtain ⟨d24,fS,rfl,fU,gg,gl⟩:=id s
 obtain ⟨d31,ib,rfl,gn,gp,gB⟩:=id a2
 obtain ⟨d38,bS,rfl,ic,b0,w⟩:=id g
 unfold vL at h
 have hlen:a.length<1048576:=by
  rcases Nat.lt_or_ge a.length 1048576 with y|y
  .exact y
  .rw[show decide (a.length<1048576)=false by simp;omega] at h;cases h
 rw[show decide (a.length<1048576)=true by simp;omega] at h
 simp only[cond_true] at h
 obtain ⟨b1,b2,h⟩:=gy h
 obtain ⟨bl,b5,h⟩:=gy h
 obtain ⟨ca,cb⟩:=ED b5
 have hM:=ZJ.eR TT Φ
 have hJ:=fun (z:Z) (Q:zW z=true)=>ZJ.MB TT Φ z Q
 refine cX.go (main:=true) hM Tryz.func71 rfl Tryz.ntmps71 au fun A Q hd hs=>?_
 have gC:=hs 0
 have k1:=hs 1
 have cd:=hs 2
 clear hs b5
 repeat apply aI (hM _)
 refine bE hM fun K hK=>?_
 refine ak.bK (hJ _ rfl) 3 (n:=0) _ rfl rfl ?_;apply b9 _
 intro b3 f3;have r3:=e8 f3;have n3:=gr f3
 try simp only[av] at n3
 intro b4 f4;have gM:=e8 f4;have cf:=gr f4
 try simp only[av] at cf
 try simp only[*,go_sem,-hK,-hM,-hJ,-h]
 refine ak.nil hM (hK _ _ _ ?_);clear hK K
 have k:=hJ .free rfl
 repeat apply aI (hM _)
 refine bE hM fun K hK=>?_
 refine ak.bK (hJ _ rfl) 4 (n:=0) _ rfl rfl ?_;apply b9 _
 refine wP k _ (Ch u0 ⟨o,p,q,s⟩ a2 b2) fun v ih H gT R=>?_
 obtain ⟨ik,rfl,I⟩:=R
 replace o:=o.mono H
 replace p:=p.mono H
 replace q:=q.mono H
 replace s:=s.mono H
 replace g:=g.mono H
 obtain ⟨d45,gV,rfl,g0,g1,g2⟩:=id I
 clear fu P fQ gl gB w g2 r3 gM
 apply aO
 try simp only[*,go_sem,-hK,-hM,-hJ,-h,-k]
 intro a3 f7;have g3:=e8 f7;have cl:=gr f7
 try simp only[av] at cl
 try simp only[*,go_sem,-hK,-hM,-hJ,-h,-k]
 refine ak.nil hM (hK _ _ _ ?_);clear hK K
 repeat apply aI (hM _)
 refine bE hM fun K hK=>?_
 refine ak.bK (hJ _ rfl) 5 (n:=0) _ rfl rfl ?_;apply b9 _
 refine MA MP MQ rfl Bf F3 hlen fun f a4=>?_
 have rI:=e8 a4;have nI:=gr a4
 try simp only[av] at nI
 apply aO
 try simp only[*,go_sem,-hK,-hM,-hJ,-h,-k]
 intro S f8;have g4:=e8 f8;have cS:=gr f8
 try simp only[av] at cS
 try simp only[*,go_sem,-hK,-hM,-hJ,-h,-k]
 refine ak.nil hM (hK _ _ _ ?_);clear hK K
 repeat apply aI (hM _)
 refine bE hM fun K hK=>?_
 refine ak.bK (hJ _ rfl) 1 (n:=0) _ rfl rfl ?_;apply b9 _
 intro J f9;have ha:=e8 f9;have c0:=gr f9
 try simp only[av] at c0
 try simp only[*,go_sem,-hK,-hM,-hJ,-h,-k]
 refine ak.nil hM (hK _ _ _ ?_);clear hK K
 repeat apply aI (hM _)
 refine bE hM fun K hK=>?_
 refine ak.bK (hJ _ rfl) 1 (n:=0) _ rfl rfl ?_;apply b9 _
 intro L f10;have hc:=e8 f10;have da:=gr f10
 try simp only[av] at da
 try simp only[*,go_sem,-hK,-hM,-hJ,-h,-k]
 refine ak.nil hM (hK _ _ _ ?_);clear hK K
 repeat apply aI (hM _)
 refine bE hM fun K hK=>?_
 refine ak.bK (hJ _ rfl) 3 (n:=0) _ rfl rfl ?_;apply b9 _
 refine ak.nil hM (hK _ _ _ ?_);clear hK K
 refine zX k fun nd no=>?_
 obtain ⟨ad,B,hle,u,db,dd,df⟩:=MC nd no
 clear nd no
 refine Mm (T:=TT) (Φ:=Φ) ⟨ad,[]⟩ J L f a.length (fun i=>bl[i]?.getD false) hle ?_
 intro base B0 T0 hf aL
 clear hle
 have ae:a.length<67108864:=aa
 replace o:=o.mono B
 replace p:=p.mono B
 replace q:=q.mono B
 replace s:=s.mono B
 replace g:=g.mono B
 replace I:=I.mono B
 have dk:=u 0 (.int .i64 u0.book.bV) rfl
 have dp:=u 1 (.int .i64 u0.book.bU) rfl
 have dq:=u 2 (.int .i64 u0.book.bq.num) rfl
 have ds:=u 3 (.int .i64 u0.book.bq.den) rfl
 have dt:=u 4 (.slice d3 u0.book.aE.length c4) rfl
 have du:=u 5 (.slice d10 u0.book.props.length fv) rfl
 have dv:=u 6 (.slice d17 u0.book.aF.length G) rfl
 have dC:=u 7 (.slice d24 u0.book.told.length fS) rfl
 have dE:=db 0 (.int .i64 ab) rfl
 have dT:=dd 0 (.slice d45 b1.length gV) rfl
 have a5:=df 0 (.slice (some ⟨f,0,none⟩) a.length a.length) rfl
 clear u db dd df f3 f4 f7 f8 f9 f10 a4 n3 cf cl cS c0 da nI g3 g4 ha hc rI gT
 repeat apply aI (hM _)
 refine kM hM ?_
 refine sC hM (EE (⟨J,L,f,a.length,(fun i=>bl[i]?.getD false),base,T0,B0⟩:X) ad b3 b4 a3 S (.slice d38 a.length bS)) a.length ?_ ?_
 .exact ⟨0,ad,rfl,Nat.zero_le _,rfl,Ext.refl _,ay,ay,ay,ay,ay,ay,ay,ay,ay,ay,ay,ay,ay,rfl⟩
 clear gC k1 cd Q hd
 rintro m A F' ea ⟨i,N,rfl,hi,rfl,c,cd,hg,hh,il,hj,im,hk,hl,hn,ho,hp,Q,hd,rfl⟩
 have hi:i<=a.length:=hi
 replace o:=o.mono c
 replace p:=p.mono c
 replace q:=q.mono c
 replace s:=s.mono c
 replace g:=g.mono c
 replace I:=I.mono c
 rcases Nat.lt_or_ge i a.length with al|hq
 .have c1:decide ((i:Int)<(a.length:Int))=true:=by simp;omega
  have i0:(0:Int)<=(i:Int):=aa
  have i1:(i:Int)<(a.length:Int):=aa
  obtain ⟨a6,eb⟩:∃x,a[i]?=some x:=⟨_,List.getElem?_eq_getElem al⟩
  obtain ⟨_,_,w⟩:=g.op
  obtain ⟨hr,ec,a7,a8,U⟩:=w _ _ eb
  obtain ⟨ht,rfl,V⟩:=a8
  obtain ⟨d32,W,rfl,hv,hx,-⟩:=id V
  cases a7
  have hy:=U 0 _ rfl
  simp only[go_sem] at hy
  clear U w
  have ed:=cK (n:=i) aa
  repeat apply aI (hM _)
  refine bE hM fun K hK=>?_
  refine ak.bK (hJ _ rfl) 1 (n:=0) _ rfl rfl ?_;apply b9 _
  refine ak.nil hM (hK _ _ _ ?_);clear hK K
  repeat apply aI (hM _)
  refine dA (hM _) ay ?_
  apply cY (hM _)
  repeat apply aI (hM _)
  refine kM hM ?_
  repeat apply aI (hM _)
  refine bE hM fun K hK=>?_
  refine ak.bK (hJ _ rfl) 7 (n:=0) _ rfl rfl ?_;apply b9 _
  intro hz f11;have hA:=e8 f11;have eh:=gr f11
  try simp only[av] at eh
  try simp only[*,go_sem,-hK,-hM,-hJ,-h,-k]
  intro hB f12;have hD:=e8 f12;have et:=gr f12
  try simp only[av] at et
  try simp only[*,go_sem,-hK,-hM,-hJ,-h,-k]
  refine ak.nil hM (hK _ _ _ ?_);clear hK K
  refine zX (hJ _ rfl) fun nd no=>?_
  obtain ⟨hE,d,hle,ev,eQ⟩:=MD nd no
  clear nd no f11 f12 hA hD eh et
  refine EC (hJ _ rfl) hle ?_
  clear hle
  have hF:=ev 0 (.int .i64 i) rfl
  have hG:=eQ 0 (.slice d32 a6.length W) rfl
  clear ev eQ
  repeat apply aI (hM _)
  refine bE hM fun K hK=>?_
  refine ak.gJ (hM _) rfl cE rfl Bm ep (My aL ae) fun v F' ea R=>?_
  obtain ⟨rfl,rfl,rfl⟩:=R
  refine ak.nil hM (hK _ _ _ ?_);clear hK K
  repeat apply aI (hM _)
  refine bE hM fun K hK=>?_
  refine ak.bK (hJ _ rfl) 1 (n:=1) _ rfl rfl ?_;apply b9 _
  refine ME (caps:=#[.pointer (some ⟨L,0,none⟩),.pointer (some ⟨b3,0,none⟩),.pointer (some ⟨b4,0,none⟩),.pointer (some ⟨hB,0,none⟩),.pointer (some ⟨a3,0,none⟩),.pointer (some ⟨J,0,none⟩),.pointer (some ⟨S,0,none⟩),.pointer (some ⟨hz,0,none⟩)]) (f0:=127) al ⟨_,rfl,cE,rfl,rfl⟩ ep ?_ ?_
  .exact MM aL ae al u0 (o.mono d) (p.mono d) (q.mono d) (s.mono d) ab a6 (V.mono d) b1 (I.mono d) (d _ _ (c _ _ dk)) (d _ _ (c _ _ dp)) (d _ _ (c _ _ dq)) (d _ _ (c _ _ ds)) (d _ _ (c _ _ dt)) (d _ _ (c _ _ du)) (d _ _ (c _ _ dv)) (d _ _ (c _ _ dC)) (d _ _ (c _ _ dE)) hG (d _ _ (c _ _ dT)) (d _ _ (c _ _ a5)) hF (cb i a6 eb)
  refine ak.nil hM (hK _ _ _ ?_);clear hK K
  repeat apply aI (hM _)
  refine bE hM fun K hK=>?_
  refine ak.bK (hJ _ rfl) 2 (n:=0) _ rfl rfl ?_;apply b9 _
  refine ak.nil hM (hK _ _ _ ?_);clear hK K
  change ∃eS,eS<a.length - i/\EE _ ad b3 b4 a3 S _ eS _ _ _
  exact ⟨a.length - (i+1),aa,i+1,hE,rfl,al,rfl,c.trans d,ay,ay,ay,ay,ay,ay,ay,ay,ay,ay,ay,ay,ay,rfl⟩
 .have c1:decide ((i:Int)<(a.length:Int))=false:=by simp;omega
  obtain rfl:i=a.length:=aa
  repeat apply aI (hM _)
  refine bE hM fun K hK=>?_
  refine ak.bK (hJ _ rfl) 1 (n:=0) _ rfl rfl ?_;apply b9 _
  refine ak.nil hM (hK _ _ _ ?_);clear hK K
  repeat apply aI (hM _)
  refine cV (hM _) ay ?_
  refine qb ?_
  simp only[go_sem]
  repeat apply aI (hM _)
  refine bE hM fun K hK=>?_
  refine ak.gJ (hM _) rfl cE rfl Gj ep (Mz aL ae) fun v F' ea R=>?_
  obtain ⟨rfl,rfl,rfl⟩:=R
  refine ak.nil hM (hK _ _ _ ?_);clear hK K
  refine zX k fun nd no=>?_
  have rI:∀off sp,N ⟨f,off,sp⟩=none:=fun off sp=>no f (by simp[keys]) off sp
  have hle:Le ⟨b7 N f (X.cy (⟨J,L,f,a.length,(fun i=>bl[i]?.getD false),base,T0,B0⟩:X) TT).fin,[]⟩ ⟨N,[(f,(X.cy (⟨J,L,f,a.length,(fun i=>bl[i]?.getD false),base,T0,B0⟩:X) TT).fin)]⟩:=kU (by simp[lk]) au trivial
  have Y:aH rB (b7 N f (X.cy (⟨J,L,f,a.length,(fun i=>bl[i]?.getD false),base,T0,B0⟩:X) TT).fin) (.slice (some ⟨f,0,none⟩) bl.length bl.length) bl:=aH.flat (fun b=>[.bool b]) bl (fun _=>rfl) rI (by
   show (((List.range a.length).map fun i=>Value.bool (bl[i]?.getD false)).toArray).toList=_
   rw[<-ca]
   apply List.ext_getElem?
   intro j
   rw[MO bl]
   simp only[List.getElem?_map]
   rcases Nat.lt_or_ge j bl.length with y|y
   .simp[y]
   .simp[y]) aa
  obtain ⟨C,a9⟩:∃C,C=b7 N f (X.cy (⟨J,L,f,a.length,(fun i=>bl[i]?.getD false),base,T0,B0⟩:X) TT).fin:=⟨_,rfl⟩
  have ao:Ext N C:=by rw[a9];exact gO _ _ _
  have hI:Ext ro C:=H.trans (B.trans (c.trans ao))
  rw[<-a9] at hle Y
  refine EC k hle ?_
  replace g:=g.mono ao
  have a5:C ⟨S,0,none⟩=some (.slice (some ⟨f,0,none⟩) bl.length bl.length):=by rw[ca];exact ao _ _ (c _ _ a5)
  clear hle nd no a9 rI dk dp dq ds dt du dv dC dE dT hM hJ aL ae hf o p q s I b2 cb c1 hlen hq hi ao H B c hg hh hj hk hl hn ho hp fs ft fw fx fz fP fU gg a2 gn gp g0 g1
  obtain ⟨_,_,w⟩:=g.op
  obtain ⟨_,_,P⟩:=Y.op
  have hJ:=k
  clear k
  refine c9.of hJ ?_
  repeat apply ah hJ
  apply aS hJ
  apply bY _
  repeat apply ah hJ
  apply aS hJ
  apply bY _
  repeat apply ah hJ
  apply aX hJ
  have e:=gy h;clear h;obtain ⟨hL,D,hN⟩:=e;have h:=True.intro
  refine cc hJ [13,14,15,34,35,36,37,38,39,40,41,42,43,44,45,46,47] (fun m e0 F'=>∃(i23:Nat) (d17:Option Addr) (G:Nat) (ar:List (Nat×Obj)) (E:(List (List Int))),m=a.length - i23/\i23<=a.length/\bR (zZ bl) i23 (a.drop i23) E=some hL/\F'=⟨C,ar⟩/\bg (rL rI) C 35 (.slice d17 E.length G) E ar/\E.length<=G/\slot e0 34= .int .i64 (i23:Int)/\slot e0 13= .slice d17 E.length G) a.length ?_ ?_
  .refine ⟨0,none,0,[],([]:List (List Int)),(Nat.sub_zero _).symm,Nat.zero_le _,D,rfl,bg.nil _ _ _,Nat.le_refl _,?_⟩
   simp only[*,go_sem,-h]
  .rintro iv O F' M ⟨i23,d17,G,ar,E,rfl,ix,D,rfl,ba,hP,jC,j1⟩
   have h:=True.intro
   have j2:sz O=49:=by rw[M.size];simp only[*,go_sem,-h]
   have kh:O.defers=[]:=by rw[M.defers];simp only[*,go_sem,-h]
   have kj:slot O 6= .slice none 0 0:=by rw[M.eK 6 aB];simp only[*,go_sem,-h]
   have kk:slot O 8= .pointer (some ⟨S,0,none⟩):=by rw[M.eK 8 aB];simp only[*,go_sem,-h]
   have kl:slot O 32= .slice d38 a.length bS:=by rw[M.eK 32 aB];simp only[*,go_sem,-h]
   have km:slot O 33= .int .i64 (a.length:Int):=by rw[M.eK 33 aB];simp only[*,go_sem,-h]
   clear M Q hd
   repeat apply ah hJ
   apply aS hJ
   apply bY _
   repeat apply ah hJ
   rcases Nat.lt_or_ge i23 a.length with hQ|e1
   .refine eC hJ dI ?_
    apply aP hJ
    obtain ⟨a0,bb⟩:∃x,a[i23]?=some x:=⟨_,List.getElem?_eq_getElem hQ⟩
    rw[dK bb] at D
    have e:=gy D;clear D h;obtain ⟨kn,h,e3⟩:=e
    unfold zZ at h
    try dsimp only at h
    obtain ⟨kp,ks,hR,hS,fa⟩:=w _ _ bb
    obtain ⟨ht,rfl,V⟩:=hS;obtain ⟨d32,W,rfl,hv,hx,kt⟩:=id V
    cases hR
    have hT:=fa 0 _ rfl;simp only[go_sem] at hT
    clear fa bb
    repeat apply ah hJ
    apply aX hJ
    repeat apply ah hJ
    refine aG hJ fun kv=>?_
    apply aS hJ
    apply bY _
    repeat apply ah hJ
    refine aG hJ fun kx=>?_
    apply aS hJ
    have e:=gy h;clear h;obtain ⟨hV,hX,h⟩:=e
    obtain ⟨ky,k0,fb⟩:=cP hX
    obtain ⟨hr,ec,a7,a8,U⟩:=P _ _ fb
    obtain rfl:ec=[.bool hV]:=a8
    cases a7
    have hY:=U 0 _ rfl;simp only[go_sem] at hY
    clear U fb
    try apply bY _
    have e:=jE h;clear h;rcases e with ⟨bc,h⟩|⟨bc,h⟩
    .try simp only[Int.ofNat_lt] at bc
     refine eC hJ dI ?_
     refine aG hJ fun hZ=>?_
     apply aS hJ
     have e:=gy h;clear h;obtain ⟨h0,h1,h⟩:=e
     obtain ⟨h2,ff⟩:=dQ h1
     apply bY _
     intro fg f45;have h3:=e8 f45;have fi:=gr f45
     have h4:=aZ.cons fi hZ
     try simp only[av] at fi
     try apply bY _
     refine BC (r:=(rL rI)) (l:=E) (x:=a0) (cs:=#[.slice d32 a0.length W]) (e2:=35) [(fg,.cells #[.slice d32 a0.length W] 35)] [] (by first|rfl|simp only[bw]|(simp only[bw];rfl)) ba h4 h2 ⟨_,rfl,V⟩ dI h3 rfl rfl l9 l9 tg tj rfl th aB aB (fun k2 fl bd h5 h6 lb=>?_)
     simp only[bw] at h6
     subst h5
     rw[<-ff] at bd;clear ff
     obtain ⟨d53,h7,rfl,h8⟩:=bd.len
     refine ⟨⟨C,(fg,.cells #[.slice d32 a0.length W] 35)::fl⟩,Le.refl _,?_⟩
     apply aO
     try apply bY _
     have e:=Option.some.inj h;clear h;subst e
     have h:=True.intro
     have ed:=cK (n:=i23) (by have:=b0;omega)
     apply aS hJ
     apply bY _
     refine ⟨a.length - (i23+1),aa,_,Le.sub (List.Sublist.cons _ (List.Sublist.refl _)),i23+1,d53,h7,fl,h0,rfl,aa,e3,rfl,bd,h8,?_⟩
     simp only[*,go_sem,-h]
    .try simp only[Int.ofNat_lt] at bc
     refine eu hJ dI ?_
     apply aP hJ
     have e:=Option.some.inj h;clear h;subst e
     have h:=True.intro
     have ed:=cK (n:=i23) (by have:=b0;omega)
     apply aS hJ
     apply bY _
     refine ⟨a.length - (i23+1),aa,_,Le.sub (List.Sublist.refl _),i23+1,d17,G,ar,E,rfl,aa,e3,rfl,ba,hP,?_⟩
     simp only[*,go_sem,-h]
   .have lh:=Nat.not_lt.2 e1
    refine eu hJ dI ?_
    rw[List.drop_eq_nil_of_le e1] at D
    have e:=Option.some.inj D;clear D h;subst e
    have h:=hN
    dsimp only[aJ] at h
    apply b6
    simp only[go_sem]
    repeat apply ah hJ
    refine aG hJ fun lj=>?_
    apply aS hJ
    apply bY _
    have e:=Option.some.inj h;clear h;subst e
    refine aG hJ fun fp=>?_
    obtain ⟨fq,bj,ll,fr,h9⟩:=ba.mc (([]:List (Nat×Obj))) [] [] (by first|rfl|simp only[bw]|(simp only[bw];rfl)) (by first|rfl|simp only[bw]|(simp only[bw];rfl)) fp (aK.nil _)
    clear fp
    refine cO (F:=⟨fq,([]:List (Nat×Obj))⟩) hJ h9 ?_
    obtain ⟨ln,lo,lr⟩:=fr.op
    replace g:=g.mono bj;clear w;obtain ⟨_,_,w⟩:=g.op
    replace Y:=Y.mono bj;clear P;obtain ⟨_,_,P⟩:=Y.op
    apply aQ
    exact (mO (t:=6) rfl aN aN ⟨rfl,fq,hI.trans bj,Le.refl _,_,rfl,fr⟩).2
end Go.Proofs.YtbpddfapodiemaaGreatDoor
end
section
namespace Go.Proofs.YtbpddfapodiemaaGreatDoor
open Go Go.Sep Go.Proofs
set_option maxRecDepth 100000
set_option maxHeartbeats 4000000
def z0 (u0:an)(b:Int):Option ((List Int)×Int):=
 ai (ij u0 ([(iM b),o8])) fun a=>cond ((a.2 != 0)) (some (([]:(List Int)),a.2)) (ai (uy a.1.book ([([]:(List Int))])) fun c=>ai (vL a.1 b c) fun d=>ai (yo d) fun e=>some (e,0))
theorem MR {ro:Addr->Option Value}(L:dH ro)(u0:an){s1 g i j:Value}(D:bW ro u0 s1 g i j)(a:Int){r:((List Int)×Int)}(h:z0 u0 a=some r):qP Tryz.prog 10 #[bv u0 s1 g i j,.int .i64 a] ro (fun v aW=>∃W,v= .tuple #[W,.int .i64 r.2]/\aH rI aW W r.1):=by
 unfold z0 at h;have ba:=D.oc;simp only[bP] at ba;refine gv.go Tryz.func10 rfl Tryz.ntmps10 Tryz.results10 au fun Φ hJ A b5 hd hs=>?_;have ca:=hs 0;have k1:=hs 1;clear hs;apply az hJ _;refine aA fun w c bb=>?_;try simp only[av] at bb
 apply ah hJ;refine aG hJ fun bc=>?_;apply aS hJ;revert h;refine bS fun n bd h=>?_;apply ag _;refine aA fun z X Y=>?_;have Z:=aZ.cons Y bc;try simp only[av] at Y
 obtain ⟨B,M,ab⟩:=fM (b:=z) (o:=(.cells #[.func (.func 68) #[.int .i64 a] #[],.func (.func 69) #[] #[]] 116)) [] ((w,bk u0 s1 g i j)::[]) Z X (aK.cons c (aK.nil _));have ad:aH (dw) (b7 ro z (.cells #[.func (.func 68) #[.int .i64 a] #[],.func (.func 69) #[] #[]] 116)) (.slice (some ⟨z,0,none⟩) 2 2) [(iM a),o8]:=(aH.two (r:=(dw)) (e:=116) (v:=.func (.func 68) #[.int .i64 a] #[]) (u:=.func (.func 69) #[] #[]) (x:=(iM a)) (y:=o8) (own:=[(z,.cells #[.func (.func 68) #[.int .i64 a] #[],.func (.func 69) #[] #[]] 116)]) X (by simp[lk]) rfl ⟨68,#[.int .i64 a],#[],rfl,⟨by simp only[go_sem],fun bj bl N _ _ _ _ _ O P Q R h=>by simp only[go_sem];exact xj a N ⟨O,P,Q,R⟩ h⟩⟩ ⟨69,#[],#[],rfl,⟨by simp only[go_sem],fun bj bl N _ _ _ _ _ O P Q R h=>by simp only[go_sem];exact Iw N ⟨O,P,Q,R⟩ h⟩⟩)
 generalize b7 ro z (.cells #[.func (.func 68) #[.int .i64 a] #[],.func (.func 69) #[] #[]] 116)=cb at ad M B ab;refine hU hJ ab ?_;replace D:=D.mono B;replace c:=M.hd;replace L:=L.mono B;simp only[bF] at M;have bm:=aZ.tl Z;refine cw hJ _ (kz L u0 D ([(iM a),o8]) ad bd) fun v ae al ao k=>?_;obtain ⟨E,F,G,H,I,rfl,d,q⟩:=k;have bo:=d.oc;simp only[bP] at bo;have br:=q.oc;simp only[bP] at br;replace c:=ao.hd;simp only[bF] at ao;apply aO;apply ag _;refine aA fun J f ar=>?_;have cd:=aZ.cons ar bm;try simp only[av] at ar
 refine ah hJ (aC hJ ?_);apply ag _;revert h;refine bh hJ (fun bs h=>?_) fun bs h=>?_
 .cases h;apply az hJ _;refine cg ?_;exact ⟨_,(B).trans al,Le.sub (List.nil_sublist _),_,rfl,aH.nil _ _⟩
 refine aP hJ (ah hJ ?_);refine aG hJ fun bz=>?_;refine dh hJ mixed 4 2 aN aj ?_;revert h;refine bS fun b0 b1 h=>?_;apply ag _;refine aA fun C a0 a2=>?_;have a3:=aZ.cons a2 bz;try simp only[av] at a2
 apply ag _;obtain ⟨m,K,a4⟩:=fM (b:=C) (o:=(.cells #[.slice none 0 0] 35)) [] ((J,kn n.1 E F G H I)::(w,bk u0 s1 g i j)::[]) a3 a0 (aK.cons f (aK.cons c (aK.nil _)));have a5:aH (rL rI) (b7 ae C (.cells #[.slice none 0 0] 35)) (.slice (some ⟨C,0,none⟩) 1 1) [([]:(List Int))]:=(aH.one (r:=(rL rI)) (e:=35) (cs:=#[.slice none 0 0]) (x:=([]:(List Int))) (own:=[(C,.cells #[.slice none 0 0] 35)]) a0 (by simp[lk]) ⟨_,rfl,aH.nil _ _⟩)
 generalize b7 ae C (.cells #[.slice none 0 0] 35)=cf at a5 K m a4;refine hU hJ a4 ?_;replace d:=d.mono m;replace q:=q.mono m;replace f:=K.hd;replace c:=K.tl.hd;simp only[bF] at K;have cl:=aZ.tl a3;refine cw hJ _ (B9 n.1.book d ([([]:(List Int))]) a5 b1) fun v cy s S k=>?_;obtain ⟨cS,rfl,a6⟩:=k;replace d:=d.mono s;replace q:=q.mono s;replace f:=S.hd;replace c:=S.tl.hd;simp only[bF] at S;obtain ⟨d92,c0,rfl,da,db,-⟩:=id a6;have dd:=fG (l:=[(J,kn n.1 E F G H I),(w,bk u0 s1 g i j)]) (m.trans s) (aK.cons f (aK.cons c (aK.nil _)));refine ⟨aN,?_⟩;refine l6 ?_;revert h;refine bS fun b2 b3 h=>?_;apply ag _;refine tK _ (EF n.1 d.e d.p d.y d.t q a b0 a6 b3) fun v df T U k=>?_;obtain ⟨dk,rfl,a7⟩:=k;replace f:=U.hd;replace c:=U.tl.hd;simp only[bF] at U;obtain ⟨d111,dp,rfl,dq,ds,-⟩:=id a7;have dt:=fG (l:=[(J,kn n.1 E F G H I),(w,bk u0 s1 g i j)]) ((m.trans s).trans T) (aK.cons f (aK.cons c (aK.nil _)));refine ⟨aN,?_⟩;refine l6 ?_;revert h;refine bS fun du b4 h=>?_;cases h;apply ag _;refine cw hJ _ (Iy b2 a7 b4) fun v dv a8 V k=>?_;obtain ⟨dC,rfl,a9⟩:=k;replace f:=V.hd;replace c:=V.tl.hd;simp only[bF] at V;obtain ⟨d124,dE,rfl,dT,ea,-⟩:=id a9;have eb:=fG (l:=[(J,kn n.1 E F G H I),(w,bk u0 s1 g i j)]) (((m.trans s).trans T).trans a8) (aK.cons f (aK.cons c (aK.nil _)));refine ⟨aN,?_⟩;refine l6 ?_;apply ag _;refine cg ?_;exact ⟨_,(((((B).trans al).trans m).trans s).trans T).trans a8,Le.sub (List.nil_sublist _),_,rfl,a9⟩
def z1 (u0:an)(c:Int)(a:(di×Int))(st:(Bool×Int×(List (List Int))×Int)):Option (Fl (Bool×Int×(List (List Int))×Int) ((List Int)×Bool×Int)):=
 cond (decide (st.2.2.2<(IntKind.i64.wrap ((IntKind.i64.wrap (3 - (u0.props.length:Int)))+1)))) (ai (vL a.1 c st.2.2.1) fun b=>cond (decide (0<(b.length:Int))) (ai (bD b 0) fun d=>some (.rt (d,true,0))) (ai (uy a.1.book st.2.2.1) fun e=>some (.nx (st.1,st.2.1,e,(IntKind.i64.wrap (st.2.2.2+1)))))) (some (.bk (st.1,st.2.1,st.2.2.1,st.2.2.2)))
def z2 (u0:an)(b:Int):Option ((List Int)×Bool×Int):=
 ai (ij u0 ([(iM b)])) fun a=>cond ((a.2 != 0)) (some (([]:(List Int)),false,a.2)) (ai (bp (z1 u0 b a) fu (false,a.2,([([]:(List Int))]),0)) fun o=>aJ o (fun c=>some (([]:(List Int)),false,0)) (fun _ _=>none) (fun r=>some r))
theorem MS {ro:Addr->Option Value}(K:dH ro)(u0:an){s1 S k l:Value}(n:bW ro u0 s1 S k l)(a:Int){r:((List Int)×Bool×Int)}(h:z2 u0 a=some r):qP Tryz.prog 13 #[bv u0 s1 S k l,.int .i64 a] ro (fun v aW=>∃T,v= .tuple #[T,.bool r.2.1,.int .i64 r.2.2]/\aH rI aW T r.1):=by
 obtain ⟨d10,L,rfl,ed,eh,-⟩:=id n.p;unfold z2 at h;have bm:=n.oc;simp only[bP] at bm;refine gv.go Tryz.func13 rfl Tryz.ntmps13 Tryz.results13 au fun Φ hJ A bo hd hs=>?_;have br:=hs 0;have k1:=hs 1;clear hs;apply az hJ _;refine aA fun M C bs=>?_;try simp only[av] at bs
 apply ah hJ;refine aG hJ fun bz=>?_;apply aS hJ;revert h;refine bS fun f b0 h=>?_;apply ag _;refine aA fun q U V=>?_;have W:=aZ.cons V bz;try simp only[av] at V
 obtain ⟨g,N,X⟩:=fM (b:=q) (o:=(.cells #[.func (.func 68) #[.int .i64 a] #[]] 116)) [] ((M,bk u0 s1 (sl d10 u0.props L) k l)::[]) W U (aK.cons C (aK.nil _));have Y:aH (dw) (b7 ro q (.cells #[.func (.func 68) #[.int .i64 a] #[]] 116)) (.slice (some ⟨q,0,none⟩) 1 1) [(iM a)]:=(aH.one (r:=(dw)) (e:=116) (cs:=#[.func (.func 68) #[.int .i64 a] #[]]) (x:=(iM a)) (own:=[(q,.cells #[.func (.func 68) #[.int .i64 a] #[]] 116)]) U (by simp[lk]) ⟨68,#[.int .i64 a],#[],rfl,⟨by simp only[go_sem],fun et ev b1 _ _ _ _ _ b2 b3 b4 b5 h=>by simp only[go_sem];exact xj a b1 ⟨b2,b3,b4,b5⟩ h⟩⟩)
 generalize b7 ro q (.cells #[.func (.func 68) #[.int .i64 a] #[]] 116)=eQ at Y N g X;refine hU hJ X ?_;replace n:=n.mono g;replace C:=N.hd;replace K:=K.mono g;simp only[bF] at N;have ca:=aZ.tl W;refine cw hJ _ (kz K u0 n ([(iM a)]) Y b0) fun v Z O ab s=>?_;obtain ⟨ad,ae,al,ao,ar,rfl,c,i⟩:=s;have cb:=c.oc;simp only[bP] at cb;have cd:=i.oc;simp only[bP] at cd;replace C:=ab.hd;simp only[bF] at ab;apply aO;apply ag _;refine aA fun a0 cf a2=>?_;have eS:=aZ.cons a2 ca;try simp only[av] at a2
 refine ah hJ (aC hJ ?_);apply ag _;revert h;refine bh hJ (fun cl h=>?_) fun cl h=>?_
 .cases h;apply az hJ _;refine cg ?_;exact ⟨_,(g).trans O,Le.sub (List.nil_sublist _),_,rfl,aH.nil _ _⟩
 refine aP hJ (ah hJ ?_);refine aG hJ fun cy=>?_;apply aM hJ _;refine aA fun j a3 a4=>?_;have e0:=aZ.cons a4 cy;try simp only[av] at a4
 refine ah hJ (aC hJ ?_);apply ag _;refine aG hJ fun a5=>?_;obtain ⟨u,a6,a7⟩:=fM (b:=j) (o:=(.cells #[.slice none 0 0] 35)) [] ((a0,kn f.1 ad ae al ao ar)::(M,bk u0 s1 (sl d10 u0.props L) k l)::[]) a5 a3 (aK.cons cf (aK.cons C (aK.nil _)));clear a5;have P:aH (rL rI) (b7 Z j (.cells #[.slice none 0 0] 35)) (.slice (some ⟨j,0,none⟩) 1 1) [([]:(List Int))]:=(aH.one (r:=(rL rI)) (e:=35) (cs:=#[.slice none 0 0]) (x:=([]:(List Int))) (own:=[(j,.cells #[.slice none 0 0] 35)]) a3 (by simp[lk]) ⟨_,rfl,aH.nil _ _⟩)
 generalize b7 Z j (.cells #[.slice none 0 0] 35)=a8 at u a6 a7 P;refine cO hJ a7 ?_;obtain ⟨e1,e2,-⟩:=P.op;replace c:=c.mono u;replace i:=i.mono u;simp only[bF] at a6;apply aX hJ;revert h;refine bS fun cS D a9=>?_;refine cc hJ (rg 27 17 [4,5,6,8,9]) (fun m E F'=>∃(F:Addr->Option Value) (d98:Option Addr) (Q:Nat) (G:Bool) (H:Int) (d:(List (List Int))) (I:Int),bp (z1 u0 a f) m (G,H,d,I)=some cS/\F'=⟨F,(a0,kn f.1 ad ae al ao ar)::(M,bk u0 s1 (sl d10 u0.props L) k l)::[]⟩/\Ext a8 F/\aH (rL rI) F (.slice d98 d.length Q) d/\slot E 5= .bool G/\slot E 6= .int .i64 H/\slot E 8= .slice d98 d.length Q/\slot E 27= .int .i64 I) fu ?_ ?_
 .refine ⟨a8,(some ⟨j,0,none⟩),1,false,f.2,([([]:(List Int))]),0,D,rfl,Ext.refl _,P,?_⟩;simp only[*,go_sem]
 rintro R e3 F' ba ⟨F,d98,Q,G,H,d,I,D,rfl,w,z,fa,fb,ff,fg⟩;refine fX hJ fun _ c0=>?_;replace c:=c.mono w;replace i:=i.mono w;simp only[bF] at c0;obtain ⟨fi,fl,-⟩:=z.op;obtain ⟨da,db,dd⟩:=ba.pick [1,7,26] aB;simp only[*,go_sem] at da db dd;clear ba bo hd br k1;obtain _|R:=R
 .exact absurd D (by simp only[bp,reduceCtorEq,not_false_eq_true])
 revert D;refine bS fun fp h B=>?_;unfold z1 at h;try dsimp only at h
 apply az hJ _;apply ah hJ;revert h;refine bh hJ (fun df h=>?_) fun df h=>?_
 .refine aP hJ (ah hJ ?_);refine aX hJ (ah hJ ?_);apply aC hJ;revert h;refine bS fun fq dk h=>?_;apply ag _;refine tK _ (EF f.1 c.e c.p c.y c.t i a d z dk) fun v fr J dp s=>?_;obtain ⟨fs,rfl,bb⟩:=s;replace z:=z.mono J;replace c:=c.mono J;simp only[bF] at dp;obtain ⟨d121,ft,rfl,fv,fw,-⟩:=id bb;apply aO;apply ag _;apply az hJ _;revert h;refine bh hJ (fun dq h=>?_) fun dq h=>?_
  .apply aC hJ;revert h;refine bS fun fx ds h=>?_;cases h;obtain ⟨fz,fP,bc⟩:=cP ds;obtain ⟨fQ,fS,dt,du,bd⟩:=bb.el _ _ bc;obtain ⟨fU,rfl,bj⟩:=du;obtain ⟨d130,gg,rfl,gl,gn,gp⟩:=id bj;cases dt;have dv:=bd 0 _ rfl;simp only[go_sem] at dv;clear bd bc;apply ag _;obtain rfl:=sI B;clear B;have h:=a9;dsimp only[aJ] at h;cases h;refine cg ?_;exact ⟨_,((((g).trans O).trans u).trans w).trans J,Le.sub (List.nil_sublist _),_,rfl,bj⟩
  refine aP hJ (aS hJ ?_);revert h;refine bS fun dC dE h=>?_;cases h;apply ag _;refine cw hJ _ (B9 f.1.book c d z dE) fun v dT ea eb s=>?_;obtain ⟨gB,rfl,bl⟩:=s;simp only[bF] at eb;obtain ⟨d144,ec,rfl,gC,gM,-⟩:=id bl;apply aO;apply ag _;apply aM hJ _;refine ⟨R,Nat.lt_succ_self _,_,Le.sub (List.Sublist.refl _),dT,d144,ec,G,H,dC,(IntKind.i64.wrap (I+1)),B,rfl,(w.trans (J.trans ea)),bl,?_⟩;simp only[*,go_sem]
 cases h;apply b6;simp only[go_sem];obtain rfl:=sI B;clear B;have h:=a9;dsimp only[aJ] at h;cases h;apply az hJ _;refine cg ?_;exact ⟨_,(((g).trans O).trans u).trans w,Le.sub (List.nil_sublist _),_,rfl,aH.nil _ _⟩
def z3 (a:(Int×Int×Int))(e:(an×Int))(b:((List Int)×Int))(f:(an×Int))(g:(an×Int))(c:(Int×Int))(d:((List Int)×Int)):Option Bool:=
 cond ((a.2.2==0)) (cond ((e.2==0)) (cond ((b.2==0)) (cond ((f.2==9)) (cond ((g.2==0)) (cond ((c.2==0)) (cond ((d.2==0)) (cond ((a.1==0)) (cond ((a.2.1==2)) (ai (nF b.1 ([11,12])) fun h=>cond (h) (cond ((c.1==2)) (ai (nF d.1 ([1])) fun i=>some i) (some false)) (some false)) (some false)) (some false)) (some false)) (some false)) (some false)) (some false)) (some false)) (some false)) (some false)
def z4 (a:an):Option Bool:=
 ai (yj a) fun d=>ai (n4 0 true) fun e=>ai (uG a e) fun b=>ai (nL b.1 0) fun f=>ai (n4 1 true) fun g=>ai (uG a g) fun h=>ai (rG 12 12) fun i=>ai (yl a 0 i) fun c=>ai (lu c.1) fun j=>ai (n4 0 true) fun k=>ai (rH a k) fun l=>ai (n4 1 true) fun m=>ai (rH l m) fun n=>ai (n4 0 false) fun o=>ai (rH n o) fun p=>ai (kC p) fun q=>z3 d b f h c j q
def z5 (d:an)(f:(Int×Int))(g:(Int×Int))(h:(Int×Int))(i:(Int×Int))(b:(Int×ax×Int))(c:(Int×ax×Int))(a:(ax×ax×Bool×Int)):Option Bool:=
 ai (z0 d 2) fun j=>ai (z2 d 2) fun e=>cond ((f.2 != 0)) (some false) (cond ((g.2 != 0)) (some false) (cond ((h.2 != 0)) (some false) (cond ((i.2 != 0)) (some false) (cond ((b.2.2 != 0)) (some false) (cond ((c.2.2 != 0)) (some false) (cond ((a.2.2.2 != 0)) (some false) (cond ((j.2 != 0)) (some false) (cond ((e.2.2 != 0)) (some false) (cond ((f.1 != 0)) (some false) (cond ((g.1 != 2)) (some false) (cond ((h.1 != 0)) (some false) (cond ((i.1 != 1)) (some false) (cond ((b.1 != 0)) (some false) (ai (gX 1 1) fun k=>cond (!((b.2.1.num==k.num)&&(b.2.1.den==k.den))) (some false) (cond ((c.1 != (-1))) (some false) (ai (gX 0 1) fun l=>cond (!((c.2.1.num==l.num)&&(c.2.1.den==l.den))) (some false) (cond (!a.2.2.1) (some false) (ai (gX 3 2) fun m=>cond (!((a.1.num==m.num)&&(a.1.den==m.den))) (some false) (ai (gX 3 2) fun n=>cond (!((a.2.1.num==n.num)&&(a.2.1.den==n.den))) (some false) (ai (nF j.1 ([11,12,13,14])) fun o=>cond (!o) (some false) (cond (!e.2.1) (some false) (ai (nF e.1 ([11])) fun p=>cond (!p) (some false) (z4 d)))))))))))))))))))))))
def z6 (a:an)(b:an):Option Bool:=
 ai (mB a 0) fun c=>ai (mB a 1) fun d=>ai (lu a) fun e=>ai (lu b) fun f=>ai (lz a) fun g=>ai (lz b) fun h=>ai (yw a) fun i=>z5 a c d e f g h i
def z7 (b:an)(s:an)(g:(ax×Int))(c:(Int×ax×Int))(h:(ax×Int))(d:(ax×Bool×Int))(e:(ax×Bool×Int))(f:(ax×Bool×Int)):Option Bool:=
 ai (yy b) fun i=>ai (nL b 0) fun j=>ai (nN b 0) fun a=>cond ((g.2 != 0)) (some false) (cond ((c.2.2 != 0)) (some false) (cond ((h.2 != 0)) (some false) (cond ((d.2.2 != 0)) (some false) (cond ((e.2.2 != 0)) (some false) (cond ((f.2.2 != 0)) (some false) (cond ((i.2 != 0)) (some false) (cond ((j.2 != 0)) (some false) (cond ((a.2.2 != 0)) (some false) (ai (gX 13 4) fun k=>cond (!((g.1.num==k.num)&&(g.1.den==k.den))) (some false) (cond ((c.1 != 2)) (some false) (ai (gX 11 8) fun l=>cond (!((c.2.1.num==l.num)&&(c.2.1.den==l.den))) (some false) (ai (gX 1 4) fun m=>cond (!((h.1.num==m.num)&&(h.1.den==m.den))) (some false) (ai (gX 24 13) fun n=>cond (!((d.1.num==n.num)&&(d.1.den==n.den))) (some false) (cond (!d.2.1) (some false) (ai (gX 2 13) fun o=>cond (!((e.1.num==o.num)&&(e.1.den==o.den))) (some false) (cond (e.2.1) (some false) (ai (gX 1 1) fun p=>cond (!((f.1.num==p.num)&&(f.1.den==p.den))) (some false) (cond (!f.2.1) (some false) (cond ((i.1 != 3)) (some false) (ai (nF j.1 ([10,11,12])) fun t=>cond (!t) (some false) (ai (gX 1 4) fun q=>cond (!((a.1.num==q.num)&&(a.1.den==q.den))) (some false) (ai (gX 1 1) fun r=>cond (!((a.2.1.num==r.num)&&(a.2.1.den==r.den))) (some false) (z6 b s)))))))))))))))))))))))
def qj :Option Bool:=
 ai (yD) fun a=>ai (yB a ([11]) 2) fun b=>ai (xA a 5) fun c=>ai (jM 2 11) fun d=>ai (xB a d) fun e=>ai (jM 2 10) fun f=>ai (o3 a f) fun g=>ai (jM 2 12) fun h=>ai (xC b h) fun i=>ai (jM 2 12) fun j=>ai (nG b j) fun k=>ai (jM 2 12) fun l=>ai (nG a l) fun m=>z7 a b c e g i k m
theorem z8:qj=some true:=by decide+kernel
end Go.Proofs.YtbpddfapodiemaaGreatDoor
end

/- A part of the proof: QT10. -/
import Derived.Test.YtbpddfapodiemaaGreatDoorQT9
import Derived.Conc.AtomicLaws2
import Derived.Conc.WgArith
set_option linter.all false
section
namespace Go.Sep
open Go Go.Conc
open Go.ConcN (sumTo upd upd_ne upd_same)
open Go.ConcM (MuAt muA msA muBlock OsLater)
open Go.ConcR (WgAt wgBlock stA smA)
section
variable {c:Cy}{i:Nat}{ph:Ph}{ops:Array Oper}{j n:Nat}{Q:Act->af->Ph->Prop}{a:Act}{F:af}{f fi:FuncId}{d:Option Tmp}
theorem ei {s:Sh}:s.ms<=s.ms/\s.ws<=s.ws:=⟨Int.le_refl _,Int.le_refl _⟩
theorem zx (g:Entry c.P f (fun _=>do mark .disable;pure Extern.Race.none_)){vals:List Value}(l:At ops j a f vals d)(m:ph.gp≠ .gone)(p:ph.gp≠ .new)
  (h:ak (WJ c i) fi ops (j+1) n Q (bB a d (.tuple #[])) F {ph with deaf:=ph.deaf+1}):ak (WJ c i) fi ops j (n+1) Q a F ph:=by
 obtain ⟨o,cT,dN,e,hg,q,_,rfl⟩:=l
 refine gm e m fun w s k φ p0 _ hs hi he r=>.inr ⟨.tuple #[],w,_,s,_,fun b t cs hb=>?_,hs,.refl _ _,r.Eg hi he p _,K3,.inr ei,h⟩
 obtain ⟨fn,f1,f2,f3,f4,f5⟩:=g.ex
 exact stepG_mark0 .disable av e (cD hg) hb.kind q f1 f2 f3 f4 f5
theorem vr (l:Entry c.P f (fun _=>do mark .enable;pure Extern.Race.none_)){vals:List Value}(m:At ops j a f vals d)(p:ph.gp≠ .gone)(q:ph.gp≠ .new){e:Nat}(hd:ph.deaf=e+1)
  (h:ak (WJ c i) fi ops (j+1) n Q (bB a d (.tuple #[])) F {ph with deaf:=e}):ak (WJ c i) fi ops j (n+1) Q a F ph:=by
 obtain ⟨o,cT,dN,g,hg,r,_,rfl⟩:=m
 refine gm g p fun w s k φ p0 _ hs hi he t=>.inr ⟨.tuple #[],w,_,s,_,fun b u cs hb=>?_,hs,.refl _ _,t.Eg hi he q _,K4 hd,.inr ei,h⟩
 obtain ⟨fn,f1,f2,f3,f4,f5⟩:=l.ex
 exact stepG_mark0 .enable av g (cD hg) hb.kind r f1 f2 f3 f4 f5
theorem qm {k:Nat}{φ:Nat->Ph}{p0:P0}{s:Sh}(he:φ i=ph)(a:Inv c.n c.bs k φ p0 s):Inv c.n c.bs k (upd φ i ph) p0 s:=by rw[<-he,zo];exact a
theorem Eh (l:Entry c.P f (Extern.Race.marked .acquire))(m:At ops j a f [.pointer (some (muA c.Mu))] d)(e:ph.gp= .cnt)
  (h:ak (WJ c i) fi ops (j+1) n Q (bB a d (.tuple #[])) F ph):ak (WJ c i) fi ops j (n+1) Q a F ph:=by
 obtain ⟨o,cT,dN,g,hg,p,q,rfl⟩:=m
 obtain ⟨x,rfl,r⟩:=kR q
 refine gm g (by rw[e];simp) fun w s k φ p0 _ hs hi he t=>.inr ⟨.tuple #[],w,_,s,ph,fun b u cs hb=>?_,hs,.refl _ _,qm he t,.word (.acquire (muA c.Mu)) rfl (.inl rfl) rfl ⟨e,e⟩,.inr ei,h⟩
 obtain ⟨fn,f1,f2,f3,f4,f5⟩:=l.ex
 exact stepG_markAt .acquire av g (cD hg) hb.kind p f1 f2 f3 f4 f5 (by simp[e7,r])
theorem K5 (l:Entry c.P f (Extern.Race.marked .releaseMerge))(m:At ops j a f [.pointer (some (muA c.Mu))] d)(e:ph.gp= .cnt)
  (h:ak (WJ c i) fi ops (j+1) n Q (bB a d (.tuple #[])) F ph):ak (WJ c i) fi ops j (n+1) Q a F ph:=by
 obtain ⟨o,cT,dN,g,hg,p,q,rfl⟩:=m
 obtain ⟨x,rfl,r⟩:=kR q
 refine gm g (by rw[e];simp) fun w s k φ p0 _ hs hi he t=>.inr ⟨.tuple #[],w,_,s,ph,fun b u cs hb=>?_,hs,.refl _ _,qm he t,.word (.releaseMerge (muA c.Mu)) rfl (.inr rfl) rfl ⟨e,e⟩,.inr ei,h⟩
 obtain ⟨fn,f1,f2,f3,f4,f5⟩:=l.ex
 exact stepG_markAt .releaseMerge av g (cD hg) hb.kind p f1 f2 f3 f4 f5 (by simp[e7,r])
theorem K6 (q:Entry c.P f (Extern.Race.marked .releaseMerge))(r:At ops j a f [.pointer (some (stA c.Wg))] d)(g:ph.gp= .cnt)
  (hd:ph.deaf=0) (t:ph.mp= .idle\/ph.mp= .fin) (u:ph.stored=c.bs i)
  (h:ak (WJ c i) fi ops (j+1) n Q (bB a d (.tuple #[])) F {mp:=.fin,gp:=.rel,stored:=ph.stored,deaf:=0}):ak (WJ c i) fi ops j (n+1) Q a F ph:=by
 obtain ⟨o,cT,dN,p,hg,v,y,rfl⟩:=r
 obtain ⟨x,rfl,z⟩:=kR y
 refine gm p (by rw[g];simp) fun w s k φ p0 _ hs hi he l=>.inr ⟨.tuple #[],w,_,s,{mp:=.fin,gp:=.rel,stored:=ph.stored,deaf:=0},fun b A cs hb=>?_,hs,.refl _ _,?_,.rel rfl ⟨hd,rfl⟩ g,.inr ei,h⟩
 .obtain ⟨fn,f1,f2,f3,f4,f5⟩:=q.ex
  exact stepG_markAt .releaseMerge av p (cD hg) hb.kind v f1 f2 f3 f4 f5 (by simp[e7,z])
 .obtain ⟨C,S,W,L,m,hm⟩:=l.m
  refine l.kO hi he (by rw[g];simp) av ⟨C,S,W,L,m,oh hm hi _ ?_⟩ (vh l.w hi _ (.inr ⟨by rw[he];exact g,rfl⟩)) ?_ (fun _=>⟨u,rfl⟩)
  .rw[he];rcases t with e|e
   .exact .inr ⟨e,rfl⟩
   .exact .inl e.symm
  .have:=l.i.all i hi
   rw[he] at this
   exact (zw this).symm
theorem vt (old nw:Int)(H:Entry c.P f (Extern.Atomic.casT (.int .i32)))(aO:c.Mu≠c.Wg/\c.Mu≠c.Is/\c.Wg≠c.Is)(I:At ops j a f [.pointer (some (muA c.Mu)),.int .i32 old,.int .i32 nw] d)
  (e:ph.gp= .cnt) (A:0<ph.deaf)
  (J:∀φ ms C S W L m,φ i=ph->i<c.n->cK c.n φ old ms C S W L m->∃mp,(∃g h l p q,cK c.n (upd φ i {ph with mp:=mp}) nw ms g h l p q)/\ak (WJ c i) fi ops (j+1) n Q (bB a d (.bool true)) F {ph with mp:=mp})
  (K:∀φ mu ms C S W L m,φ i=ph->i<c.n->cK c.n φ mu ms C S W L m->mu≠old->∃mp,(∃g h l p q,cK c.n (upd φ i {ph with mp:=mp}) mu ms g h l p q)/\ak (WJ c i) fi ops (j+1) n Q (bB a d (.bool false)) F {ph with mp:=mp}):ak (WJ c i) fi ops j (n+1) Q a F ph:=by
 obtain ⟨o,cT,dN,r,hg,B,M,rfl⟩:=I
 obtain ⟨x,y,z,rfl,D,E,G⟩:=sG M
 obtain ⟨fn,f1,f2,f3,f4,f5⟩:=H.ex
 refine gm r (by rw[e];simp) fun w s k φ p0 _ hs hi he t=>.inr ?_
 obtain ⟨C,S,W,L,m,hm⟩:=t.m
 by_cases u:s.mu=old
 .subst u
  obtain ⟨mp,v,hk⟩:=J φ s.ms C S W L m he hi hm
  exact ⟨.bool true,_,_,{s with mu:=nw},{ph with mp:=mp},fun b N cs hb=>stepG_cas_hit r (cD hg) hb.kind B f1 f2 f3 f4 .i32 f5 D E G hs.mu.1 hs.mu.2,hs.Ed aO nw,.set _ (.inl rfl),t.mutex hi he e v,zu rfl Iff.rfl A (.inr ⟨rfl,e⟩),.inr ei,hk⟩
 .obtain ⟨mp,v,hk⟩:=K φ s.mu s.ms C S W L m he hi hm u
  exact ⟨.bool false,_,_,{s with mu:=s.mu},{ph with mp:=mp},fun b N cs hb=>stepG_cas_miss r (cD hg) hb.kind B f1 f2 f3 f4 .i32 f5 D E G hs.mu.1 hs.mu.2 u,hs,.refl _ _,t.mutex hi he e v,zq false rfl Iff.rfl A (.inr ⟨rfl,e⟩),.inr ei,hk⟩
theorem zy (dl:Int)(q:Entry c.P f (Extern.Atomic.update (Op.intArith .add) .i32 true))(aO:c.Mu≠c.Wg/\c.Mu≠c.Is/\c.Wg≠c.Is)(r:At ops j a f [.pointer (some (muA c.Mu)),.int .i32 dl] d)
  (g:ph.gp= .cnt) (t:0<ph.deaf)
  (h:∀φ mu ms C S W L m,φ i=ph->i<c.n->cK c.n φ mu ms C S W L m->∃mp nw,IntKind.i32.wrap (mu+dl)=nw/\(∃u v z A B,cK c.n (upd φ i {ph with mp:=mp}) nw ms u v z A B)/\ak (WJ c i) fi ops (j+1) n Q (bB a d (.int .i32 nw)) F {ph with mp:=mp}):
  ak (WJ c i) fi ops j (n+1) Q a F ph:=by
 obtain ⟨o,cT,dN,l,hg,D,E,rfl⟩:=r
 obtain ⟨x,y,rfl,G,H⟩:=sF E
 obtain ⟨fn,f1,f2,f3,f4,f5⟩:=q.ex
 refine gm l (by rw[g];simp) fun w s k φ p0 _ hs hi he p=>.inr ?_
 obtain ⟨C,S,W,L,m,hm⟩:=p.m
 obtain ⟨mp,nw,e,I,hk⟩:=h φ s.mu s.ms C S W L m he hi hm
 exact ⟨.int .i32 nw,_,_,{s with mu:=nw},{ph with mp:=mp},fun b J cs hb=>by rw[<-e];exact stepG_add_atomic l (cD hg) hb.kind D f1 f2 f3 f4 .i32 f5 G H hs.mu.1 hs.mu.2,by rw[<-e];exact hs.Ed aO _,.set _ (.inl rfl),p.mutex hi he g I,zu rfl Iff.rfl t (.inr ⟨rfl,g⟩),.inr ei,hk⟩
theorem qn {ty:TypeId}(p:(c.P.funcs[fi]?).any (·.norace)=true)(e:c.P.underlying ty=some (.int .i32)){x:Operand}(q:oo ops j a (.load ty x) d)(f:ph.gp= .cnt)(r:ev a x= .pointer (some (muA c.Mu)))
  (h:∀φ mu ms C S W L m,φ i=ph->i<c.n->cK c.n φ mu ms C S W L m->∃mp,(∃t u v y z,cK c.n (upd φ i {ph with mp:=mp}) mu ms t u v y z)/\ak (WJ c i) fi ops (j+1) n Q (bB a d (.int .i32 mu)) F {ph with mp:=mp}):
  ak (WJ c i) fi ops j (n+1) Q a F ph:=by
 obtain ⟨o,g,hg,A,rfl⟩:=q
 refine gm g (by rw[f];simp) fun w s k φ p0 _ hs hi he l=>.inr ?_
 obtain ⟨C,S,W,L,m,hm⟩:=l.m
 obtain ⟨mp,B,hk⟩:=h φ s.mu s.ms C S W L m he hi hm
 have e1:execOp a.eval o=(do pure (.value (<-loadVar ty (muA c.Mu))):Sem Next):=by
  unfold execOp
  simp only[A,e7,r]
  rfl
 have D:(execOp a.eval o).run c.P w= .ok (.value (.int .i32 s.mu)) w:=by
  rw[e1]
  have:=hs.mu.1
  simp[loadVar,isAgg,run_underlying e,this]
 have E:(execOp a.eval o).events c.P w #[]=#[⟨.cell (muA c.Mu),false,false⟩]:=by
  rw[e1]
  have:=hs.mu.1
  simp[loadVar,isAgg,run_underlying e,events_load,this]
 have G:seen c.P fi #[⟨.cell (muA c.Mu),false,false⟩]=#[]:=by rw[seen_def];simp[seenStep,p]
 refine ⟨.int .i32 s.mu,w,#[],{s with mu:=s.mu},{ph with mp:=mp},fun b H cs hb=>?_,hs,.refl _ _,l.mutex hi he f B,oq rfl Iff.rfl,.inr ei,hk⟩
 rw[stepG_value g (cD hg) hb.kind D]
 unfold listed
 rw[E,hb.fn,G]
end
section
variable {c:Cy}{i:Nat}{ph:Ph}{ops:Array Oper}{j n:Nat}{Q:Act->af->Ph->Prop}{a:Act}{F:af}{f fi:FuncId}{d:Option Tmp}
theorem K7 (t u:Value)(v:Entry c.P f Extern.Sync.semacquire)(aO:c.Mu≠c.Wg/\c.Mu≠c.Is/\c.Wg≠c.Is)(A:At ops j a f [.pointer (some (msA c.Mu)),t,u] d)
  (e:ph.gp= .cnt) {G:Nat} (hm:ph.mp= .jm G) (h:ak (WJ c i) fi ops (j+1) n Q (bB a d (.tuple #[])) F {ph with mp:=.kM G}):ak (WJ c i) fi ops j (n+1) Q a F ph:=by
 obtain ⟨o,cT,dN,g,hg,p,B,rfl⟩:=A
 obtain ⟨x,y,z,rfl,q,_,_⟩:=sG B
 obtain ⟨fn,f1,f2,f3,f4,f5⟩:=v.ex
 refine gm g (by rw[e];simp) fun w s k φ p0 _ hs hi he r=>?_
 by_cases l:s.ms=0
 .refine .inl ⟨by rw[hm];rfl,l,fun b D cs=>stepG_semacquire_wait g (cD hg) p f1 f2 f3 f4 f5 (ad:=msA c.Mu) (by simp[e7,q]) (by rw[hs.ms.1,l])⟩
 .obtain ⟨C,S,W,L,m,hM⟩:=r.m
  have E:=hM.cnt
  refine .inr ⟨.tuple #[],_,_,{s with ms:=s.ms - 1},{ph with mp:=.kM G},fun b D cs hb=>stepG_semacquire g (cD hg) hb.kind p f1 f2 f3 f4 f5 (by simp[e7,q]) hs.ms.1 l hs.ms.2,hs.Ee aO _,.set _ (.inl rfl),
   r.mutex hi he e ⟨C,S,W,L,m - 1,Ke hM hi _ (by rw[he];exact hm) rfl aa⟩,zv rfl Iff.rfl (.inr ⟨rfl,e⟩),.inr ⟨by simp only;omega,Int.le_refl _⟩,h⟩
theorem Ei (t u:Value)(l:Entry c.P f Extern.Sync.semrelease)(aO:c.Mu≠c.Wg/\c.Mu≠c.Is/\c.Wg≠c.Is)(v:At ops j a f [.pointer (some (msA c.Mu)),t,u] d)
  (e:ph.gp= .cnt) (hm:ph.mp= .qa\/ph.mp= .qb) (h:ak (WJ c i) fi ops (j+1) n Q (bB a d (.tuple #[])) F {ph with mp:=.fin}):ak (WJ c i) fi ops j (n+1) Q a F ph:=by
 obtain ⟨o,cT,dN,p,hg,q,A,rfl⟩:=v
 obtain ⟨x,y,z,rfl,g,_,_⟩:=sG A
 obtain ⟨fn,f1,f2,f3,f4,f5⟩:=l.ex
 refine gm p (by rw[e];simp) fun w s k φ p0 _ hs hi he r=>.inr ?_
 obtain ⟨C,S,W,L,m,hM⟩:=r.m
 have D:=hM.cnt
 have hb:=hM.st.w
 have E:=hM.st.s
 have G:m<=1:=by
  rcases Nat.lt_or_ge S 1 with y|y
  .have:=hM.norm aa;omega
  .have:=hM.gR aa;omega
 have B:IntKind.u32.wrap (s.ms+1)=s.ms+1:=by
  unfold IntKind.wrap
  simp[IntKind.bits,IntKind.signed]
  omega
 refine ⟨.tuple #[],_,_,{s with ms:=s.ms+1},{ph with mp:=.fin},fun b H cs hb=>stepG_semrelease p (cD hg) hb.kind q f1 f2 f3 f4 f5 (by simp[e7,g]) hs.ms.1 hs.ms.2,by rw[B];exact hs.Ee aO _,.set _ (.inl rfl),
  r.mutex hi he e ⟨C,S,W,L,m+1,Kk hM hi _ (by rw[he];exact hm) rfl⟩,zv rfl Iff.rfl (.inr ⟨rfl,e⟩),.inl ⟨_,q,fun x g=>?_⟩,h⟩
 cases g
 exact ⟨f,rfl,l.D4⟩
theorem Ej (l:Entry c.P f Extern.OsHooks.nano)(e:(c.P.funcs[f]?).any (·.norace)=true){vals:List Value}(m:At ops j a f vals d)
  (p:ph.gp≠ .gone) (h:∀x:Int,ak (WJ c i) fi ops (j+1) n Q (bB a d (.int .i64 x)) F ph):ak (WJ c i) fi ops j (n+1) Q a F ph:=by
 obtain ⟨o,cT,dN,g,hg,q,_,rfl⟩:=m
 obtain ⟨fn,f1,f2,f3,f4,f5⟩:=l.ex
 refine gm g p fun w s k φ p0 _ hs hi he r=>.inr ⟨_,w.later,#[],s,ph,fun b t cs hb=>stepG_nanotime g (cD hg) hb.kind q f1 f2 f3 f4 f5 (by rw[f1] at e;simpa using e),hs,⟨rfl,rfl,rfl,⟨w.tick,rfl⟩,fun _ _=>rfl⟩,qm he r,oq rfl Iff.rfl,.inr ei,h _⟩
theorem K8 (it:Int)(m:Entry c.P f Extern.Sync.canSpin)(p:At ops j a f [.int .i64 it] d)
  (q:ph.gp≠ .gone) (h:∀t:Bool,(t=true->it<4)->ak (WJ c i) fi ops (j+1) n Q (bB a d (.bool t)) F ph):ak (WJ c i) fi ops j (n+1) Q a F ph:=by
 obtain ⟨o,cT,dN,e,hg,g,r,rfl⟩:=p
 obtain ⟨x,rfl,u⟩:=kR r
 obtain ⟨fn,f1,f2,f3,f4,f5⟩:=m.ex
 have hm:(#[x]:Array Operand).map a.eval=#[.int .i64 it]:=by simp[e7,u]
 refine gm e q fun w s k φ p0 _ hs hi he l=>.inr ?_
 by_cases v:4<=it
 .exact ⟨_,w,#[],s,ph,fun b y cs hb=>stepG_canSpin_no e (cD hg) hb.kind g f1 f2 f3 f4 f5 hm v,hs,.refl _ _,qm he l,oq rfl Iff.rfl,.inr ei,h false av⟩
 .exact ⟨_,w.asked,#[],s,ph,fun b y cs hb=>stepG_canSpin_ask e (cD hg) hb.kind g f1 f2 f3 f4 f5 hm aa,hs,⟨rfl,rfl,rfl,.refl _,fun _ _=>rfl⟩,qm he l,oq rfl Iff.rfl,.inr ei,h _ (fun _=>aa)⟩
end
theorem ak.entry {P:Program}{main:Bool}{S:Type}{JF:S->Goroutine->af->Prop}{fi f:FuncId}{ops:Array Oper}{j n:Nat}{Q:Act->af->S->Prop}{a:Act}{F:af}{ph:S}{d:Option Tmp}(v:Value)(hM:eL P main (JF ph))(e:Entry P f (fun _=>pure v))
  {vals:List Value} (g:At ops j a f vals d) (h:ak JF fi ops (j+1) n Q (bB a d v) F ph):ak JF fi ops j (n+1) Q a F ph:=fun b c cs hb hk=>by
 obtain ⟨fn,f1,f2,f3,f4,f5⟩:=e.ex
 obtain ⟨o,cT,dN,i,hg,k,_,rfl⟩:=g
 rw[List.range'_succ,fo hb.round]
 refine hM.move (fr':=b.at (a.put o.dst v) (.inRegion ops (List.range' (j+1) n)::c)) (fun w=>stepG_entry_pure v i (cD hg) hb.kind k f1 f2 f3 f4 f5) (by rw[<-fo hb.round];exact h b c cs hb hk)
section
variable {c:Cy}{i:Nat}{ph:Ph}{ops:Array Oper}{j n:Nat}{Q:Act->af->Ph->Prop}{a:Act}{F:af}{f fi:FuncId}{d:Option Tmp}
theorem vu (ad:Addr){src dst t:TypeId}(hs:c.P.underlying src=some (.pointer t))(hd:c.P.underlying dst=some .unsafePointer)(e:(c.P.info? t).map (fun i=>decide (i.size=0))=some false){x:Operand}
  (m:oo ops j a (.convert src dst x) d) (p:ph.gp≠ .gone) (q:ev a x= .pointer (some ad)) (r:∀w s,cQ c w s->∃v,w.cell? ad=some v) (h:ak (WJ c i) fi ops (j+1) n Q (bB a d (.pointer (some ad))) F ph):ak (WJ c i) fi ops j (n+1) Q a F ph:=by
 obtain ⟨o,f,hg,u,rfl⟩:=m
 refine gm f p fun w s k φ p0 _ g hi he y=>.inr ⟨_,w,#[],s,ph,fun b B cs hb=>?_,g,.refl _ _,qm he y,oq rfl Iff.rfl,.inr ei,h⟩
 obtain ⟨v,l⟩:=r w s g
 have e1:execOp a.eval o=(do pure (.value (<-convert src dst (.pointer (some ad)))):Sem Next):=by
  unfold execOp
  simp only[u,e7,q]
 have z:(execOp a.eval o).run c.P w= .ok (.value (.pointer (some ad))) w:=by
  rw[e1];simp[run_convert_to_unsafe hs hd e l]
 have A:(execOp a.eval o).events c.P w #[]=#[]:=by
  rw[e1];simp[events_convert_to_unsafe hs hd e l]
 rw[stepG_value f (cD hg) hb.kind z]
 unfold listed
 rw[A,seen_none]
theorem K9 {ty:TypeId}(J:c.P.underlying ty=some .bool)(z:cv c.P ty=some 1)(A:(c.P.funcs[fi]?).any (·.norace)=false)(aO:c.Mu≠c.Wg/\c.Mu≠c.Is/\c.Wg≠c.Is){x y:Operand}
  (B:oo ops j a (.store ty x y) d) (e:ph.gp= .cnt) (g:ev a x= .pointer (some ⟨c.Is,i,none⟩)) (l:ev a y= .bool true) (h:ak (WJ c i) fi ops (j+1) n Q (bB a d undef) F {ph with stored:=true}):ak (WJ c i) fi ops j (n+1) Q a F ph:=by
 obtain ⟨o,p,hg,q,rfl⟩:=B
 refine gm p (by rw[e];simp) fun w s k φ p0 _ hs hi he f=>.inr ?_
 have hlen:=f.i.len
 have r:w.cell? ⟨c.Is,i,none⟩=some (.bool (s.is[i]'aa)):=by
  have:=hs.2.2
  simp[World.cell?,this,hlen,hi]
 have t:w.frozen? ⟨c.Is,i,none⟩=false:=by
  have:=hs.2.2
  simp[World.frozen?,this]
 have u:(sizeOf ty).run c.P w= .ok 1 w:=by
  obtain ⟨inf,e,D⟩:=Option.map_eq_some_iff.1 z
  simp[Go.sizeOf,typeInfo,e,D]
 have v:Instr.sureAddr (.pointer (some ⟨c.Is,i,none⟩))=(Pure.pure ⟨c.Is,i,none⟩:Sem Addr):=rfl
 have E:(execOp a.eval o).run c.P w= .ok .skip (w.setCell ⟨c.Is,i,none⟩ (.bool true)):=by
  unfold execOp
  simp only[q,e7,g,l]
  simp[Instr.storeAt,v,storeVar,u,Value.cells,storeCells,Addr.add,r,t,run_store c.P w ⟨c.Is,i,none⟩ (.bool true) .plain rfl,Result.andThen]
 have G:(execOp a.eval o).events c.P w #[]=#[⟨.cell ⟨c.Is,i,none⟩,true,false⟩]:=by
  unfold execOp
  simp only[q,e7,g,l]
  simp[Instr.storeAt,v,storeVar,u,Value.cells,storeCells,Addr.add,r,t,events_store c.P w _ ⟨c.Is,i,none⟩ (.bool true) .plain rfl,run_store c.P w ⟨c.Is,i,none⟩ (.bool true) .plain rfl,Result.evThen]
 have H:seen c.P fi #[⟨.cell ⟨c.Is,i,none⟩,true,false⟩]=#[⟨.cell ⟨c.Is,i,none⟩,true,false⟩]:=by rw[seen_def];simp[seenStep,A]
 obtain ⟨C,S,W,L,m,hm⟩:=f.m
 refine ⟨undef,_,_,{s with is:=s.is.set i true},{ph with stored:=true},fun b K cs hb=>?_,hs.K2 aO i true,.set _ (.inr (.inr rfl)),?_,.store rfl rfl ⟨e,e⟩,.inr ei,h⟩
 .rw[stepG_none p (cD hg) hb.kind E]
  unfold listed
  rw[G,hb.fn,H]
 .exact f.kO hi he (by rw[e];simp) (by simp[e]) ⟨C,S,W,L,m,oh hm hi _ (.inl (by rw[he]))⟩ (vh f.w hi _ (.inl (by rw[he]))) rfl (fun I=>absurd e I)
end
theorem ak.shr {P:Program}{main:Bool}{S:Type}{JF:S->Goroutine->af->Prop}{fi:FuncId}{ops:Array Oper}{j n:Nat}{Q:Act->af->S->Prop}{a:Act}{F:af}{ph:S}{d:Option Tmp}{t f:TypeId}{k b:IntKind}{u m:Int}(v:Int)(hM:eL P main (JF ph)){x y:Operand}
  (g:oo ops j a (.binOp .shr t x y f) d) (i:ev a x= .int k u) (l:ev a y= .int b m) (hm:0<=m) (c:u.fdiv (2 ^ min m.toNat k.bits)=v) (h:ak JF fi ops (j+1) n Q (bB a d (.int k v)) F ph):ak JF fi ops j (n+1) Q a F ph:=by
 obtain ⟨o,p,hg,q,rfl⟩:=g
 have e:¬m<0:=aa
 have e1:execOp a.eval o=(do eqGuard .shr t x y (.int k u) (.int b m);pure (.value (<-binOp .shr t (.int k u) (.int b m))):Sem Next):=by
  unfold execOp
  simp only[q,e7,i,l]
  simp
 refine ak.plain hM (.int k v) p hg (fun w=>?_) (fun w=>?_) h
 .rw[e1];subst c;simp[eqGuard,binOp,Op.shift,e]
 .rw[e1];subst c;simp[eqGuard,binOp,Op.shift,e]
theorem ak.ot {P:Program}{main:Bool}{S:Type}{JF:S->Goroutine->af->Prop}{fi:FuncId}{ops:Array Oper}{j n:Nat}{Q:Act->af->S->Prop}{a:Act}{F:af}{ph:S}{d:Option Tmp}{t b:TypeId}(u v:Int)(hM:eL P main (JF ph)){x y:Operand}
  (c:oo ops j a (.binOp .shr t x y b) d) (e:ev a x= .int .i32 u) (f:ev a y= .int .u64 3) (g:u.fdiv 8=v) (h:ak JF fi ops (j+1) n Q (bB a d (.int .i32 v)) F ph):ak JF fi ops j (n+1) Q a F ph:=
 ak.shr v hM c e f aD g h
end Go.Sep
end
section
namespace Go.Proofs.YtbpddfapodiemaaGreatDoor
open Go Go.Sep Go.Proofs Go.Conc
open Go.ConcN (upd upd_same)
open Go.ConcM (muA msA)
open Go.ConcR (stA smA)
set_option maxRecDepth 100000
set_option maxHeartbeats 4000000
attribute [local go_sem] Int.reduceBEq Int.reduceBNe muA msA stA smA
section
variable {Mu Wg Is n base T0 i:Nat}{bs:Nat->Bool}{st:Bool}{F:af}
theorem zz (w:World)(s:Sh)(h:cQ (CY Mu Wg Is n bs base T0) w s):∃v,w.cell? ⟨Mu,0,none⟩=some v:=⟨_,h.mu.1⟩
theorem La (aO:Mu≠Wg/\Mu≠Is/\Wg≠Is)
  (a:c6 Tryz.prog (WJ (CY Mu Wg Is n bs base T0) i) 186 #[.pointer (some (muA Mu))] F ⟨.idle,.cnt,st,1⟩ (fun v F' aX=>v= .tuple #[]/\F'=F/\aX=⟨.held,.cnt,st,0⟩)):
  c6 Tryz.prog (WJ (CY Mu Wg Is n bs base T0) i) 165 #[.pointer (some (muA Mu))] F ⟨.idle,.cnt,st,0⟩ (fun v F' aX=>v= .tuple #[]/\F'=F/\aX=⟨.held,.cnt,st,0⟩):=by
 have hM:=WJ.eY (CY Mu Wg Is n bs base T0) i
 have hJ:∀ph:Ph,ph.gp= .cnt->Go.Sep.Closed Tryz.prog false (WJ (CY Mu Wg Is n bs base T0) i ph):=fun ph h=>Wk.closed (CY Mu Wg Is n bs base T0) i ph h
 refine c6.go (main:=false) hM Tryz.func165 rfl Tryz.ntmps165 av fun A c hd hs=>?_
 have d:=hs 0
 clear hs
 repeat apply aM (hM _)
 refine dD hM ?_
 refine zx sE ⟨_,_,_,rfl,(by first|rfl|simp only[*,go_sem]),rfl,by first|(simp only[*,go_sem];done)|(simp only[*,go_sem];rfl),rfl⟩ av av ?_
 refine ak.nil hM ?_;try simp only[go_sem]
 repeat apply aM (hM _)
 refine dD hM ?_
 refine ak.bK (hJ _ rfl) 3 (n:=1) _ rfl rfl ?_;apply ag _
 refine vt 0 1 vo aO ⟨_,_,_,rfl,(by first|rfl|simp only[*,go_sem]),rfl,by first|(simp only[*,go_sem];done)|(simp only[*,go_sem];rfl),rfl⟩ (by rfl) av (fun φ ms C S W L m he hi hm=>⟨.held,⟨0,0,0,1,m,J8 hm hi _ (by rw[he]) rfl rfl⟩,?_⟩) (fun φ mu ms C S W L m he hi hm e=>⟨.idle,⟨C,S,W,L,m,oh hm hi _ (.inl (by rw[he]))⟩,?_⟩)
 .refine ak.nil hM ?_;try simp only[go_sem]
  repeat apply aM (hM _)
  refine dB (hM _) aL ?_
  repeat apply aM (hM _)
  refine dB (hM _) aL ?_
  repeat apply aM (hM _)
  refine dD hM ?_
  refine vr mJ ⟨_,_,_,rfl,(by first|rfl|simp only[*,go_sem]),rfl,by first|(simp only[*,go_sem];done)|(simp only[*,go_sem];rfl),rfl⟩ av av rfl ?_
  refine ak.nil hM ?_;try simp only[go_sem]
  repeat apply aM (hM _)
  refine dD hM ?_
  refine ak.bK (hJ _ rfl) 1 (n:=2) _ rfl rfl ?_;apply ag _
  refine vu ⟨Mu,0,none⟩ zk mK zm ⟨_,rfl,(by first|rfl|simp only[*,go_sem]),rfl,rfl⟩ av aL zz ?_
  refine Eh vn ⟨_,_,_,rfl,(by first|rfl|simp only[*,go_sem]),rfl,by first|(simp only[*,go_sem];done)|(simp only[*,go_sem];rfl),rfl⟩ (by rfl) ?_
  refine ak.nil hM ?_;try simp only[go_sem]
  refine gk ?_;try simp only[go_sem]
  exact qj rfl aL ⟨rfl,rfl,rfl⟩
 .refine ak.nil hM ?_;try simp only[go_sem]
  repeat apply aM (hM _)
  refine cX (hM _) aL ?_
  apply c7 (hM _);try simp only[go_sem]
  repeat apply aM (hM _)
  refine dD hM ?_
  refine ak.bK (hJ _ rfl) 1 (n:=1) _ rfl rfl ?_;apply ag _
  refine ak.gW (hM _) rfl rfl rfl GO (by simp only[*,go_sem,muA]) a fun v F' aX b=>?_
  obtain ⟨rfl,rfl,rfl⟩:=b
  refine ak.nil hM ?_
  exact mH rfl aL ⟨rfl,rfl,rfl⟩
def j5 (C S W:Nat)(nw:Int)(G:Nat):Mp:=if S=1 then .qb else if 0<C/\W=0 then .hO nw G else .fin
def Lb (Mu n:Nat)(st:Bool)(F:af)(m:Nat)(a:Act)(F':af)(aX:Ph):Prop:=
 ∃(old:Int) (C S W L G:Nat),F'=F/\slot a 0= .pointer (some ⟨Mu,0,none⟩)/\slot a 4= .int .i32 old/\sz a=43/\a.defers=[]/\Wd old C S W L/\C<=3*n/\G<=m/\
   ((S=0/\L=0/\W=0/\0<C/\aX=⟨.hO old G,.cnt,st,1⟩)\/(¬(S=0/\L=0/\W=0/\0<C)/\aX=⟨.fin,.cnt,st,1⟩))
theorem Lc (aO:Mu≠Wg/\Mu≠Is/\Wg≠Is)(Z:n<67108864){nw:Int}{C S W G:Nat}(hw:Wd nw C S W 0)(hC:C<=3*n):
  c6 Tryz.prog (WJ (CY Mu Wg Is n bs base T0) i) 188 #[.pointer (some (muA Mu)),.int .i32 nw] F ⟨j5 C S W nw G,.cnt,st,1⟩ (fun v F' aX=>v= .tuple #[]/\F'=F/\aX=⟨.fin,.cnt,st,1⟩):=by
 have hM:=WJ.eY (CY Mu Wg Is n bs base T0) i
 have hJ:∀ph:Ph,ph.gp= .cnt->Go.Sep.Closed Tryz.prog false (WJ (CY Mu Wg Is n bs base T0) i ph):=fun ph h=>Wk.closed (CY Mu Wg Is n bs base T0) i ph h
 refine c6.go (main:=false) hM Tryz.func188 rfl Tryz.ntmps188 av fun A t hd hs=>?_
 have u:=hs 0
 have k1:=hs 1
 clear hs
 have y:=hw.st.s
 have hW:=hw.st.w
 have w1:IntKind.i32.wrap (nw+1)=nw+1:=by have e0:=hw.st.eq;exact jq aa aa
 have z:Wd (nw+1) C S W 1:=by have e0:=hw.st.eq;exact wd ⟨aa,aa,hW,y⟩ aa
 have J:eK (nw+1) 1=1:=z.a1
 repeat apply aM (hM _)
 refine dD hM ?_
 refine ak.bK (hJ _ rfl) 4 (n:=0) _ rfl rfl ?_;apply ag _
 refine ak.nil hM ?_;try simp only[go_sem]
 repeat apply aM (hM _)
 refine cX (hM _) aL ?_
 apply c7 (hM _);try simp only[go_sem]
 rcases (by omega:S=1\/S=0) with rfl|rfl
 ·
  have b4:eK nw 4=4:=hw.a4
  repeat apply aM (hM _)
  refine dD hM ?_
  refine ak.bK (hJ _ rfl) 3 (n:=0) _ rfl rfl ?_;apply ag _
  refine ak.nil hM ?_;try simp only[go_sem]
  repeat apply aM (hM _)
  refine cX (hM _) aL ?_
  repeat apply aM (hM _)
  refine dD hM ?_
  refine ak.bK (hJ _ rfl) 3 (n:=1) _ rfl rfl ?_;apply ag _
  refine Ei (.bool true) (.int .i64 2) D6 aO ⟨_,_,_,rfl,(by first|rfl|simp only[*,go_sem]),rfl,by first|(simp only[*,go_sem];done)|(simp only[*,go_sem];rfl),rfl⟩ (by rfl) (by simp[j5]) ?_
  refine ak.nil hM ?_;try simp only[go_sem]
  exact mH rfl aL ⟨rfl,rfl,rfl⟩
 .have b4:eK nw 4=0:=hw.a4
  repeat apply aM (hM _)
  refine dD hM ?_
  refine ak.bK (hJ _ rfl) 3 (n:=0) _ rfl rfl ?_;apply ag _
  refine ak.nil hM ?_;try simp only[go_sem]
  repeat apply aM (hM _)
  refine dB (hM _) aL ?_
  repeat apply aM (hM _)
  refine dD hM ?_
  refine ak.bK (hJ _ rfl) 2 (n:=0) _ rfl rfl ?_;apply ag _
  refine ak.nil hM ?_;try simp only[go_sem]
  repeat apply aM (hM _)
  refine kP hM ?_
  refine sD hM (fun m K F' aX=>Lb Mu n st F m K F' aX) G ?_ ?_
  .refine ⟨nw,C,0,W,0,G,rfl,by simp only[*,go_sem,muA],aL,aL,aL,hw,hC,Nat.le_refl _,?_⟩
   by_cases e:0<C/\W=0
   .exact .inl ⟨rfl,rfl,e.2,e.1,by simp[j5,e]⟩
   .exact .inr ⟨fun x=>e ⟨x.2.2.2,x.2.2.1⟩,by simp[j5,e]⟩
  .clear hw hC b4 J z w1 y hW u k1 t hd
   rintro m A F' aX ⟨old,C,S,W,L,G,rfl,u,ab,t,hd,hw,hC,ad,M⟩
   repeat apply aM (hM _)
   refine kP hM ?_
   have sh:old.fdiv 8=(C:Int):=hw.sh
   rcases M with ⟨rfl,rfl,rfl,g,rfl⟩|⟨ae,rfl⟩
   ·
    have N:eK old 7=0:=hw.a7
    have B:((C:Int)==0)=false:=by simp;omega
    repeat apply aM (hM _)
    refine dD hM ?_
    refine ak.bK (hJ _ rfl) 1 (n:=7) _ rfl rfl ?_;apply ag _
    refine ak.ot old (C:Int) (hM _) ⟨_,rfl,(by first|rfl|simp only[*,go_sem]),rfl,rfl⟩ aL aL hw.sh ?_
    refine ak.bK (hJ _ rfl) 6 (n:=0) _ rfl rfl ?_;apply ag _
    refine ak.nil hM ?_;try simp only[go_sem]
    repeat apply aM (hM _)
    refine cX (hM _) aL ?_
    apply c7 (hM _);try simp only[go_sem]
    have al:IntKind.i32.wrap (old - 8)=old - 8:=by have e0:=hw.st.eq;exact jq aa aa
    have O:Wd (old - 8) (C - 1) 0 0 0:=by have e0:=hw.st.eq;exact wd ⟨aa,aa,aa,aa⟩ aa
    have o2:jY (old - 8) 2=old - 8+2:=O.o2
    repeat apply aM (hM _)
    refine dD hM ?_
    refine ak.bK (hJ _ rfl) 4 (n:=0) _ rfl rfl ?_;apply ag _
    refine ak.nil hM ?_;try simp only[go_sem]
    repeat apply aM (hM _)
    refine dD hM ?_
    refine ak.bK (hJ _ rfl) 5 (n:=1) _ rfl rfl ?_;apply ag _
    refine vt old (old - 8+2) vo aO ⟨_,_,_,rfl,(by first|rfl|simp only[*,go_sem]),rfl,by first|(simp only[*,go_sem];done)|(simp only[*,go_sem];rfl),rfl⟩ (by rfl) av (fun φ ms P Q R T j he hi hm=>?_) (fun φ mu ms P Q R T j he hi hm U=>?_)
    .obtain ⟨rfl,rfl,rfl,rfl⟩:=hm.st.uniq hw.st
     refine ⟨.qa,⟨_,_,_,_,j,Ki hm hi _ (by rw[he]) rfl rfl rfl rfl g⟩,?_⟩
     refine ak.nil hM ?_;try simp only[go_sem]
     repeat apply aM (hM _)
     refine dB (hM _) aL ?_
     repeat apply aM (hM _)
     refine dD hM ?_
     refine ak.bK (hJ _ rfl) 3 (n:=1) _ rfl rfl ?_;apply ag _
     refine Ei (.bool false) (.int .i64 2) D6 aO ⟨_,_,_,rfl,(by first|rfl|simp only[*,go_sem]),rfl,by first|(simp only[*,go_sem];done)|(simp only[*,go_sem];rfl),rfl⟩ (by rfl) av ?_
     refine ak.nil hM ?_;try simp only[go_sem]
     refine gk ?_;try simp only[go_sem]
     exact qj rfl aL ⟨rfl,rfl,rfl⟩
    .obtain ⟨V,ao,X⟩:=Kj hm hi {mp:=.hO mu (b8 n φ ms),gp:=.cnt,stored:=st,deaf:=1} (by rw[he]) rfl
     have ar:b8 n φ ms<G:=X U
     refine ⟨.hO mu (b8 n φ ms),⟨_,_,_,_,j,V⟩,?_⟩
     refine ak.nil hM ?_;try simp only[go_sem]
     repeat apply aM (hM _)
     refine cX (hM _) aL ?_
     apply c7 (hM _);try simp only[go_sem]
     repeat apply aM (hM _)
     refine dD hM ?_
     refine ak.bK (hJ _ rfl) 3 (n:=2) _ rfl rfl ?_;apply ag _
     refine qn K1 ql ⟨_,rfl,(by first|rfl|simp only[*,go_sem]),rfl,rfl⟩ (by rfl) aL (fun b f c k l o p D E H d=>?_)
     have I:=wd d.st (by have:=d.bound;simp only[CY] at this;omega)
     by_cases a:l=0/\p=0/\o=0/\0<k
     .obtain ⟨q,r,_⟩:=DG d H {mp:=.hO f (b8 n b c),gp:=.cnt,stored:=st,deaf:=1} (by rw[E]) (.inl ⟨a.1,a.2.1,a.2.2.1,a.2.2.2,rfl⟩)
      have Y:b8 n b c<=b8 n φ ms:=r
      refine ⟨.hO f (b8 n b c),⟨_,_,_,_,D,q⟩,?_⟩
      refine ak.bK (hJ _ rfl) 1 (n:=0) _ rfl rfl ?_;apply ag _
      refine ak.nil hM ?_;try simp only[go_sem]
      exact ⟨b8 n b c,aa,f,k,l,o,p,b8 n b c,rfl,aL,aL,aL,aL,I,d.bound,Nat.le_refl _,.inl ⟨a.1,a.2.1,a.2.2.1,a.2.2.2,rfl⟩⟩
     .obtain ⟨q,r,_⟩:=DG d H {mp:=.fin,gp:=.cnt,stored:=st,deaf:=1} (by rw[E]) (.inr ⟨a,rfl⟩)
      have Y:b8 n b c<=b8 n φ ms:=r
      refine ⟨.fin,⟨_,_,_,_,D,q⟩,?_⟩
      refine ak.bK (hJ _ rfl) 1 (n:=0) _ rfl rfl ?_;apply ag _
      refine ak.nil hM ?_;try simp only[go_sem]
      exact ⟨b8 n b c,aa,f,k,l,o,p,b8 n b c,rfl,aL,aL,aL,aL,I,d.bound,Nat.le_refl _,.inr ⟨a,rfl⟩⟩
   ·
    by_cases g:C=0
    .have B:((C:Int)==0)=true:=by simp[g]
     repeat apply aM (hM _)
     refine dD hM ?_
     refine ak.bK (hJ _ rfl) 1 (n:=7) _ rfl rfl ?_;apply ag _
     refine ak.ot old (C:Int) (hM _) ⟨_,rfl,(by first|rfl|simp only[*,go_sem]),rfl,rfl⟩ aL aL hw.sh ?_
     refine ak.bK (hJ _ rfl) 6 (n:=0) _ rfl rfl ?_;apply ag _
     refine ak.nil hM ?_;try simp only[go_sem]
     repeat apply aM (hM _)
     refine dB (hM _) aL ?_
     refine gk ?_;try simp only[go_sem]
     exact qj rfl aL ⟨rfl,rfl,rfl⟩
    .have B:((C:Int)==0)=false:=by simp;omega
     have N:=hw.a7
     have a0:(((4*S+(2*W+L):Nat):Int) != 0)=true:=by simp;omega
     repeat apply aM (hM _)
     refine dD hM ?_
     refine ak.bK (hJ _ rfl) 1 (n:=7) _ rfl rfl ?_;apply ag _
     refine ak.ot old (C:Int) (hM _) ⟨_,rfl,(by first|rfl|simp only[*,go_sem]),rfl,rfl⟩ aL aL hw.sh ?_
     refine ak.bK (hJ _ rfl) 6 (n:=0) _ rfl rfl ?_;apply ag _
     refine ak.nil hM ?_;try simp only[go_sem]
     repeat apply aM (hM _)
     refine dB (hM _) aL ?_
     refine gk ?_;try simp only[go_sem]
     exact qj rfl aL ⟨rfl,rfl,rfl⟩
theorem Ld (aO:Mu≠Wg/\Mu≠Is/\Wg≠Is)(g:n<67108864):
  c6 Tryz.prog (WJ (CY Mu Wg Is n bs base T0) i) 166 #[.pointer (some (muA Mu))] F ⟨.held,.cnt,st,0⟩ (fun v F' aX=>v= .tuple #[]/\F'=F/\aX=⟨.fin,.cnt,st,0⟩):=by
 have hM:=WJ.eY (CY Mu Wg Is n bs base T0) i
 have hJ:∀ph:Ph,ph.gp= .cnt->Go.Sep.Closed Tryz.prog false (WJ (CY Mu Wg Is n bs base T0) i ph):=fun ph h=>Wk.closed (CY Mu Wg Is n bs base T0) i ph h
 refine c6.go (main:=false) hM Tryz.func166 rfl Tryz.ntmps166 av fun A t hd hs=>?_
 have u:=hs 0
 clear hs
 repeat apply aM (hM _)
 refine dB (hM _) aL ?_
 repeat apply aM (hM _)
 refine dD hM ?_
 refine ak.bK (hJ _ rfl) 3 (n:=1) _ rfl rfl ?_;apply ag _
 refine qn K0 ql ⟨_,rfl,(by first|rfl|simp only[*,go_sem]),rfl,rfl⟩ (by rfl) aL (fun x y z B D E G j k l o=>⟨.held,⟨_,_,_,_,j,oh o l _ (.inl (by rw[k]))⟩,?_⟩)
 refine ak.nil hM ?_;try simp only[go_sem]
 repeat apply aM (hM _)
 refine dD hM ?_
 refine ak.bK (hJ _ rfl) 1 (n:=2) _ rfl rfl ?_;apply ag _
 refine vu ⟨Mu,0,none⟩ zk mK zm ⟨_,rfl,(by first|rfl|simp only[*,go_sem]),rfl,rfl⟩ av aL zz ?_
 refine K5 D5 ⟨_,_,_,rfl,(by first|rfl|simp only[*,go_sem]),rfl,by first|(simp only[*,go_sem];done)|(simp only[*,go_sem];rfl),rfl⟩ (by rfl) ?_
 refine ak.nil hM ?_;try simp only[go_sem]
 repeat apply aM (hM _)
 refine dD hM ?_
 refine zx sE ⟨_,_,_,rfl,(by first|rfl|simp only[*,go_sem]),rfl,by first|(simp only[*,go_sem];done)|(simp only[*,go_sem];rfl),rfl⟩ av av ?_
 refine ak.nil hM ?_;try simp only[go_sem]
 repeat apply aM (hM _)
 refine dD hM ?_
 refine ak.bK (hJ _ rfl) 3 (n:=2) _ rfl rfl ?_;apply ag _
 refine zy (-1) zi aO ⟨_,_,_,rfl,(by first|rfl|simp only[*,go_sem]),rfl,by first|(simp only[*,go_sem];done)|(simp only[*,go_sem];rfl),rfl⟩ (by rfl) av (fun φ mu ms C S W L m he hi hm=>?_)
 have hL:=DF hm hi (by rw[he])
 subst hL
 have hb:C<=3*n:=hm.bound
 have p:=hm.st.s
 have hW:=hm.st.w
 have c:IntKind.i32.wrap (mu+ -1)=mu - 1:=by have e0:=hm.st.eq;exact jq aa aa
 have f:St (mu - 1) C S W 0:=⟨by have e0:=hm.st.eq;omega,aa,hW,p⟩
 have hw:Wd (mu - 1) C S W 0:=wd f aa
 have d:cK n (upd φ i ⟨j5 C S W (mu - 1) (sm n φ Mp.wt+2*m),.cnt,st,1⟩) (mu - 1) ms C S W 0 m:=by
  refine Kh hm hi _ (by rw[he]) ?_
  by_cases a:S=1
  .exact .inl ⟨a,by simp[j5,a]⟩
  .by_cases b:0<C/\W=0
   .exact .inr (.inl ⟨aa,b.1,b.2,by simp[j5,a,b]⟩)
   .exact .inr (.inr ⟨aa,aa,by simp[j5,a,b]⟩)
 refine ⟨j5 C S W (mu - 1) (sm n φ Mp.wt+2*m),mu - 1,c,⟨_,_,_,_,m,d⟩,?_⟩
 refine ak.bK (hJ _ rfl) 1 (n:=0) _ rfl rfl ?_;apply ag _
 refine ak.nil hM ?_;try simp only[go_sem]
 by_cases e:mu - 1=0
 .have e0:=f.eq
  have q:j5 C S W (mu - 1) (sm n φ Mp.wt+2*m)= .fin:=by
   have:C=0:=aa
   have:S=0:=aa
   simp[j5, *]
  clear hw d c e0
  rw[q]
  rw[e]
  repeat apply aM (hM _)
  refine dD hM ?_
  refine ak.bK (hJ _ rfl) 2 (n:=0) _ rfl rfl ?_;apply ag _
  refine ak.nil hM ?_;try simp only[go_sem]
  repeat apply aM (hM _)
  refine cX (hM _) aL ?_
  apply c7 (hM _);try simp only[go_sem]
  repeat apply aM (hM _)
  refine dD hM ?_
  refine vr mJ ⟨_,_,_,rfl,(by first|rfl|simp only[*,go_sem]),rfl,by first|(simp only[*,go_sem];done)|(simp only[*,go_sem];rfl),rfl⟩ av av rfl ?_
  refine ak.nil hM ?_;try simp only[go_sem]
  exact mH rfl aL ⟨rfl,rfl,rfl⟩
 .have H:(mu - 1 != 0)=true:=by simpa using e
  clear d c e
  repeat apply aM (hM _)
  refine dD hM ?_
  refine ak.bK (hJ _ rfl) 2 (n:=0) _ rfl rfl ?_;apply ag _
  refine ak.nil hM ?_;try simp only[go_sem]
  repeat apply aM (hM _)
  refine dB (hM _) aL ?_
  repeat apply aM (hM _)
  refine dD hM ?_
  refine ak.bK (hJ _ rfl) 2 (n:=1) _ rfl rfl ?_;apply ag _
  refine ak.gW (hM _) rfl rfl rfl GP (by simp only[*,go_sem,muA]) (Lc aO g hw hb) fun v F' aX r=>?_
  obtain ⟨rfl,rfl,rfl⟩:=r
  refine ak.nil hM ?_;try simp only[go_sem]
  repeat apply aM (hM _)
  refine dD hM ?_
  refine vr mJ ⟨_,_,_,rfl,(by first|rfl|simp only[*,go_sem]),rfl,by first|(simp only[*,go_sem];done)|(simp only[*,go_sem];rfl),rfl⟩ av av rfl ?_
  refine ak.nil hM ?_;try simp only[go_sem]
  exact mH rfl aL ⟨rfl,rfl,rfl⟩
end
end Go.Proofs.YtbpddfapodiemaaGreatDoor
end
section
namespace Go.Sep
open Go Go.Conc
def vv {S:Type}(b:Act->af->S->Prop)(Q:Ex->Act->af->S->Prop):Ex->Act->af->S->Prop
 | .normal,a,F,ph=>b a F ph
 |e,a,F,ph=>Q e a F ph
attribute [go_sem] vv
theorem lJ {P:Program}{main:Bool}{S:Type}{JF:S->Goroutine->af->Prop}{fi:FuncId}{Q:Ex->Act->af->S->Prop}{a:Act}{F:af}{ph:S}(hM:∀ph,eL P main (JF ph)){x y:Code}(b:Act->af->S->Prop)
  (c:dg JF fi x (vv b Q) a F ph) (d:∀a F ph,b a F ph->dg JF fi y Q a F ph):dg JF fi (.seq x y) Q a F ph:=
 aM (hM _) (c.mono fun e a F ph h=>by
  cases e with
  |normal=>exact d a F ph h
  |exit i=>exact h
  |ret=>exact h)
theorem vw {P:Program}{main:Bool}{S:Type}{JF:S->Goroutine->af->Prop}{fi:FuncId}{Q:Ex->Act->af->S->Prop}{a:Act}{F:af}{ph:S}(hM:∀ph,eL P main (JF ph)){x:Code}(b:Act->af->S->Prop)
  (c:dg JF fi x (vv b Q) a F ph) (d:∀a F ph,b a F ph->Q .normal a F ph):dg JF fi x Q a F ph:=
 c.mono fun e a F ph h=>by
  cases e with
  |normal=>exact d a F ph h
  |exit i=>exact h
  |ret=>exact h
theorem bC {P:Program}{main:Bool}{S:Type}{JF:S->Goroutine->af->Prop}{fi:FuncId}{Q:Ex->Act->af->S->Prop}{a:Act}{F:af}{ph:S}(hM:∀ph,eL P main (JF ph)){id:Nat}{ops:Array Oper}
  (h:∀K:Act->af->S->Prop,(∀a F ph,Q .normal a F ph->K a F ph)->ak JF fi ops 0 ops.size K a F ph):dg JF fi (.region id ops false) Q a F ph:=dD hM (h _ fun _ _ _ h=>h)
theorem e6 {S:Type}{b:Act->af->S->Prop}{Q:Ex->Act->af->S->Prop}{a:Act}{F:af}{ph:S}(h:b a F ph):vv b Q .normal a F ph:=h
theorem jR {S:Type}{I:Nat->Act->af->S->Prop}{n:Nat}{Q:Ex->Act->af->S->Prop}{a:Act}{F:af}{ph:S}(h:∃m,m<n/\I m a F ph):zg I n Q .normal a F ph:=h
theorem Lf {x:Int}(a: -9223372036854775808<=x)(b:x<9223372036854775808):IntKind.i64.wrap x=x:=by
 unfold IntKind.wrap;simp[IntKind.bits,IntKind.signed];omega
end Go.Sep
namespace Go.Proofs.YtbpddfapodiemaaGreatDoor
open Go Go.Sep Go.Proofs Go.Conc
open Go.ConcN (upd upd_same)
open Go.ConcM (muA msA)
open Go.ConcR (stA smA)
set_option maxRecDepth 100000
set_option maxHeartbeats 8000000
set_option linter.all false
attribute [local go_sem] Int.reduceBEq Int.reduceBNe muA msA stA smA
def vz (Mu n:Nat)(st:Bool)(F:af)(m:Nat)(a:Act)(F':af)(ph:Ph):Prop:=
 ∃(wt it old:Int) (sv aw:Bool) (C S W L G:Nat),F'=F/\slot a 0= .pointer (some ⟨Mu,0,none⟩)/\slot a 2= .int .i64 wt/\slot a 3= .bool sv/\slot a 4= .bool aw/\slot a 5= .int .i64 it/\slot a 6= .int .i32 old/\sz a=139/\a.defers=[]/\
  Wd old C S W L/\C<=3*n/\0<=it/\it<=4/\(sv=true->aw=true)/\(aw=true->S=0/\W=1)/\8*G+(5 - it).toNat<=m/\ph=⟨.want aw old G,.cnt,st,1⟩
def vA (Mu:Nat)(st:Bool)(F:af)(a:Act)(F':af)(ph:Ph):Prop:=F'=F/\slot a 0= .pointer (some ⟨Mu,0,none⟩)/\sz a=139/\a.defers=[]/\ph=⟨.held,.cnt,st,1⟩
def Lg (Mu:Nat)(st:Bool)(F:af)(wt it:Int)(sv:Bool)(G:Nat)(a:Act)(F':af)(ph:Ph):Prop:=
 ∃(aw:Bool) (o:Int) (b:Nat),F'=F/\slot a 0= .pointer (some ⟨Mu,0,none⟩)/\slot a 2= .int .i64 wt/\slot a 3= .bool sv/\slot a 4= .bool aw/\slot a 5= .int .i64 it/\sz a=139/\a.defers=[]/\(sv=true->aw=true)/\b<=G/\ph=⟨.want aw o b,.cnt,st,1⟩
def sH (Mu:Nat)(st:Bool)(F:af)(wt it old:Int)(x:Option Int)(sv aw:Bool)(G:Nat)(a:Act)(F':af)(ph:Ph):Prop:=
 F'=F/\slot a 0= .pointer (some ⟨Mu,0,none⟩)/\slot a 2= .int .i64 wt/\slot a 3= .bool sv/\slot a 4= .bool aw/\slot a 5= .int .i64 it/\slot a 6= .int .i32 old/\(∀y,x=some y->slot a 7= .int .i32 y)/\sz a=139/\a.defers=[]/\ph=⟨.want aw old G,.cnt,st,1⟩
def Ek (Mu:Nat)(st:Bool)(F:af)(sv:Bool)(mp:Mp)(a:Act)(F':af)(ph:Ph):Prop:=
 ∃wt:Int,F'=F/\slot a 0= .pointer (some ⟨Mu,0,none⟩)/\slot a 2= .int .i64 wt/\slot a 3= .bool sv/\sz a=139/\a.defers=[]/\ph=⟨mp,.cnt,st,1⟩
def El (Mu:Nat)(st:Bool)(F:af)(mp:Mp)(a:Act)(F':af)(ph:Ph):Prop:=
 ∃(wt:Int) (sv:Bool),F'=F/\slot a 0= .pointer (some ⟨Mu,0,none⟩)/\slot a 2= .int .i64 wt/\slot a 3= .bool sv/\sz a=139/\a.defers=[]/\ph=⟨mp,.cnt,st,1⟩
def Lh (Mu:Nat)(st:Bool)(F:af)(y:Bool)(a:Act)(F':af)(ph:Ph):Prop:=
 ∃e:Bool,F'=F/\slot a 0= .pointer (some ⟨Mu,0,none⟩)/\slot a 9= .int .i32 (-7)/\slot a 123= .bool e/\sz a=139/\a.defers=[]/\(e=false->y=true)/\ph=⟨.lG y,.cnt,st,1⟩
section
variable {Mu Wg Is n base T0 i:Nat}{bs:Nat->Bool}{st:Bool}{F:af}
theorem Li (aO:Mu≠Wg/\Mu≠Is/\Wg≠Is)(eQ:n<67108864):
  c6 Tryz.prog (WJ (CY Mu Wg Is n bs base T0) i) 186 #[.pointer (some (muA Mu))] F ⟨.idle,.cnt,st,1⟩ (fun v F' aX=>v= .tuple #[]/\F'=F/\aX=⟨.held,.cnt,st,0⟩):=by
 have hM:=WJ.eY (CY Mu Wg Is n bs base T0) i
 have hJ:∀ph:Ph,ph.gp= .cnt->Go.Sep.Closed Tryz.prog false (WJ (CY Mu Wg Is n bs base T0) i ph):=fun ph h=>Wk.closed (CY Mu Wg Is n bs base T0) i ph h
 refine c6.go (main:=false) hM Tryz.func186 rfl Tryz.ntmps186 av fun A b hd hs=>?_
 have c:=hs 0
 clear hs
 repeat apply aM (hM _)
 refine bC hM fun K hK=>?_
 refine ak.bK (hJ _ rfl) 1 (n:=0) _ rfl rfl ?_;apply Go.bT _
 refine ak.nil hM (hK _ _ _ ?_);clear hK K
 repeat apply aM (hM _)
 refine bC hM fun K hK=>?_
 refine ak.bK (hJ _ rfl) 1 (n:=0) _ rfl rfl ?_;apply Go.bT _
 refine ak.nil hM (hK _ _ _ ?_);clear hK K
 repeat apply aM (hM _)
 refine bC hM fun K hK=>?_
 refine ak.bK (hJ _ rfl) 1 (n:=0) _ rfl rfl ?_;apply Go.bT _
 refine ak.nil hM (hK _ _ _ ?_);clear hK K
 repeat apply aM (hM _)
 refine bC hM fun K hK=>?_
 refine ak.bK (hJ _ rfl) 1 (n:=0) _ rfl rfl ?_;apply Go.bT _
 refine ak.nil hM (hK _ _ _ ?_);clear hK K
 repeat apply aM (hM _)
 refine bC hM fun K hK=>?_
 refine ak.bK (hJ _ rfl) 3 (n:=2) _ rfl rfl ?_;apply Go.bT _
 refine qn vp ql ⟨_,rfl,cH,rfl,rfl⟩ (by rfl) er (fun φ mu ms C S W L m he hi hm=>⟨.want false mu (b8 n φ ms),⟨_,_,_,_,m,J9 hm hi _ (by rw[he]) rfl⟩,?_⟩)
 have hw:=wd hm.st (by have:C<=3*n:=hm.bound;omega)
 have hC:C<=3*n:=hm.bound
 refine ak.bK (hJ _ rfl) 1 (n:=0) _ rfl rfl ?_;apply Go.bT _
 refine ak.nil hM (hK _ _ _ ?_);clear hK K
 refine lJ hM (vA Mu st F) ?_ ?_
 .repeat apply aM (hM _)
  refine kP hM ?_
  refine sD hM (vz Mu n st F) (8*b8 n φ ms+5) ?_ ?_
  .exact ⟨0,0,mu,false,false,C,S,W,L,b8 n φ ms,rfl,aC,aC,aC,aC,aC,aC,aC,aC,hw,hC,aa,aa,av,av,av,rfl⟩
  .clear hw hC hm hi he b hd c
   rintro m A F' aX ⟨wt,it,old,sv,aw,C,S,W,L,G,rfl,c,g,j,u,x,E,b,hd,hw,hC,eS,eV,T,U,e3,rfl⟩
   have cS:S=0\/S=1:=by have:=hw.st.s;omega
   have a0:L=0\/L=1:=by have:=hw.st.l;omega
   have bb:W=0\/W=1:=by have:=hw.st.w;omega
   repeat apply aM (hM _)
   refine kP hM ?_
   refine lJ hM (sH Mu st F' wt it old none sv aw G) ?_ ?_
   ·
    by_cases V:S=0/\L=1
    .obtain ⟨rfl,rfl⟩:=V
     have b5:eK old 5=1:=hw.a5
     repeat apply aM (hM _)
     refine bC hM fun K hK=>?_
     refine ak.bK (hJ _ rfl) 5 (n:=2) _ rfl rfl ?_;apply Go.bT _
     refine K8 it KR ⟨_,_,_,rfl,cH,rfl,ej,rfl⟩ av fun t ht=>?_
     refine ak.bK (hJ _ rfl) 1 (n:=0) _ rfl rfl ?_;apply Go.bT _
     refine ak.nil hM (hK _ _ _ ?_);clear hK K
     cases t
     .repeat apply aM (hM _)
      refine cX (hM _) aC ?_
      apply c7 (hM _)
      exact e6 ⟨rfl,aC,aC,aC,aC,aC,aC,av,aC,aC,rfl⟩
     .have fa:=ht rfl
      repeat apply aM (hM _)
      refine dB (hM _) aC ?_
      refine lJ hM (Lg Mu st F' wt it sv G) ?_ ?_
      .cases aw
       .obtain rfl:sv=false:=by cases sv<;>simp_all
        rcases bb with rfl|rfl
        .have b2:eK old 2=0:=hw.a2
         by_cases dv:C=0
         .have bm:((C:Int) != 0)=false:=by simp[dv]
          repeat apply aM (hM _)
          refine bC hM fun K hK=>?_
          refine ak.bK (hJ _ rfl) 9 (n:=12) _ rfl rfl ?_;apply Go.bT _
          refine ak.ot old (C:Int) (hM _) ⟨_,rfl,cH,rfl,rfl⟩ er er hw.sh ?_
          refine ak.bK (hJ _ rfl) 11 (n:=0) _ rfl rfl ?_;apply Go.bT _
          refine ak.nil hM (hK _ _ _ ?_);clear hK K
          repeat apply aM (hM _)
          refine cX (hM _) aC ?_
          apply c7 (hM _)
          exact e6 ⟨false,old,G,rfl,aC,aC,aC,aC,aC,aC,aC,av,Nat.le_refl _,rfl⟩
         .have bm:((C:Int) != 0)=true:=by simp;omega
          have o2:jY old 2=old+2:=hw.o2
          repeat apply aM (hM _)
          refine bC hM fun K hK=>?_
          refine ak.bK (hJ _ rfl) 9 (n:=12) _ rfl rfl ?_;apply Go.bT _
          refine ak.ot old (C:Int) (hM _) ⟨_,rfl,cH,rfl,rfl⟩ er er hw.sh ?_
          refine ak.bK (hJ _ rfl) 9 (n:=2) _ rfl rfl ?_;apply Go.bT _
          refine vt old (old+2) vo aO ⟨_,_,_,rfl,cH,rfl,ej,rfl⟩ (by rfl) av (fun φ ms bo ae br X k he hi hm=>?_) (fun φ mu ms bo ae br X k he hi hm db=>?_)
          .obtain ⟨rfl,rfl,rfl,rfl⟩:=hm.st.uniq hw.st
           refine ⟨.want true old G,⟨_,_,_,_,k,Ka hm hi _ (by rw[he]) rfl rfl rfl rfl rfl⟩,?_⟩
           refine ak.bK (hJ _ rfl) 1 (n:=0) _ rfl rfl ?_;apply Go.bT _
           refine ak.nil hM (hK _ _ _ ?_);clear hK K
           repeat apply aM (hM _)
           refine dB (hM _) aC ?_
           repeat apply aM (hM _)
           refine bC hM fun K hK=>?_
           refine ak.bK (hJ _ rfl) 1 (n:=0) _ rfl rfl ?_;apply Go.bT _
           refine ak.nil hM (hK _ _ _ ?_);clear hK K
           exact e6 ⟨true,old,G,rfl,aC,aC,aC,aC,aC,aC,aC,av,Nat.le_refl _,rfl⟩
          .obtain ⟨H,a6,bc⟩:=vf hm hi {mp:=.want false mu (b8 n φ ms),gp:=.cnt,stored:=st,deaf:=1} (by rw[he]) rfl
           refine ⟨.want false mu (b8 n φ ms),⟨_,_,_,_,k,H⟩,?_⟩
           refine ak.bK (hJ _ rfl) 1 (n:=0) _ rfl rfl ?_;apply Go.bT _
           refine ak.nil hM (hK _ _ _ ?_);clear hK K
           repeat apply aM (hM _)
           refine cX (hM _) aC ?_
           apply c7 (hM _)
           exact e6 ⟨false,mu,b8 n φ ms,rfl,aC,aC,aC,aC,aC,aC,aC,av,a6,rfl⟩
        .have b2:eK old 2=2:=hw.a2
         repeat apply aM (hM _)
         refine bC hM fun K hK=>?_
         refine ak.bK (hJ _ rfl) 21 (n:=0) _ rfl rfl ?_;apply Go.bT _
         refine ak.nil hM (hK _ _ _ ?_);clear hK K
         repeat apply aM (hM _)
         refine cX (hM _) aC ?_
         apply c7 (hM _)
         exact e6 ⟨false,old,G,rfl,aC,aC,aC,aC,aC,aC,aC,av,Nat.le_refl _,rfl⟩
       .repeat apply aM (hM _)
        refine bC hM fun K hK=>?_
        refine ak.bK (hJ _ rfl) 21 (n:=0) _ rfl rfl ?_;apply Go.bT _
        refine ak.nil hM (hK _ _ _ ?_);clear hK K
        repeat apply aM (hM _)
        refine cX (hM _) aC ?_
        apply c7 (hM _)
        exact e6 ⟨true,old,G,rfl,aC,aC,aC,aC,aC,aC,aC,av,Nat.le_refl _,rfl⟩
      .clear c g j u x E b hd b5
       rintro A a Y ⟨bd,o2,dC,rfl,c,g,j,u,x,b,hd,dE,fb,rfl⟩
       have fg:IntKind.i64.wrap (it+1)=it+1:=Lf aa aa
       repeat apply aM (hM _)
       refine bC hM fun K hK=>?_
       refine ak.entry _ (hM _) KS ⟨_,_,_,rfl,cH,rfl,ej,rfl⟩ ?_
       refine ak.nil hM (hK _ _ _ ?_);clear hK K
       repeat apply aM (hM _)
       refine bC hM fun K hK=>?_
       refine ak.bK (hJ _ rfl) 3 (n:=0) _ rfl rfl ?_;apply Go.bT _
       refine ak.nil hM (hK _ _ _ ?_);clear hK K
       repeat apply aM (hM _)
       refine bC hM fun K hK=>?_
       refine ak.bK (hJ _ rfl) 3 (n:=2) _ rfl rfl ?_;apply Go.bT _
       refine qn vp ql ⟨_,rfl,cH,rfl,rfl⟩ (by rfl) er (fun φ mu ms N ad bj bz bS he hi hm=>?_)
       obtain ⟨H,a6,bc⟩:=vf hm hi {mp:=.want bd mu (b8 n φ ms),gp:=.cnt,stored:=st,deaf:=1} (by rw[he]) rfl
       have Z:=wd hm.st (by have:N<=3*n:=hm.bound;omega)
       have a7:N<=3*n:=hm.bound
       have b0:b8 n φ ms<=dC:=a6
       have b1:bd=true->ad=0/\bj=1:=fun e=>by subst e;exact DC hm hi (by rw[he])
       refine ⟨.want bd mu (b8 n φ ms),⟨_,_,_,_,bS,H⟩,?_⟩
       refine ak.bK (hJ _ rfl) 1 (n:=0) _ rfl rfl ?_;apply Go.bT _
       refine ak.nil hM (hK _ _ _ ?_);clear hK K
       refine qi ?_
       change ∃k,k<m/\vz Mu n st a k _ _ _
       exact ⟨8*b8 n φ ms+(5 - (it+1)).toNat,aa,wt,it+1,mu,sv,bd,N,ad,bj,bz,b8 n φ ms,rfl,aC,aC,aC,aC,aC,aC,aC,aC,Z,a7,aa,aa,dE,b1,Nat.le_refl _,rfl⟩
    .have b5:=hw.a5
     have ca:(((4*S+L:Nat):Int)==1)=false:=by simp;omega
     repeat apply aM (hM _)
     refine bC hM fun K hK=>?_
     refine ak.bK (hJ _ rfl) 7 (n:=0) _ rfl rfl ?_;apply Go.bT _
     refine ak.nil hM (hK _ _ _ ?_);clear hK K
     repeat apply aM (hM _)
     refine cX (hM _) aC ?_
     apply c7 (hM _)
     exact e6 ⟨rfl,aC,aC,aC,aC,aC,aC,av,aC,aC,rfl⟩
   .clear c g j u x E b hd
    rintro A a Y ⟨rfl,c,g,j,u,x,E,o,b,hd,rfl⟩
    clear o
    repeat apply aM (hM _)
    refine bC hM fun K hK=>?_
    refine ak.bK (hJ _ rfl) 2 (n:=0) _ rfl rfl ?_;apply Go.bT _
    refine ak.nil hM (hK _ _ _ ?_);clear hK K
    obtain ⟨O,f,p⟩:∃O:Int,(S=0->O=old+1 - L)/\(S=1->O=old):=⟨if S=0 then old+1 - L else old,fun e=>by simp[e],fun e=>by simp[e]⟩
    refine lJ hM (sH Mu st a wt it old (some O) sv aw G) ?_ ?_
    .rcases cS with rfl|rfl
     .have b4:eK old 4=0:=hw.a4
      have o1:jY old 1=O:=by rw[f rfl,hw.o1];omega
      clear f p
      repeat apply aM (hM _)
      refine bC hM fun K hK=>?_
      refine ak.bK (hJ _ rfl) 3 (n:=0) _ rfl rfl ?_;apply Go.bT _
      refine ak.nil hM (hK _ _ _ ?_);clear hK K
      repeat apply aM (hM _)
      refine dB (hM _) aC ?_
      repeat apply aM (hM _)
      refine bC hM fun K hK=>?_
      refine ak.bK (hJ _ rfl) 3 (n:=0) _ rfl rfl ?_;apply Go.bT _
      refine ak.nil hM (hK _ _ _ ?_);clear hK K
      exact e6 ⟨rfl,aC,aC,aC,aC,aC,aC,fun y d=>by cases d;simp only[*,go_sem,-hM,-hJ],aC,aC,rfl⟩
     .have b4:eK old 4=4:=hw.a4
      obtain rfl:=p rfl
      clear f p
      repeat apply aM (hM _)
      refine bC hM fun K hK=>?_
      refine ak.bK (hJ _ rfl) 3 (n:=0) _ rfl rfl ?_;apply Go.bT _
      refine ak.nil hM (hK _ _ _ ?_);clear hK K
      repeat apply aM (hM _)
      refine cX (hM _) aC ?_
      apply c7 (hM _)
      exact e6 ⟨rfl,aC,aC,aC,aC,aC,aC,fun y d=>by cases d;simp only[*,go_sem,-hM,-hJ],aC,aC,rfl⟩
    clear c g j u x E b hd
    rintro A a Y ⟨rfl,c,g,j,u,x,E,o,b,hd,rfl⟩
    replace o:=o _ rfl
    obtain ⟨P,r,z⟩:∃P:Int,(S=1\/L=1->P=O+8)/\(S=0->L=0->P=O):=⟨if S=1\/L=1 then O+8 else O,fun e=>by simp[e],fun e cb=>by simp[e,cb]⟩
    refine lJ hM (sH Mu st a wt it old (some P) sv aw G) ?_ ?_
    .by_cases V:S=1\/L=1
     .have b5:=hw.a5
      have ca:(((4*S+L:Nat):Int) != 0)=true:=by simp;omega
      have fi:IntKind.i32.wrap (O+8)=P:=by
       have e0:=hw.st.eq
       rw[r V]
       refine jq ?_ ?_<;>rcases cS with rfl|rfl<;>first|(have:=f rfl;omega)|(have:=p rfl;omega)
      clear f p r z V
      repeat apply aM (hM _)
      refine bC hM fun K hK=>?_
      refine ak.bK (hJ _ rfl) 3 (n:=0) _ rfl rfl ?_;apply Go.bT _
      refine ak.nil hM (hK _ _ _ ?_);clear hK K
      repeat apply aM (hM _)
      refine dB (hM _) aC ?_
      repeat apply aM (hM _)
      refine bC hM fun K hK=>?_
      refine ak.bK (hJ _ rfl) 3 (n:=0) _ rfl rfl ?_;apply Go.bT _
      refine ak.nil hM (hK _ _ _ ?_);clear hK K
      exact e6 ⟨rfl,aC,aC,aC,aC,aC,aC,fun y d=>by cases d;simp only[*,go_sem,-hM,-hJ],aC,aC,rfl⟩
     .obtain rfl:S=0:=aa
      obtain rfl:L=0:=aa
      have b5:eK old 5=0:=hw.a5
      obtain rfl:=z rfl rfl
      clear f p r z V
      repeat apply aM (hM _)
      refine bC hM fun K hK=>?_
      refine ak.bK (hJ _ rfl) 3 (n:=0) _ rfl rfl ?_;apply Go.bT _
      refine ak.nil hM (hK _ _ _ ?_);clear hK K
      repeat apply aM (hM _)
      refine cX (hM _) aC ?_
      apply c7 (hM _)
      exact e6 ⟨rfl,aC,aC,aC,aC,aC,aC,fun y d=>by cases d;simp only[*,go_sem,-hM,-hJ],aC,aC,rfl⟩
    clear c g j u x E o b hd
    rintro A a Y ⟨rfl,c,g,j,u,x,E,o,b,hd,rfl⟩
    replace o:=o _ rfl
    obtain ⟨I,J,q⟩:∃I:Int,(sv=true->L=1->I=P+4)/\(¬(sv=true/\L=1)->I=P):=⟨if sv=true/\L=1 then P+4 else P,fun e cb=>by simp[e,cb],fun e=>by simp[e]⟩
    refine lJ hM (sH Mu st a wt it old (some I) sv aw G) ?_ ?_
    .cases sv
     .obtain rfl:=q av
      clear f p r z J q
      repeat apply aM (hM _)
      refine bC hM fun K hK=>?_
      refine ak.bK (hJ _ rfl) 6 (n:=0) _ rfl rfl ?_;apply Go.bT _
      refine ak.nil hM (hK _ _ _ ?_);clear hK K
      repeat apply aM (hM _)
      refine cX (hM _) aC ?_
      apply c7 (hM _)
      exact e6 ⟨rfl,aC,aC,aC,aC,aC,aC,fun y d=>by cases d;simp only[*,go_sem,-hM,-hJ],aC,aC,rfl⟩
     .obtain rfl:aw=true:=T rfl
      rcases a0 with rfl|rfl
      .have dT:eK old 1=0:=hw.a1
       obtain rfl:=q av
       clear f p r z J q
       repeat apply aM (hM _)
       refine bC hM fun K hK=>?_
       refine ak.bK (hJ _ rfl) 6 (n:=0) _ rfl rfl ?_;apply Go.bT _
       refine ak.nil hM (hK _ _ _ ?_);clear hK K
       repeat apply aM (hM _)
       refine cX (hM _) aC ?_
       apply c7 (hM _)
       exact e6 ⟨rfl,aC,aC,aC,aC,aC,aC,fun y d=>by cases d;simp only[*,go_sem,-hM,-hJ],aC,aC,rfl⟩
      .have dT:eK old 1=1:=hw.a1
       have o4:jY P 4=I:=by
        have e0:=hw.st.eq
        obtain ⟨rfl,rfl⟩:=U rfl
        have e1:=f rfl
        have e2:=r (.inr rfl)
        rw[J rfl rfl,(wd (C:=C+1) (S:=0) (W:=1) (L:=1) ⟨aa,aa,aa,aa⟩ aa).o4]
        omega
       clear f p r z J q
       repeat apply aM (hM _)
       refine bC hM fun K hK=>?_
       refine ak.bK (hJ _ rfl) 6 (n:=0) _ rfl rfl ?_;apply Go.bT _
       refine ak.nil hM (hK _ _ _ ?_);clear hK K
       repeat apply aM (hM _)
       refine dB (hM _) aC ?_
       repeat apply aM (hM _)
       refine bC hM fun K hK=>?_
       refine ak.bK (hJ _ rfl) 3 (n:=0) _ rfl rfl ?_;apply Go.bT _
       refine ak.nil hM (hK _ _ _ ?_);clear hK K
       exact e6 ⟨rfl,aC,aC,aC,aC,aC,aC,fun y d=>by cases d;simp only[*,go_sem,-hM,-hJ],aC,aC,rfl⟩
    clear c g j u x E o b hd
    rintro A a Y ⟨rfl,c,g,j,u,x,E,o,b,hd,rfl⟩
    replace o:=o _ rfl
    obtain ⟨ab,Q,R⟩:∃ab:Int,(aw=true->ab=I - 2)/\(aw=false->ab=I):=⟨if aw then I - 2 else I,fun e=>by simp[e],fun e=>by simp[e]⟩
    refine lJ hM (sH Mu st a wt it old (some ab) sv aw G) ?_ ?_
    .cases aw
     .obtain rfl:=R rfl
      clear f p r z J q Q R
      repeat apply aM (hM _)
      refine bC hM fun K hK=>?_
      refine ak.bK (hJ _ rfl) 1 (n:=0) _ rfl rfl ?_;apply Go.bT _
      refine ak.nil hM (hK _ _ _ ?_);clear hK K
      repeat apply aM (hM _)
      refine cX (hM _) aC ?_
      apply c7 (hM _)
      exact e6 ⟨rfl,aC,aC,aC,aC,aC,aC,fun y d=>by cases d;simp only[*,go_sem,-hM,-hJ],aC,aC,rfl⟩
     .obtain ⟨rfl,rfl⟩:=U rfl
      have Z:∃N ad,Wd I N ad 1 1:=by
       have e0:=hw.st.eq
       have e1:=f rfl
       rcases a0 with rfl|rfl
       .have e2:=z rfl rfl
        have al:=q av
        exact ⟨C,0,wd ⟨aa,aa,aa,aa⟩ aa⟩
       .have e2:=r (.inr rfl)
        cases sv
        .have al:=q av
         exact ⟨C+1,0,wd ⟨aa,aa,aa,aa⟩ aa⟩
        .have al:=J rfl rfl
         exact ⟨C+1,1,wd ⟨aa,aa,aa,aa⟩ aa⟩
      obtain ⟨N,ad,Z⟩:=Z
      have b2:eK I 2=2:=Z.a2
      have n2:sC I 2=ab:=by rw[Q rfl,Z.n2];rfl
      clear f p r z J q Q R
      repeat apply aM (hM _)
      refine bC hM fun K hK=>?_
      refine ak.bK (hJ _ rfl) 1 (n:=0) _ rfl rfl ?_;apply Go.bT _
      refine ak.nil hM (hK _ _ _ ?_);clear hK K
      repeat apply aM (hM _)
      refine dB (hM _) aC ?_
      repeat apply aM (hM _)
      refine bC hM fun K hK=>?_
      refine ak.bK (hJ _ rfl) 3 (n:=0) _ rfl rfl ?_;apply Go.bT _
      refine ak.nil hM (hK _ _ _ ?_);clear hK K
      repeat apply aM (hM _)
      refine cX (hM _) aC ?_
      apply c7 (hM _)
      repeat apply aM (hM _)
      refine bC hM fun K hK=>?_
      refine ak.bK (hJ _ rfl) 3 (n:=0) _ rfl rfl ?_;apply Go.bT _
      refine ak.nil hM (hK _ _ _ ?_);clear hK K
      exact e6 ⟨rfl,aC,aC,aC,aC,aC,aC,fun y d=>by cases d;simp only[*,go_sem,-hM,-hJ],aC,aC,rfl⟩
    clear c g j u x E o b hd
    rintro A a Y ⟨rfl,c,g,j,u,x,E,o,b,hd,rfl⟩
    replace o:=o _ rfl
    repeat apply aM (hM _)
    refine bC hM fun K hK=>?_
    refine ak.bK (hJ _ rfl) 5 (n:=1) _ rfl rfl ?_;apply Go.bT _
    refine vt old ab vo aO ⟨_,_,_,rfl,cH,rfl,ej,rfl⟩ (by rfl) av (fun φ ms bo ae br X k he hi hm=>?_) (fun φ mu ms bo ae br X k he hi hm db=>?_)
    .obtain ⟨rfl,rfl,rfl,rfl⟩:=hm.st.uniq hw.st
     by_cases V:ae=0/\X=0
     .obtain ⟨rfl,rfl⟩:=V
      have M:ab=old+1 - (if aw then 2 else 0):=by
       have e1:=f rfl
       have e2:=z rfl rfl
       have al:=q av
       cases aw
       .have M:=R rfl
        simp;omega
       .have M:=Q rfl
        simp;omega
      have b5:eK old 5=0:=hw.a5
      refine ⟨.held,by rw[M];exact ⟨_,_,_,_,k,Kb hm hi _ (by rw[he]) rfl rfl rfl (fun e=>(U e).2)⟩,?_⟩
      clear f p r z J q Q R M he hi hm T U cS a0 bb
      refine ak.nil hM (hK _ _ _ ?_);clear hK K
      repeat apply aM (hM _)
      refine dB (hM _) aC ?_
      repeat apply aM (hM _)
      refine bC hM fun K hK=>?_
      refine ak.bK (hJ _ rfl) 3 (n:=0) _ rfl rfl ?_;apply Go.bT _
      refine ak.nil hM (hK _ _ _ ?_);clear hK K
      repeat apply aM (hM _)
      refine dB (hM _) aC ?_
      refine qi ?_
      change vA Mu st a _ _ _
      exact ⟨rfl,aC,aC,aC,rfl⟩
     .have cd:ae=1\/X=1:=aa
      have M:ab=old+8+(if sv then 4 else 0) - (if aw then 2 else 0):=by
       have e2:=r cd
       rcases cS with rfl|rfl
       .have e1:=f rfl
        obtain rfl:X=1:=aa
        cases sv
        .have al:=q av
         cases aw
         .have M:=R rfl
          simp;omega
         .have M:=Q rfl
          simp;omega
        .obtain rfl:aw=true:=T rfl
         have al:=J rfl rfl
         have M:=Q rfl
         simp;omega
       .have ea:aw=false:=by
         cases aw
         .rfl
         .exact absurd (U rfl).1 aa
        subst ea
        have eb:sv=false:=by
         cases sv
         .rfl
         .exact absurd (T rfl) av
        subst eb
        have e1:=p rfl
        have al:=q av
        have M:=R rfl
        simp;omega
      have dd:sv=true->aw=true/\X=1:=fun e=>⟨T e,by have:=U (T e);omega⟩
      have df:b8 n φ ms<=G:=(hm.seen i hi (some old) G (by rw[he];rfl)).1
      have b5:=hw.a5
      have ca:(((4*ae+X:Nat):Int)==0)=false:=by simp;omega
      refine ⟨.jm (b8 n φ ms),by rw[M];exact ⟨_,_,_,_,k,Kc hm hi _ (by rw[he]) rfl cd dd⟩,?_⟩
      clear f p r z J q Q R M he hi hm T U cS a0 bb V cd dd
      revert df
      generalize b8 n φ ms=B
      intro df
      refine ak.nil hM (hK _ _ _ ?_);clear hK K
      repeat apply aM (hM _)
      refine dB (hM _) aC ?_
      repeat apply aM (hM _)
      refine bC hM fun K hK=>?_
      refine ak.bK (hJ _ rfl) 3 (n:=0) _ rfl rfl ?_;apply Go.bT _
      refine ak.nil hM (hK _ _ _ ?_);clear hK K
      repeat apply aM (hM _)
      refine cX (hM _) aC ?_
      apply c7 (hM _)
      repeat apply aM (hM _)
      refine bC hM fun K hK=>?_
      refine ak.bK (hJ _ rfl) 3 (n:=0) _ rfl rfl ?_;apply Go.bT _
      refine ak.nil hM (hK _ _ _ ?_);clear hK K
      repeat apply aM (hM _)
      refine bC hM fun K hK=>?_
      refine ak.bK (hJ _ rfl) 2 (n:=0) _ rfl rfl ?_;apply Go.bT _
      refine ak.nil hM (hK _ _ _ ?_);clear hK K
      first|refine lJ hM (Ek Mu st a sv (.jm B)) ?_ ?_|refine vw hM (Ek Mu st a sv (.jm B)) ?_ ?_
      .cases fp:(wt==0)
       .repeat apply aM (hM _)
        refine cX (hM _) aC ?_
        apply c7 (hM _)
        exact e6 ⟨wt,rfl,aC,aC,aC,aC,aC,rfl⟩
       .repeat apply aM (hM _)
        refine dB (hM _) aC ?_
        repeat apply aM (hM _)
        refine bC hM fun K hK=>?_
        refine Ej D7 Ec ⟨_,_,_,rfl,cH,rfl,ej,rfl⟩ av fun t=>?_
        refine ak.bK (hJ _ rfl) 1 (n:=0) _ rfl rfl ?_;apply Go.bT _
        refine ak.nil hM (hK _ _ _ ?_);clear hK K
        exact e6 ⟨t,rfl,aC,aC,aC,aC,aC,rfl⟩
      clear c g j u x E o b hd b5 ca
      rintro A a Y ⟨dk,rfl,c,g,j,b,hd,rfl⟩
      repeat apply aM (hM _)
      refine bC hM fun K hK=>?_
      refine ak.bK (hJ _ rfl) 4 (n:=1) _ rfl rfl ?_;apply Go.bT _
      refine K7 (slot A 8) (.int .i64 2) KQ aO ⟨_,_,_,rfl,cH,rfl,ej,rfl⟩ (by rfl) rfl ?_
      refine ak.nil hM (hK _ _ _ ?_);clear hK K
      first|refine lJ hM (El Mu st a (.kM B)) ?_ ?_|refine vw hM (El Mu st a (.kM B)) ?_ ?_
      .cases sv
       .repeat apply aM (hM _)
        refine bC hM fun K hK=>?_
        refine ak.bK (hJ _ rfl) 2 (n:=6) _ rfl rfl ?_;apply Go.bT _
        refine Ej D7 Ec ⟨_,_,_,rfl,cH,rfl,ej,rfl⟩ av fun t=>?_
        refine ak.bK (hJ _ rfl) 5 (n:=0) _ rfl rfl ?_;apply Go.bT _
        refine ak.nil hM (hK _ _ _ ?_);clear hK K
        exact e6 ⟨dk,_,rfl,aC,aC,(by simp only[*,go_sem,-hM,-hJ];rfl),aC,aC,rfl⟩
       .repeat apply aM (hM _)
        refine bC hM fun K hK=>?_
        refine ak.bK (hJ _ rfl) 8 (n:=0) _ rfl rfl ?_;apply Go.bT _
        refine ak.nil hM (hK _ _ _ ?_);clear hK K
        exact e6 ⟨dk,true,rfl,aC,aC,aC,aC,aC,rfl⟩
      clear c g j b hd
      rintro A a Y ⟨ec,dp,rfl,c,g,j,b,hd,rfl⟩
      repeat apply aM (hM _)
      refine bC hM fun K hK=>?_
      refine ak.bK (hJ _ rfl) 3 (n:=2) _ rfl rfl ?_;apply Go.bT _
      refine qn vp ql ⟨_,rfl,cH,rfl,rfl⟩ (by rfl) er (fun φ mu ms D a8 cf cl bk he hi hm=>?_)
      have dq:D<=3*n:=hm.bound
      have ao:=wd hm.st aa
      rcases (by have:=hm.st.s;omega:a8=0\/a8=1) with rfl|rfl
      .obtain ⟨H,rfl,cy⟩:=Kf hm hi {mp:=.want true mu (b8 n φ ms),gp:=.cnt,stored:=st,deaf:=1} (by rw[he]) rfl rfl
       have fr:b8 n φ ms<B:=cy
       refine ⟨.want true mu (b8 n φ ms),⟨_,_,_,_,bk,H⟩,?_⟩
       have b4:eK mu 4=0:=ao.a4
       clear H cy
       refine ak.bK (hJ _ rfl) 1 (n:=0) _ rfl rfl ?_;apply Go.bT _
       refine ak.nil hM (hK _ _ _ ?_);clear hK K
       repeat apply aM (hM _)
       refine bC hM fun K hK=>?_
       refine ak.bK (hJ _ rfl) 3 (n:=0) _ rfl rfl ?_;apply Go.bT _
       refine ak.nil hM (hK _ _ _ ?_);clear hK K
       repeat apply aM (hM _)
       refine cX (hM _) aC ?_
       apply c7 (hM _)
       repeat apply aM (hM _)
       refine bC hM fun K hK=>?_
       refine ak.bK (hJ _ rfl) 1 (n:=0) _ rfl rfl ?_;apply Go.bT _
       refine ak.nil hM (hK _ _ _ ?_);clear hK K
       repeat apply aM (hM _)
       refine bC hM fun K hK=>?_
       refine ak.bK (hJ _ rfl) 1 (n:=0) _ rfl rfl ?_;apply Go.bT _
       refine ak.nil hM (hK _ _ _ ?_);clear hK K
       change ∃k,k<m/\vz Mu n st a k _ _ _
       exact ⟨8*b8 n φ ms+5,aa,ec,0,mu,dp,true,D,0,1,cl,b8 n φ ms,rfl,aC,aC,aC,aC,aC,aC,aC,aC,ao,dq,aa,aa,fun _=>rfl,fun _=>⟨rfl,rfl⟩,av,rfl⟩
      .obtain ⟨H,rfl,rfl,ed⟩:=Kg hm hi {mp:=.lG (decide (2<=D)),gp:=.cnt,stored:=st,deaf:=1} (by rw[he]) rfl rfl
       refine ⟨.lG (decide (2<=D)),⟨_,_,_,_,bk,H⟩,?_⟩
       have b4:eK mu 4=4:=ao.a4
       have b3:eK mu 3=0:=ao.a3
       have bm:((D:Int)==0)=false:=by simp;omega
       have c0:=ao.sh
       obtain ⟨y,d⟩:∃y,decide (2<=D)=y:=⟨_,rfl⟩
       have ar:((D:Int)==1)=false->y=true:=fun e=>by rw[<-d];simp at e ⊢;omega
       rw[d]
       clear H he hi hm ao dq ed d
       refine ak.bK (hJ _ rfl) 1 (n:=0) _ rfl rfl ?_;apply Go.bT _
       refine ak.nil hM (hK _ _ _ ?_);clear hK K
       repeat apply aM (hM _)
       refine bC hM fun K hK=>?_
       refine ak.bK (hJ _ rfl) 3 (n:=0) _ rfl rfl ?_;apply Go.bT _
       refine ak.nil hM (hK _ _ _ ?_);clear hK K
       repeat apply aM (hM _)
       refine dB (hM _) aC ?_
       repeat apply aM (hM _)
       refine bC hM fun K hK=>?_
       refine ak.bK (hJ _ rfl) 5 (n:=3) _ rfl rfl ?_;apply Go.bT _
       refine ak.ot mu (D:Int) (hM _) ⟨_,rfl,cH,rfl,rfl⟩ er er c0 ?_
       refine ak.bK (hJ _ rfl) 2 (n:=0) _ rfl rfl ?_;apply Go.bT _
       refine ak.nil hM (hK _ _ _ ?_);clear hK K
       repeat apply aM (hM _)
       refine cX (hM _) aC ?_
       apply c7 (hM _)
       repeat apply aM (hM _)
       refine bC hM fun K hK=>?_
       refine ak.bK (hJ _ rfl) 1 (n:=0) _ rfl rfl ?_;apply Go.bT _
       refine ak.nil hM (hK _ _ _ ?_);clear hK K
       repeat apply aM (hM _)
       refine vw hM (Lh Mu st a y) ?_ ?_
       .cases dp
        .repeat apply aM (hM _)
         refine bC hM fun K hK=>?_
         refine ak.bK (hJ _ rfl) 7 (n:=0) _ rfl rfl ?_;apply Go.bT _
         refine ak.nil hM (hK _ _ _ ?_);clear hK K
         exact e6 ⟨true,rfl,aC,aC,aC,aC,aC,av,rfl⟩
        .repeat apply aM (hM _)
         refine bC hM fun K hK=>?_
         refine ak.bK (hJ _ rfl) 4 (n:=3) _ rfl rfl ?_;apply Go.bT _
         refine ak.ot mu (D:Int) (hM _) ⟨_,rfl,cH,rfl,rfl⟩ er er c0 ?_
         refine ak.bK (hJ _ rfl) 2 (n:=0) _ rfl rfl ?_;apply Go.bT _
         refine ak.nil hM (hK _ _ _ ?_);clear hK K
         exact e6 ⟨(D:Int)==1,rfl,aC,aC,aC,aC,aC,ar,rfl⟩
       clear c g j b hd b4 b3 bm c0 ar
       rintro A a Y ⟨e,rfl,c,fs,ft,b,hd,ar,rfl⟩
       cases e
       .obtain rfl:=ar rfl
        clear ar
        repeat apply aM (hM _)
        refine cX (hM _) aC ?_
        apply c7 (hM _)
        repeat apply aM (hM _)
        refine bC hM fun K hK=>?_
        refine ak.bK (hJ _ rfl) 4 (n:=1) _ rfl rfl ?_;apply Go.bT _
        refine zy (-7) zi aO ⟨_,_,_,rfl,cH,rfl,ej,rfl⟩ (by rfl) av (fun φ mu ms N ad bj bz bS he hi hm=>⟨.held,_,?_,⟨_,_,_,_,_,DD hm hi {mp:=.held,gp:=.cnt,stored:=st,deaf:=1} false (by rw[he]) rfl (fun _=>rfl)⟩,?_⟩)
        .have e0:=hm.st.eq
         have a7:N<=3*n:=hm.bound
         have eh:=hm.st.s
         have et:=hm.st.w
         have ev:=hm.st.l
         rw[jq aa aa]
         simp;omega
        refine ak.nil hM (hK _ _ _ ?_);clear hK K
        refine qi ?_
        change vA Mu st a _ _ _
        exact ⟨rfl,aC,aC,aC,rfl⟩
       .clear ar
        repeat apply aM (hM _)
        refine dB (hM _) aC ?_
        repeat apply aM (hM _)
        refine bC hM fun K hK=>?_
        refine ak.bK (hJ _ rfl) 3 (n:=0) _ rfl rfl ?_;apply Go.bT _
        refine ak.nil hM (hK _ _ _ ?_);clear hK K
        repeat apply aM (hM _)
        refine bC hM fun K hK=>?_
        refine ak.bK (hJ _ rfl) 4 (n:=1) _ rfl rfl ?_;apply Go.bT _
        refine zy (-11) zi aO ⟨_,_,_,rfl,cH,rfl,ej,rfl⟩ (by rfl) av (fun φ mu ms N ad bj bz bS he hi hm=>⟨.held,_,?_,⟨_,_,_,_,_,DD hm hi {mp:=.held,gp:=.cnt,stored:=st,deaf:=1} true (by rw[he]) rfl av⟩,?_⟩)
        .have e0:=hm.st.eq
         have a7:N<=3*n:=hm.bound
         have eh:=hm.st.s
         have et:=hm.st.w
         have ev:=hm.st.l
         rw[jq aa aa]
         simp;omega
        refine ak.nil hM (hK _ _ _ ?_);clear hK K
        refine qi ?_
        change vA Mu st a _ _ _
        exact ⟨rfl,aC,aC,aC,rfl⟩
    .obtain ⟨H,a6,bc⟩:=vf hm hi {mp:=.want aw mu (b8 n φ ms),gp:=.cnt,stored:=st,deaf:=1} (by rw[he]) rfl
     have cy:b8 n φ ms<G:=bc db
     refine ⟨.want aw mu (b8 n φ ms),⟨_,_,_,_,k,H⟩,?_⟩
     clear f p r z J q Q R H a6 bc he hi hm U cS a0 bb
     refine ak.nil hM (hK _ _ _ ?_);clear hK K
     repeat apply aM (hM _)
     refine cX (hM _) aC ?_
     repeat apply aM (hM _)
     refine bC hM fun K hK=>?_
     refine ak.bK (hJ _ rfl) 3 (n:=2) _ rfl rfl ?_;apply Go.bT _
     refine qn vp ql ⟨_,rfl,cH,rfl,rfl⟩ (by rfl) er (fun a9 da ba D a8 cf cl bk ds dt bl=>?_)
     obtain ⟨b0,du,_⟩:=vf bl dt {mp:=.want aw da (b8 n a9 ba),gp:=.cnt,stored:=st,deaf:=1} (by rw[ds]) rfl
     have fu:b8 n a9 ba<=b8 n φ ms:=du
     have a7:D<=3*n:=bl.bound
     have Z:=wd bl.st aa
     have b1:aw=true->a8=0/\cf=1:=fun e=>by subst e;exact DC bl dt (by rw[ds])
     refine ⟨.want aw da (b8 n a9 ba),⟨_,_,_,_,bk,b0⟩,?_⟩
     clear b0 du
     refine ak.bK (hJ _ rfl) 1 (n:=0) _ rfl rfl ?_;apply Go.bT _
     refine ak.nil hM (hK _ _ _ ?_);clear hK K
     change ∃k,k<m/\vz Mu n st a k _ _ _
     exact ⟨8*b8 n a9 ba+(5 - it).toNat,aa,wt,it,da,sv,aw,D,a8,cf,cl,b8 n a9 ba,rfl,aC,aC,aC,aC,aC,aC,aC,aC,Z,a7,aa,aa,T,b1,Nat.le_refl _,rfl⟩
 .rintro A F' aX ⟨rfl,c,b,hd,rfl⟩
  repeat apply aM (hM _)
  refine dB (hM _) aC ?_
  repeat apply aM (hM _)
  refine bC hM fun K hK=>?_
  refine vr mJ ⟨_,_,_,rfl,cH,rfl,ej,rfl⟩ av av rfl ?_
  refine ak.nil hM (hK _ _ _ ?_);clear hK K
  repeat apply aM (hM _)
  refine bC hM fun K hK=>?_
  refine ak.bK (hJ _ rfl) 1 (n:=2) _ rfl rfl ?_;apply Go.bT _
  refine vu ⟨Mu,0,none⟩ zk mK zm ⟨_,rfl,cH,rfl,rfl⟩ av er zz ?_
  refine Eh vn ⟨_,_,_,rfl,cH,rfl,ej,rfl⟩ (by rfl) ?_
  refine ak.nil hM (hK _ _ _ ?_);clear hK K
  exact mH rfl aC ⟨rfl,rfl,rfl⟩
end
end Go.Proofs.YtbpddfapodiemaaGreatDoor
end
section
namespace Go.Proofs.YtbpddfapodiemaaGreatDoor
open Go Go.Sep Go.Proofs Go.Conc
open Go.ConcN (upd upd_same)
open Go.ConcM (muA msA)
open Go.ConcR (stA smA)
set_option maxRecDepth 100000
set_option maxHeartbeats 4000000
attribute [local go_sem] Int.reduceBEq Int.reduceBNe muA msA stA smA
section
variable {Mu Wg Is n base T0 i:Nat}{bs:Nat->Bool}{st:Bool}{F:af}
theorem Lj (aO:Mu≠Wg/\Mu≠Is/\Wg≠Is)(a:n<67108864):
  c6 Tryz.prog (WJ (CY Mu Wg Is n bs base T0) i) 131 #[.pointer (some (muA Mu))] F ⟨.idle,.cnt,st,0⟩ (fun v F' aX=>v= .tuple #[]/\F'=F/\aX=⟨.held,.cnt,st,0⟩):=by
 have hM:=WJ.eY (CY Mu Wg Is n bs base T0) i
 have hJ:∀ph:Ph,ph.gp= .cnt->Go.Sep.Closed Tryz.prog false (WJ (CY Mu Wg Is n bs base T0) i ph):=fun ph h=>Wk.closed (CY Mu Wg Is n bs base T0) i ph h
 refine c6.go (main:=false) hM Tryz.func131 rfl Tryz.ntmps131 av fun A c hd hs=>?_
 have d:=hs 0
 clear hs
 repeat apply aM (hM _)
 refine dD hM ?_
 refine ak.bK (hJ _ rfl) 3 (n:=1) _ rfl rfl ?_;apply ag _
 refine ak.gW (hM _) rfl rfl rfl GL (by simp only[*,go_sem,muA]) (La aO (Li aO a)) fun v F' aX b=>?_
 obtain ⟨rfl,rfl,rfl⟩:=b
 refine ak.nil hM ?_
 exact mH rfl aL ⟨rfl,rfl,rfl⟩
theorem Ll (aO:Mu≠Wg/\Mu≠Is/\Wg≠Is)(a:n<67108864):
  c6 Tryz.prog (WJ (CY Mu Wg Is n bs base T0) i) 132 #[.pointer (some (muA Mu))] F ⟨.held,.cnt,st,0⟩ (fun v F' aX=>v= .tuple #[]/\F'=F/\aX=⟨.fin,.cnt,st,0⟩):=by
 have hM:=WJ.eY (CY Mu Wg Is n bs base T0) i
 have hJ:∀ph:Ph,ph.gp= .cnt->Go.Sep.Closed Tryz.prog false (WJ (CY Mu Wg Is n bs base T0) i ph):=fun ph h=>Wk.closed (CY Mu Wg Is n bs base T0) i ph h
 refine c6.go (main:=false) hM Tryz.func132 rfl Tryz.ntmps132 av fun A c hd hs=>?_
 have d:=hs 0
 clear hs
 repeat apply aM (hM _)
 refine dD hM ?_
 refine ak.bK (hJ _ rfl) 3 (n:=1) _ rfl rfl ?_;apply ag _
 refine ak.gW (hM _) rfl rfl rfl GM (by simp only[*,go_sem,muA]) (Ld aO a) fun v F' aX b=>?_
 obtain ⟨rfl,rfl,rfl⟩:=b
 refine ak.nil hM ?_
 exact mH rfl aL ⟨rfl,rfl,rfl⟩
end
end Go.Proofs.YtbpddfapodiemaaGreatDoor
end
section
namespace Go.Sep
open Go Go.Conc
def vB (op:BinOp)(u v:Value):Option Value:=match op with
 | .shl=>match u,v with
  | .int k a,.int _ b=>if b<0 then none else some (.int k (k.wrap (a*2 ^ min b.toNat k.bits)))
  |_,_=>none
 | .shr=>match u,v with
  | .int k a,.int _ b=>if b<0 then none else some (.int k (a.fdiv (2 ^ min b.toNat k.bits)))
  |_,_=>none
 |_=>oD op u v
def qo (P:Program)(op:Op)(a:Act):Option Value:=match op with
 | .move x| .assign x=>some (ev a x)
 | .nilCheck x=>match ev a x with
  | .pointer (some ad)=>some (.pointer (some ad))
  |_=>none
 | .pick c x y=>match ev a c with
  | .bool b=>some (if b then ev a x else ev a y)
  |_=>none
 | .binOp op t x y _=>vB op (ev a x) (ev a y)
 | .unOp op _ x=>mU op (ev a x)
 | .convert src dst x=>mX P src dst (ev a x)
 | .fieldAddr s x n=>match ev a x with
  | .pointer (some ad)=>match di P s n with
   |some k=>some (.pointer (some (ad.add k)))
   |none=>none
  |_=>none
 |_=>none
theorem Lm {P:Program}{op:BinOp}{t:TypeId}{x y:Operand}{u v r:Value}(h:vB op u v=some r)(w:World):
  (do eqGuard op t x y u v;pure (.value (<-binOp op t u v)):Sem Next).run P w= .ok (.value r) w/\(do eqGuard op t x y u v;pure (.value (<-binOp op t u v)):Sem Next).events P w #[]=#[]:=by
 unfold vB at h
 split at h
 .split at h
  case h_2=>cases h
  split at h
  .cases h
  .rename_i hb;cases h;simp[eqGuard,binOp,Op.shift,hb]
 .split at h
  case h_2=>cases h
  split at h
  .cases h
  .rename_i hb;cases h;simp[eqGuard,binOp,Op.shift,hb]
 .rename_i n1 n2
  unfold oD at h
  split at h
  case h_2=>cases h
  rename_i k a c b
  split at h
  case isFalse=>cases h
  rename_i hk
  subst hk
  cases op<;>simp only[binOp,ne_eq,not_true_eq_false,if_false,Op.intArith,Op.intDiv,Op.intCmp,Op.intBits,Op.shift,eqGuard] at h ⊢<;>first
   |(cases h;done)
   |(exact absurd rfl n1)
   |(exact absurd rfl n2)
   |(cases h;simp;done)
   |(split at h
     .cases h
     .rename_i hb;cases h;simp[hb])
theorem Em {P:Program}{o:Oper}{a:Act}{v:Value}(h:qo P o.op a=some v)(w:World):(execOp a.eval o).run P w= .ok (.value v) w/\(execOp a.eval o).events P w #[]=#[]:=by
 obtain ⟨dst,op,type,pos,after,guard⟩:=o;unfold execOp;simp only[e7] at h ⊢;unfold qo at h;cases op<;>simp only[reduceCtorEq] at h ⊢
 case move x=>cases h;simp
 case assign x=>cases h;simp
 case nilCheck x=>
  split at h
  .rename_i ad d;cases h;simp[d]
  .cases h
 case pick c x y=>
  split at h
  .rename_i b hb;cases h;simp[hb,asBool]
  .cases h
 case binOp op t x y r=>have:=Lm (P:=P) (t:=t) (x:=x) (y:=y) h w;simpa using this
 case unOp op t x=>
  revert h;cases ev a x<;>cases op<;>simp only[mU,reduceCtorEq,false_implies,Option.some.injEq]<;>intro h<;>subst h<;>simp[Op.unary,Op.intArith]
 case convert src dst x=>
  revert h;cases d:ev a x<;>simp only[mX,reduceCtorEq,false_implies];intro h;split at h
  .rename_i k1 z g i;cases h;simp[convert,run_underlying g,run_underlying i,Conv.intToInt]
  .cases h
 case fieldAddr s x n=>
  split at h
  case h_2=>cases h
  rename_i ad j;split at h
  case h_2=>cases h
  rename_i k hk;cases h;unfold di at hk;split at hk
  case h_2=>cases hk
  rename_i A e;split at hk
  case h_2=>cases hk
  rename_i f l;split at hk
  case h_2=>cases hk
  rename_i m hm;cases hk;obtain ⟨inf,p,q⟩:=Option.map_eq_some_iff.1 hm;have u:Instr.sureAddr (.pointer (some ad))=(Pure.pure ad:Sem Addr):=rfl;simp[Instr.fieldAt,run_underlying e,e,l,j,u,fieldPlace,Go.sizeOf,typeInfo,p,q,Result.andThen,Result.evThen]
def jv (P:Program)(ops:Array Oper)(K:Act->Prop):List Oper->Act->Prop
 |[],a=>K a
 |o::rest,a=>match cV ops o a with
  |some true=>match qo P o.op a with
   |some v=>jv P ops K rest (bB a o.dst v)
   |none=>False
  |some false=>jv P ops K rest (bB a o.dst undef)
  |none=>False
theorem Ln {P:Program}{ops:Array Oper}{K:Act->Prop}{a:Act}:jv P ops K [] a=K a:=(Eq.refl _).trans (Eq.refl _)
theorem Lo {P:Program}{ops:Array Oper}{K:Act->Prop}{o:Oper}{rest:List Oper}{a:Act}:jv P ops K (o::rest) a=match cV ops o a with
  |some true=>match qo P o.op a with
   |some v=>jv P ops K rest (bB a o.dst v)
   |none=>False
  |some false=>jv P ops K rest (bB a o.dst undef)
  |none=>False:=(Eq.refl _).trans (Eq.refl _)
attribute [go_sem] Ln Lo qo vB
section
variable {P:Program}{main:Bool}{S:Type}{JF:S->Goroutine->af->Prop}{fi:FuncId}{ops:Array Oper}{F:af}{ph:S}{Q:Act->af->S->Prop}
theorem zA (hM:eL P main (JF ph)):∀(l:List Oper) (i n:Nat) (a:Act),(∀j o,l[j]?=some o->ops[i+j]?=some o)->jv P ops (fun b=>ak JF fi ops (i+l.length) n Q b F ph) l a->ak JF fi ops i (l.length+n) Q a F ph
 |[],i,n,a,_,h=>by rw[List.length_nil,Nat.zero_add];exact h
 |o::rest,i,n,a,hl,h=>by
  have f:ops[i]?=some o:=hl 0 o rfl
  have g:∀j x,rest[j]?=some x->ops[i+1+j]?=some x:=fun j x k=>by rw[Nat.add_assoc,Nat.add_comm 1 j];exact hl (j+1) x k
  have e:(o::rest).length+n=(rest.length+n)+1:=by rw[List.length_cons];omega
  have e2:∀b,ak JF fi ops (i+(o::rest).length) n Q b F ph->ak JF fi ops (i+1+rest.length) n Q b F ph:=fun b x=>by
   rw[show i+1+rest.length=i+(o::rest).length by rw[List.length_cons];omega];exact x
  rw[e]
  have mono:∀(l:List Oper) (a:Act) {K d:Act->Prop},(∀a,K a->d a)->jv P ops K l a->jv P ops d l a:=by
   intro l
   induction l with
   |nil=>intro a K d hk h;exact hk a h
   |cons o l ih=>
    intro a K d hk h
    unfold jv at h ⊢
    cases hg:cV ops o a with
    |none=>rw[hg] at h;exact h.elim
    |some t=>
     rw[hg] at h
     cases t with
     |false=>exact ih _ hk h
     |true=>
      simp only at h ⊢
      cases c:qo P o.op a with
      |none=>rw[c] at h;exact h.elim
      |some v=>rw[c] at h;exact ih _ hk h
  unfold jv at h
  split at h
  .rename_i hg
   split at h
   .rename_i v c
    exact ak.plain hM v f hg (fun w=>(Em c w).1) (fun w=>(Em c w).2) (zA hM rest (i+1) n _ g (mono _ _ e2 h))
   .exact h.elim
  .rename_i hg
   exact ak.skip hM f hg (zA hM rest (i+1) n _ g (mono _ _ e2 h))
  .exact h.elim
theorem ak.pure (hM:eL P main (JF ph))(m:Nat){i n:Nat}{a:Act}(l:List Oper)(hl:(ops.toList.drop i).take m=l)(hm:l.length=m)(h:jv P ops (fun c=>ak JF fi ops (i+m) n Q c F ph) l a):ak JF fi ops i (m+n) Q a F ph:=by
 subst hm;refine zA hM l i n a (fun j o b=>?_) h;rw[<-hl] at b;have d:j<l.length:=by
  rcases Nat.lt_or_ge j l.length with x|x
  .exact x
  .rw[hl,List.getElem?_eq_none x] at b;cases b
 rw[List.getElem?_take,if_pos d,List.getElem?_drop] at b;simpa using b
end
end Go.Sep
end
section
namespace Go.Sep
open Go Go.Conc
open Go.ConcN (sumTo upd upd_ne upd_same)
open Go.ConcM (MuAt muA msA muBlock OsLater)
open Go.ConcR (WgAt wgBlock stA smA)
section
variable {c:Cy}{i:Nat}{ph:Ph}{ops:Array Oper}{j n:Nat}{Q:Act->af->Ph->Prop}{a:Act}{F:af}{f fi:FuncId}{d:Option Tmp}
theorem Inv.group {k:Nat}{φ:Nat->Ph}{p0:P0}{s:Sh}(h:Inv c.n c.bs k φ p0 s)(hi:i<c.n)(he:φ i=ph)(a:ph.gp≠ .new)(b:ph.gp≠ .cnt){gp:Gp}(d:gp≠ .new){wg ws:Int}
  (hw:ee c.n (upd φ i {ph with gp:=gp}) p0 wg ws):Inv c.n c.bs k (upd φ i {ph with gp:=gp}) p0 {s with wg:=wg,ws:=ws}:=by
 obtain ⟨C,S,W,L,m,hm⟩:=h.m
 refine h.kO hi he a d ⟨C,S,W,L,m,oh hm hi _ (.inl (by rw[he]))⟩ hw ?_ (fun _=>?_)
 .have:=h.i.all i hi
  rw[he] at this
  exact (zw this).symm
 .have:=h.i.done i hi (by rw[he];exact b) (by rw[he];exact a)
  rw[he] at this
  exact this
theorem Lp (m:Entry c.P f (Extern.Atomic.update (Op.intArith .add) .u64 true))(aO:c.Mu≠c.Wg/\c.Mu≠c.Is/\c.Wg≠c.Is)(H:c.n<67108864)(p:At ops j a f [.pointer (some (stA c.Wg)),.int .u64 18446744069414584320] d)
  (e:ph.gp= .rel) (q:0<ph.deaf)
  (h:∀v t:Nat,v<=c.n->t<=1->ak (WJ c i) fi ops (j+1) n Q (bB a d (.int .u64 ((v:Int)*4294967296+t))) F {ph with gp:=if v=0/\t=1 then .ld else .gone}):
  ak (WJ c i) fi ops j (n+1) Q a F ph:=by
 obtain ⟨o,cT,dN,l,hg,r,u,rfl⟩:=p
 obtain ⟨x,y,rfl,z,A⟩:=sF u
 obtain ⟨fn,f1,f2,f3,f4,f5⟩:=m.ex
 refine gm l (by rw[e];simp) fun w s k φ p0 _ hs hi he g=>.inr ?_
 obtain ⟨v,t,e1,ht,B,_⟩:=DH g.w hi ph (by rw[he];exact e)
 obtain ⟨C,D,E,I,_,hw⟩:=DH g.w hi {ph with gp:=if v=0/\t=1 then .ld else .gone} (by rw[he];exact e)
 obtain ⟨rfl,rfl⟩:v=C/\t=D:=by simp only[dz] at e1 E;omega
 have e2:IntKind.u64.wrap (s.wg+18446744069414584320)=(v:Int)*4294967296+t:=by
  rw[e1]
  unfold IntKind.wrap
  simp only[IntKind.bits,IntKind.signed,dz]
  simp
  omega
 have G:s.wg - dz=(v:Int)*4294967296+t:=by rw[e1];simp only[dz];omega
 refine ⟨.int .u64 ((v:Int)*4294967296+t),_,_,{s with wg:=(v:Int)*4294967296+t},{ph with gp:=if v=0/\t=1 then .ld else .gone},fun b J cs hb=>by rw[<-e2];exact stepG_add_atomic l (cD hg) hb.kind r f1 f2 f3 f4 .u64 f5 z A hs.wg.1 hs.wg.2,by rw[<-e2];exact hs.vq aO _,.set _ (.inr (.inl rfl)),?_,zu rfl ?_ q (.inl rfl),.inr ei,h v t B ht⟩
 .refine g.group hi he (by rw[e];simp) (by rw[e];simp) (by split<;>simp) ?_
  rw[<-G]
  exact hw rfl
 .simp only[e];split<;>simp
theorem Lq (m:Entry c.P f (Extern.Atomic.loadT (.int .u64)))(p:At ops j a f [.pointer (some (stA c.Wg))] d)(e:ph.gp= .ld)(q:0<ph.deaf)
  (h:ak (WJ c i) fi ops (j+1) n Q (bB a d (.int .u64 1)) F {ph with gp:=.st}):ak (WJ c i) fi ops j (n+1) Q a F ph:=by
 obtain ⟨o,cT,dN,g,hg,r,t,rfl⟩:=p
 obtain ⟨x,rfl,u⟩:=kR t
 obtain ⟨fn,f1,f2,f3,f4,f5⟩:=m.ex
 refine gm g (by rw[e];simp) fun w s k φ p0 _ hs hi he l=>.inr ?_
 obtain ⟨e1,hw⟩:=Km l.w hi {ph with gp:=.st} (by rw[he];exact e) rfl
 exact ⟨.int .u64 1,_,_,s,{ph with gp:=.st},fun b v cs hb=>by rw[<-e1];exact stepG_load_atomic g (cD hg) hb.kind r f1 f2 f3 f4 .u64 f5 u hs.wg.1,hs,.refl _ _,l.group hi he (by rw[e];simp) (by rw[e];simp) av hw,zq false rfl (by simp[e]) q (.inl rfl),.inr ei,h⟩
theorem Lr (m:Entry c.P f Extern.Atomic.storeT)(aO:c.Mu≠c.Wg/\c.Mu≠c.Is/\c.Wg≠c.Is)(p:At ops j a f [.pointer (some (stA c.Wg)),.int .u64 0] d)(e:ph.gp= .st)(q:0<ph.deaf)
  (h:ak (WJ c i) fi ops (j+1) n Q (bB a d (.tuple #[])) F {ph with gp:=.sm}):ak (WJ c i) fi ops j (n+1) Q a F ph:=by
 obtain ⟨o,cT,dN,g,hg,r,t,rfl⟩:=p
 obtain ⟨x,y,rfl,u,v⟩:=sF t
 obtain ⟨fn,f1,f2,f3,f4,f5⟩:=m.ex
 refine gm g (by rw[e];simp) fun w s k φ p0 _ hs hi he l=>.inr ?_
 obtain ⟨e1,hw⟩:=Kn l.w hi {ph with gp:=.sm} (by rw[he];exact e) rfl
 exact ⟨.tuple #[],_,_,{s with wg:=0},{ph with gp:=.sm},fun b z cs hb=>stepG_store_atomic g (cD hg) hb.kind r f1 f2 f3 f4 f5 u v hs.wg.1 hs.wg.2,hs.vq aO _,.set _ (.inr (.inl rfl)),l.group hi he (by rw[e];simp) (by rw[e];simp) av hw,zq true rfl (by simp[e]) q (.inl rfl),.inr ei,h⟩
theorem Ls (r t:Value)(l:Entry c.P f Extern.Sync.semrelease)(aO:c.Mu≠c.Wg/\c.Mu≠c.Is/\c.Wg≠c.Is)(u:At ops j a f [.pointer (some (smA c.Wg)),r,t] d)(e:ph.gp= .sm)
  (h:ak (WJ c i) fi ops (j+1) n Q (bB a d (.tuple #[])) F {ph with gp:=.gone}):ak (WJ c i) fi ops j (n+1) Q a F ph:=by
 obtain ⟨o,cT,dN,m,hg,p,v,rfl⟩:=u
 obtain ⟨x,y,z,rfl,g,_,_⟩:=sG v
 obtain ⟨fn,f1,f2,f3,f4,f5⟩:=l.ex
 refine gm m (by rw[e];simp) fun w s k φ p0 _ hs hi he q=>.inr ?_
 obtain ⟨e1,hw⟩:=Ko q.w hi {ph with gp:=.gone} (by rw[he];exact e) rfl
 have A:IntKind.u32.wrap (s.ws+1)=s.ws+1:=by rw[e1];decide
 refine ⟨.tuple #[],_,_,{s with ws:=s.ws+1},{ph with gp:=.gone},fun b B cs hb=>stepG_semrelease m (cD hg) hb.kind p f1 f2 f3 f4 f5 (by simp[e7,g]) hs.ws.1 hs.ws.2,by rw[A];exact hs.Ef aO _,.set _ (.inr (.inl rfl)),
  q.group hi he (by rw[e];simp) (by rw[e];simp) av hw,zv rfl (by simp[e]) (.inl rfl),.inl ⟨_,p,fun x g=>?_⟩,h⟩
 cases g
 exact ⟨f,rfl,l.D4⟩
end
end Go.Sep
end
section
namespace Go.Sep
open Go Go.Conc
open Go.ConcN (sumTo upd upd_ne upd_same)
theorem ak.defer {P:Program}{main:Bool}{S:Type}{JF:S->Goroutine->af->Prop}{fi f:FuncId}{ops:Array Oper}{j n:Nat}{Q:Act->af->S->Prop}{a:Act}{F:af}{ph:S}(hM:eL P main (JF ph)){o:Oper}{cT:Array Operand}{dN:Array TypeId}{vals:Array Value}
  (e:ops[j]?=some o) (hg:cV ops o a=some true) (g:o.op= .defer {callee:=.value (.func f),args:=cT,argTypes:=dN}) (hd:o.dst=none) (k:cT.map a.eval=vals)
  (h:∀c:Act,(∀i,slot c i=slot a i)->sz c=sz a->c.defers=dcall f vals::a.defers->ak JF fi ops (j+1) n Q c F ph):ak JF fi ops j (n+1) Q a F ph:=fun b d cs hb hk=>by
 rw[List.range'_succ,fo hb.round]
 refine hM.move (fr':=b.at (Act.put ⟨a.tmps,dcall f (cT.map a.eval)::a.defers⟩ o.dst undef) (.inRegion ops (List.range' (j+1) n)::d)) (fun w=>stepG_defer e (cD hg) hb.kind g) ?_
 rw[<-fo hb.round,hd,k]
 exact h ⟨a.tmps,dcall f vals::a.defers⟩ (fun _=>rfl) rfl rfl b d cs hb hk
section
variable {c:Cy}{i:Nat}{ph:Ph}{F:af}{f:FuncId}
theorem Lt (g:Entry c.P f (fun _=>do mark .enable;pure Extern.Race.none_))(hg:ph.gp= .gone){d:Nat}(hd:ph.deaf=d+1){b:Frame}{a:Act}{todo:List Item}{cs:List Frame}{e:List Deferred}(j:a.defers=dcall f #[]::e)
  (h:WJ c i {ph with deaf:=d} (G {b.at ⟨a.tmps,e⟩ todo with mode:=.returning} cs) F):WJ c i ph (G {b.at a todo with mode:=.returning} cs) F:=by
 obtain ⟨F0,r,hle,hW⟩:=h
 obtain ⟨q,_,k⟩:=hW.left hg
 obtain ⟨fn,f1,f2,f3,f4,f5⟩:=g.ex
 refine Wk.gone (q:=q+1) hg (QuitsD.unwind_mark .enable rfl av j f1 f2 f3 f4 f5 ?_)
 rw[hd]
 exact k
def lK (f:FuncId)(R:Value->af->Ph->Prop):Ex->Act->af->Ph->Prop
 | .exit _,_,_,_=>False
 |_,a,F,ph=>a.defers=[dcall f #[]]/\ph.gp= .gone/\∃b,ph.deaf=b+1/\R (.tuple #[]) F {ph with deaf:=b}
theorem c6.Lu {f0:FuncId}(o:Entry c.P f (fun _=>do mark .enable;pure Extern.Race.none_)){fn:Func}{cd:Code}{n:Nat}{args:Array Value}{R:Value->af->Ph->Prop}(k:c.P.funcs[f0]?=some fn)(hb:fn.body=some cd)(l:fn.results=#[])(m:fn.ntmps=n)(u:args.size<=n)
  (h:∀A:Act,sz A=n->A.defers=[]->(∀i,slot A i=args.getD i undef)->dg (WJ c i) f0 cd (lK f R) A F ph):c6 c.P (WJ c i) f0 args F ph R:=by
 intro d cs p
 let b:Frame:={(default:Frame) with fn:=f0,kind:=.normal}
 have q:b.roundOf=none:=rfl
 have r:Frame.enter c.P f0 args .normal=on b {tmps:=args++Array.replicate (fn.ntmps - args.size) undef,defers:=[]} [.code cd]:=by
  simp[Frame.enter,on,k,hb,b]
  rfl
 rw[r]
 have hM:=WJ.eY c i
 have leave:∀(a:Act) (todo:List Item) F' (aX:Ph),(a.defers=[dcall f #[]]/\aX.gp= .gone/\∃g,aX.deaf=g+1/\R (.tuple #[]) F' {aX with deaf:=g})->WJ c i aX (G {on b a todo with mode:=.returning} (d::cs)) F':=by
  intro a todo F' aX ⟨hd,hg,g,s,t⟩
  rw[fo q]
  refine Lt o hg s hd ((hM _).move (fr':=d.finish (.tuple #[])) (cs':=cs) (fun w=>?_) (p _ F' _ t))
  exact stepG_leave rfl rfl k (results_none l _ c.P w) (events_results_none l _ _)
 refine h _ (by simp[sz,m];omega) rfl (fun i=>?_) b [] (d::cs) ⟨by simp[b],rfl,rfl⟩ fun e a F' aX j=>?_
 .simp only[slot,m,Array.getD_eq_getD_getElem?]
  rcases Nat.lt_or_ge i args.size with hi|hi
  .rw[Array.getElem?_append_left hi]
  .rw[Array.getElem?_append_right hi,Array.getElem?_replicate,Array.getElem?_eq_none hi]
   split<;>rfl
 .cases e with
  |normal=>exact (hM aX).move (fun _=>mP rfl) (leave a _ F' aX j)
  |exit i=>exact j.elim
  |ret=>exact fun v=>(hM aX).move (fun _=>stepG_ret' rfl) (leave a _ F' aX j)
def zB (R:af->Ph->Prop):Ex->Act->af->Ph->Prop
 | .exit _,_,_,_=>False
 |_,a,F,ph=>a.defers=[]/\R F ph
theorem Lv {f0:FuncId}{fn:Func}{cd:Code}{n:Nat}{args:Array Value}{R:af->Ph->Prop}(j:c.P.funcs[f0]?=some fn)(o:(fn.name== "runtime.NumGoroutine")=false)(hb:fn.body=some cd)(k:fn.results=#[])(l:fn.ntmps=n)(s:args.size<=n)
  {b:Frame} {a:Act} {todo:List Item} {cs:List Frame} {f:List Deferred} (p:a.defers=dcall f0 args::f)
  (h:∀A:Act,sz A=n->A.defers=[]->(∀i,slot A i=args.getD i undef)->dg (WJ c i) f0 cd (zB R) A F ph)
  (q:∀F' aX,R F' aX->WJ c i aX (G {b.at ⟨a.tmps,f⟩ todo with mode:=.returning} cs) F'):WJ c i ph (G {b.at a todo with mode:=.returning} cs) F:=by
 have hM:=WJ.eY c i
 refine (hM ph).move (fun w=>stepG_unwind_enter p j o hb) ?_
 have leave:∀(d:Act) (m:List Item) F' (aX:Ph),(d.defers=[]/\R F' aX)->WJ c i aX (G {(baseD f0).at d m with mode:=.returning} ({b.at ⟨a.tmps,f⟩ todo with mode:=.returning}::cs)) F':=by
  intro d m F' aX ⟨hd,r⟩
  exact (hM _).move (fun w=>stepG_leave_deferred rfl hd j (results_none k _ c.P w) (events_results_none k _ _) rfl) (q F' aX r)
 have:=h {tmps:=args++Array.replicate (fn.ntmps - args.size) undef,defers:=[]} (by simp[sz,l];omega) rfl (fun i=>?_) (baseD f0) [] ({b.at ⟨a.tmps,f⟩ todo with mode:=.returning}::cs) ⟨by simp[baseD],rfl,rfl⟩ fun e d F' aX g=>?_
 .rw[fo rfl] at this;exact this
 .simp only[slot,l,Array.getD_eq_getD_getElem?]
  rcases Nat.lt_or_ge i args.size with hi|hi
  .rw[Array.getElem?_append_left hi]
  .rw[Array.getElem?_append_right hi,Array.getElem?_replicate,Array.getElem?_eq_none hi]
   split<;>rfl
 .cases e with
  |normal=>exact (hM aX).move (fun _=>mP rfl) (leave d _ F' aX g)
  |exit i=>exact g.elim
  |ret=>exact fun t=>(hM aX).move (fun _=>stepG_ret' rfl) (leave d _ F' aX g)
end
attribute [go_sem] lK zB
end Go.Sep
end
section
namespace Go.Sep
open Go
def lM (x y:Int):Int:=IntKind.u64.wrap ((BitVec.ofInt 64 x&&& BitVec.ofInt 64 y).toNat:Int)
@[go_sem] theorem Tf (x y:Int):IntKind.u64.wrap ((@HAnd.hAnd (BitVec 64) (BitVec 64) (BitVec 64) (@instHAndOfAndOp (BitVec IntKind.u64.bits) (@BitVec.instAndOp IntKind.u64.bits)) (BitVec.ofInt 64 x) (BitVec.ofInt 64 y)).toNat:Int)=lM x y:=rfl
theorem zC (v t:Nat)(a:v<2147483648)(ht:t<=1):lM ((v:Int)*4294967296+(t:Int)) 2147483648=0:=Go.ConcN.st_flag v t a ht
theorem zD (v t:Nat)(a:v<2147483648)(ht:t<=1):lM ((v:Int)*4294967296+(t:Int)) 2147483647=(t:Int):=Go.ConcN.st_waiters v t a ht
theorem zE (v t:Nat)(ht:t<=1):((v:Int)*4294967296+(t:Int)).fdiv 4294967296=v:=by
 rw[Int.fdiv_eq_ediv_of_nonneg _ aD];omega
end Go.Sep
namespace Go.Proofs.YtbpddfapodiemaaGreatDoor
open Go Go.Sep Go.Proofs Go.Conc
open Go.ConcN (upd upd_same)
open Go.ConcM (muA msA)
open Go.ConcR (stA smA)
set_option maxRecDepth 100000
set_option maxHeartbeats 4000000
set_option linter.all false
attribute [local go_sem] Int.reduceBEq Int.reduceBNe muA msA stA smA
section
variable {Mu Wg Is n base T0 i:Nat}{bs:Nat->Bool}{st:Bool}{F:af}
theorem Lx (w:World)(s:Sh)(h:cQ (CY Mu Wg Is n bs base T0) w s):∃v,w.cell? ⟨Wg,0,none⟩=some v:=⟨_,h.wg.1⟩
theorem Ly (aO:Mu≠Wg/\Mu≠Is/\Wg≠Is)(a:n<67108864){mp:Mp}:
  c6 Tryz.prog (WJ (CY Mu Wg Is n bs base T0) i) 158 #[.pointer (some (stA Wg)),.int .u64 18446744069414584320] F ⟨mp,.rel,st,1⟩
   (fun r F' aX=>F'=F/\∃v t:Nat,v<=n/\t<=1/\r= .int .u64 ((v:Int)*4294967296+(t:Int))/\aX=⟨mp,if v=0/\t=1 then .ld else .gone,st,1⟩):=by
 have hM:=WJ.eY (CY Mu Wg Is n bs base T0) i
 refine c6.go (main:=false) hM Tryz.func158 rfl Tryz.ntmps158 av fun A c hd hs=>?_
 have d:=hs 0
 have k1:=hs 1
 clear hs
 repeat apply aM (hM _)
 refine dD hM ?_
 refine ak.pure (hM _) 1 (n:=0) _ rfl rfl ?_;apply ag _
 refine ak.nil hM ?_;try simp only[go_sem]
 repeat apply aM (hM _)
 refine dD hM ?_
 refine ak.pure (hM _) 4 (n:=2) _ rfl rfl ?_;apply ag _
 refine Lp D8 aO a ⟨_,_,_,rfl,(by first|rfl|simp only[*,go_sem]),rfl,by first|(simp only[*,go_sem];done)|(simp only[*,go_sem];rfl),rfl⟩ (by rfl) av fun v t b ht=>?_
 refine ak.pure (hM _) 1 (n:=0) _ rfl rfl ?_;apply ag _
 refine ak.nil hM ?_;try simp only[go_sem]
 refine gk ?_;try simp only[go_sem]
 exact (mI rfl aL aL ⟨rfl,v,t,b,ht,rfl,rfl⟩).2
theorem Lz {mp:Mp}:
  c6 Tryz.prog (WJ (CY Mu Wg Is n bs base T0) i) 160 #[.pointer (some (stA Wg))] F ⟨mp,.ld,st,1⟩
   (fun r F' aX=>F'=F/\r= .int .u64 1/\aX=⟨mp,.st,st,1⟩):=by
 have hM:=WJ.eY (CY Mu Wg Is n bs base T0) i
 refine c6.go (main:=false) hM Tryz.func160 rfl Tryz.ntmps160 av fun A a hd hs=>?_
 have b:=hs 0
 clear hs
 repeat apply aM (hM _)
 refine dD hM ?_
 refine ak.pure (hM _) 1 (n:=0) _ rfl rfl ?_;apply ag _
 refine ak.nil hM ?_;try simp only[go_sem]
 repeat apply aM (hM _)
 refine dD hM ?_
 refine ak.pure (hM _) 3 (n:=2) _ rfl rfl ?_;apply ag _
 refine Lq zj ⟨_,_,_,rfl,(by first|rfl|simp only[*,go_sem]),rfl,by first|(simp only[*,go_sem];done)|(simp only[*,go_sem];rfl),rfl⟩ (by rfl) av ?_
 refine ak.pure (hM _) 1 (n:=0) _ rfl rfl ?_;apply ag _
 refine ak.nil hM ?_;try simp only[go_sem]
 refine gk ?_;try simp only[go_sem]
 exact (mI rfl aL aL ⟨rfl,rfl,rfl⟩).2
theorem LA (aO:Mu≠Wg/\Mu≠Is/\Wg≠Is){mp:Mp}:
  c6 Tryz.prog (WJ (CY Mu Wg Is n bs base T0) i) 161 #[.pointer (some (stA Wg)),.int .u64 0] F ⟨mp,.st,st,1⟩
   (fun r F' aX=>F'=F/\r= .tuple #[]/\aX=⟨mp,.sm,st,1⟩):=by
 have hM:=WJ.eY (CY Mu Wg Is n bs base T0) i
 refine c6.go (main:=false) hM Tryz.func161 rfl Tryz.ntmps161 av fun A a hd hs=>?_
 have b:=hs 0
 have k1:=hs 1
 clear hs
 repeat apply aM (hM _)
 refine dD hM ?_
 refine ak.pure (hM _) 4 (n:=1) _ rfl rfl ?_;apply ag _
 refine Lr KU aO ⟨_,_,_,rfl,(by first|rfl|simp only[*,go_sem]),rfl,by first|(simp only[*,go_sem];done)|(simp only[*,go_sem];rfl),rfl⟩ (by rfl) av ?_
 refine ak.nil hM ?_;try simp only[go_sem]
 exact mH rfl aL ⟨rfl,rfl,rfl⟩
end
end Go.Proofs.YtbpddfapodiemaaGreatDoor
end
section
namespace Go.Sep
open Go Go.Conc
open Go.ConcN (sumTo upd upd_ne upd_same)
open Go.ConcM (MuAt muA msA muBlock OsLater)
open Go.ConcR (WgAt wgBlock stA smA)
structure X where
 Mu:Nat
 Wg:Nat
 Is:Nat
 n:Nat
 bs:Nat->Bool
 base:Nat
 T0:Nat
 B0:Nat
inductive Z where
 |free
 |co (x:X) (k:Nat) (p:P0) (d:Nat)
structure PT where
 P:Program
 tM:TypeId
 tW:TypeId
 tI:TypeId
abbrev X.cy (x:X)(T:PT):Cy:=⟨T.P,x.Mu,x.Wg,x.Is,T.tM,T.tW,T.tI,x.n,x.bs,x.base,x.T0⟩
def ZJ (T:PT)(Φ:Goroutine->af->Prop):Z->Goroutine->af->Prop
 | .free=>ju T.P Φ
 | .co x k p d=>fun g F=>(p= .reg->k=x.n)/\eX (x.cy T) x.B0 (ju T.P Φ) k p d g F
section
variable {T:PT}{Φ:Goroutine->af->Prop}{x:X}{k d:Nat}{p:P0}{ops:Array Oper}{j n:Nat}{Q:Act->af->Z->Prop}{a:Act}{F:af}{o:Oper}{f fi:FuncId}{dt:Option Tmp}
theorem En {c:Cy}:Ev0 c d d #[]:=⟨av,rfl⟩
theorem LB {c:Cy}:Ev0 c d (d+1) #[c8 .disable]:=⟨fun e he=>by simp at he;exact .inl he,rfl⟩
theorem Eo {c:Cy}:Ev0 c (d+1) d #[c8 .enable]:=⟨fun e he=>by simp at he;exact .inr (.inl he),rfl⟩
theorem zF {c:Cy}{ad:Addr}(y:Bool)(h:ad.block=c.Wg):Ev0 c d d #[⟨.cell ad,y,true⟩]:=⟨fun e he=>by simp at he;exact .inr (.inr ⟨ad,h,.inl ⟨y,he⟩⟩),by simp[deafBehind]⟩
theorem Ep {c:Cy}{ad:Addr}(h:ad.block=c.Wg):Ev0 c d d #[⟨.cell ad,false,true⟩,⟨.cell ad,true,true⟩]:=
 ⟨fun e he=>by simp at he;rcases he with he|he<;>exact .inr (.inr ⟨ad,h,.inl ⟨_,he⟩⟩),by simp[deafBehind]⟩
theorem LC {c:Cy}{ad:Addr}(h:ad.block=c.Wg):Ev0 c d d #[c8 (.read ad)]:=⟨fun e he=>by simp at he;exact .inr (.inr ⟨ad,h,.inr (.inl he)⟩),by simp[deafBehind,c8]⟩
theorem LD {c:Cy}{ad:Addr}(h:ad.block=c.Wg):Ev0 c d d #[c8 (.write ad)]:=⟨fun e he=>by simp at he;exact .inr (.inr ⟨ad,h,.inr (.inr he)⟩),by simp[deafBehind,c8]⟩
theorem LF {c:Cy}{ad:Addr}(h:ad.block=c.Wg):Ev0 c d d (semEvents ad):=by
 refine ⟨fun e he=>?_,by simp[deafBehind,semEvents]⟩;simp[semEvents] at he;rcases he with rfl|rfl|rfl|rfl
 .exact .inl rfl
 .exact .inr (.inr ⟨ad,h,.inl ⟨_,rfl⟩⟩)
 .exact .inr (.inr ⟨ad,h,.inl ⟨_,rfl⟩⟩)
 .exact .inr (.inl rfl)
theorem ZJ.eY (T:PT)(Φ:Goroutine->af->Prop)(z:Z):eL T.P true (ZJ T Φ z):=by
 cases z with
 |free=>exact Closed.eY (DX T.P Φ)
 |co x k p d=>
  refine ⟨fun {fr fr' cs cs' F} hs h=>⟨h.1,eX.ze (c:=x.cy T) rfl rfl h.1 fun w s φ e a b=>?_⟩⟩;exact ⟨_,w,#[],s,p,d,hs w,a,.refl _ _,b,En,.inr ei,h.2⟩
theorem ZJ.closed (T:PT)(Φ:Goroutine->af->Prop){z:Z}(b:∀x k d,z≠ .co x k .reg d):Closed T.P true (ZJ T Φ z):=by
 cases z with
 |free=>exact DX T.P Φ
 |co x k p d=>
  have a:p≠ .reg:=fun e=>b x k d (by rw[e]);have hC:=eX.closed (x.cy T) x.B0 (ju T.P Φ) k p d a
  exact ⟨fun hle h=>⟨h.1,hC.mono hle h.2⟩,fun {fr cs F} h=>⟨fun e=>absurd e a,hC.step fun w hw=>by
   obtain ⟨g',w',es,F',k1,c,f,g,i⟩:=h w hw
   exact ⟨g',w',es,F',k1,c,f,g,i.2⟩⟩⟩
theorem lN (z:ops[j]?=some o)(hk:p= .reg->k=x.n)
  (h:∀(w:World) (s:Sh) (φ:Nat->Ph),Has F w->cQ (x.cy T) w s->Inv x.n x.bs k φ p s->
   ∃(v:Value) (w':World) (es:Array Event) (s':Sh) (f:P0) (g:Nat),(∀(b:Frame) (e:List Item) (cs:List Frame),BF fi b->
    stepG T.P true (G (b.at a (.inRegion ops (j::List.range' (j+1) n)::e)) cs) w= .go (G (b.at (a.put o.dst v) (.inRegion ops (List.range' (j+1) n)::e)) cs) w' es)/\cQ (x.cy T) w' s'/\iV (x.cy T) w w'/\Inv x.n x.bs k φ f s'/\Ev0 (x.cy T) d g es/\
    (s'.ms<=s.ms/\s'.ws<=s.ws)/\ak (ZJ T Φ) fi ops (j+1) n Q (a.put o.dst v) F (.co x k f g)):ak (ZJ T Φ) fi ops j (n+1) Q a F (.co x k p d):=fun b e cs hb i=>by
 rw[List.range'_succ,fo hb.round]
 refine ⟨hk,eX.ze (c:=x.cy T) rfl rfl hk fun w s φ e1 e2 l=>?_⟩
 obtain ⟨v,w',es,s',f,g,k1,m,q,r,t,u,y⟩:=h w s φ e1 e2 l
 have:=y b e cs hb i
 rw[fo hb.round] at this
 exact ⟨_,w',es,s',f,g,k1 b e cs hb,m,q,r,t,.inr u,this.2⟩
theorem qp {k:Nat}{φ:Nat->Ph}{p a:P0}{s:Sh}(h:Inv x.n x.bs k φ p s){wg ws:Int}(hw:ee x.n φ a wg ws):Inv x.n x.bs k φ a {s with wg:=wg,ws:=ws}:=⟨h.m,hw,h.i⟩
theorem Er (i:Entry T.P f (fun _=>do mark .disable;pure Extern.Race.none_)){vals:List Value}(l:At ops j a f vals dt)(hk:p= .reg->k=x.n)(c:P0)(m:∀φ wg ws,ee x.n φ p wg ws->ee x.n φ c wg ws)
  (h:ak (ZJ T Φ) fi ops (j+1) n Q (bB a dt (.tuple #[])) F (.co x k c (d+1))):ak (ZJ T Φ) fi ops j (n+1) Q a F (.co x k p d):=by
 obtain ⟨o,cT,dN,e,hg,q,_,rfl⟩:=l
 obtain ⟨fn,f1,f2,f3,f4,f5⟩:=i.ex
 exact lN e hk fun w s φ _ hs g=>⟨.tuple #[],w,_,s,c,d+1,fun b r cs hb=>stepG_mark0 .disable av e (cD hg) hb.kind q f1 f2 f3 f4 f5,hs,.refl _ _,qp g (m _ _ _ g.w),LB,ei,h⟩
theorem Es (e:Entry T.P f (fun _=>do mark .enable;pure Extern.Race.none_)){vals:List Value}(g:At ops j a f vals dt)(hk:p= .reg->k=x.n)
  (h:ak (ZJ T Φ) fi ops (j+1) n Q (bB a dt (.tuple #[])) F (.co x k p d)):ak (ZJ T Φ) fi ops j (n+1) Q a F (.co x k p (d+1)):=by
 obtain ⟨o,cT,dN,c,hg,i,_,rfl⟩:=g
 obtain ⟨fn,f1,f2,f3,f4,f5⟩:=e.ex
 exact lN c hk fun w s φ _ hs l=>⟨.tuple #[],w,_,s,p,d,fun b m cs hb=>stepG_mark0 .enable av c (cD hg) hb.kind i f1 f2 f3 f4 f5,hs,.refl _ _,l,Eo,ei,h⟩
theorem LG (e:Entry T.P f (Extern.Race.marked .read))(g:At ops j a f [.pointer (some (smA x.Wg))] dt)(hk:p= .reg->k=x.n)
  (h:ak (ZJ T Φ) fi ops (j+1) n Q (bB a dt (.tuple #[])) F (.co x k p d)):ak (ZJ T Φ) fi ops j (n+1) Q a F (.co x k p d):=by
 obtain ⟨o,cT,dN,c,hg,i,l,rfl⟩:=g
 obtain ⟨y,rfl,m⟩:=kR l
 obtain ⟨fn,f1,f2,f3,f4,f5⟩:=e.ex
 exact lN c hk fun w s φ _ hs q=>⟨.tuple #[],w,_,s,p,d,fun b r cs hb=>stepG_markAt .read av c (cD hg) hb.kind i f1 f2 f3 f4 f5 (by simp[e7,m]),hs,.refl _ _,q,LC (ad:=smA x.Wg) rfl,ei,h⟩
theorem LH (e:Entry T.P f (Extern.Race.marked .write))(g:At ops j a f [.pointer (some (smA x.Wg))] dt)(hk:p= .reg->k=x.n)
  (h:ak (ZJ T Φ) fi ops (j+1) n Q (bB a dt (.tuple #[])) F (.co x k p d)):ak (ZJ T Φ) fi ops j (n+1) Q a F (.co x k p d):=by
 obtain ⟨o,cT,dN,c,hg,i,l,rfl⟩:=g
 obtain ⟨y,rfl,m⟩:=kR l
 obtain ⟨fn,f1,f2,f3,f4,f5⟩:=e.ex
 exact lN c hk fun w s φ _ hs q=>⟨.tuple #[],w,_,s,p,d,fun b r cs hb=>stepG_markAt .write av c (cD hg) hb.kind i f1 f2 f3 f4 f5 (by simp[e7,m]),hs,.refl _ _,q,LD (ad:=smA x.Wg) rfl,ei,h⟩
theorem vC (ad:Addr){src dst t:TypeId}(hs:T.P.underlying src=some (.pointer t))(hd:T.P.underlying dst=some .unsafePointer)(c:(T.P.info? t).map (fun i=>decide (i.size=0))=some false){y:Operand}
  (l:oo ops j a (.convert src dst y) dt) (hk:p= .reg->k=x.n) (m:ev a y= .pointer (some ad)) (q:∀w s,cQ (x.cy T) w s->∃v,w.cell? ad=some v) (h:ak (ZJ T Φ) fi ops (j+1) n Q (bB a dt (.pointer (some ad))) F (.co x k p d)):ak (ZJ T Φ) fi ops j (n+1) Q a F (.co x k p d):=by
 obtain ⟨o,e,hg,r,rfl⟩:=l
 refine lN e hk fun w s φ _ f u=>⟨_,w,#[],s,p,d,fun b B cs hb=>?_,f,.refl _ _,u,En,ei,h⟩
 obtain ⟨v,g⟩:=q w s f
 have e1:execOp a.eval o=(do pure (.value (<-convert src dst (.pointer (some ad)))):Sem Next):=by
  unfold execOp
  simp only[r,e7,m]
 have z:(execOp a.eval o).run T.P w= .ok (.value (.pointer (some ad))) w:=by
  rw[e1];simp[run_convert_to_unsafe hs hd c g]
 have A:(execOp a.eval o).events T.P w #[]=#[]:=by
  rw[e1];simp[events_convert_to_unsafe hs hd c g]
 rw[stepG_value e (cD hg) hb.kind z]
 unfold listed
 rw[A,seen_none]
theorem LI (i:Entry T.P f (Extern.Atomic.update (Op.intArith .add) .u64 true))(aO:x.Mu≠x.Wg/\x.Mu≠x.Is/\x.Wg≠x.Is)(A:x.n<67108864)(l:At ops j a f [.pointer (some (stA x.Wg)),.int .u64 4294967296] dt)
  (h:∀v:Nat,v<=x.n->ak (ZJ T Φ) fi ops (j+1) n Q (bB a dt (.int .u64 (((v+1:Nat):Int)*4294967296+((0:Nat):Int)))) F (.co x k (.opn 1) d)):ak (ZJ T Φ) fi ops j (n+1) Q a F (.co x k (.opn 0) d):=by
 obtain ⟨o,cT,dN,c,hg,m,p,rfl⟩:=l
 obtain ⟨y,z,rfl,q,r⟩:=sF p
 obtain ⟨fn,f1,f2,f3,f4,f5⟩:=i.ex
 refine lN c (fun e=>by cases e) fun w s φ _ hs g=>?_
 obtain ⟨v,e1,t,hw⟩:=Kp g.w
 have e2:IntKind.u64.wrap (s.wg+4294967296)=((v+1:Nat):Int)*4294967296+((0:Nat):Int):=by
  rw[e1]
  unfold IntKind.wrap
  simp only[IntKind.bits,IntKind.signed,dz]
  simp
  omega
 have u:s.wg+dz=((v+1:Nat):Int)*4294967296+((0:Nat):Int):=by rw[e1];simp only[dz];omega
 rw[u] at hw
 exact ⟨_,_,_,{s with wg:=((v+1:Nat):Int)*4294967296+((0:Nat):Int)},.opn 1,d,fun b B cs hb=>by rw[<-e2];exact stepG_add_atomic c (cD hg) hb.kind m f1 f2 f3 f4 .u64 f5 q r hs.wg.1 hs.wg.2,by rw[<-e2];exact hs.vq aO _,.set _ (.inr (.inl rfl)),qp g hw,Ep rfl,ei,h v t⟩
theorem LJ (i:Entry T.P f (Extern.Atomic.loadT (.int .u64)))(l:At ops j a f [.pointer (some (stA x.Wg))] dt){u:Nat}
  (h:∀v:Nat,v<=u->ak (ZJ T Φ) fi ops (j+1) n Q (bB a dt (.int .u64 ((v:Int)*4294967296+((0:Nat):Int)))) F (.co x k (if v=0 then .fI else .look v) d)):ak (ZJ T Φ) fi ops j (n+1) Q a F (.co x k (.look u) d):=by
 obtain ⟨o,cT,dN,c,hg,m,p,rfl⟩:=l
 obtain ⟨y,rfl,q⟩:=kR p
 obtain ⟨fn,f1,f2,f3,f4,f5⟩:=i.ex
 refine lN c (fun e=>by cases e) fun w s φ _ hs g=>?_
 obtain ⟨v,e1,r,hw⟩:=Ks g.w
 have e2:s.wg=(v:Int)*4294967296+((0:Nat):Int):=by rw[e1];simp only[dz];omega
 exact ⟨_,_,_,s,_,d,fun b t cs hb=>by rw[<-e2];exact stepG_load_atomic c (cD hg) hb.kind m f1 f2 f3 f4 .u64 f5 q hs.wg.1,hs,.refl _ _,qp g hw,zF false rfl,ei,h v r⟩
theorem LK (i:Entry T.P f (Extern.Atomic.loadT (.int .u64)))(l:At ops j a f [.pointer (some (stA x.Wg))] dt)
  (h:ak (ZJ T Φ) fi ops (j+1) n Q (bB a dt (.int .u64 0)) F (.co x k .fI d)):ak (ZJ T Φ) fi ops j (n+1) Q a F (.co x k .fI d):=by
 obtain ⟨o,cT,dN,c,hg,m,p,rfl⟩:=l
 obtain ⟨y,rfl,q⟩:=kR p
 obtain ⟨fn,f1,f2,f3,f4,f5⟩:=i.ex
 refine lN c (fun e=>by cases e) fun w s φ _ hs g=>?_
 have e2:s.wg=0:=(DI g.w).1
 exact ⟨_,_,_,s,_,d,fun b r cs hb=>by rw[<-e2];exact stepG_load_atomic c (cD hg) hb.kind m f1 f2 f3 f4 .u64 f5 q hs.wg.1,hs,.refl _ _,g,zF false rfl,ei,h⟩
theorem LL (q:Entry T.P f (Extern.Atomic.casT (.int .u64)))(aO:x.Mu≠x.Wg/\x.Mu≠x.Is/\x.Wg≠x.Is){v:Nat}(r:0<v)(hk:k=x.n)(t:At ops j a f [.pointer (some (stA x.Wg)),.int .u64 ((v:Int)*4294967296+((0:Nat):Int)),.int .u64 ((v:Int)*4294967296+((0:Nat):Int)+1)] dt)
  (u:ak (ZJ T Φ) fi ops (j+1) n Q (bB a dt (.bool true)) F (.co x k .reg d)) (A:ak (ZJ T Φ) fi ops (j+1) n Q (bB a dt (.bool false)) F (.co x k (.look (v - 1)) d)):ak (ZJ T Φ) fi ops j (n+1) Q a F (.co x k (.look v) d):=by
 obtain ⟨o,cT,dN,g,hg,h,B,rfl⟩:=t
 obtain ⟨y,z,G,rfl,i,l,m⟩:=sG B
 obtain ⟨fn,f1,f2,f3,f4,f5⟩:=q.ex
 refine lN g (fun e=>by cases e) fun w s φ _ hs c=>?_
 by_cases e:s.wg=(v:Int)*4294967296+((0:Nat):Int)
 .have e1:s.wg=(v:Int)*dz:=by rw[e];simp only[dz];omega
  have hw:=c.w
  rw[e1] at hw
  have p:=Kt hw r
  have C:(v:Int)*dz+1=(v:Int)*4294967296+((0:Nat):Int)+1:=by simp only[dz];omega
  rw[C] at p
  exact ⟨.bool true,_,_,{s with wg:=(v:Int)*4294967296+((0:Nat):Int)+1},.reg,d,fun b D cs hb=>stepG_cas_hit g (cD hg) hb.kind h f1 f2 f3 f4 .u64 f5 i l m (by rw[<-e];exact hs.wg.1) hs.wg.2,hs.vq aO _,.set _ (.inr (.inl rfl)),qp c p,Ep rfl,ei,u⟩
 .have e1:s.wg≠(v:Int)*dz:=fun E=>e (by rw[E];simp only[dz];omega)
  exact ⟨.bool false,_,_,s,.look (v - 1),d,fun b D cs hb=>stepG_cas_miss g (cD hg) hb.kind h f1 f2 f3 f4 .u64 f5 i l m hs.wg.1 hs.wg.2 e,hs,.refl _ _,qp c (Ku c.w e1).2,zF false rfl,ei,A⟩
theorem LM (p:Value)(q:Entry T.P f Extern.Sync.semacquire)(aO:x.Mu≠x.Wg/\x.Mu≠x.Is/\x.Wg≠x.Is)(hk:k=x.n)(r:At ops j a f [.pointer (some (smA x.Wg)),p] dt)
  (h:ak (ZJ T Φ) fi ops (j+1) n Q (bB a dt (.tuple #[])) F (.co x k .fI d)):ak (ZJ T Φ) fi ops j (n+1) Q a F (.co x k .reg d):=fun b t cs hb u=>by
 obtain ⟨o,cT,dN,g,hg,i,v,rfl⟩:=r
 obtain ⟨y,z,rfl,l,_⟩:=sF v
 obtain ⟨fn,f1,f2,f3,f4,f5⟩:=q.ex
 rw[List.range'_succ,fo hb.round]
 refine ⟨fun _=>hk,eX.act (c:=x.cy T) rfl rfl (fun _=>⟨hk,fun w s hs e=>?_⟩) fun w s φ e1 hs m A=>?_⟩
 .exact stepG_semacquire_wait g (cD hg) i f1 f2 f3 f4 f5 (ad:=smA x.Wg) (by simp[e7,l]) (by rw[hs.ws.1,e])
 .have e:=A rfl
  obtain ⟨B,C,hw⟩:=Kv m.w e
  have:=h b t cs hb u
  rw[fo hb.round] at this
  exact ⟨_,_,_,{s with ws:=s.ws - 1},.fI,d,stepG_semacquire g (cD hg) hb.kind i f1 f2 f3 f4 f5 (by simp[e7,l]) hs.ws.1 e hs.ws.2,hs.Ef aO _,.set _ (.inr (.inl rfl)),qp m hw,LF rfl,.inr ⟨Int.le_refl _,by simp only;omega⟩,this.2⟩
theorem Et (d:Entry T.P f (Extern.Race.marked .acquire))(hk:k=x.n)(e:At ops j a f [.pointer (some (stA x.Wg))] dt)
  (h:ak (ZJ T Φ) fi ops (j+1) n Q (bB a dt (.tuple #[])) ⟨F.ro,(x.Is,(x.cy T).fin)::F.own⟩ .free):ak (ZJ T Φ) fi ops j (n+1) Q a F (.co x k .fI 0):=fun b g cs hb i=>by
 obtain ⟨o,cT,dN,l,hg,m,p,rfl⟩:=e
 obtain ⟨y,rfl,q⟩:=kR p
 obtain ⟨fn,f1,f2,f3,f4,f5⟩:=d.ex
 rw[List.range'_succ,fo hb.round]
 subst hk
 have:=h b g cs hb i
 rw[fo hb.round] at this
 exact ⟨fun _=>rfl,eX.join (c:=x.cy T) rfl rfl fun w hw=>⟨_,stepG_markAt .acquire av l (cD hg) hb.kind m f1 f2 f3 f4 f5 (by simp[e7,q]),rfl,this⟩⟩
theorem LN (hk:k<x.n){d:Deferred}{fv:Operand}{g:Fn}{caps:Array Value}(i:ops[j]?=some o)(hg:cV ops o a=some true)(f:∀w,(execOp a.eval o).run T.P w= .ok (.spawn d) w/\(execOp a.eval o).events T.P w #[]=#[])(hd:d.target= .fn g caps)
  (hW:Wk (x.cy T) k ⟨.idle,.cnt,false,0⟩ (born T.P d) ⟨F.ro,[]⟩) (h:ak (ZJ T Φ) fi ops (j+1) n Q (bB a o.dst undef) F (.co x (k+1) (.opn 0) 0)):ak (ZJ T Φ) fi ops j (n+1) Q a F (.co x k (.opn 1) 0):=fun b l cs hb m=>by
 rw[List.range'_succ,fo hb.round]
 have:=h b l cs hb m
 rw[fo hb.round] at this
 refine ⟨fun e=>(by cases e),eX.spawn (c:=x.cy T) rfl rfl hk fun w hw=>⟨_,_,?_,hW,rfl,rfl,this.2⟩⟩
 rw[stepG_spawn i (cD hg) hb.kind (f w).1 hd]
 unfold listed
 rw[(f w).2,seen_none]
 rfl
end
section
variable {T:PT}{Φ:Goroutine->af->Prop}{fi f:FuncId}
theorem LO {cd:Code}{Q:Ex->Act->af->Z->Prop}{a:Act}{F:af}(c:af)(Mu Wg Is n:Nat)(bs:Nat->Bool)
  (hle:Le ⟨c.ro,(Mu,muBlock T.tM 0 0)::(Wg,wgBlock T.tW 0 0)::(Is,.cells (List.replicate n (Value.bool false)).toArray T.tI)::c.own⟩ F)
  (h:∀base B0 T0,0<base->(Mu≠Wg/\Mu≠Is/\Wg≠Is)->dg (ZJ T Φ) fi cd Q a c (.co ⟨Mu,Wg,Is,n,bs,base,T0,B0⟩ 0 (.opn 0) 0)):dg (ZJ T Φ) fi cd Q a F .free:=fun b k cs hb hk=>
 ju.found bs rfl rfl hle fun base B0 T0 d aO=>(h base B0 T0 d aO b k cs hb hk).2
theorem LP (j:Entry T.P f (fun _=>do mark .enable;pure Extern.Race.none_)){x:X}{k d:Nat}{p:P0}{F:af}(hk:p= .reg->k=x.n){b:Frame}{a:Act}{todo:List Item}{cs:List Frame}{e:List Deferred}(l:a.defers=dcall f #[]::e)
  (h:ZJ T Φ (.co x k p d) (G {b.at ⟨a.tmps,e⟩ todo with mode:=.returning} cs) F):ZJ T Φ (.co x k p (d+1)) (G {b.at a todo with mode:=.returning} cs) F:=by
 obtain ⟨fn,f1,f2,f3,f4,f5⟩:=j.ex
 refine ⟨hk,eX.ze (c:=x.cy T) rfl rfl hk fun w s φ e1 hs m=>⟨_,w,#[c8 .enable],s,p,d,?_,hs,.refl _ _,m,Eo,.inr ei,h.2⟩⟩
 exact stepG_unwind_entry (v:=.tuple #[]) l f1 f2 f3 f4 f5 (by simp[Extern.Race.none_]) (by simp[c8]) (by
  intro y i
  simp[c8] at i
  subst i
  exact ⟨rfl,fun g h=>by cases h⟩)
def zG (f:FuncId)(R:Value->af->Z->Prop):Ex->Act->af->Z->Prop
 | .exit _,_,_,_=>False
 |_,a,F,z=>a.defers=[dcall f #[]]/\∃x k p d,(p= .reg->k=x.n)/\z= .co x k p (d+1)/\R (.tuple #[]) F (.co x k p d)
theorem c6.LQ {f0:FuncId}(q:Entry T.P f (fun _=>do mark .enable;pure Extern.Race.none_)){fn:Func}{cd:Code}{n:Nat}{args:Array Value}{R:Value->af->Z->Prop}{F:af}{z:Z}(l:T.P.funcs[f0]?=some fn)(hb:fn.body=some cd)(m:fn.results=#[])(o:fn.ntmps=n)(y:args.size<=n)
  (h:∀A:Act,sz A=n->A.defers=[]->(∀i,slot A i=args.getD i undef)->dg (ZJ T Φ) f0 cd (zG f R) A F z):c6 T.P (ZJ T Φ) f0 args F z R:=by
 intro g cs r
 let b:Frame:={(default:Frame) with fn:=f0,kind:=.normal}
 have s:b.roundOf=none:=rfl
 have t:Frame.enter T.P f0 args .normal=on b {tmps:=args++Array.replicate (fn.ntmps - args.size) undef,defers:=[]} [.code cd]:=by
  simp[Frame.enter,on,l,hb,b]
  rfl
 rw[t]
 have hM:=ZJ.eY T Φ
 have leave:∀(c:Act) (todo:List Item) F' (a:Z),(c.defers=[dcall f #[]]/\∃x k p d,(p= .reg->k=x.n)/\a= .co x k p (d+1)/\R (.tuple #[]) F' (.co x k p d))->ZJ T Φ a (G {on b c todo with mode:=.returning} (g::cs)) F':=by
  intro c todo F' a ⟨hd,x,k,p,d,hk,u,v⟩
  subst u
  rw[fo s]
  refine LP q hk hd ((hM _).move (fr':=g.finish (.tuple #[])) (cs':=cs) (fun w=>?_) (r _ F' _ v))
  exact stepG_leave rfl rfl l (results_none m _ T.P w) (events_results_none m _ _)
 refine h _ (by simp[sz,o];omega) rfl (fun i=>?_) b [] (g::cs) ⟨by simp[b],rfl,rfl⟩ fun e c F' a j=>?_
 .simp only[slot,o,Array.getD_eq_getD_getElem?]
  rcases Nat.lt_or_ge i args.size with hi|hi
  .rw[Array.getElem?_append_left hi]
  .rw[Array.getElem?_append_right hi,Array.getElem?_replicate,Array.getElem?_eq_none hi]
   split<;>rfl
 .cases e with
  |normal=>exact (hM a).move (fun _=>mP rfl) (leave c _ F' a j)
  |exit i=>exact j.elim
  |ret=>exact fun B=>(hM a).move (fun _=>stepG_ret' rfl) (leave c _ F' a j)
theorem gz.LR {args:Array Value}{ro:Addr->Option Value}{R:Value->af->Prop}(h:∀Φ,c6 T.P (ZJ T Φ) f args ⟨ro,[]⟩ .free (fun v F' z=>z= .free/\R v F')):gz T.P f args ⟨ro,[]⟩ R:=
 gz.KP fun Φ c cs hK=>h Φ c cs fun v F' z ⟨a,b⟩=>by subst a;exact hK v F' b
end
end Go.Sep
end
section
namespace Go.Proofs.YtbpddfapodiemaaGreatDoor
open Go Go.Sep Go.Proofs Go.Conc
open Go.ConcN (upd upd_same)
open Go.ConcM (muA msA)
open Go.ConcR (stA smA)
set_option maxRecDepth 100000
set_option maxHeartbeats 4000000
attribute [local go_sem] Int.reduceBEq Int.reduceBNe muA msA stA smA
noncomputable abbrev TT:PT:=⟨Tryz.prog,179,186,4⟩
theorem LS {f:FuncId}{R:Value->af->Z->Prop}{a:Act}{F:af}{x:X}{k d:Nat}{p:P0}(hd:a.defers=[dcall f #[]])(hk:p= .reg->k=x.n)(b:R (.tuple #[]) F (.co x k p d)):zG f R .ret a F (.co x k p (d+1)):=⟨hd,x,k,p,d,hk,rfl,b⟩
section
variable {Φ:Goroutine->af->Prop}{x:X}{F:af}{k:Nat}
theorem Eu (w:World)(s:Sh)(h:cQ (x.cy TT) w s):∃v,w.cell? ⟨x.Wg,0,none⟩=some v:=⟨_,h.wg.1⟩
theorem Ev (w:World)(s:Sh)(h:cQ (x.cy TT) w s):∃v,w.cell? ⟨x.Wg,1,none⟩=some v:=⟨_,h.ws.1⟩
theorem LU (aO:x.Mu≠x.Wg/\x.Mu≠x.Is/\x.Wg≠x.Is)(a:x.n<67108864):
  c6 Tryz.prog (ZJ TT Φ) 158 #[.pointer (some (stA x.Wg)),.int .u64 4294967296] F (.co x k (.opn 0) 1)
   (fun r F' b=>F'=F/\∃v:Nat,v<=x.n/\r= .int .u64 (((v+1:Nat):Int)*4294967296+((0:Nat):Int))/\b= .co x k (.opn 1) 1):=by
 have hM:=ZJ.eY TT Φ
 have hJ:True:=trivial
 refine c6.go (main:=true) hM Tryz.func158 rfl Tryz.ntmps158 av fun A d hd hs=>?_
 have e:=hs 0
 have k1:=hs 1
 clear hs
 repeat apply aM (hM _)
 refine bC hM fun K hK=>?_
 refine ak.pure (hM _) 1 (n:=0) _ rfl rfl ?_;simp only[*,go_sem,-hK,-hM]
 refine ak.nil hM (hK _ _ _ ?_);clear hK K
 repeat apply aM (hM _)
 refine bC hM fun K hK=>?_
 refine ak.pure (hM _) 4 (n:=2) _ rfl rfl ?_;simp only[*,go_sem,-hK,-hM]
 refine LI D8 aO a ⟨_,_,_,rfl,cH,rfl,ej,rfl⟩ fun v c=>?_
 refine ak.pure (hM _) 1 (n:=0) _ rfl rfl ?_;simp only[*,go_sem,-hK,-hM]
 refine ak.nil hM (hK _ _ _ ?_);clear hK K
 exact gk (mI rfl aC aC ⟨rfl,v,c,rfl,rfl⟩).2
theorem LV {u:Nat}:
  c6 Tryz.prog (ZJ TT Φ) 160 #[.pointer (some (stA x.Wg))] F (.co x k (.look u) 1)
   (fun r F' a=>F'=F/\∃v:Nat,v<=u/\r= .int .u64 ((v:Int)*4294967296+((0:Nat):Int))/\a= .co x k (if v=0 then .fI else .look v) 1):=by
 have hM:=ZJ.eY TT Φ
 have hJ:True:=trivial
 refine c6.go (main:=true) hM Tryz.func160 rfl Tryz.ntmps160 av fun A c hd hs=>?_
 have d:=hs 0
 clear hs
 repeat apply aM (hM _)
 refine bC hM fun K hK=>?_
 refine ak.pure (hM _) 1 (n:=0) _ rfl rfl ?_;simp only[*,go_sem,-hK,-hM]
 refine ak.nil hM (hK _ _ _ ?_);clear hK K
 repeat apply aM (hM _)
 refine bC hM fun K hK=>?_
 refine ak.pure (hM _) 3 (n:=2) _ rfl rfl ?_;simp only[*,go_sem,-hK,-hM]
 refine LJ zj ⟨_,_,_,rfl,cH,rfl,ej,rfl⟩ fun v b=>?_
 refine ak.pure (hM _) 1 (n:=0) _ rfl rfl ?_;simp only[*,go_sem,-hK,-hM]
 refine ak.nil hM (hK _ _ _ ?_);clear hK K
 exact gk (mI rfl aC aC ⟨rfl,v,b,rfl,rfl⟩).2
theorem LW:
  c6 Tryz.prog (ZJ TT Φ) 160 #[.pointer (some (stA x.Wg))] F (.co x k .fI 1)
   (fun r F' a=>F'=F/\r= .int .u64 0/\a= .co x k .fI 1):=by
 have hM:=ZJ.eY TT Φ
 have hJ:True:=trivial
 refine c6.go (main:=true) hM Tryz.func160 rfl Tryz.ntmps160 av fun A b hd hs=>?_
 have c:=hs 0
 clear hs
 repeat apply aM (hM _)
 refine bC hM fun K hK=>?_
 refine ak.pure (hM _) 1 (n:=0) _ rfl rfl ?_;simp only[*,go_sem,-hK,-hM]
 refine ak.nil hM (hK _ _ _ ?_);clear hK K
 repeat apply aM (hM _)
 refine bC hM fun K hK=>?_
 refine ak.pure (hM _) 3 (n:=2) _ rfl rfl ?_;simp only[*,go_sem,-hK,-hM]
 refine LK zj ⟨_,_,_,rfl,cH,rfl,ej,rfl⟩ ?_
 refine ak.pure (hM _) 1 (n:=0) _ rfl rfl ?_;simp only[*,go_sem,-hK,-hM]
 refine ak.nil hM (hK _ _ _ ?_);clear hK K
 exact gk (mI rfl aC aC ⟨rfl,rfl,rfl⟩).2
theorem LX (aO:x.Mu≠x.Wg/\x.Mu≠x.Is/\x.Wg≠x.Is){v:Nat}(b:0<v):
  c6 Tryz.prog (ZJ TT Φ) 169 #[.pointer (some (stA x.Wg)),.int .u64 ((v:Int)*4294967296+((0:Nat):Int)),.int .u64 ((v:Int)*4294967296+((0:Nat):Int)+1)] F (.co x x.n (.look v) 1)
   (fun r F' a=>F'=F/\((r= .bool true/\a= .co x x.n .reg 1)\/(r= .bool false/\a= .co x x.n (.look (v - 1)) 1))):=by
 have hM:=ZJ.eY TT Φ
 have hJ:True:=trivial
 refine c6.go (main:=true) hM Tryz.func169 rfl Tryz.ntmps169 av fun A c hd hs=>?_
 have d:=hs 0
 have k1:=hs 1
 have e:=hs 2
 clear hs
 repeat apply aM (hM _)
 refine bC hM fun K hK=>?_
 refine ak.pure (hM _) 1 (n:=0) _ rfl rfl ?_;simp only[*,go_sem,-hK,-hM]
 refine ak.nil hM (hK _ _ _ ?_);clear hK K
 repeat apply aM (hM _)
 refine bC hM fun K hK=>?_
 refine ak.pure (hM _) 5 (n:=2) _ rfl rfl ?_;simp only[*,go_sem,-hK,-hM]
 refine LL KT aO b rfl ⟨_,_,_,rfl,cH,rfl,ej,rfl⟩ ?_ ?_
 .refine ak.pure (hM _) 1 (n:=0) _ rfl rfl ?_;simp only[*,go_sem,-hK,-hM]
  refine ak.nil hM (hK _ _ _ ?_);clear hK K
  exact gk (mI rfl aC aC ⟨rfl,.inl ⟨rfl,rfl⟩⟩).2
 .refine ak.pure (hM _) 1 (n:=0) _ rfl rfl ?_;simp only[*,go_sem,-hK,-hM]
  refine ak.nil hM (hK _ _ _ ?_);clear hK K
  exact gk (mI rfl aC aC ⟨rfl,.inr ⟨rfl,rfl⟩⟩).2
end
attribute [local go_sem] Int.reduceBEq Int.reduceBNe muA msA stA smA
def LY (Wg:Nat)(F:af)(z:Z)(v:Int)(a:Act)(F':af)(b:Z):Prop:=
 F'=F/\slot a 1= .int .i64 1/\slot a 7= .int .i32 v/\slot a 8= .int .u32 0/\sz a=117/\a.defers=[dcall 153 #[]]/\b=z
section
variable {Φ:Goroutine->af->Prop}{x:X}{F:af}{k:Nat}
theorem LZ (aO:x.Mu≠x.Wg/\x.Mu≠x.Is/\x.Wg≠x.Is)(l:x.n<67108864):
  c6 Tryz.prog (ZJ TT Φ) 126 #[.pointer (some (stA x.Wg)),.int .i64 1] F (.co x k (.opn 0) 0)
   (fun r F' d=>r= .tuple #[]/\F'=F/\d= .co x k (.opn 1) 0):=by
 have hM:=ZJ.eY TT Φ
 have hJ:True:=trivial
 refine c6.LQ mJ Tryz.func126 rfl rfl Tryz.ntmps126 av fun A f hd hs=>?_
 have m:=hs 0
 have k1:=hs 1
 clear hs
 have c1:decide ((1:Int)<0)=false:=aD
 have c2:decide ((1:Int)>0)=true:=aD
 repeat apply aM (hM _)
 refine dB (hM _) aC ?_
 repeat apply aM (hM _)
 refine bC hM fun K hK=>?_
 refine ak.pure (hM _) 2 (n:=0) _ rfl rfl ?_;simp only[*,go_sem,-hK,-hM]
 refine ak.nil hM (hK _ _ _ ?_);clear hK K
 repeat apply aM (hM _)
 refine cX (hM _) aC ?_
 apply c7 (hM _)
 repeat apply aM (hM _)
 refine bC hM fun K hK=>?_
 refine Er sE ⟨_,_,_,rfl,cH,rfl,ej,rfl⟩ (fun e=>by cases e) (.opn 0) (fun _ _ _ h=>h) ?_
 refine ak.nil hM (hK _ _ _ ?_);clear hK K
 repeat apply aM (hM _)
 refine bC hM fun K hK=>?_
 refine ak.defer (hM _) rfl cH rfl rfl (by simp;rfl) fun b e1 e2 g=>?_
 have l0:slot b 0= .pointer (some ⟨x.Wg,0,none⟩):=(e1 0).trans aC
 have i:slot b 1= .int .i64 1:=(e1 1).trans aC
 replace f:sz b=117:=e2.trans aC
 replace hd:b.defers=[dcall 153 #[]]:=g.trans aC
 clear e1 e2 g m k1
 refine ak.nil hM (hK _ _ _ ?_);clear hK K
 repeat apply aM (hM _)
 refine bC hM fun K hK=>?_
 refine ak.pure (hM _) 1 (n:=0) _ rfl rfl ?_;simp only[*,go_sem,-hK,-hM]
 refine ak.nil hM (hK _ _ _ ?_);clear hK K
 repeat apply aM (hM _)
 refine bC hM fun K hK=>?_
 refine ak.entry (.bool false) (hM _) D9 ⟨_,_,_,rfl,cH,rfl,ej,rfl⟩ ?_
 refine ak.nil hM (hK _ _ _ ?_);clear hK K
 repeat apply aM (hM _)
 refine cX (hM _) aC ?_
 apply c7 (hM _)
 have w1:IntKind.u64.wrap 1=1:=aD
 have w2:IntKind.u64.wrap (1*2 ^ min 32 64)=4294967296:=aD
 repeat apply aM (hM _)
 refine bC hM fun K hK=>?_
 refine ak.pure (hM _) 6 (n:=2) _ rfl rfl ?_;simp only[*,go_sem,-hK,-hM]
 refine ak.gW (hM _) rfl cH rfl Bg er (LU aO l) fun r F' aX o=>?_
 obtain ⟨rfl,v,p,rfl,rfl⟩:=o
 obtain ⟨y,a⟩:∃y:Int,y=((v+1:Nat):Int)*4294967296+((0:Nat):Int):=⟨_,rfl⟩
 rw[<-a]
 have a1:jb y 2147483648=0:=by show lM y 2147483648=0;rw[a];exact zC (v+1) 0 aa aa
 have a2:jb y 2147483647=0:=by show lM y 2147483647=0;rw[a];exact zD (v+1) 0 aa aa
 obtain ⟨V,j⟩:∃V:Int,V=((v+1:Nat):Int):=⟨_,rfl⟩
 have a3:y.fdiv (2 ^ min 32 64)=V:=by rw[a,j];exact zE (v+1) 0 aa
 have a4:IntKind.i32.wrap V=V:=jq aa aa
 have a5:IntKind.u32.wrap 0=0:=aD
 have t:IntKind.i32.wrap 1=1:=aD
 have c3:decide (V<0)=false:=by simp;omega
 have c4:decide (V>0)=true:=by simp;omega
 have c:(V==1)=true\/(V==1)=false:=by cases (V==1)<;>simp
 clear a j p
 refine ak.pure (hM _) 1 (n:=0) _ rfl rfl ?_;simp only[*,go_sem,-hK,-hM]
 refine ak.nil hM (hK _ _ _ ?_);clear hK K
 repeat apply aM (hM _)
 refine bC hM fun K hK=>?_
 refine ak.pure (hM _) 7 (n:=0) _ rfl rfl ?_;simp only[*,go_sem,-hK,-hM]
 refine ak.nil hM (hK _ _ _ ?_);clear hK K
 repeat apply aM (hM _)
 refine cX (hM _) aC ?_
 apply c7 (hM _)
 repeat apply aM (hM _)
 refine bC hM fun K hK=>?_
 refine ak.pure (hM _) 4 (n:=0) _ rfl rfl ?_;simp only[*,go_sem,-hK,-hM]
 refine ak.nil hM (hK _ _ _ ?_);clear hK K
 repeat apply aM (hM _)
 refine bC hM fun K hK=>?_
 refine ak.pure (hM _) 4 (n:=0) _ rfl rfl ?_;simp only[*,go_sem,-hK,-hM]
 refine ak.nil hM (hK _ _ _ ?_);clear hK K
 repeat apply aM (hM _)
 refine bC hM fun K hK=>?_
 refine ak.pure (hM _) 10 (n:=0) _ rfl rfl ?_;simp only[*,go_sem,-hK,-hM]
 refine ak.nil hM (hK _ _ _ ?_);clear hK K
 repeat apply aM (hM _)
 refine vw hM (LY x.Wg F' (.co x k (.opn 1) 1) V) ?_ ?_
 .rcases c with c|c
  .repeat apply aM (hM _)
   refine dB (hM _) aC ?_
   repeat apply aM (hM _)
   refine bC hM fun K hK=>?_
   refine ak.pure (hM _) 3 (n:=2) _ rfl rfl ?_;simp only[*,go_sem,-hK,-hM]
   refine vC ⟨x.Wg,1,none⟩ Ea mK Eb ⟨_,rfl,cH,rfl,rfl⟩ (fun e=>by cases e) er Ev ?_
   refine LG KV ⟨_,_,_,rfl,cH,rfl,ej,rfl⟩ (fun e=>by cases e) ?_
   refine ak.nil hM (hK _ _ _ ?_);clear hK K
   exact e6 ⟨rfl,aC,aC,aC,aC,aC,rfl⟩
  .repeat apply aM (hM _)
   refine cX (hM _) aC ?_
   apply c7 (hM _)
   exact e6 ⟨rfl,aC,aC,aC,aC,aC,rfl⟩
 clear c l0 i f hd a1 a2 a3
 rintro A q u ⟨rfl,i,w,z,f,hd,rfl⟩
 repeat apply aM (hM _)
 refine bC hM fun K hK=>?_
 refine ak.pure (hM _) 2 (n:=0) _ rfl rfl ?_;simp only[*,go_sem,-hK,-hM]
 refine ak.nil hM (hK _ _ _ ?_);clear hK K
 repeat apply aM (hM _)
 refine cX (hM _) aC ?_
 apply c7 (hM _)
 repeat apply aM (hM _)
 refine bC hM fun K hK=>?_
 refine ak.pure (hM _) 12 (n:=0) _ rfl rfl ?_;simp only[*,go_sem,-hK,-hM]
 refine ak.nil hM (hK _ _ _ ?_);clear hK K
 repeat apply aM (hM _)
 refine cX (hM _) aC ?_
 apply c7 (hM _)
 repeat apply aM (hM _)
 refine bC hM fun K hK=>?_
 refine ak.pure (hM _) 6 (n:=0) _ rfl rfl ?_;simp only[*,go_sem,-hK,-hM]
 refine ak.nil hM (hK _ _ _ ?_);clear hK K
 repeat apply aM (hM _)
 refine dB (hM _) aC ?_
 exact gk (show zG 153 (fun r s d=>r= .tuple #[]/\s=q/\d= .co x k (.opn 1) 0) .ret _ _ _ from LS aC (fun e=>by cases e) ⟨rfl,rfl,rfl⟩)
end
attribute [local go_sem] Int.reduceBEq Int.reduceBNe muA msA stA smA
def Ew (x:X)(F:af)(m:Nat)(a:Act)(F':af)(z:Z):Prop:=
 ∃u:Nat,u<=m/\u<=x.n/\F'=F/\slot a 0= .pointer (some ⟨x.Wg,0,none⟩)/\sz a=84/\a.defers=[]/\z= .co x x.n (.look u) 1
section
variable {Φ:Goroutine->af->Prop}{x:X}{F:af}{k:Nat}
theorem L0 (aO:x.Mu≠x.Wg/\x.Mu≠x.Is/\x.Wg≠x.Is)(t:x.n<67108864):
  c6 Tryz.prog (ZJ TT Φ) 133 #[.pointer (some (stA x.Wg))] F (.co x x.n (.opn 0) 0)
   (fun r F' b=>r= .tuple #[]/\F'=⟨F.ro,(x.Is,(x.cy TT).fin)::F.own⟩/\b= .free):=by
 have hM:=ZJ.eY TT Φ
 have hJ:True:=trivial
 refine c6.go (main:=true) hM Tryz.func133 rfl Tryz.ntmps133 av fun A k hd hs=>?_
 have l:=hs 0
 clear hs
 repeat apply aM (hM _)
 refine dB (hM _) aC ?_
 repeat apply aM (hM _)
 refine bC hM fun K hK=>?_
 refine Er sE ⟨_,_,_,rfl,cH,rfl,ej,rfl⟩ (fun e=>by cases e) (.look x.n) (fun _ _ _ h=>Kr h) ?_
 refine ak.nil hM (hK _ _ _ ?_);clear hK K
 repeat apply aM (hM _)
 refine kP hM ?_
 refine sD hM (Ew x F) x.n ?_ ?_
 .exact ⟨x.n,Nat.le_refl _,Nat.le_refl _,rfl,aC,aC,aC,rfl⟩
 .clear k hd l
  rintro m A F' b ⟨u,w,z,rfl,l,k,hd,rfl⟩
  repeat apply aM (hM _)
  refine kP hM ?_
  repeat apply aM (hM _)
  refine bC hM fun K hK=>?_
  refine ak.pure (hM _) 3 (n:=2) _ rfl rfl ?_;simp only[*,go_sem,-hK,-hM]
  refine ak.gW (hM _) rfl cH rfl wU er LV fun r i B c=>?_
  obtain ⟨rfl,v,q,rfl,rfl⟩:=c
  obtain ⟨y,a⟩:∃y:Int,y=(v:Int)*4294967296+((0:Nat):Int):=⟨_,rfl⟩
  rw[<-a]
  have a1:jb y 2147483648=0:=by show lM y 2147483648=0;rw[a];exact zC v 0 aa aa
  have a2:jb y 2147483647=0:=by show lM y 2147483647=0;rw[a];exact zD v 0 aa aa
  obtain ⟨V,f⟩:∃V:Int,V=(v:Int):=⟨_,rfl⟩
  have a3:y.fdiv (2 ^ min 32 64)=V:=by rw[a,f];exact zE v 0 aa
  have a4:IntKind.i32.wrap V=V:=jq aa aa
  have a5:IntKind.u32.wrap 0=0:=aD
  have C:IntKind.u64.wrap (y+1)=y+1:=by
   unfold IntKind.wrap
   simp only[IntKind.bits,IntKind.signed]
   simp
   omega
  by_cases g:v=0
  ·
   have c1:(V==0)=true:=by rw[f,g];rfl
   have d:(if v=0 then P0.fI else .look v)= .fI:=if_pos g
   rw[d]
   clear d a f q g
   refine ak.pure (hM _) 1 (n:=0) _ rfl rfl ?_;simp only[*,go_sem,-hK,-hM]
   refine ak.nil hM (hK _ _ _ ?_);clear hK K
   repeat apply aM (hM _)
   refine bC hM fun K hK=>?_
   refine ak.pure (hM _) 4 (n:=0) _ rfl rfl ?_;simp only[*,go_sem,-hK,-hM]
   refine ak.nil hM (hK _ _ _ ?_);clear hK K
   repeat apply aM (hM _)
   refine bC hM fun K hK=>?_
   refine ak.pure (hM _) 4 (n:=0) _ rfl rfl ?_;simp only[*,go_sem,-hK,-hM]
   refine ak.nil hM (hK _ _ _ ?_);clear hK K
   repeat apply aM (hM _)
   refine bC hM fun K hK=>?_
   refine ak.pure (hM _) 2 (n:=0) _ rfl rfl ?_;simp only[*,go_sem,-hK,-hM]
   refine ak.nil hM (hK _ _ _ ?_);clear hK K
   repeat apply aM (hM _)
   refine dB (hM _) aC ?_
   repeat apply aM (hM _)
   refine dB (hM _) aC ?_
   repeat apply aM (hM _)
   refine bC hM fun K hK=>?_
   refine Es mJ ⟨_,_,_,rfl,cH,rfl,ej,rfl⟩ (fun e=>by cases e) ?_
   refine ak.nil hM (hK _ _ _ ?_);clear hK K
   repeat apply aM (hM _)
   refine bC hM fun K hK=>?_
   refine ak.pure (hM _) 1 (n:=2) _ rfl rfl ?_;simp only[*,go_sem,-hK,-hM]
   refine vC ⟨x.Wg,0,none⟩ zl mK zn ⟨_,rfl,cH,rfl,rfl⟩ (fun e=>by cases e) er Eu ?_
   refine Et vn rfl ⟨_,_,_,rfl,cH,rfl,ej,rfl⟩ ?_
   refine ak.nil hM (hK _ _ _ ?_);clear hK K
   repeat apply aM (hM _)
   refine bC hM fun K hK=>?_
   refine ak.pure (hM _) 11 (n:=0) _ rfl rfl ?_;simp only[*,go_sem,-hK,-hM]
   refine ak.nil hM (hK _ _ _ ?_);clear hK K
   repeat apply aM (hM _)
   refine cX (hM _) aC ?_
   apply c7 (hM _)
   exact gk (show kQ Tryz.prog Tryz.f133 (fun (r:Value) (F':af) (b:Z)=>r= .tuple #[]/\F'=⟨i.ro,(x.Is,(x.cy TT).fin)::i.own⟩/\b=Z.free) .ret _ _ _ from qj rfl aC ⟨rfl,rfl,rfl⟩)
  .have c1:(V==0)=false:=by simp;omega
   have d:(if v=0 then P0.fI else .look v)= .look v:=if_neg g
   rw[d]
   have j:=LX (Φ:=Φ) (F:=i) aO (v:=v) aa
   rw[<-a] at j
   clear d a f
   refine ak.pure (hM _) 1 (n:=0) _ rfl rfl ?_;simp only[*,go_sem,-hK,-hM]
   refine ak.nil hM (hK _ _ _ ?_);clear hK K
   repeat apply aM (hM _)
   refine bC hM fun K hK=>?_
   refine ak.pure (hM _) 4 (n:=0) _ rfl rfl ?_;simp only[*,go_sem,-hK,-hM]
   refine ak.nil hM (hK _ _ _ ?_);clear hK K
   repeat apply aM (hM _)
   refine bC hM fun K hK=>?_
   refine ak.pure (hM _) 4 (n:=0) _ rfl rfl ?_;simp only[*,go_sem,-hK,-hM]
   refine ak.nil hM (hK _ _ _ ?_);clear hK K
   repeat apply aM (hM _)
   refine bC hM fun K hK=>?_
   refine ak.pure (hM _) 2 (n:=0) _ rfl rfl ?_;simp only[*,go_sem,-hK,-hM]
   refine ak.nil hM (hK _ _ _ ?_);clear hK K
   repeat apply aM (hM _)
   refine cX (hM _) aC ?_
   apply c7 (hM _)
   repeat apply aM (hM _)
   refine bC hM fun K hK=>?_
   refine ak.pure (hM _) 6 (n:=1) _ rfl rfl ?_;simp only[*,go_sem,-hK,-hM]
   refine ak.gW (hM _) rfl cH rfl GN er j fun r s D c=>?_
   clear j
   obtain ⟨rfl,⟨rfl,rfl⟩|⟨rfl,rfl⟩⟩:=c
   ·
    refine ak.nil hM (hK _ _ _ ?_);clear hK K
    repeat apply aM (hM _)
    refine dB (hM _) aC ?_
    repeat apply aM (hM _)
    refine bC hM fun K hK=>?_
    refine ak.pure (hM _) 4 (n:=0) _ rfl rfl ?_;simp only[*,go_sem,-hK,-hM]
    refine ak.nil hM (hK _ _ _ ?_);clear hK K
    repeat apply aM (hM _)
    refine dB (hM _) aC ?_
    repeat apply aM (hM _)
    refine bC hM fun K hK=>?_
    refine ak.pure (hM _) 3 (n:=2) _ rfl rfl ?_;simp only[*,go_sem,-hK,-hM]
    refine vC ⟨x.Wg,1,none⟩ Ea mK Eb ⟨_,rfl,cH,rfl,rfl⟩ (fun _=>rfl) er Ev ?_
    refine LH KW ⟨_,_,_,rfl,cH,rfl,ej,rfl⟩ (fun _=>rfl) ?_
    refine ak.nil hM (hK _ _ _ ?_);clear hK K
    repeat apply aM (hM _)
    refine bC hM fun K hK=>?_
    refine ak.pure (hM _) 1 (n:=0) _ rfl rfl ?_;simp only[*,go_sem,-hK,-hM]
    refine ak.nil hM (hK _ _ _ ?_);clear hK K
    repeat apply aM (hM _)
    refine bC hM fun K hK=>?_
    refine ak.pure (hM _) 6 (n:=0) _ rfl rfl ?_;simp only[*,go_sem,-hK,-hM]
    refine ak.nil hM (hK _ _ _ ?_);clear hK K
    repeat apply aM (hM _)
    refine cX (hM _) aC ?_
    apply c7 (hM _)
    repeat apply aM (hM _)
    refine bC hM fun K hK=>?_
    refine ak.pure (hM _) 4 (n:=1) _ rfl rfl ?_;simp only[*,go_sem,-hK,-hM]
    refine LM (.bool false) KX aO rfl ⟨_,_,_,rfl,cH,rfl,ej,rfl⟩ ?_
    refine ak.nil hM (hK _ _ _ ?_);clear hK K
    repeat apply aM (hM _)
    refine bC hM fun K hK=>?_
    refine ak.pure (hM _) 3 (n:=3) _ rfl rfl ?_;simp only[*,go_sem,-hK,-hM]
    refine ak.gW (hM _) rfl cH rfl wU er LW fun r o E c=>?_
    obtain ⟨rfl,rfl,rfl⟩:=c
    refine ak.pure (hM _) 2 (n:=0) _ rfl rfl ?_;simp only[*,go_sem,-hK,-hM]
    refine ak.nil hM (hK _ _ _ ?_);clear hK K
    repeat apply aM (hM _)
    refine dB (hM _) aC ?_
    repeat apply aM (hM _)
    refine bC hM fun K hK=>?_
    refine Es mJ ⟨_,_,_,rfl,cH,rfl,ej,rfl⟩ (fun e=>by cases e) ?_
    refine ak.nil hM (hK _ _ _ ?_);clear hK K
    repeat apply aM (hM _)
    refine bC hM fun K hK=>?_
    refine ak.pure (hM _) 1 (n:=2) _ rfl rfl ?_;simp only[*,go_sem,-hK,-hM]
    refine vC ⟨x.Wg,0,none⟩ zl mK zn ⟨_,rfl,cH,rfl,rfl⟩ (fun e=>by cases e) er Eu ?_
    refine Et vn rfl ⟨_,_,_,rfl,cH,rfl,ej,rfl⟩ ?_
    refine ak.nil hM (hK _ _ _ ?_);clear hK K
    repeat apply aM (hM _)
    refine bC hM fun K hK=>?_
    refine ak.pure (hM _) 1 (n:=0) _ rfl rfl ?_;simp only[*,go_sem,-hK,-hM]
    refine ak.nil hM (hK _ _ _ ?_);clear hK K
    repeat apply aM (hM _)
    refine cX (hM _) aC ?_
    apply c7 (hM _)
    exact gk (show kQ Tryz.prog Tryz.f133 (fun (r:Value) (F':af) (b:Z)=>r= .tuple #[]/\F'=⟨o.ro,(x.Is,(x.cy TT).fin)::o.own⟩/\b=Z.free) .ret _ _ _ from qj rfl aC ⟨rfl,rfl,rfl⟩)
   ·
    refine ak.nil hM (hK _ _ _ ?_);clear hK K
    repeat apply aM (hM _)
    refine cX (hM _) aC ?_
    apply c7 (hM _)
    change ∃p,p<m/\Ew x s p _ _ _
    exact ⟨v - 1,aa,v - 1,Nat.le_refl _,aa,rfl,aC,aC,aC,rfl⟩
end
end Go.Proofs.YtbpddfapodiemaaGreatDoor
end
section
namespace Go.Sep
open Go Go.Conc
variable {P:Program}
theorem L1 {t e:TypeId}{i:TypeInfo}{n:Nat}{R:Value->af->Prop}{F:af}(hu:P.underlying t=some (.slice e))(hi:P.info? e=some i)(hb:i.bytes=1)(hs:cv P e=some 1)(d:zeroOf P e=some (.bool false))(g:n<1048576)
  (h:∀b,eD F b->R (.slice (some ⟨b,0,none⟩) n n) (F.push b (.cells (List.replicate n (Value.bool false)).toArray e))):fK P (Instr.makeSlice t (.int .i64 n) (.int .i64 n)) R F:=by
 unfold fK
 have hw:IntKind.i64.wrap (n:Int)=(n:Int):=by
  unfold IntKind.wrap
  simp[IntKind.bits,IntKind.signed]
  omega
 have e1:¬((n:Int)<0\/(1:Int)*(n:Int)>2 ^ 48):=by
  have:((2:Int) ^ 48)=281474976710656:=aD
  omega
 simp only[Instr.makeSlice,bG,dR,hu,AE,qF,hi,hb,hw]
 have e2:(((n:Int)<0||decide (((1:Nat):Int)*(n:Int)>2 ^ 48))||decide ((n:Int)<0)||decide ((n:Int)>(n:Int)))=false:=by
  have:((2:Int) ^ 48)=281474976710656:=aD
  simp only[Bool.or_eq_false_iff,decide_eq_false_iff_not]
  omega
 rw[if_neg (by rw[e2];simp)]
 simp only[bG]
 refine wv _ ?_
 simp only[bG,fy,hs,Int.toNat_natCast,Nat.mul_one]
 have fin:∀zero:Array Value,(n≠0->zero=#[.bool false])->bx P (newRow e ((Array.range n).map (fun j=>zero[j % zero.size]!))) (fun a G=>bx P (Pure.pure (Value.slice (some a) n n)) R G) F:=fun zero hzero=>by
  simp only[newRow,bG,qE,bQ]
  have f:((Array.range n).map (fun j=>zero[j % zero.size]!))=(List.replicate n (Value.bool false)).toArray:=by
   rcases Nat.eq_zero_or_pos n with rfl|k
   .simp
   .rw[hzero aa]
    rw[<-Array.toList_inj]
    simp only[Array.toList_map,Array.toList_range]
    apply List.ext_getElem
    .simp
    .intro i l m
     simp[Nat.mod_one]
  rw[f]
  exact ⟨rfl,h⟩
 by_cases c:n=0
 .rw[if_pos c]
  exact fin #[] (fun x=>absurd c x)
 .rw[if_neg c]
  rw[bG,mR,d]
  exact fin #[.bool false] (fun _=>rfl)
section
variable {T:PT}{Φ:Goroutine->af->Prop}{fi:FuncId}
def zH:Z->Bool| .co _ _ .reg _=>false|_=>true
theorem ZJ.L2 (T:PT)(Φ:Goroutine->af->Prop)(z:Z)(h:zH z=true):Closed T.P true (ZJ T Φ z):=ZJ.closed T Φ fun x k d e=>by subst e;simp[zH] at h
theorem Ey {P:Program}{main:Bool}{S:Type}{JF:S->Goroutine->af->Prop}{ph:S}(hJ:Closed P main (JF ph)){c:Code}{Q:Ex->Act->af->S->Prop}{a:Act}{F F':af}(hle:Le F F')(h:dg JF fi c Q a F ph):dg JF fi c Q a F' ph:=
 fun b k cs hb hk=>hJ.mono hle (h b k cs hb hk)
theorem zI {P:Program}{main:Bool}{S:Type}{JF:S->Goroutine->af->Prop}{ph:S}(hJ:Closed P main (JF ph)){c:Code}{Q:Ex->Act->af->S->Prop}{a:Act}{F:af}(h:bg (keys F.own)->aJ F.ro F.own->dg JF fi c Q a F ph):dg JF fi c Q a F ph:=by
 intro b k cs hb hk;by_cases hw:∃w,Has F w
 .obtain ⟨w,hw⟩:=hw;refine h ⟨hw.nodup⟩ (fun b hb off sp=>?_) b k cs hb hk;cases d:F.ro ⟨b,off,sp⟩ with
  |none=>rfl
  |some v=>exact absurd hb (hw.apart _ v d)
 .exact hJ.step fun w e=>absurd ⟨w,e⟩ hw
end
theorem ou {ro:Addr->Option Value}{b a off:Nat}{sp:Option Nat}{o:Obj}(h:ro ⟨a,off,sp⟩=none)(aO:a≠b):b9 ro b o ⟨a,off,sp⟩=none:=by simp[b9,h,aO]
theorem L3 {ro:Addr->Option Value}{b3 b4 b a I M W:Nat}{i o4 g c d e f:Obj}(p:bg (keys [(W,f),(M,e),(a,c),(I,d),(b,g),(b4,o4),(b3,i)]))(l:aJ ro [(W,f),(M,e),(a,c),(I,d),(b,g),(b4,o4),(b3,i)]):
  ∃j,Ext ro j/\Le ⟨j,[(M,e),(W,f),(I,d)]⟩ ⟨ro,[(W,f),(M,e),(a,c),(I,d),(b,g),(b4,o4),(b3,i)]⟩/\
   (∀off v,cellOf i off=some v->j ⟨b3,off,none⟩=some v)/\(∀off v,cellOf o4 off=some v->j ⟨b4,off,none⟩=some v)/\(∀off v,cellOf g off=some v->j ⟨b,off,none⟩=some v)/\(∀off v,cellOf c off=some v->j ⟨a,off,none⟩=some v):=by
 have hd:=p.1
 simp only[keys,List.map_cons,List.map_nil,List.nodup_cons,List.mem_cons,List.not_mem_nil,not_or] at hd
 obtain ⟨⟨-,a1,-,a2,a3,a4,-⟩,⟨G,-,H,J,K,-⟩,⟨c1,c2,c3,c4,-⟩,⟨i1,i2,i3,-⟩,⟨e1,e2,-⟩,⟨r,-⟩,-⟩:=hd
 have r3:∀off sp,ro ⟨b3,off,sp⟩=none:=l b3 (by simp[keys])
 have s:∀off sp,ro ⟨b4,off,sp⟩=none:=l b4 (by simp[keys])
 have t:∀off sp,ro ⟨b,off,sp⟩=none:=l b (by simp[keys])
 have u:∀off sp,ro ⟨a,off,sp⟩=none:=l a (by simp[keys])
 clear l p
 have w:b4≠b3:=r
 have x:b≠b3:=e2
 have y:b≠b4:=e1
 have z:a≠b3:=c4
 have A:a≠b4:=c3
 have B:a≠b:=c2
 let s1:=b9 ro b3 i
 let s2:=b9 s1 b4 o4
 let k:=b9 s2 b g
 let n:=b9 k a c
 have C:Ext ro s1:=gY _ _ _
 have q:Ext s1 s2:=gY _ _ _
 have o:Ext s2 k:=gY _ _ _
 have m:Ext k n:=gY _ _ _
 have t4:∀off sp,s1 ⟨b4,off,sp⟩=none:=fun off sp=>ou (s off sp) w
 have t7:∀off sp,s2 ⟨b,off,sp⟩=none:=fun off sp=>ou (ou (t off sp) x) y
 have t8:∀off sp,k ⟨a,off,sp⟩=none:=fun off sp=>ou (ou (ou (u off sp) z) A) B
 have k1:Le ⟨s1,[(W,f),(M,e),(a,c),(I,d),(b,g),(b4,o4)]⟩ ⟨ro,[(W,f),(M,e),(a,c),(I,d),(b,g),(b4,o4),(b3,i)]⟩:=
  kZ (by simp[lk, *]) av (by simp[ax,Ne.symm, *])
 have D:Le ⟨s2,[(W,f),(M,e),(a,c),(I,d),(b,g)]⟩ ⟨s1,[(W,f),(M,e),(a,c),(I,d),(b,g),(b4,o4)]⟩:=
  kZ (by simp[lk, *]) av (by simp[ax,Ne.symm, *])
 have E:Le ⟨k,[(W,f),(M,e),(a,c),(I,d)]⟩ ⟨s2,[(W,f),(M,e),(a,c),(I,d),(b,g)]⟩:=
  kZ (by simp[lk, *]) av (by simp[ax,Ne.symm, *])
 have F:Le ⟨n,[(W,f),(M,e),(I,d)]⟩ ⟨k,[(W,f),(M,e),(a,c),(I,d)]⟩:=
  kZ (by simp[lk, *]) av (by simp[ax,Ne.symm, *])
 refine ⟨n,((C.trans q).trans o).trans m,Bi.trans (((F.trans E).trans D).trans k1),fun off v h=>?_,fun off v h=>?_,fun off v h=>?_,fun off v h=>?_⟩
 .exact m _ _ (o _ _ (q _ _ ((jH r3).trans h)))
 .exact m _ _ (o _ _ ((jH t4).trans h))
 .exact m _ _ ((jH t7).trans h)
 .exact (jH t8).trans h
theorem L4 {ro:Addr->Option Value}{a b2:Nat}{o1 o2:Obj}(d:bg (keys [(b2,o2),(a,o1)]))(c:aJ ro [(b2,o2),(a,o1)]):
  ∃b,Ext ro b/\Le ⟨b,[]⟩ ⟨ro,[(b2,o2),(a,o1)]⟩/\(∀off v,cellOf o1 off=some v->b ⟨a,off,none⟩=some v)/\(∀off v,cellOf o2 off=some v->b ⟨b2,off,none⟩=some v):=by
 have hd:=d.1
 simp only[keys,List.map_cons,List.map_nil,List.nodup_cons,List.mem_cons,List.not_mem_nil,not_or] at hd
 have r1:∀off sp,ro ⟨a,off,sp⟩=none:=c a (by simp[keys])
 have r2:∀off sp,ro ⟨b2,off,sp⟩=none:=c b2 (by simp[keys])
 have e:b2≠a:=by obtain ⟨⟨z,-⟩,-⟩:=hd;exact z
 have t2:∀off sp,b9 ro a o1 ⟨b2,off,sp⟩=none:=fun off sp=>ou (r2 off sp) e
 have k1:Le ⟨b9 ro a o1,[(b2,o2)]⟩ ⟨ro,[(b2,o2),(a,o1)]⟩:=kZ (by simp[lk, *]) av (by simp[ax,Ne.symm, *])
 have f:Le ⟨b9 (b9 ro a o1) b2 o2,[]⟩ ⟨b9 ro a o1,[(b2,o2)]⟩:=kZ (by simp only[lk];simp) av trivial
 exact ⟨_,(gY _ _ _).trans (gY _ _ _),f.trans k1,fun off v h=>gY _ _ _ _ _ ((jH r1).trans h),fun off v h=>(jH t2).trans h⟩
theorem L5 {T:PT}{Φ:Goroutine->af->Prop}{x:X}{k:Nat}{ops:Array Oper}{j n:Nat}{Q:Act->af->Z->Prop}{a:Act}{F:af}{fi:FuncId}(hk:k<x.n){y:Operand}{f0:FuncId}{dN:Array TypeId}{caps:Array Value}(b:oo ops j a (.go {callee:=.value y,args:=#[],argTypes:=dN}) none)(c:ev a y= .func (.func f0) #[] caps)
  (hW:Wk (x.cy T) k ⟨.idle,.cnt,false,0⟩ (born T.P {target:=.fn (.func f0) caps,args:=#[]}) ⟨F.ro,[]⟩) (h:ak (ZJ T Φ) fi ops (j+1) n Q (bB a none undef) F (.co x (k+1) (.opn 0) 0)):ak (ZJ T Φ) fi ops j (n+1) Q a F (.co x k (.opn 1) 0):=by
 obtain ⟨o,d,hg,e,hd⟩:=b
 have e1:execOp a.eval o=(pure (.spawn {target:=.fn (.func f0) caps,args:=#[]}):Sem Next):=by
  unfold execOp
  have e0:(#[]:Array Value)++Array.map (ev a) #[]=#[]:=av
  simp only[e,resolve,e7,c,Deferred.ofValue,e0]
  rfl
 refine LN (fv:=y) hk d hg (fun w=>?_) rfl hW (by rw[hd];exact h)
 rw[e1]
 exact ⟨rfl,rfl⟩
end Go.Sep
end
section
namespace Go.Proofs.YtbpddfapodiemaaGreatDoor
open Go Go.Sep Go.Proofs Go.Conc
open Go.ConcN (upd upd_same)
open Go.ConcM (muA msA)
open Go.ConcR (stA smA)
set_option maxRecDepth 100000
set_option maxHeartbeats 4000000
attribute [local go_sem] Int.reduceBEq Int.reduceBNe muA msA stA smA
def L6 (Wg:Nat)(st:Bool)(F:af)(m:Nat)(a:Act)(F':af)(ph:Ph):Prop:=
 ∃t8:Int,F'=F/\slot a 0= .pointer (some ⟨Wg,0,none⟩)/\slot a 8= .int .u32 t8/\sz a=117/\a.defers=[dcall 153 #[]]/\((m=1/\t8=1/\ph=⟨.fin,.sm,st,1⟩)\/(m=0/\t8=0/\ph=⟨.fin,.gone,st,1⟩))
theorem L7 {f:FuncId}{R:Value->af->Ph->Prop}{a:Act}{F:af}{ph:Ph}{b:Nat}(hd:a.defers=[dcall f #[]])(hg:ph.gp= .gone)(h:ph.deaf=b+1)(c:R (.tuple #[]) F {ph with deaf:=b}):lK f R .normal a F ph:=⟨hd,hg,b,h,c⟩
theorem vD {f:FuncId}{R:Value->af->Ph->Prop}{a:Act}{F:af}{ph:Ph}{b:Nat}(hd:a.defers=[dcall f #[]])(hg:ph.gp= .gone)(h:ph.deaf=b+1)(c:R (.tuple #[]) F {ph with deaf:=b}):lK f R .ret a F ph:=⟨hd,hg,b,h,c⟩
section
variable {Mu Wg Is n base T0 i:Nat}{bs:Nat->Bool}{st:Bool}{F:af}
theorem L8 (aO:Mu≠Wg/\Mu≠Is/\Wg≠Is)(p:n<67108864){mp:Mp}(q:mp= .idle\/mp= .fin)(s:st=bs i):
  c6 Tryz.prog (WJ (CY Mu Wg Is n bs base T0) i) 126 #[.pointer (some (stA Wg)),.int .i64 (-1)] F ⟨mp,.cnt,st,0⟩
   (fun r F' aX=>r= .tuple #[]/\F'=F/\aX=⟨.fin,.gone,st,0⟩):=by
 have hM:=WJ.eY (CY Mu Wg Is n bs base T0) i
 refine c6.Lu mJ Tryz.func126 rfl rfl Tryz.ntmps126 av fun A f hd hs=>?_
 have hJ:True:=trivial
 have u:=hs 0
 have k1:=hs 1
 clear hs
 subst s
 have c1:decide ((-1:Int)<0)=true:=aD
 have c2:decide ((-1:Int)>0)=false:=aD
 repeat apply aM (hM _)
 refine dB (hM _) aC ?_
 repeat apply aM (hM _)
 refine bC hM fun K hK=>?_
 refine ak.pure (hM _) 2 (n:=0) _ rfl rfl ?_;simp only[*,go_sem,-hK,-hM]
 refine ak.nil hM (hK _ _ _ ?_);clear hK K
 repeat apply aM (hM _)
 refine dB (hM _) aC ?_
 repeat apply aM (hM _)
 refine bC hM fun K hK=>?_
 refine ak.pure (hM _) 1 (n:=2) _ rfl rfl ?_;simp only[*,go_sem,-hK,-hM]
 refine vu ⟨Wg,0,none⟩ zl mK zn ⟨_,rfl,cH,rfl,rfl⟩ av er Lx ?_
 refine K6 D5 ⟨_,_,_,rfl,cH,rfl,ej,rfl⟩ rfl rfl q rfl ?_
 refine ak.nil hM (hK _ _ _ ?_);clear hK K
 repeat apply aM (hM _)
 refine bC hM fun K hK=>?_
 refine zx sE ⟨_,_,_,rfl,cH,rfl,ej,rfl⟩ av av ?_
 refine ak.nil hM (hK _ _ _ ?_);clear hK K
 repeat apply aM (hM _)
 refine bC hM fun K hK=>?_
 refine ak.defer (hM _) rfl cH rfl rfl (by simp;rfl) fun d e1 e2 j=>?_
 have l0:slot d 0= .pointer (some ⟨Wg,0,none⟩):=(e1 0).trans aC
 have w:slot d 1= .int .i64 (-1):=(e1 1).trans aC
 replace f:sz d=117:=e2.trans aC
 replace hd:d.defers=[dcall 153 #[]]:=j.trans aC
 clear e1 e2 j u k1
 refine ak.nil hM (hK _ _ _ ?_);clear hK K
 repeat apply aM (hM _)
 refine bC hM fun K hK=>?_
 refine ak.pure (hM _) 1 (n:=0) _ rfl rfl ?_;simp only[*,go_sem,-hK,-hM]
 refine ak.nil hM (hK _ _ _ ?_);clear hK K
 repeat apply aM (hM _)
 refine bC hM fun K hK=>?_
 refine ak.entry (.bool false) (hM _) D9 ⟨_,_,_,rfl,cH,rfl,ej,rfl⟩ ?_
 refine ak.nil hM (hK _ _ _ ?_);clear hK K
 repeat apply aM (hM _)
 refine cX (hM _) aC ?_
 apply c7 (hM _)
 have w1:IntKind.u64.wrap (-1)=18446744073709551615:=aD
 have w2:IntKind.u64.wrap (18446744073709551615*2 ^ min 32 64)=18446744069414584320:=aD
 repeat apply aM (hM _)
 refine bC hM fun K hK=>?_
 refine ak.pure (hM _) 6 (n:=2) _ rfl rfl ?_;simp only[*,go_sem,-hK,-hM]
 refine ak.gW (hM _) rfl cH rfl Bg er (Ly aO p) fun r F' aX c=>?_
 obtain ⟨rfl,v,t,k,ht,rfl,rfl⟩:=c
 obtain ⟨x,b⟩:∃x:Int,x=(v:Int)*4294967296+(t:Int):=⟨_,rfl⟩
 rw[<-b]
 have a1:jb x 2147483648=0:=by show lM x 2147483648=0;rw[b];exact zC v t aa ht
 have a2:jb x 2147483647=(t:Int):=by show lM x 2147483647=(t:Int);rw[b];exact zD v t aa ht
 have a3:x.fdiv (2 ^ min 32 64)=(v:Int):=by rw[b];exact zE v t ht
 have a4:IntKind.i32.wrap (v:Int)=(v:Int):=jq aa aa
 have a5:IntKind.u32.wrap (t:Int)=(t:Int):=by
  unfold IntKind.wrap
  simp[IntKind.bits,IntKind.signed]
  omega
 have g:v=0->t=1->((1:Int) != x)=false:=fun e y=>by rw[b,e,y];rfl
 clear b
 refine ak.pure (hM _) 1 (n:=0) _ rfl rfl ?_;simp only[*,go_sem,-hK,-hM]
 refine ak.nil hM (hK _ _ _ ?_);clear hK K
 repeat apply aM (hM _)
 refine bC hM fun K hK=>?_
 refine ak.pure (hM _) 7 (n:=0) _ rfl rfl ?_;simp only[*,go_sem,-hK,-hM]
 refine ak.nil hM (hK _ _ _ ?_);clear hK K
 repeat apply aM (hM _)
 refine cX (hM _) aC ?_
 apply c7 (hM _)
 repeat apply aM (hM _)
 refine bC hM fun K hK=>?_
 refine ak.pure (hM _) 4 (n:=0) _ rfl rfl ?_;simp only[*,go_sem,-hK,-hM]
 refine ak.nil hM (hK _ _ _ ?_);clear hK K
 repeat apply aM (hM _)
 refine bC hM fun K hK=>?_
 refine ak.pure (hM _) 4 (n:=0) _ rfl rfl ?_;simp only[*,go_sem,-hK,-hM]
 refine ak.nil hM (hK _ _ _ ?_);clear hK K
 repeat apply aM (hM _)
 refine bC hM fun K hK=>?_
 refine ak.pure (hM _) 10 (n:=0) _ rfl rfl ?_;simp only[*,go_sem,-hK,-hM]
 refine ak.nil hM (hK _ _ _ ?_);clear hK K
 repeat apply aM (hM _)
 refine cX (hM _) aC ?_
 apply c7 (hM _)
 have c3:decide ((v:Int)<0)=false:=av
 repeat apply aM (hM _)
 refine bC hM fun K hK=>?_
 refine ak.pure (hM _) 2 (n:=0) _ rfl rfl ?_;simp only[*,go_sem,-hK,-hM]
 refine ak.nil hM (hK _ _ _ ?_);clear hK K
 repeat apply aM (hM _)
 refine cX (hM _) aC ?_
 apply c7 (hM _)
 have l:t=0\/t=1:=aa
 by_cases hC:v=0/\t=1
 ·
  obtain ⟨rfl,rfl⟩:=hC
  have z:((1:Int) != x)=false:=g rfl rfl
  have hg:(if (0:Nat)=0/\(1:Nat)=1 then Gp.ld else Gp.gone)= .ld:=rfl
  rw[hg]
  have B:((1:Nat):Int)=1:=rfl
  clear hg g l k ht
  repeat apply aM (hM _)
  refine bC hM fun K hK=>?_
  refine ak.pure (hM _) 12 (n:=0) _ rfl rfl ?_;simp only[*,go_sem,-hK,-hM]
  refine ak.nil hM (hK _ _ _ ?_);clear hK K
  repeat apply aM (hM _)
  refine cX (hM _) aC ?_
  apply c7 (hM _)
  repeat apply aM (hM _)
  refine bC hM fun K hK=>?_
  refine ak.pure (hM _) 6 (n:=0) _ rfl rfl ?_;simp only[*,go_sem,-hK,-hM]
  refine ak.nil hM (hK _ _ _ ?_);clear hK K
  repeat apply aM (hM _)
  refine cX (hM _) aC ?_
  apply c7 (hM _)
  repeat apply aM (hM _)
  refine bC hM fun K hK=>?_
  refine ak.pure (hM _) 3 (n:=3) _ rfl rfl ?_;simp only[*,go_sem,-hK,-hM]
  refine ak.gW (hM _) rfl cH rfl wU er Lz fun r F' aX c=>?_
  obtain ⟨rfl,rfl,rfl⟩:=c
  refine ak.pure (hM _) 2 (n:=0) _ rfl rfl ?_;simp only[*,go_sem,-hK,-hM]
  refine ak.nil hM (hK _ _ _ ?_);clear hK K
  repeat apply aM (hM _)
  refine cX (hM _) aC ?_
  apply c7 (hM _)
  repeat apply aM (hM _)
  refine bC hM fun K hK=>?_
  refine ak.pure (hM _) 3 (n:=1) _ rfl rfl ?_;simp only[*,go_sem,-hK,-hM]
  refine ak.gW (hM _) rfl cH rfl GK er (LA aO) fun r F' aX c=>?_
  obtain ⟨rfl,rfl,rfl⟩:=c
  refine ak.nil hM (hK _ _ _ ?_);clear hK K
  repeat apply aM (hM _)
  refine bC hM fun K hK=>?_
  refine ak.pure (hM _) 1 (n:=0) _ rfl rfl ?_;simp only[*,go_sem,-hK,-hM]
  refine ak.nil hM (hK _ _ _ ?_);clear hK K
  repeat apply aM (hM _)
  refine cX (hM _) aC ?_
  apply c7 (hM _)
  repeat apply aM (hM _)
  refine kP hM ?_
  refine sD hM (L6 Wg (bs i) F') 1 ?_ ?_
  .exact ⟨1,rfl,aC,aC,aC,aC,.inl ⟨rfl,rfl,rfl⟩⟩
  .clear l0 w f hd c1 c2 c3 z a1 a2 a3 a4 a5 w1 w2 B
   rintro m A C E ⟨t8,rfl,l0,G,f,hd,⟨rfl,rfl,rfl⟩|⟨rfl,rfl,rfl⟩⟩
   .have D:((1:Int) != 0)=true:=rfl
    have w3:IntKind.u32.wrap (1 - 1)=0:=aD
    repeat apply aM (hM _)
    refine bC hM fun K hK=>?_
    refine ak.pure (hM _) 2 (n:=0) _ rfl rfl ?_;simp only[*,go_sem,-hK,-hM]
    refine ak.nil hM (hK _ _ _ ?_);clear hK K
    repeat apply aM (hM _)
    refine dB (hM _) aC ?_
    apply c7 (hM _)
    repeat apply aM (hM _)
    refine kP hM ?_
    repeat apply aM (hM _)
    refine bC hM fun K hK=>?_
    refine ak.pure (hM _) 3 (n:=1) _ rfl rfl ?_;simp only[*,go_sem,-hK,-hM]
    refine Ls (.bool false) (.int .i64 0) KY aO ⟨_,_,_,rfl,cH,rfl,ej,rfl⟩ (by rfl) ?_
    refine ak.nil hM (hK _ _ _ ?_);clear hK K
    repeat apply aM (hM _)
    refine bC hM fun K hK=>?_
    refine ak.pure (hM _) 3 (n:=0) _ rfl rfl ?_;simp only[*,go_sem,-hK,-hM]
    refine ak.nil hM (hK _ _ _ ?_);clear hK K
    exact ⟨0,aa,0,rfl,aC,aC,aC,aC,.inr ⟨rfl,rfl,rfl⟩⟩
   .have D:((0:Int) != 0)=false:=rfl
    repeat apply aM (hM _)
    refine bC hM fun K hK=>?_
    refine ak.pure (hM _) 2 (n:=0) _ rfl rfl ?_;simp only[*,go_sem,-hK,-hM]
    refine ak.nil hM (hK _ _ _ ?_);clear hK K
    repeat apply aM (hM _)
    refine cX (hM _) aC ?_
    exact qi (show lK 153 (fun r a aX=>r= .tuple #[]/\a=C/\aX=⟨.fin,.gone,bs i,0⟩) .normal _ _ _ from L7 aC rfl rfl ⟨rfl,rfl,rfl⟩)
 ·
  rw[if_neg hC]
  have o:(0<v/\decide ((v:Int)>0)=true)\/(v=0/\decide ((v:Int)>0)=false/\((t:Int)==0)=true):=by
   rcases Nat.eq_zero_or_pos v with e|e
   .refine .inr ⟨e,by simp[e],?_⟩
    obtain rfl:t=0:=aa
    rfl
   .exact .inl ⟨e,by simp;omega⟩
  have a7:((t:Int) != 0)=false\/((t:Int) != 0)=true:=by cases ((t:Int) != 0)<;>simp
  clear g hC k ht l
  rcases a7 with a7|a7
  .repeat apply aM (hM _)
   refine bC hM fun K hK=>?_
   refine ak.pure (hM _) 12 (n:=0) _ rfl rfl ?_;simp only[*,go_sem,-hK,-hM]
   refine ak.nil hM (hK _ _ _ ?_);clear hK K
   repeat apply aM (hM _)
   refine cX (hM _) aC ?_
   apply c7 (hM _)
   rcases o with ⟨_,h⟩|⟨_,h,b2⟩
   .repeat apply aM (hM _)
    refine bC hM fun K hK=>?_
    refine ak.pure (hM _) 6 (n:=0) _ rfl rfl ?_;simp only[*,go_sem,-hK,-hM]
    refine ak.nil hM (hK _ _ _ ?_);clear hK K
    repeat apply aM (hM _)
    refine dB (hM _) aC ?_
    exact gk (show lK 153 (fun r a aX=>r= .tuple #[]/\a=F'/\aX=⟨.fin,.gone,bs i,0⟩) .ret _ _ _ from vD aC rfl rfl ⟨rfl,rfl,rfl⟩)
   .repeat apply aM (hM _)
    refine bC hM fun K hK=>?_
    refine ak.pure (hM _) 6 (n:=0) _ rfl rfl ?_;simp only[*,go_sem,-hK,-hM]
    refine ak.nil hM (hK _ _ _ ?_);clear hK K
    repeat apply aM (hM _)
    refine dB (hM _) aC ?_
    exact gk (show lK 153 (fun r a aX=>r= .tuple #[]/\a=F'/\aX=⟨.fin,.gone,bs i,0⟩) .ret _ _ _ from vD aC rfl rfl ⟨rfl,rfl,rfl⟩)
  .repeat apply aM (hM _)
   refine bC hM fun K hK=>?_
   refine ak.pure (hM _) 12 (n:=0) _ rfl rfl ?_;simp only[*,go_sem,-hK,-hM]
   refine ak.nil hM (hK _ _ _ ?_);clear hK K
   repeat apply aM (hM _)
   refine cX (hM _) aC ?_
   apply c7 (hM _)
   rcases o with ⟨_,h⟩|⟨_,h,b2⟩
   .repeat apply aM (hM _)
    refine bC hM fun K hK=>?_
    refine ak.pure (hM _) 6 (n:=0) _ rfl rfl ?_;simp only[*,go_sem,-hK,-hM]
    refine ak.nil hM (hK _ _ _ ?_);clear hK K
    repeat apply aM (hM _)
    refine dB (hM _) aC ?_
    exact gk (show lK 153 (fun r a aX=>r= .tuple #[]/\a=F'/\aX=⟨.fin,.gone,bs i,0⟩) .ret _ _ _ from vD aC rfl rfl ⟨rfl,rfl,rfl⟩)
   .repeat apply aM (hM _)
    refine bC hM fun K hK=>?_
    refine ak.pure (hM _) 6 (n:=0) _ rfl rfl ?_;simp only[*,go_sem,-hK,-hM]
    refine ak.nil hM (hK _ _ _ ?_);clear hK K
    repeat apply aM (hM _)
    refine dB (hM _) aC ?_
    exact gk (show lK 153 (fun r a aX=>r= .tuple #[]/\a=F'/\aX=⟨.fin,.gone,bs i,0⟩) .ret _ _ _ from vD aC rfl rfl ⟨rfl,rfl,rfl⟩)
end
end Go.Proofs.YtbpddfapodiemaaGreatDoor
end
section
namespace Go.Sep
open Go Go.Conc
open Go.ConcN (sumTo upd upd_ne upd_same)
def j6 (P:Program):Frame:={(default:Frame) with fn:=P.funcs.size,defers:=[],mode:=.panicking [goexitEntry]}
section
variable {P:Program}{f:FuncId}{fn:Func}{cd:Code}{w:World}{caps args:Array Value}
theorem L9 (a:P.funcs[f]?=some fn)(b:(fn.name== "runtime.NumGoroutine")=false)(hb:fn.body=some cd):
  stepG P false (born P {target:=.fn (.func f) caps,args:=args}) w= .go (G ((baseD f).at {tmps:=args++caps++Array.replicate (fn.ntmps - (args++caps).size) undef,defers:=[]} [.code cd]) [j6 P]) w #[]:=by
 have c:¬fn.name= "runtime.NumGoroutine":=by simpa using b
 rw[<-enter_atD (args++caps) a hb]
 simp[born,G,stepG,unwind,callDeferred,invoke,callFunc,a,c,hb,GStep.after,seen_none,j6]
theorem Ma {b:Frame}{a:Act}{todo:List Item}(d:b.kind= .deferred)(hd:a.defers=[])(e:P.funcs[b.fn]?=some fn)(c:fn.results=#[]):
  stepG P false (G {b.at a todo with mode:=.returning} [j6 P]) w= .go (G (j6 P) []) w #[]:=by
 have he:(results fn a.tmps).events P w #[]=#[]:=events_results_none c _ _
 have f:(results fn a.tmps).run P w= .ok (.tuple #[]) w:=results_none c _ P w
 simp[G,stepG,unwind,doReturn,Frame.at,d,hd,e,f,he,j6,goexitEntry,seen_none,GStep.after]
theorem Mb:stepG P false (G (j6 P) []) w= .go {frame:=j6 P,callers:=[],status:=.finished,dying:=none} w #[]:=by
 have e:(default:Frame).todo=[]:=rfl;simp[G,stepG,unwind,j6,goexitEntry,Frame.catches,e]
end
section
variable {c:Cy}{i:Nat}{F:af}{f fd:FuncId}
def zJ (c:Cy)(i:Nat)(fd:FuncId)(v:Value):Ex->Act->af->Ph->Prop
 | .exit _,_,_,_=>False
 |_,a,_,ph=>a.defers=[dcall fd #[v]]/\(ph.mp= .idle\/ph.mp= .fin)/\ph.gp= .cnt/\ph.stored=c.bs i/\ph.deaf=0
theorem worker {fn b:Func}{cd l:Code}{n nd:Nat}{v:Value}(m:c.P.funcs[f]?=some fn)(y:(fn.name== "runtime.NumGoroutine")=false)(hb:fn.body=some cd)(z:fn.results=#[])(o:fn.ntmps=n){caps:Array Value}(Q:caps.size<=n)
  (B:c.P.funcs[fd]?=some b) (C:(b.name== "runtime.NumGoroutine")=false) (D:b.body=some l) (E:b.results=#[]) (H:b.ntmps=nd) (I:1<=nd)
  (hd:∀(mp:Mp) (F:af),mp= .idle\/mp= .fin->∀A:Act,sz A=nd->A.defers=[]->(∀j,slot A j=(#[v]:Array Value).getD j undef)->dg (WJ c i) fd l (zB fun F' aX=>aX=⟨.fin,.gone,c.bs i,0⟩) A F ⟨mp,.cnt,c.bs i,0⟩)
  (h:∀A:Act,sz A=n->A.defers=[]->(∀j,slot A j=caps.getD j undef)->dg (WJ c i) f cd (zJ c i fd v) A F ⟨.idle,.cnt,false,0⟩):
  Wk c i ⟨.idle,.cnt,false,0⟩ (born c.P {target:=.fn (.func f) caps,args:=#[]}) F:=by
 have hM:=WJ.eY c i
 have e0:∀w,stepG c.P false (born c.P {target:=.fn (.func f) caps,args:=#[]}) w= .go (G ((baseD f).at {tmps:=caps++Array.replicate (fn.ntmps - caps.size) undef,defers:=[]} [.code cd]) [j6 c.P]) w #[]:=fun w=>by
  have:=L9 (P:=c.P) (w:=w) (caps:=caps) (args:=#[]) m y hb
  simpa using this
 refine Wk.act (c:=c) (i:=i) rfl rfl av fun w s k φ p0 e1 e2 R J K=>.inr ⟨_,w,#[],s,⟨.idle,.cnt,false,0⟩,e0 w,e2,.refl _ _,?_,oq rfl Iff.rfl,.inr ei,?_⟩
 .rw[<-J,zo];exact K
 have out:∀(a:Act) (p:List Item) F' (aX:Ph),(a.defers=[dcall fd #[v]]/\(aX.mp= .idle\/aX.mp= .fin)/\aX.gp= .cnt/\aX.stored=c.bs i/\aX.deaf=0)->WJ c i aX (G {(baseD f).at a p with mode:=.returning} [j6 c.P]) F':=by
  intro a p F' aX ⟨k1,r,t,u,x⟩
  obtain ⟨mp,gp,st,S⟩:=aX
  simp only at r t u x
  subst t u x
  refine Lv B C D E H (by simpa using I) k1 (fun A L M N=>hd mp F' r A L M N) fun T U O=>?_
  subst O
  refine Wk.gone (q:=2) rfl (QuitsD.ctl rfl (fun w=>Ma rfl rfl m z) (QuitsD.ctl rfl (fun w=>Mb) ⟨rfl,rfl⟩))
 have:=h {tmps:=caps++Array.replicate (fn.ntmps - caps.size) undef,defers:=[]} (by simp[sz,o];omega) rfl (fun j=>?_) (baseD f) [] [j6 c.P] ⟨by simp[baseD],rfl,rfl⟩ fun e a F' aX g=>?_
 .rw[fo rfl] at this;exact this
 .simp only[slot,o,Array.getD_eq_getD_getElem?]
  rcases Nat.lt_or_ge j caps.size with d|d
  .rw[Array.getElem?_append_left d]
  .rw[Array.getElem?_append_right d,Array.getElem?_replicate,Array.getElem?_eq_none d]
   split<;>rfl
 .cases e with
  |normal=>exact (hM aX).move (fun _=>mP rfl) (out a _ F' aX g)
  |exit i=>exact g.elim
  |ret=>exact fun V=>(hM aX).move (fun _=>stepG_ret' rfl) (out a _ F' aX g)
end
attribute [go_sem] zJ
end Go.Sep
end
section
namespace Go.Proofs.YtbpddfapodiemaaGreatDoor
open Go Go.Sep Go.Proofs Go.Conc
open Go.ConcN (upd upd_same)
open Go.ConcM (muA msA)
open Go.ConcR (stA smA)
set_option maxRecDepth 100000
set_option maxHeartbeats 4000000
attribute [local go_sem] Int.reduceBEq Int.reduceBNe muA msA stA smA
theorem Mc:(Tryz.prog.funcs[127]?).any (·.norace)=false:=aj
section
variable {Mu Wg Is n base T0 i:Nat}{bs:Nat->Bool}
theorem Md (aO:Mu≠Wg/\Mu≠Is/\Wg≠Is)(w:n<67108864)(a4:i<n){ro:Addr->Option Value}(u0:dn){s1:Value}(m:aH fT ro s1 u0.book.az){J:Value}(o:aH fe ro J u0.book.props){K:Value}(q:aH fN ro K u0.book.aK){L:Value}(r:aH dL ro L u0.book.told)
  (x:Int) (z:List Int) {M:Value} (s:aH rI ro M z) (B:List bh) {N:Value} (f:aH gL ro N B) {d b2 b3 b4 O P:Nat}
  (g0:ro ⟨d,0,none⟩=some (.int .i64 u0.book.bZ)) (Q:ro ⟨d,1,none⟩=some (.int .i64 u0.book.cg)) (R:ro ⟨d,2,none⟩=some (.int .i64 u0.book.bp.num)) (S:ro ⟨d,3,none⟩=some (.int .i64 u0.book.bp.den)) (T:ro ⟨d,4,none⟩=some s1) (U:ro ⟨d,5,none⟩=some J) (V:ro ⟨d,6,none⟩=some K) (W:ro ⟨d,7,none⟩=some L)
  (X:ro ⟨b2,0,none⟩=some (.int .i64 x)) (Y:ro ⟨b3,0,none⟩=some M) (Z:ro ⟨b4,0,none⟩=some N) (C:ro ⟨O,0,none⟩=some (.slice (some ⟨Is,0,none⟩) n n)) (D:ro ⟨P,0,none⟩=some (.int .i64 i))
  (h:ai (o7 u0.book x z) (fun b=>oZ b B)=some (bs i)):
  Wk (CY Mu Wg Is n bs base T0) i ⟨.idle,.cnt,false,0⟩ (born Tryz.prog {target:=.fn (.func 127) #[.pointer (some ⟨Wg,0,none⟩),.pointer (some ⟨d,0,none⟩),.pointer (some ⟨b2,0,none⟩),.pointer (some ⟨b3,0,none⟩),.pointer (some ⟨b4,0,none⟩),.pointer (some ⟨Mu,0,none⟩),.pointer (some ⟨O,0,none⟩),.pointer (some ⟨P,0,none⟩)],args:=#[]}) ⟨ro,[]⟩:=by
 have hM:=WJ.eY (CY Mu Wg Is n bs base T0) i
 have hJ:∀ph:Ph,ph.gp= .cnt->Go.Sep.Closed Tryz.prog false (WJ (CY Mu Wg Is n bs base T0) i ph):=fun ph h=>Wk.closed (CY Mu Wg Is n bs base T0) i ph h
 refine worker (c:=CY Mu Wg Is n bs base T0) (i:=i) (fd:=128) (v:=.pointer (some ⟨Wg,0,none⟩)) Tryz.func127 rfl rfl rfl Tryz.ntmps127 av Tryz.func128 rfl rfl rfl Tryz.ntmps128 av ?_ ?_
 .intro mp F a5 A E hd hs
  have u:=hs 0
  clear hs h g0 Q R S T U V W X Y Z C D m o q r s f hJ a4
  repeat apply aM (hM _)
  refine dD hM ?_
  refine ak.pure (hM _) 1 (n:=1) _ rfl rfl ?_;apply ag _
  refine ak.gW (hM _) rfl rfl rfl Bf (by simp only[*,go_sem,stA]) (L8 aO w a5 rfl) fun v F' aX g=>?_
  obtain ⟨rfl,rfl,rfl⟩:=g
  refine ak.nil hM ?_
  exact ⟨aL,rfl⟩
 .intro ab E hd hs
  have u:=hs 0
  have k1:=hs 1
  have ad:=hs 2
  have ae:=hs 3
  have al:=hs 4
  have ao:=hs 5
  have ar:=hs 6
  have a0:=hs 7
  clear hs
  repeat apply aM (hM _)
  refine dD hM ?_
  refine ak.defer (hM _) (vals:=#[.pointer (some ⟨Wg,0,none⟩)]) rfl (by rfl) rfl rfl (by simp only[List.map_toArray,List.map_cons,List.map_nil];rw[show ab.eval (.tmp 0)=slot ab 0 from rfl,u];rfl) fun A e1 e2 G=>?_
  replace u:=(e1 0).trans u
  replace k1:=(e1 1).trans k1
  replace ad:=(e1 2).trans ad
  replace ae:=(e1 3).trans ae
  replace al:=(e1 4).trans al
  replace ao:=(e1 5).trans ao
  replace ar:=(e1 6).trans ar
  replace a0:=(e1 7).trans a0
  replace E:sz A=20:=e2.trans E
  rw[hd] at G
  replace hd:=G
  clear e1 e2 G
  refine ak.nil hM ?_;try simp only[go_sem]
  obtain ⟨d3,c4,rfl,a6,a7,a8⟩:=id m
  obtain ⟨d10,dp,rfl,a9,ba,bb⟩:=id o
  obtain ⟨d17,dq,rfl,bc,bd,bj⟩:=id q
  obtain ⟨d24,ds,rfl,bk,bl,bm⟩:=id r
  obtain ⟨d38,dt,rfl,bo,br,bz⟩:=id s
  obtain ⟨d45,du,rfl,bS,b0,H⟩:=id f
  repeat apply aM (hM _)
  have k:=hJ ⟨.idle,.cnt,false,0⟩ rfl
  refine dg.of k ?_
  refine GR k mixed [0,1,2,3,5] [4,6] ⟨ro,[]⟩ dH aj ?_
  have b1:=gH h;clear h;obtain ⟨b5,a2,h⟩:=b1
  simp only[*,go_sem,-h,-hJ,-hM]
  refine wJ k _ (Iq u0.book ⟨m,o,q,r⟩ x z s a2) fun v dv l ca g=>?_
  obtain ⟨dC,dE,dT,ea,rfl,j⟩:=g
  replace f:=f.mono l;clear H;obtain ⟨_,_,H⟩:=f.op
  obtain ⟨d63,eb,rfl,cb,cd,cf⟩:=id j.e
  obtain ⟨d68,ec,rfl,cl,cy,cS⟩:=id j.p
  obtain ⟨d73,ed,rfl,c0,da,db⟩:=id j.y
  obtain ⟨d78,eh,rfl,dd,df,dk⟩:=id j.t
  replace C:=l _ _ C
  replace D:=l _ _ D
  clear g0 Q R S T U V W X Y Z
  refine ⟨⟨l,fun a I=>by simp[keys] at I,trivial⟩,lW ?_⟩
  simp only[*,go_sem,-h,-hJ,-hM]
  refine bn k _ (Ib b5 (j.mono bq) B (f.mono bq) h) ?_
  refine ⟨⟨l,fun a I=>by simp[keys] at I,trivial⟩,?_⟩
  clear m o q r s f j a8 bb bj bm bz H cf cS db dk h a2 a6 a9 bc bk bo bS cb cl c0 dd a7 ba bd bl br b0 cd cy da df k ca
  have i0:(0:Int)<=(i:Int):=aa
  have i1:(i:Int)<(n:Int):=aa
  cases a3:bs i
  .repeat apply aM (hM _)
   refine cX (hM _) aL ?_
   apply c7 (hM _)
   exact ⟨aL,.inl rfl,rfl,a3.symm,rfl⟩
  .repeat apply aM (hM _)
   refine dB (hM _) aL ?_
   repeat apply aM (hM _)
   refine dD hM ?_
   refine ak.gW (hM _) rfl (by rfl) rfl GH aL (Lj aO w) fun v F' aX g=>?_
   obtain ⟨rfl,rfl,rfl⟩:=g
   refine ak.nil hM ?_;try simp only[go_sem]
   repeat apply aM (hM _)
   refine dD hM ?_
   refine ak.bK (hJ _ rfl) 3 (n:=1) _ rfl rfl ?_;apply ag _
   refine K9 KZ A7 Mc aO ⟨_,rfl,(by first|rfl|simp only[*,go_sem]),rfl,rfl⟩ (by rfl) aL aL ?_
   refine ak.nil hM ?_;try simp only[go_sem]
   repeat apply aM (hM _)
   refine dD hM ?_
   refine ak.gW (hM _) rfl (by rfl) rfl GI aL (Ll aO w) fun v F' aX g=>?_
   obtain ⟨rfl,rfl,rfl⟩:=g
   refine ak.nil hM ?_
   exact (show zJ _ _ _ _ .normal _ _ _ from ⟨aL,.inr rfl,rfl,a3.symm,rfl⟩)
end
end Go.Proofs.YtbpddfapodiemaaGreatDoor
end
section
namespace Go.Proofs.YtbpddfapodiemaaGreatDoor
open Go Go.Sep Go.Proofs Go.Conc
open Go.ConcN (upd upd_same)
open Go.ConcM (muA msA muBlock)
open Go.ConcR (stA smA wgBlock)
set_option maxRecDepth 100000
set_option maxHeartbeats 4000000
attribute [local go_sem] Int.reduceBEq Int.reduceBNe muA msA stA smA
def vE (u0:dn)(a:Int)(c:List bh)(d:List Int):Option Bool:=ai (o7 u0.book a d) fun b=>oZ b c
def ov (f:List Int->Option Bool):List (List Int)->Option (List Bool)
 |[]=>some []
 |x::l=>ai (f x) fun b=>ai (ov f l) fun r=>some (b::r)
def sJ (a:List Bool)(i23:Nat)(b:List Int)(st:List (List Int)):Option (Fl (List (List Int)) (List (List Int))):=
 ai (bu a (i23:Int)) fun c=>cond (c) (ai (cx st ([b])) fun d=>some (.nx d)) (some (.nx st))
def ow (u0:dn)(b:Int)(a:List (List Int)):Option (List (List Int)):=
 cond (decide (a.length<1048576)) (ai (pg u0) fun c=>ai (ov (vE u0 b c) a) fun bl=>ai (bM (sJ bl) 0 a ([]:List (List Int))) fun o=>aG o (fun d=>some d) (fun _ _=>none) (fun r=>some r)) none
theorem Ez {f:List Int->Option Bool}:∀{l:List (List Int)} {bl:List Bool},ov f l=some bl->bl.length=l.length/\∀(i:Nat) (a:List Int),l[i]?=some a->f a=some (bl[i]?.getD false)
 |[],bl,h=>by
  simp[ov] at h;subst h
  exact ⟨rfl,fun i a hi=>by simp at hi⟩
 |x::l,bl,h=>by
  unfold ov at h
  obtain ⟨b,hb,h⟩:=gH h
  obtain ⟨r,c,h⟩:=gH h
  have h:=Option.some.inj h
  subst h
  obtain ⟨e1,e2⟩:=Ez c
  refine ⟨by simp[e1],fun i a hi=>?_⟩
  cases i with
  |zero=>simp at hi;subst hi;simpa using hb
  |succ i=>simp at hi;simpa using e2 i a hi
def EA (x:X)(d:Addr->Option Value)(b3 b4 e f:Nat)(b:Value)(m:Nat)(a:Act)(F:af)(z:Z):Prop:=
 ∃(i:Nat) (c:Addr->Option Value),m=x.n - i/\i<=x.n/\F=⟨c,[]⟩/\Ext d c/\slot a 2=b/\slot a 3= .pointer (some ⟨b3,0,none⟩)/\slot a 4= .pointer (some ⟨b4,0,none⟩)/\slot a 6= .slice none 0 0/\slot a 7= .pointer (some ⟨e,0,none⟩)/\slot a 8= .pointer (some ⟨f,0,none⟩)/\slot a 9= .pointer (some ⟨x.Mu,0,none⟩)/\slot a 10= .pointer (some ⟨x.Wg,0,none⟩)/\slot a 21=b/\slot a 22= .int .i64 x.n/\slot a 23= .int .i64 i/\sz a=49/\a.defers=[]/\z= .co x i (.opn 0) 0
theorem Me (l:List Bool):(l.map fun b=>[Value.bool b]).flatten=l.map Value.bool:=by
 induction l with
 |nil=>rfl
 |cons b l ih=>simp only[List.map_cons,List.flatten_cons,ih];rfl
theorem Mf:Tryz.prog.underlying 172=some (.slice 4):=aj
theorem Mg:Tryz.prog.info? 4=some ((Tryz.prog.info? 4).getD default):=aj
theorem EB {ro:Addr->Option Value}(u0:dn){s1:Value}(o:aH fT ro s1 u0.book.az){bk:Value}(p:aH fe ro bk u0.book.props){bm:Value}(q:aH fN ro bm u0.book.aK){bo:Value}(s:aH dL ro bo u0.book.told){br:Value}(a2:aH iL ro br u0.all)(ab:Int)(a:List (List Int)){bs:Value}(g:aH (rL rI) ro bs a){r:List (List Int)}(h:ow u0 ab a=some r):
  qX Tryz.prog 71 #[.agg #[.int .i64 u0.book.bZ,.int .i64 u0.book.cg,.int .i64 u0.book.bp.num,.int .i64 u0.book.bp.den,s1,bk,bm,bo,br],.int .i64 ab,bs] ro (fun v bf=>∃bz,v=bz/\aH (rL rI) bf bz r):=by
 refine gz.LR (T:=TT) fun Φ=>?_
 obtain ⟨d3,c4,rfl,fu,fv,fw⟩:=id o
 obtain ⟨d10,fx,rfl,fz,gg,P⟩:=id p
 obtain ⟨d17,G,rfl,gl,gn,gp⟩:=id q
 obtain ⟨d24,gB,rfl,gC,gM,gN⟩:=id s
 obtain ⟨d31,im,rfl,gT,gV,g0⟩:=id a2
 obtain ⟨d38,bS,rfl,iv,b0,w⟩:=id g
 unfold ow at h
 have hlen:a.length<1048576:=by
  rcases Nat.lt_or_ge a.length 1048576 with y|y
  .exact y
  .rw[show decide (a.length<1048576)=false by simp;omega] at h;cases h
 rw[show decide (a.length<1048576)=true by simp;omega] at h
 simp only[cond_true] at h
 obtain ⟨b1,b2,h⟩:=gH h
 obtain ⟨bl,b5,h⟩:=gH h
 obtain ⟨ca,cb⟩:=Ez b5
 have hM:=ZJ.eY TT Φ
 have hJ:=fun (z:Z) (Q:zH z=true)=>ZJ.L2 TT Φ z Q
 refine c6.go (main:=true) hM Tryz.func71 rfl Tryz.ntmps71 av fun A Q hd hs=>?_
 have g1:=hs 0
 have k1:=hs 1
 have cd:=hs 2
 clear hs b5
 repeat apply aM (hM _)
 refine bC hM fun K hK=>?_
 refine ak.bK (hJ _ rfl) 3 (n:=0) _ rfl rfl ?_;apply Go.bT _
 intro b3 f3;have r3:=fA f3;have n3:=gx f3
 try simp only[ax] at n3
 intro b4 f4;have g2:=fA f4;have cf:=gx f4
 try simp only[ax] at cf
 try simp only[*,go_sem,-hK,-hM,-hJ,-h]
 refine ak.nil hM (hK _ _ _ ?_);clear hK K
 have k:=hJ .free rfl
 repeat apply aM (hM _)
 refine bC hM fun K hK=>?_
 refine ak.bK (hJ _ rfl) 4 (n:=0) _ rfl rfl ?_;apply Go.bT _
 refine wJ k _ (Cb u0 ⟨o,p,q,s⟩ a2 b2) fun v ix H g3 R=>?_
 obtain ⟨jC,rfl,I⟩:=R
 replace o:=o.mono H
 replace p:=p.mono H
 replace q:=q.mono H
 replace s:=s.mono H
 replace g:=g.mono H
 obtain ⟨d45,g4,rfl,ha,hc,hf⟩:=id I
 clear fw P gp gN g0 w hf r3 g2
 apply aP
 try simp only[*,go_sem,-hK,-hM,-hJ,-h,-k]
 intro a3 f7;have hg:=fA f7;have cl:=gx f7
 try simp only[ax] at cl
 try simp only[*,go_sem,-hK,-hM,-hJ,-h,-k]
 refine ak.nil hM (hK _ _ _ ?_);clear hK K
 repeat apply aM (hM _)
 refine bC hM fun K hK=>?_
 refine ak.bK (hJ _ rfl) 5 (n:=0) _ rfl rfl ?_;apply Go.bT _
 refine L1 Mf Mg rfl A7 Gm hlen fun f a4=>?_
 have rI:=fA a4;have nI:=gx a4
 try simp only[ax] at nI
 apply aP
 try simp only[*,go_sem,-hK,-hM,-hJ,-h,-k]
 intro S f8;have hh:=fA f8;have cS:=gx f8
 try simp only[ax] at cS
 try simp only[*,go_sem,-hK,-hM,-hJ,-h,-k]
 refine ak.nil hM (hK _ _ _ ?_);clear hK K
 repeat apply aM (hM _)
 refine bC hM fun K hK=>?_
 refine ak.bK (hJ _ rfl) 1 (n:=0) _ rfl rfl ?_;apply Go.bT _
 intro J f9;have hj:=fA f9;have c0:=gx f9
 try simp only[ax] at c0
 try simp only[*,go_sem,-hK,-hM,-hJ,-h,-k]
 refine ak.nil hM (hK _ _ _ ?_);clear hK K
 repeat apply aM (hM _)
 refine bC hM fun K hK=>?_
 refine ak.bK (hJ _ rfl) 1 (n:=0) _ rfl rfl ?_;apply Go.bT _
 intro L f10;have hk:=fA f10;have da:=gx f10
 try simp only[ax] at da
 try simp only[*,go_sem,-hK,-hM,-hJ,-h,-k]
 refine ak.nil hM (hK _ _ _ ?_);clear hK K
 repeat apply aM (hM _)
 refine bC hM fun K hK=>?_
 refine ak.bK (hJ _ rfl) 3 (n:=0) _ rfl rfl ?_;apply Go.bT _
 refine ak.nil hM (hK _ _ _ ?_);clear hK K
 refine zI k fun nd no=>?_
 obtain ⟨ad,B,hle,u,db,dd,df⟩:=L3 nd no
 clear nd no
 refine LO (T:=TT) (Φ:=Φ) ⟨ad,[]⟩ J L f a.length (fun i=>bl[i]?.getD false) hle ?_
 intro base B0 T0 hl aO
 clear hle
 have ae:a.length<67108864:=aa
 replace o:=o.mono B
 replace p:=p.mono B
 replace q:=q.mono B
 replace s:=s.mono B
 replace g:=g.mono B
 replace I:=I.mono B
 have dk:=u 0 (.int .i64 u0.book.bZ) rfl
 have dp:=u 1 (.int .i64 u0.book.cg) rfl
 have dq:=u 2 (.int .i64 u0.book.bp.num) rfl
 have ds:=u 3 (.int .i64 u0.book.bp.den) rfl
 have dt:=u 4 (.slice d3 u0.book.az.length c4) rfl
 have du:=u 5 (.slice d10 u0.book.props.length fx) rfl
 have dv:=u 6 (.slice d17 u0.book.aK.length G) rfl
 have dC:=u 7 (.slice d24 u0.book.told.length gB) rfl
 have dE:=db 0 (.int .i64 ab) rfl
 have dT:=dd 0 (.slice d45 b1.length g4) rfl
 have a5:=df 0 (.slice (some ⟨f,0,none⟩) a.length a.length) rfl
 clear u db dd df f3 f4 f7 f8 f9 f10 a4 n3 cf cl cS c0 da nI hg hh hj hk rI g3
 repeat apply aM (hM _)
 refine kP hM ?_
 refine sD hM (EA (⟨J,L,f,a.length,(fun i=>bl[i]?.getD false),base,T0,B0⟩:X) ad b3 b4 a3 S (.slice d38 a.length bS)) a.length ?_ ?_
 .exact ⟨0,ad,rfl,Nat.zero_le _,rfl,Ext.refl _,aC,aC,aC,aC,aC,aC,aC,aC,aC,aC,aC,aC,aC,rfl⟩
 clear g1 k1 cd Q hd
 rintro m A F' ea ⟨i,N,rfl,hi,rfl,c,cd,hn,ho,j1,hp,j2,hq,hr,ht,hv,hx,Q,hd,rfl⟩
 have hi:i<=a.length:=hi
 replace o:=o.mono c
 replace p:=p.mono c
 replace q:=q.mono c
 replace s:=s.mono c
 replace g:=g.mono c
 replace I:=I.mono c
 rcases Nat.lt_or_ge i a.length with al|hy
 .have c1:decide ((i:Int)<(a.length:Int))=true:=by simp;omega
  have i0:(0:Int)<=(i:Int):=aa
  have i1:(i:Int)<(a.length:Int):=aa
  obtain ⟨a6,eb⟩:∃x,a[i]?=some x:=⟨_,List.getElem?_eq_getElem al⟩
  obtain ⟨_,_,w⟩:=g.op
  obtain ⟨hz,ec,a7,a8,U⟩:=w _ _ eb
  obtain ⟨hA,rfl,V⟩:=a8
  obtain ⟨d32,W,rfl,hB,hD,-⟩:=id V
  cases a7
  have hE:=U 0 _ rfl
  simp only[go_sem] at hE
  clear U w
  have ed:=cM (n:=i) aa
  repeat apply aM (hM _)
  refine bC hM fun K hK=>?_
  refine ak.bK (hJ _ rfl) 1 (n:=0) _ rfl rfl ?_;apply Go.bT _
  refine ak.nil hM (hK _ _ _ ?_);clear hK K
  repeat apply aM (hM _)
  refine dB (hM _) aC ?_
  apply c7 (hM _)
  repeat apply aM (hM _)
  refine kP hM ?_
  repeat apply aM (hM _)
  refine bC hM fun K hK=>?_
  refine ak.bK (hJ _ rfl) 7 (n:=0) _ rfl rfl ?_;apply Go.bT _
  intro hF f11;have hG:=fA f11;have eh:=gx f11
  try simp only[ax] at eh
  try simp only[*,go_sem,-hK,-hM,-hJ,-h,-k]
  intro hI f12;have hL:=fA f12;have et:=gx f12
  try simp only[ax] at et
  try simp only[*,go_sem,-hK,-hM,-hJ,-h,-k]
  refine ak.nil hM (hK _ _ _ ?_);clear hK K
  refine zI (hJ _ rfl) fun nd no=>?_
  obtain ⟨hN,d,hle,ev,eQ⟩:=L4 nd no
  clear nd no f11 f12 hG hL eh et
  refine Ey (hJ _ rfl) hle ?_
  clear hle
  have hP:=ev 0 (.int .i64 i) rfl
  have hQ:=eQ 0 (.slice d32 a6.length W) rfl
  clear ev eQ
  repeat apply aM (hM _)
  refine bC hM fun K hK=>?_
  refine ak.gW (hM _) rfl cH rfl Bf er (LZ aO ae) fun v F' ea R=>?_
  obtain ⟨rfl,rfl,rfl⟩:=R
  refine ak.nil hM (hK _ _ _ ?_);clear hK K
  repeat apply aM (hM _)
  refine bC hM fun K hK=>?_
  refine ak.bK (hJ _ rfl) 1 (n:=1) _ rfl rfl ?_;apply Go.bT _
  refine L5 (caps:=#[.pointer (some ⟨L,0,none⟩),.pointer (some ⟨b3,0,none⟩),.pointer (some ⟨b4,0,none⟩),.pointer (some ⟨hI,0,none⟩),.pointer (some ⟨a3,0,none⟩),.pointer (some ⟨J,0,none⟩),.pointer (some ⟨S,0,none⟩),.pointer (some ⟨hF,0,none⟩)]) (f0:=127) al ⟨_,rfl,cH,rfl,rfl⟩ er ?_ ?_
  .exact Md aO ae al u0 (o.mono d) (p.mono d) (q.mono d) (s.mono d) ab a6 (V.mono d) b1 (I.mono d) (d _ _ (c _ _ dk)) (d _ _ (c _ _ dp)) (d _ _ (c _ _ dq)) (d _ _ (c _ _ ds)) (d _ _ (c _ _ dt)) (d _ _ (c _ _ du)) (d _ _ (c _ _ dv)) (d _ _ (c _ _ dC)) (d _ _ (c _ _ dE)) hQ (d _ _ (c _ _ dT)) (d _ _ (c _ _ a5)) hP (cb i a6 eb)
  refine ak.nil hM (hK _ _ _ ?_);clear hK K
  repeat apply aM (hM _)
  refine bC hM fun K hK=>?_
  refine ak.bK (hJ _ rfl) 2 (n:=0) _ rfl rfl ?_;apply Go.bT _
  refine ak.nil hM (hK _ _ _ ?_);clear hK K
  change ∃eS,eS<a.length - i/\EA _ ad b3 b4 a3 S _ eS _ _ _
  exact ⟨a.length - (i+1),aa,i+1,hN,rfl,al,rfl,c.trans d,aC,aC,aC,aC,aC,aC,aC,aC,aC,aC,aC,aC,aC,rfl⟩
 .have c1:decide ((i:Int)<(a.length:Int))=false:=by simp;omega
  obtain rfl:i=a.length:=aa
  repeat apply aM (hM _)
  refine bC hM fun K hK=>?_
  refine ak.bK (hJ _ rfl) 1 (n:=0) _ rfl rfl ?_;apply Go.bT _
  refine ak.nil hM (hK _ _ _ ?_);clear hK K
  repeat apply aM (hM _)
  refine cX (hM _) aC ?_
  refine qi ?_
  simp only[go_sem]
  repeat apply aM (hM _)
  refine bC hM fun K hK=>?_
  refine ak.gW (hM _) rfl cH rfl GJ er (L0 aO ae) fun v F' ea R=>?_
  obtain ⟨rfl,rfl,rfl⟩:=R
  refine ak.nil hM (hK _ _ _ ?_);clear hK K
  refine zI k fun nd no=>?_
  have rI:∀off sp,N ⟨f,off,sp⟩=none:=fun off sp=>no f (by simp[keys]) off sp
  have hle:Le ⟨b9 N f (X.cy (⟨J,L,f,a.length,(fun i=>bl[i]?.getD false),base,T0,B0⟩:X) TT).fin,[]⟩ ⟨N,[(f,(X.cy (⟨J,L,f,a.length,(fun i=>bl[i]?.getD false),base,T0,B0⟩:X) TT).fin)]⟩:=kZ (by simp[lk]) av trivial
  have Y:aH rB (b9 N f (X.cy (⟨J,L,f,a.length,(fun i=>bl[i]?.getD false),base,T0,B0⟩:X) TT).fin) (.slice (some ⟨f,0,none⟩) bl.length bl.length) bl:=aH.flat (fun b=>[.bool b]) bl (fun _=>rfl) rI (by
   show (((List.range a.length).map fun i=>Value.bool (bl[i]?.getD false)).toArray).toList=_
   rw[<-ca]
   apply List.ext_getElem?
   intro j
   rw[Me bl]
   simp only[List.getElem?_map]
   rcases Nat.lt_or_ge j bl.length with y|y
   .simp[y]
   .simp[y]) aa
  obtain ⟨C,a9⟩:∃C,C=b9 N f (X.cy (⟨J,L,f,a.length,(fun i=>bl[i]?.getD false),base,T0,B0⟩:X) TT).fin:=⟨_,rfl⟩
  have ao:Ext N C:=by rw[a9];exact gY _ _ _
  have hR:Ext ro C:=H.trans (B.trans (c.trans ao))
  rw[<-a9] at hle Y
  refine Ey k hle ?_
  replace g:=g.mono ao
  have a5:C ⟨S,0,none⟩=some (.slice (some ⟨f,0,none⟩) bl.length bl.length):=by rw[ca];exact ao _ _ (c _ _ a5)
  clear hle nd no a9 rI dk dp dq ds dt du dv dC dE dT hM hJ aO ae hl o p q s I b2 cb c1 hlen hy hi ao H B c hn ho hp hq hr ht hv hx fu fv fz gg gl gn gC gM a2 gT gV ha hc
  obtain ⟨_,_,w⟩:=g.op
  obtain ⟨_,_,P⟩:=Y.op
  have hJ:=k
  clear k
  refine dg.of hJ ?_
  repeat apply ah hJ
  apply aQ hJ
  apply bV _
  repeat apply ah hJ
  apply aQ hJ
  apply bV _
  repeat apply ah hJ
  apply aW hJ
  have e:=gH h;clear h;obtain ⟨hS,D,hT⟩:=e;have h:=True.intro
  refine bW hJ [13,14,15,34,35,36,37,38,39,40,41,42,43,44,45,46,47] (fun m eV F'=>∃(i23:Nat) (d17:Option Addr) (G:Nat) (ar:List (Nat×Obj)) (E:(List (List Int))),m=a.length - i23/\i23<=a.length/\bM (sJ bl) i23 (a.drop i23) E=some hS/\F'=⟨C,ar⟩/\aZ (rL rI) C 35 (.slice d17 E.length G) E ar/\E.length<=G/\slot eV 34= .int .i64 (i23:Int)/\slot eV 13= .slice d17 E.length G) a.length ?_ ?_
  .refine ⟨0,none,0,[],([]:List (List Int)),(Nat.sub_zero _).symm,Nat.zero_le _,D,rfl,aZ.nil _ _ _,Nat.le_refl _,?_⟩
   simp only[*,go_sem,-h]
  .rintro kh O F' M ⟨i23,d17,G,ar,E,rfl,kj,D,rfl,ba,hV,kk,kl⟩
   have h:=True.intro
   have km:sz O=49:=by rw[M.size];simp only[*,go_sem,-h]
   have kn:O.defers=[]:=by rw[M.defers];simp only[*,go_sem,-h]
   have kp:slot O 6= .slice none 0 0:=by rw[M.ga 6 aD];simp only[*,go_sem,-h]
   have ks:slot O 8= .pointer (some ⟨S,0,none⟩):=by rw[M.ga 8 aD];simp only[*,go_sem,-h]
   have kt:slot O 32= .slice d38 a.length bS:=by rw[M.ga 32 aD];simp only[*,go_sem,-h]
   have kv:slot O 33= .int .i64 (a.length:Int):=by rw[M.ga 33 aD];simp only[*,go_sem,-h]
   clear M Q hd
   repeat apply ah hJ
   apply aQ hJ
   apply bV _
   repeat apply ah hJ
   rcases Nat.lt_or_ge i23 a.length with hX|e0
   .refine eF hJ dH ?_
    apply aN hJ
    obtain ⟨a0,bb⟩:∃x,a[i23]?=some x:=⟨_,List.getElem?_eq_getElem hX⟩
    rw[dJ bb] at D
    have e:=gH D;clear D h;obtain ⟨kx,h,e1⟩:=e
    unfold sJ at h
    try dsimp only at h
    obtain ⟨ky,k0,hY,hZ,e3⟩:=w _ _ bb
    obtain ⟨hA,rfl,V⟩:=hZ;obtain ⟨d32,W,rfl,hB,hD,k2⟩:=id V
    cases hY
    have h0:=e3 0 _ rfl;simp only[go_sem] at h0
    clear e3 bb
    repeat apply ah hJ
    apply aW hJ
    repeat apply ah hJ
    refine ay hJ fun lb=>?_
    apply aQ hJ
    apply bV _
    repeat apply ah hJ
    refine ay hJ fun lh=>?_
    apply aQ hJ
    have e:=gH h;clear h;obtain ⟨h1,h2,h⟩:=e
    obtain ⟨lj,ll,fa⟩:=ck h2
    obtain ⟨hz,ec,a7,a8,U⟩:=P _ _ fa
    obtain rfl:ec=[.bool h1]:=a8
    cases a7
    have h3:=U 0 _ rfl;simp only[go_sem] at h3
    clear U fa
    try apply bV _
    have e:=jI h;clear h;rcases e with ⟨bc,h⟩|⟨bc,h⟩
    .try simp only[Int.ofNat_lt] at bc
     refine eF hJ dH ?_
     refine ay hJ fun h4=>?_
     apply aQ hJ
     have e:=gH h;clear h;obtain ⟨h5,h6,h⟩:=e
     obtain ⟨h7,fb⟩:=cL h6
     apply bV _
     intro fg f45;have h8:=fA f45;have fi:=gx f45
     have h9:=bg.cons fi h4
     try simp only[ax] at fi
     try apply bV _
     refine Bw (r:=(rL rI)) (l:=E) (x:=a0) (cs:=#[.slice d32 a0.length W]) (e2:=35) [(fg,.cells #[.slice d32 a0.length W] 35)] [] (by first|rfl|simp only[aY]|(simp only[aY];rfl)) ba h9 h7 ⟨_,rfl,V⟩ dH h8 rfl rfl gJ gJ lZ l6 rfl l5 aD aD (fun ln fp bd ib ic lo=>?_)
     simp only[aY] at ic
     subst ib
     rw[<-fb] at bd;clear fb
     obtain ⟨d53,ih,rfl,ik⟩:=bd.len
     refine ⟨⟨C,(fg,.cells #[.slice d32 a0.length W] 35)::fp⟩,Le.refl _,?_⟩
     apply aP
     try apply bV _
     have e:=Option.some.inj h;clear h;subst e
     have h:=True.intro
     have ed:=cM (n:=i23) (by have:=b0;omega)
     apply aQ hJ
     apply bV _
     refine ⟨a.length - (i23+1),aa,_,Le.sub (List.Sublist.cons _ (List.Sublist.refl _)),i23+1,d53,ih,fp,h5,rfl,aa,e1,rfl,bd,ik,?_⟩
     simp only[*,go_sem,-h]
    .try simp only[Int.ofNat_lt] at bc
     refine ew hJ dH ?_
     apply aN hJ
     have e:=Option.some.inj h;clear h;subst e
     have h:=True.intro
     have ed:=cM (n:=i23) (by have:=b0;omega)
     apply aQ hJ
     apply bV _
     refine ⟨a.length - (i23+1),aa,_,Le.sub (List.Sublist.refl _),i23+1,d17,G,ar,E,rfl,aa,e1,rfl,ba,hV,?_⟩
     simp only[*,go_sem,-h]
   .have lr:=Nat.not_lt.2 e0
    refine ew hJ dH ?_
    rw[List.drop_eq_nil_of_le e0] at D
    have e:=Option.some.inj D;clear D h;subst e
    have h:=hT
    dsimp only[aG] at h
    apply bP
    simp only[go_sem]
    repeat apply ah hJ
    refine ay hJ fun lv=>?_
    apply aQ hJ
    apply bV _
    have e:=Option.some.inj h;clear h;subst e
    refine ay hJ fun fr=>?_
    obtain ⟨fs,bj,lx,ft,il⟩:=ba.l8 (([]:List (Nat×Obj))) [] [] (by first|rfl|simp only[aY]|(simp only[aY];rfl)) (by first|rfl|simp only[aY]|(simp only[aY];rfl)) fr (aJ.nil _)
    clear fr
    refine cB (F:=⟨fs,([]:List (Nat×Obj))⟩) hJ il ?_
    obtain ⟨ly,lL,l1⟩:=ft.op
    replace g:=g.mono bj;clear w;obtain ⟨_,_,w⟩:=g.op
    replace Y:=Y.mono bj;clear P;obtain ⟨_,_,P⟩:=Y.op
    apply aT
    exact (mI (t:=6) rfl aL aL ⟨rfl,fs,hR.trans bj,Le.refl _,_,rfl,ft⟩).2
end Go.Proofs.YtbpddfapodiemaaGreatDoor
end
section
namespace Go.Proofs.YtbpddfapodiemaaGreatDoor
open Go Go.Sep Go.Proofs
set_option maxRecDepth 100000
set_option maxHeartbeats 4000000
def lO (u0:an)(b:Int):Option ((List Int)×Int):=
 ai (gO u0 ([(fV b),kD])) fun a=>cond ((a.2 != 0)) (some (([]:(List Int)),a.2)) (ai (nF a.1.book ([([]:(List Int))])) fun c=>ai (ow a.1 b c) fun d=>ai (rP d) fun e=>some (e,0))
theorem EC {ro:Addr->Option Value}(L:dM ro)(u0:an){s1 g i j:Value}(D:bR ro u0 s1 g i j)(a:Int){r:((List Int)×Int)}(h:lO u0 a=some r):qX Tryz.prog 10 #[bv u0 s1 g i j,.int .i64 a] ro (fun v bf=>∃W,v= .tuple #[W,.int .i64 r.2]/\aH rI bf W r.1):=by
 unfold lO at h;have ba:=D.oc;simp only[bU] at ba;refine gz.go Tryz.func10 rfl Tryz.ntmps10 Tryz.results10 av fun Φ hJ A b5 hd hs=>?_;have ca:=hs 0;have k1:=hs 1;clear hs;apply aB hJ _;refine aA fun w c bb=>?_;try simp only[ax] at bb
 apply ah hJ;refine ay hJ fun bc=>?_;apply aQ hJ;revert h;refine bS fun n bd h=>?_;apply ag _;refine aA fun z X Y=>?_;have Z:=bg.cons Y bc;try simp only[ax] at Y
 obtain ⟨B,M,ab⟩:=fD (b:=z) (o:=(.cells #[.func (.func 68) #[.int .i64 a] #[],.func (.func 69) #[] #[]] 116)) [] ((w,bk u0 s1 g i j)::[]) Z X (aJ.cons c (aJ.nil _));have ad:aH (dG) (b9 ro z (.cells #[.func (.func 68) #[.int .i64 a] #[],.func (.func 69) #[] #[]] 116)) (.slice (some ⟨z,0,none⟩) 2 2) [(fV a),kD]:=(aH.two (r:=(dG)) (e:=116) (v:=.func (.func 68) #[.int .i64 a] #[]) (u:=.func (.func 69) #[] #[]) (x:=(fV a)) (y:=kD) (own:=[(z,.cells #[.func (.func 68) #[.int .i64 a] #[],.func (.func 69) #[] #[]] 116)]) X (by simp[lk]) rfl ⟨68,#[.int .i64 a],#[],rfl,⟨by simp only[go_sem],fun bj bl N _ _ _ _ _ O P Q R h=>by simp only[go_sem];exact xk a N ⟨O,P,Q,R⟩ h⟩⟩ ⟨69,#[],#[],rfl,⟨by simp only[go_sem],fun bj bl N _ _ _ _ _ O P Q R h=>by simp only[go_sem];exact IU N ⟨O,P,Q,R⟩ h⟩⟩)
 generalize b9 ro z (.cells #[.func (.func 68) #[.int .i64 a] #[],.func (.func 69) #[] #[]] 116)=cb at ad M B ab;refine gI hJ ab ?_;replace D:=D.mono B;replace c:=M.hd;replace L:=L.mono B;simp only[bt] at M;have bm:=bg.tl Z;refine cc hJ _ (kA L u0 D ([(fV a),kD]) ad bd) fun v ae al ao k=>?_;obtain ⟨E,F,G,H,I,rfl,d,q⟩:=k;have bo:=d.oc;simp only[bU] at bo;have br:=q.oc;simp only[bU] at br;replace c:=ao.hd;simp only[bt] at ao;apply aP;apply ag _;refine aA fun J f ar=>?_;have cd:=bg.cons ar bm;try simp only[ax] at ar
 refine ah hJ (aF hJ ?_);apply ag _;revert h;refine aV hJ (fun bs h=>?_) fun bs h=>?_
 .cases h;apply aB hJ _;refine bX ?_;exact ⟨_,(B).trans al,Le.sub (List.nil_sublist _),_,rfl,aH.nil _ _⟩
 refine aN hJ (ah hJ ?_);refine ay hJ fun bz=>?_;refine c5 hJ mixed 4 2 aL aj ?_;revert h;refine bS fun b0 b1 h=>?_;apply ag _;refine aA fun C a0 a2=>?_;have a3:=bg.cons a2 bz;try simp only[ax] at a2
 apply ag _;obtain ⟨m,K,a4⟩:=fD (b:=C) (o:=(.cells #[.slice none 0 0] 35)) [] ((J,kn n.1 E F G H I)::(w,bk u0 s1 g i j)::[]) a3 a0 (aJ.cons f (aJ.cons c (aJ.nil _)));have a5:aH (rL rI) (b9 ae C (.cells #[.slice none 0 0] 35)) (.slice (some ⟨C,0,none⟩) 1 1) [([]:(List Int))]:=(aH.one (r:=(rL rI)) (e:=35) (cs:=#[.slice none 0 0]) (x:=([]:(List Int))) (own:=[(C,.cells #[.slice none 0 0] 35)]) a0 (by simp[lk]) ⟨_,rfl,aH.nil _ _⟩)
 generalize b9 ae C (.cells #[.slice none 0 0] 35)=cf at a5 K m a4;refine gI hJ a4 ?_;replace d:=d.mono m;replace q:=q.mono m;replace f:=K.hd;replace c:=K.tl.hd;simp only[bt] at K;have cl:=bg.tl a3;refine cc hJ _ (B3 n.1.book d ([([]:(List Int))]) a5 b1) fun v cy s S k=>?_;obtain ⟨cS,rfl,a6⟩:=k;replace d:=d.mono s;replace q:=q.mono s;replace f:=S.hd;replace c:=S.tl.hd;simp only[bt] at S;obtain ⟨d92,c0,rfl,da,db,-⟩:=id a6;have dd:=fE (l:=[(J,kn n.1 E F G H I),(w,bk u0 s1 g i j)]) (m.trans s) (aJ.cons f (aJ.cons c (aJ.nil _)));refine ⟨aL,?_⟩;refine lW ?_;revert h;refine bS fun b2 b3 h=>?_;apply ag _;refine oN _ (EB n.1 d.e d.p d.y d.t q a b0 a6 b3) fun v df T U k=>?_;obtain ⟨dk,rfl,a7⟩:=k;replace f:=U.hd;replace c:=U.tl.hd;simp only[bt] at U;obtain ⟨d111,dp,rfl,dq,ds,-⟩:=id a7;have dt:=fE (l:=[(J,kn n.1 E F G H I),(w,bk u0 s1 g i j)]) ((m.trans s).trans T) (aJ.cons f (aJ.cons c (aJ.nil _)));refine ⟨aL,?_⟩;refine lW ?_;revert h;refine bS fun du b4 h=>?_;cases h;apply ag _;refine cc hJ _ (IV b2 a7 b4) fun v dv a8 V k=>?_;obtain ⟨dC,rfl,a9⟩:=k;replace f:=V.hd;replace c:=V.tl.hd;simp only[bt] at V;obtain ⟨d124,dE,rfl,dT,ea,-⟩:=id a9;have eb:=fE (l:=[(J,kn n.1 E F G H I),(w,bk u0 s1 g i j)]) (((m.trans s).trans T).trans a8) (aJ.cons f (aJ.cons c (aJ.nil _)));refine ⟨aL,?_⟩;refine lW ?_;apply ag _;refine bX ?_;exact ⟨_,(((((B).trans al).trans m).trans s).trans T).trans a8,Le.sub (List.nil_sublist _),_,rfl,a9⟩
def qq (u0:an)(c:Int)(a:(dn×Int))(st:(Bool×Int×(List (List Int))×Int)):Option (Fl (Bool×Int×(List (List Int))×Int) ((List Int)×Bool×Int)):=
 cond (decide (st.2.2.2<(IntKind.i64.wrap ((IntKind.i64.wrap (3 - (u0.props.length:Int)))+1)))) (ai (ow a.1 c st.2.2.1) fun b=>cond (decide (0<(b.length:Int))) (ai (bu b 0) fun d=>some (.rt (d,true,0))) (ai (nF a.1.book st.2.2.1) fun e=>some (.nx (st.1,st.2.1,e,(IntKind.i64.wrap (st.2.2.2+1)))))) (some (.bk (st.1,st.2.1,st.2.2.1,st.2.2.2)))
def lP (u0:an)(b:Int):Option ((List Int)×Bool×Int):=
 ai (gO u0 ([(fV b)])) fun a=>cond ((a.2 != 0)) (some (([]:(List Int)),false,a.2)) (ai (aS (qq u0 b a) fu (false,a.2,([([]:(List Int))]),0)) fun o=>aG o (fun c=>some (([]:(List Int)),false,0)) (fun _ _=>none) (fun r=>some r))
theorem ED {ro:Addr->Option Value}(K:dM ro)(u0:an){s1 S k l:Value}(n:bR ro u0 s1 S k l)(a:Int){r:((List Int)×Bool×Int)}(h:lP u0 a=some r):qX Tryz.prog 13 #[bv u0 s1 S k l,.int .i64 a] ro (fun v bf=>∃T,v= .tuple #[T,.bool r.2.1,.int .i64 r.2.2]/\aH rI bf T r.1):=by
 obtain ⟨d10,L,rfl,ed,eh,-⟩:=id n.p;unfold lP at h;have bm:=n.oc;simp only[bU] at bm;refine gz.go Tryz.func13 rfl Tryz.ntmps13 Tryz.results13 av fun Φ hJ A bo hd hs=>?_;have br:=hs 0;have k1:=hs 1;clear hs;apply aB hJ _;refine aA fun M C bs=>?_;try simp only[ax] at bs
 apply ah hJ;refine ay hJ fun bz=>?_;apply aQ hJ;revert h;refine bS fun f b0 h=>?_;apply ag _;refine aA fun q U V=>?_;have W:=bg.cons V bz;try simp only[ax] at V
 obtain ⟨g,N,X⟩:=fD (b:=q) (o:=(.cells #[.func (.func 68) #[.int .i64 a] #[]] 116)) [] ((M,bk u0 s1 (sl d10 u0.props L) k l)::[]) W U (aJ.cons C (aJ.nil _));have Y:aH (dG) (b9 ro q (.cells #[.func (.func 68) #[.int .i64 a] #[]] 116)) (.slice (some ⟨q,0,none⟩) 1 1) [(fV a)]:=(aH.one (r:=(dG)) (e:=116) (cs:=#[.func (.func 68) #[.int .i64 a] #[]]) (x:=(fV a)) (own:=[(q,.cells #[.func (.func 68) #[.int .i64 a] #[]] 116)]) U (by simp[lk]) ⟨68,#[.int .i64 a],#[],rfl,⟨by simp only[go_sem],fun et ev b1 _ _ _ _ _ b2 b3 b4 b5 h=>by simp only[go_sem];exact xk a b1 ⟨b2,b3,b4,b5⟩ h⟩⟩)
 generalize b9 ro q (.cells #[.func (.func 68) #[.int .i64 a] #[]] 116)=eQ at Y N g X;refine gI hJ X ?_;replace n:=n.mono g;replace C:=N.hd;replace K:=K.mono g;simp only[bt] at N;have ca:=bg.tl W;refine cc hJ _ (kA K u0 n ([(fV a)]) Y b0) fun v Z O ab s=>?_;obtain ⟨ad,ae,al,ao,ar,rfl,c,i⟩:=s;have cb:=c.oc;simp only[bU] at cb;have cd:=i.oc;simp only[bU] at cd;replace C:=ab.hd;simp only[bt] at ab;apply aP;apply ag _;refine aA fun a0 cf a2=>?_;have eS:=bg.cons a2 ca;try simp only[ax] at a2
 refine ah hJ (aF hJ ?_);apply ag _;revert h;refine aV hJ (fun cl h=>?_) fun cl h=>?_
 .cases h;apply aB hJ _;refine bX ?_;exact ⟨_,(g).trans O,Le.sub (List.nil_sublist _),_,rfl,aH.nil _ _⟩
 refine aN hJ (ah hJ ?_);refine ay hJ fun cy=>?_;apply aE hJ _;refine aA fun j a3 a4=>?_;have eV:=bg.cons a4 cy;try simp only[ax] at a4
 refine ah hJ (aF hJ ?_);apply ag _;refine ay hJ fun a5=>?_;obtain ⟨u,a6,a7⟩:=fD (b:=j) (o:=(.cells #[.slice none 0 0] 35)) [] ((a0,kn f.1 ad ae al ao ar)::(M,bk u0 s1 (sl d10 u0.props L) k l)::[]) a5 a3 (aJ.cons cf (aJ.cons C (aJ.nil _)));clear a5;have P:aH (rL rI) (b9 Z j (.cells #[.slice none 0 0] 35)) (.slice (some ⟨j,0,none⟩) 1 1) [([]:(List Int))]:=(aH.one (r:=(rL rI)) (e:=35) (cs:=#[.slice none 0 0]) (x:=([]:(List Int))) (own:=[(j,.cells #[.slice none 0 0] 35)]) a3 (by simp[lk]) ⟨_,rfl,aH.nil _ _⟩)
 generalize b9 Z j (.cells #[.slice none 0 0] 35)=a8 at u a6 a7 P;refine cB hJ a7 ?_;obtain ⟨e0,e1,-⟩:=P.op;replace c:=c.mono u;replace i:=i.mono u;simp only[bt] at a6;apply aW hJ;revert h;refine bS fun cS D a9=>?_;refine bW hJ (rg 27 17 [4,5,6,8,9]) (fun m E F'=>∃(F:Addr->Option Value) (d98:Option Addr) (Q:Nat) (G:Bool) (H:Int) (d:(List (List Int))) (I:Int),aS (qq u0 a f) m (G,H,d,I)=some cS/\F'=⟨F,(a0,kn f.1 ad ae al ao ar)::(M,bk u0 s1 (sl d10 u0.props L) k l)::[]⟩/\Ext a8 F/\aH (rL rI) F (.slice d98 d.length Q) d/\slot E 5= .bool G/\slot E 6= .int .i64 H/\slot E 8= .slice d98 d.length Q/\slot E 27= .int .i64 I) fu ?_ ?_
 .refine ⟨a8,(some ⟨j,0,none⟩),1,false,f.2,([([]:(List Int))]),0,D,rfl,Ext.refl _,P,?_⟩;simp only[*,go_sem]
 rintro R e2 F' ba ⟨F,d98,Q,G,H,d,I,D,rfl,w,z,e3,fa,fb,fg⟩;refine eI hJ fun _ c0=>?_;replace c:=c.mono w;replace i:=i.mono w;simp only[bt] at c0;obtain ⟨fi,fp,-⟩:=z.op;obtain ⟨da,db,dd⟩:=ba.pick [1,7,26] aD;simp only[*,go_sem] at da db dd;clear ba bo hd br k1;obtain _|R:=R
 .exact absurd D (by simp only[aS,reduceCtorEq,not_false_eq_true])
 revert D;refine bS fun fr h B=>?_;unfold qq at h;try dsimp only at h
 apply aB hJ _;apply ah hJ;revert h;refine aV hJ (fun df h=>?_) fun df h=>?_
 .refine aN hJ (ah hJ ?_);refine aW hJ (ah hJ ?_);apply aF hJ;revert h;refine bS fun fs dk h=>?_;apply ag _;refine oN _ (EB f.1 c.e c.p c.y c.t i a d z dk) fun v ft J dp s=>?_;obtain ⟨fv,rfl,bb⟩:=s;replace z:=z.mono J;replace c:=c.mono J;simp only[bt] at dp;obtain ⟨d121,fw,rfl,fx,fz,-⟩:=id bb;apply aP;apply ag _;apply aB hJ _;revert h;refine aV hJ (fun dq h=>?_) fun dq h=>?_
  .apply aF hJ;revert h;refine bS fun gg ds h=>?_;cases h;obtain ⟨gl,gn,bc⟩:=ck ds;obtain ⟨gp,gB,dt,du,bd⟩:=bb.el _ _ bc;obtain ⟨gC,rfl,bj⟩:=du;obtain ⟨d130,gM,rfl,gN,gT,gV⟩:=id bj;cases dt;have dv:=bd 0 _ rfl;simp only[go_sem] at dv;clear bd bc;apply ag _;obtain rfl:=sI B;clear B;have h:=a9;dsimp only[aG] at h;cases h;refine bX ?_;exact ⟨_,((((g).trans O).trans u).trans w).trans J,Le.sub (List.nil_sublist _),_,rfl,bj⟩
  refine aN hJ (aQ hJ ?_);revert h;refine bS fun dC dE h=>?_;cases h;apply ag _;refine cc hJ _ (B3 f.1.book c d z dE) fun v dT ea eb s=>?_;obtain ⟨g0,rfl,bl⟩:=s;simp only[bt] at eb;obtain ⟨d144,ec,rfl,g1,g2,-⟩:=id bl;apply aP;apply ag _;apply aE hJ _;refine ⟨R,Nat.lt_succ_self _,_,Le.sub (List.Sublist.refl _),dT,d144,ec,G,H,dC,(IntKind.i64.wrap (I+1)),B,rfl,(w.trans (J.trans ea)),bl,?_⟩;simp only[*,go_sem]
 cases h;apply bP;simp only[go_sem];obtain rfl:=sI B;clear B;have h:=a9;dsimp only[aG] at h;cases h;apply aB hJ _;refine bX ?_;exact ⟨_,(((g).trans O).trans u).trans w,Le.sub (List.nil_sublist _),_,rfl,aH.nil _ _⟩
def zK (a:(Int×Int×Int))(e:(an×Int))(b:((List Int)×Int))(f:(an×Int))(g:(an×Int))(c:(Int×Int))(d:((List Int)×Int)):Option Bool:=
 cond ((a.2.2==0)) (cond ((e.2==0)) (cond ((b.2==0)) (cond ((f.2==9)) (cond ((g.2==0)) (cond ((c.2==0)) (cond ((d.2==0)) (cond ((a.1==0)) (cond ((a.2.1==2)) (ai (nC b.1 ([11,12])) fun h=>cond (h) (cond ((c.1==2)) (ai (nC d.1 ([1])) fun i=>some i) (some false)) (some false)) (some false)) (some false)) (some false)) (some false)) (some false)) (some false)) (some false)) (some false)) (some false)
def zL (a:an):Option Bool:=
 ai (ya a) fun d=>ai (nN 0 true) fun e=>ai (uI a e) fun b=>ai (uL b.1 0) fun f=>ai (nN 1 true) fun g=>ai (uI a g) fun h=>ai (rS 12 12) fun i=>ai (yb a 0 i) fun c=>ai (rN c.1) fun j=>ai (nN 0 true) fun k=>ai (rU a k) fun l=>ai (nN 1 true) fun m=>ai (rU l m) fun n=>ai (nN 0 false) fun o=>ai (rU n o) fun p=>ai (yf p) fun q=>zK d b f h c j q
def zM (d:an)(f:(Int×Int))(g:(Int×Int))(h:(Int×Int))(i:(Int×Int))(b:(Int×au×Int))(c:(Int×au×Int))(a:(au×au×Bool×Int)):Option Bool:=
 ai (lO d 2) fun j=>ai (lP d 2) fun e=>cond ((f.2 != 0)) (some false) (cond ((g.2 != 0)) (some false) (cond ((h.2 != 0)) (some false) (cond ((i.2 != 0)) (some false) (cond ((b.2.2 != 0)) (some false) (cond ((c.2.2 != 0)) (some false) (cond ((a.2.2.2 != 0)) (some false) (cond ((j.2 != 0)) (some false) (cond ((e.2.2 != 0)) (some false) (cond ((f.1 != 0)) (some false) (cond ((g.1 != 2)) (some false) (cond ((h.1 != 0)) (some false) (cond ((i.1 != 1)) (some false) (cond ((b.1 != 0)) (some false) (ai (g9 1 1) fun k=>cond (!((b.2.1.num==k.num)&&(b.2.1.den==k.den))) (some false) (cond ((c.1 != (-1))) (some false) (ai (g9 0 1) fun l=>cond (!((c.2.1.num==l.num)&&(c.2.1.den==l.den))) (some false) (cond (!a.2.2.1) (some false) (ai (g9 3 2) fun m=>cond (!((a.1.num==m.num)&&(a.1.den==m.den))) (some false) (ai (g9 3 2) fun n=>cond (!((a.2.1.num==n.num)&&(a.2.1.den==n.den))) (some false) (ai (nC j.1 ([11,12,13,14])) fun o=>cond (!o) (some false) (cond (!e.2.1) (some false) (ai (nC e.1 ([11])) fun p=>cond (!p) (some false) (zL d)))))))))))))))))))))))
def zN (a:an)(b:an):Option Bool:=
 ai (uG a 0) fun c=>ai (uG a 1) fun d=>ai (rN a) fun e=>ai (rN b) fun f=>ai (uM a) fun g=>ai (uM b) fun h=>ai (jS a) fun i=>zM a c d e f g h i
def zO (b:an)(s:an)(g:(au×Int))(c:(Int×au×Int))(h:(au×Int))(d:(au×Bool×Int))(e:(au×Bool×Int))(f:(au×Bool×Int)):Option Bool:=
 ai (yo b) fun i=>ai (uL b 0) fun j=>ai (ym b 0) fun a=>cond ((g.2 != 0)) (some false) (cond ((c.2.2 != 0)) (some false) (cond ((h.2 != 0)) (some false) (cond ((d.2.2 != 0)) (some false) (cond ((e.2.2 != 0)) (some false) (cond ((f.2.2 != 0)) (some false) (cond ((i.2 != 0)) (some false) (cond ((j.2 != 0)) (some false) (cond ((a.2.2 != 0)) (some false) (ai (g9 13 4) fun k=>cond (!((g.1.num==k.num)&&(g.1.den==k.den))) (some false) (cond ((c.1 != 2)) (some false) (ai (g9 11 8) fun l=>cond (!((c.2.1.num==l.num)&&(c.2.1.den==l.den))) (some false) (ai (g9 1 4) fun m=>cond (!((h.1.num==m.num)&&(h.1.den==m.den))) (some false) (ai (g9 24 13) fun n=>cond (!((d.1.num==n.num)&&(d.1.den==n.den))) (some false) (cond (!d.2.1) (some false) (ai (g9 2 13) fun o=>cond (!((e.1.num==o.num)&&(e.1.den==o.den))) (some false) (cond (e.2.1) (some false) (ai (g9 1 1) fun p=>cond (!((f.1.num==p.num)&&(f.1.den==p.den))) (some false) (cond (!f.2.1) (some false) (cond ((i.1 != 3)) (some false) (ai (nC j.1 ([10,11,12])) fun t=>cond (!t) (some false) (ai (g9 1 4) fun q=>cond (!((a.1.num==q.num)&&(a.1.den==q.den))) (some false) (ai (g9 1 1) fun r=>cond (!((a.2.1.num==r.num)&&(a.2.1.den==r.den))) (some false) (zN b s)))))))))))))))))))))))
def qs :Option Bool:=
 ai (yt) fun a=>ai (jU a ([11]) 2) fun b=>ai (xy a 5) fun c=>ai (nM 2 11) fun d=>ai (xz a d) fun e=>ai (nM 2 10) fun f=>ai (xA a f) fun g=>ai (nM 2 12) fun h=>ai (xB b h) fun i=>ai (nM 2 12) fun j=>ai (um b j) fun k=>ai (nM 2 12) fun l=>ai (um a l) fun m=>zO a b c e g i k m
theorem zP:qs=some true:=by decide+kernel
end Go.Proofs.YtbpddfapodiemaaGreatDoor
end

/- A part of the proof of a row and its tied card: QM12. -/
import Derived.Test.YtghbphimkgamkaaGreatDoorQM11
import Derived.Conc.AtomicLaws2
import Derived.Conc.WgArith
set_option linter.all false
section
namespace Go.Sep
open Go Go.Conc
open Go.ConcN (sumTo upd upd_ne upd_same)
open Go.ConcM (MuAt muA msA muBlock OsLater)
open Go.ConcR (WgAt wgBlock stA smA)
section
variable {c : Cy} {i : Nat} {ph : Ph} {ops : Array Oper} {j n : Nat} {Q : Act → aa → Ph → Prop} {a : Act} {F : aa} {f fi : FuncId} {d : Option Tmp}
theorem dI {s:Sh}:s.ms<=s.ms/\s.ws<=s.ws:=⟨Int.le_refl _,Int.le_refl _⟩
theorem y9 (g:Entry c.P f (fun _=>do mark .disable;pure Extern.Race.none_)){vals:List Value}(l:At ops j a f vals d)(m:ph.gp≠ .gone)(p:ph.gp≠ .new)
  (h:ai (WJ c i) fi ops (j+1) n Q (bg a d (.tuple #[])) F {ph with deaf:=ph.deaf+1}):ai (WJ c i) fi ops j (n+1) Q a F ph:=by
 obtain ⟨o,cD,dj,e,hg,q,_,rfl⟩:=l
 refine fD e m fun w s k φ p0 _ hs hi he r=>.inr ⟨.tuple #[],w,_,s,_,fun b t cs hb=>?_,hs,.refl _ _,r.DU hi he p _,Kx,.inr dI,h⟩
 obtain ⟨fn,f1,f2,f3,f4,f5⟩:=g.ex
 exact stepG_mark0 .disable (by simp) e (ck hg) hb.kind q f1 f2 f3 f4 f5
theorem uE (l:Entry c.P f (fun _=>do mark .enable;pure Extern.Race.none_)){vals:List Value}(m:At ops j a f vals d)(p:ph.gp≠ .gone)(q:ph.gp≠ .new){e:Nat}(hd:ph.deaf=e+1)
  (h:ai (WJ c i) fi ops (j+1) n Q (bg a d (.tuple #[])) F {ph with deaf:=e}):ai (WJ c i) fi ops j (n+1) Q a F ph:=by
 obtain ⟨o,cD,dj,g,hg,r,_,rfl⟩:=m
 refine fD g p fun w s k φ p0 _ hs hi he t=>.inr ⟨.tuple #[],w,_,s,_,fun b u cs hb=>?_,hs,.refl _ _,t.DU hi he q _,Ky hd,.inr dI,h⟩
 obtain ⟨fn,f1,f2,f3,f4,f5⟩:=l.ex
 exact stepG_mark0 .enable (by simp) g (ck hg) hb.kind r f1 f2 f3 f4 f5
theorem o6 {k:Nat}{φ:Nat->Ph}{p0:P0}{s:Sh}(he:φ i=ph)(a:Inv c.n c.bs k φ p0 s):Inv c.n c.bs k (upd φ i ph) p0 s:=by rw[<-he,y4];exact a
theorem DV (l:Entry c.P f (Extern.Race.marked .acquire))(m:At ops j a f [.pointer (some (muA c.Mu))] d)(e:ph.gp= .cnt)
  (h:ai (WJ c i) fi ops (j+1) n Q (bg a d (.tuple #[])) F ph):ai (WJ c i) fi ops j (n+1) Q a F ph:=by
 obtain ⟨o,cD,dj,g,hg,p,q,rfl⟩:=m
 obtain ⟨x,rfl,r⟩:=j9 q
 refine fD g (by rw[e];simp) fun w s k φ p0 _ hs hi he t=>.inr ⟨.tuple #[],w,_,s,ph,fun b u cs hb=>?_,hs,.refl _ _,o6 he t,.word (.acquire (muA c.Mu)) rfl (.inl rfl) rfl ⟨e,e⟩,.inr dI,h⟩
 obtain ⟨fn,f1,f2,f3,f4,f5⟩:=l.ex
 exact stepG_markAt .acquire (by simp) g (ck hg) hb.kind p f1 f2 f3 f4 f5 (by simp[eD,r])
theorem Kz (l:Entry c.P f (Extern.Race.marked .releaseMerge))(m:At ops j a f [.pointer (some (muA c.Mu))] d)(e:ph.gp= .cnt)
  (h:ai (WJ c i) fi ops (j+1) n Q (bg a d (.tuple #[])) F ph):ai (WJ c i) fi ops j (n+1) Q a F ph:=by
 obtain ⟨o,cD,dj,g,hg,p,q,rfl⟩:=m
 obtain ⟨x,rfl,r⟩:=j9 q
 refine fD g (by rw[e];simp) fun w s k φ p0 _ hs hi he t=>.inr ⟨.tuple #[],w,_,s,ph,fun b u cs hb=>?_,hs,.refl _ _,o6 he t,.word (.releaseMerge (muA c.Mu)) rfl (.inr rfl) rfl ⟨e,e⟩,.inr dI,h⟩
 obtain ⟨fn,f1,f2,f3,f4,f5⟩:=l.ex
 exact stepG_markAt .releaseMerge (by simp) g (ck hg) hb.kind p f1 f2 f3 f4 f5 (by simp[eD,r])
theorem KA (q:Entry c.P f (Extern.Race.marked .releaseMerge))(r:At ops j a f [.pointer (some (stA c.Wg))] d)(g:ph.gp= .cnt)
  (hd:ph.deaf=0) (t:ph.mp= .idle\/ph.mp= .fin) (u:ph.stored=c.bs i)
  (h:ai (WJ c i) fi ops (j+1) n Q (bg a d (.tuple #[])) F {mp:=.fin,gp:=.rel,stored:=ph.stored,deaf:=0}):ai (WJ c i) fi ops j (n+1) Q a F ph:=by
 obtain ⟨o,cD,dj,p,hg,v,y,rfl⟩:=r
 obtain ⟨x,rfl,z⟩:=j9 y
 refine fD p (by rw[g];simp) fun w s k φ p0 _ hs hi he l=>.inr ⟨.tuple #[],w,_,s,{mp:=.fin,gp:=.rel,stored:=ph.stored,deaf:=0},fun b A cs hb=>?_,hs,.refl _ _,?_,.rel rfl ⟨hd,rfl⟩ g,.inr dI,h⟩
 .obtain ⟨fn,f1,f2,f3,f4,f5⟩:=q.ex
  exact stepG_markAt .releaseMerge (by simp) p (ck hg) hb.kind v f1 f2 f3 f4 f5 (by simp[eD,z])
 .obtain ⟨C,S,W,L,m,hm⟩:=l.m
  refine l.j6 hi he (by rw[g];simp) (by simp) ⟨C,S,W,L,m,nv hm hi _ ?_⟩ (uq l.w hi _ (.inr ⟨by rw[he];exact g,rfl⟩)) ?_ (fun _=>⟨u,rfl⟩)
  .rw[he];rcases t with e|e
   .exact .inr ⟨e,rfl⟩
   .exact .inl e.symm
  .have:=l.i.all i hi
   rw[he] at this
   exact (y8 this).symm
theorem uF (old nw:Int)(I:Entry c.P f (Extern.Atomic.casT (.int .i32)))(aG:c.Mu≠c.Wg/\c.Mu≠c.Is/\c.Wg≠c.Is)(J:At ops j a f [.pointer (some (muA c.Mu)),.int .i32 old,.int .i32 nw] d)
  (e:ph.gp= .cnt) (B:0<ph.deaf)
  (K:∀φ ms C S W L m,φ i=ph->i<c.n->cr c.n φ old ms C S W L m->∃mp,(∃g h l p q,cr c.n (upd φ i {ph with mp:=mp}) nw ms g h l p q)/\ai (WJ c i) fi ops (j+1) n Q (bg a d (.bool true)) F {ph with mp:=mp})
  (M:∀φ mu ms C S W L m,φ i=ph->i<c.n->cr c.n φ mu ms C S W L m->mu≠old->∃mp,(∃g h l p q,cr c.n (upd φ i {ph with mp:=mp}) mu ms g h l p q)/\ai (WJ c i) fi ops (j+1) n Q (bg a d (.bool false)) F {ph with mp:=mp}):ai (WJ c i) fi ops j (n+1) Q a F ph:=by
 obtain ⟨o,cD,dj,r,hg,D,N,rfl⟩:=J
 obtain ⟨x,y,z,rfl,E,G,H⟩:=rC N
 obtain ⟨fn,f1,f2,f3,f4,f5⟩:=I.ex
 refine fD r (by rw[e];simp) fun w s k φ p0 _ hs hi he t=>.inr ?_
 obtain ⟨C,S,W,L,m,hm⟩:=t.m
 by_cases u:s.mu=old
 .subst u
  obtain ⟨mp,v,A⟩:=K φ s.ms C S W L m he hi hm
  exact ⟨.bool true,_,_,{s with mu:=nw},{ph with mp:=mp},fun b O cs hb=>stepG_cas_hit r (ck hg) hb.kind D f1 f2 f3 f4 .i32 f5 E G H hs.mu.1 hs.mu.2,hs.DR aG nw,.set _ (.inl rfl),t.mutex hi he e v,y6 rfl Iff.rfl B (.inr ⟨rfl,e⟩),.inr dI,A⟩
 .obtain ⟨mp,v,A⟩:=M φ s.mu s.ms C S W L m he hi hm u
  exact ⟨.bool false,_,_,{s with mu:=s.mu},{ph with mp:=mp},fun b O cs hb=>stepG_cas_miss r (ck hg) hb.kind D f1 f2 f3 f4 .i32 f5 E G H hs.mu.1 hs.mu.2 u,hs,.refl _ _,t.mutex hi he e v,y5 false rfl Iff.rfl B (.inr ⟨rfl,e⟩),.inr dI,A⟩
theorem za (dl:Int)(q:Entry c.P f (Extern.Atomic.update (Op.intArith .add) .i32 true))(aG:c.Mu≠c.Wg/\c.Mu≠c.Is/\c.Wg≠c.Is)(r:At ops j a f [.pointer (some (muA c.Mu)),.int .i32 dl] d)
  (g:ph.gp= .cnt) (t:0<ph.deaf)
  (h:∀φ mu ms C S W L m,φ i=ph->i<c.n->cr c.n φ mu ms C S W L m->∃mp nw,IntKind.i32.wrap (mu+dl)=nw/\(∃u v z A B,cr c.n (upd φ i {ph with mp:=mp}) nw ms u v z A B)/\ai (WJ c i) fi ops (j+1) n Q (bg a d (.int .i32 nw)) F {ph with mp:=mp}):
  ai (WJ c i) fi ops j (n+1) Q a F ph:=by
 obtain ⟨o,cD,dj,l,hg,D,E,rfl⟩:=r
 obtain ⟨x,y,rfl,G,H⟩:=rA E
 obtain ⟨fn,f1,f2,f3,f4,f5⟩:=q.ex
 refine fD l (by rw[g];simp) fun w s k φ p0 _ hs hi he p=>.inr ?_
 obtain ⟨C,S,W,L,m,hm⟩:=p.m
 obtain ⟨mp,nw,e,I,J⟩:=h φ s.mu s.ms C S W L m he hi hm
 exact ⟨.int .i32 nw,_,_,{s with mu:=nw},{ph with mp:=mp},fun b K cs hb=>by rw[<-e];exact stepG_add_atomic l (ck hg) hb.kind D f1 f2 f3 f4 .i32 f5 G H hs.mu.1 hs.mu.2,by rw[<-e];exact hs.DR aG _,.set _ (.inl rfl),p.mutex hi he g I,y6 rfl Iff.rfl t (.inr ⟨rfl,g⟩),.inr dI,J⟩
theorem o7 {ty:TypeId}(p:(c.P.funcs[fi]?).any (·.norace)=true)(e:c.P.underlying ty=some (.int .i32)){x:Operand}(q:nB ops j a (.load ty x) d)(f:ph.gp= .cnt)(r:ev a x= .pointer (some (muA c.Mu)))
  (h:∀φ mu ms C S W L m,φ i=ph->i<c.n->cr c.n φ mu ms C S W L m->∃mp,(∃t u v y z,cr c.n (upd φ i {ph with mp:=mp}) mu ms t u v y z)/\ai (WJ c i) fi ops (j+1) n Q (bg a d (.int .i32 mu)) F {ph with mp:=mp}):
  ai (WJ c i) fi ops j (n+1) Q a F ph:=by
 obtain ⟨o,g,hg,A,rfl⟩:=q
 refine fD g (by rw[f];simp) fun w s k φ p0 _ hs hi he l=>.inr ?_
 obtain ⟨C,S,W,L,m,hm⟩:=l.m
 obtain ⟨mp,B,D⟩:=h φ s.mu s.ms C S W L m he hi hm
 have e1:execOp a.eval o=(do pure (.value (<-loadVar ty (muA c.Mu))):Sem Next):=by
  unfold execOp
  simp only[A,eD,r]
  rfl
 have E:(execOp a.eval o).run c.P w= .ok (.value (.int .i32 s.mu)) w:=by
  rw[e1]
  have:=hs.mu.1
  simp[loadVar,isAgg,run_underlying e,this]
 have G:(execOp a.eval o).events c.P w #[]=#[⟨.cell (muA c.Mu),false,false⟩]:=by
  rw[e1]
  have:=hs.mu.1
  simp[loadVar,isAgg,run_underlying e,events_load,this]
 have H:seen c.P fi #[⟨.cell (muA c.Mu),false,false⟩]=#[]:=by rw[seen_def];simp[seenStep,p]
 refine ⟨.int .i32 s.mu,w,#[],{s with mu:=s.mu},{ph with mp:=mp},fun b I cs hb=>?_,hs,.refl _ _,l.mutex hi he f B,nC rfl Iff.rfl,.inr dI,D⟩
 rw[stepG_value g (ck hg) hb.kind E]
 unfold listed
 rw[G,hb.fn,H]
end
section
variable {c : Cy} {i : Nat} {ph : Ph} {ops : Array Oper} {j n : Nat} {Q : Act → aa → Ph → Prop} {a : Act} {F : aa} {f fi : FuncId} {d : Option Tmp}
theorem KB (u v:Value)(A:Entry c.P f Extern.Sync.semacquire)(aG:c.Mu≠c.Wg/\c.Mu≠c.Is/\c.Wg≠c.Is)(B:At ops j a f [.pointer (some (msA c.Mu)),u,v] d)
  (e:ph.gp= .cnt) {G:Nat} (hm:ph.mp= .iN G) (h:ai (WJ c i) fi ops (j+1) n Q (bg a d (.tuple #[])) F {ph with mp:=.j4 G}):ai (WJ c i) fi ops j (n+1) Q a F ph:=by
 obtain ⟨o,cD,dj,g,hg,p,D,rfl⟩:=B
 obtain ⟨x,y,z,rfl,q,_,_⟩:=rC D
 obtain ⟨fn,f1,f2,f3,f4,f5⟩:=A.ex
 refine fD g (by rw[e];simp) fun w s k φ p0 _ hs hi he r=>?_
 by_cases l:s.ms=0
 .refine .inl ⟨by rw[hm];rfl,l,fun b E cs=>stepG_semacquire_wait g (ck hg) p f1 f2 f3 f4 f5 (ad:=msA c.Mu) (by simp[eD,q]) (by rw[hs.ms.1,l])⟩
 .obtain ⟨C,S,W,L,m,t⟩:=r.m
  have H:=t.cnt
  refine .inr ⟨.tuple #[],_,_,{s with ms:=s.ms - 1},{ph with mp:=.j4 G},fun b E cs hb=>stepG_semacquire g (ck hg) hb.kind p f1 f2 f3 f4 f5 (by simp[eD,q]) hs.ms.1 l hs.ms.2,hs.DS aG _,.set _ (.inl rfl),
   r.mutex hi he e ⟨C,S,W,L,m - 1,JH t hi _ (by rw[he];exact hm) rfl (by omega)⟩,y7 rfl Iff.rfl (.inr ⟨rfl,e⟩),.inr ⟨by simp only;omega,Int.le_refl _⟩,h⟩
theorem DW (u v:Value)(p:Entry c.P f Extern.Sync.semrelease)(aG:c.Mu≠c.Wg/\c.Mu≠c.Is/\c.Wg≠c.Is)(A:At ops j a f [.pointer (some (msA c.Mu)),u,v] d)
  (g:ph.gp= .cnt) (hm:ph.mp= .oS\/ph.mp= .oT) (h:ai (WJ c i) fi ops (j+1) n Q (bg a d (.tuple #[])) F {ph with mp:=.fin}):ai (WJ c i) fi ops j (n+1) Q a F ph:=by
 obtain ⟨o,cD,dj,q,hg,r,B,rfl⟩:=A
 obtain ⟨x,y,z,rfl,l,_,_⟩:=rC B
 obtain ⟨fn,f1,f2,f3,f4,f5⟩:=p.ex
 refine fD q (by rw[g];simp) fun w s k φ p0 _ hs hi he t=>.inr ?_
 obtain ⟨C,S,W,L,m,e⟩:=t.m
 have E:=e.cnt
 have hb:=e.st.w
 have G:=e.st.s
 have H:m<=1:=by
  rcases Nat.lt_or_ge S 1 with y|y
  .have:=e.norm (by omega);omega
  .have:=e.gd (by omega);omega
 have D:IntKind.u32.wrap (s.ms+1)=s.ms+1:=by
  unfold IntKind.wrap
  simp[IntKind.bits,IntKind.signed]
  omega
 refine ⟨.tuple #[],_,_,{s with ms:=s.ms+1},{ph with mp:=.fin},fun b I cs hb=>stepG_semrelease q (ck hg) hb.kind r f1 f2 f3 f4 f5 (by simp[eD,l]) hs.ms.1 hs.ms.2,by rw[D];exact hs.DS aG _,.set _ (.inl rfl),
  t.mutex hi he g ⟨C,S,W,L,m+1,JN e hi _ (by rw[he];exact hm) rfl⟩,y7 rfl Iff.rfl (.inr ⟨rfl,g⟩),.inl ⟨_,r,fun x l=>?_⟩,h⟩
 cases l
 exact ⟨f,rfl,p.DG⟩
theorem DX (l:Entry c.P f Extern.OsHooks.nano)(e:(c.P.funcs[f]?).any (·.norace)=true){vals:List Value}(m:At ops j a f vals d)
  (p:ph.gp≠ .gone) (h:∀x:Int,ai (WJ c i) fi ops (j+1) n Q (bg a d (.int .i64 x)) F ph):ai (WJ c i) fi ops j (n+1) Q a F ph:=by
 obtain ⟨o,cD,dj,g,hg,q,_,rfl⟩:=m
 obtain ⟨fn,f1,f2,f3,f4,f5⟩:=l.ex
 refine fD g p fun w s k φ p0 _ hs hi he r=>.inr ⟨_,w.later,#[],s,ph,fun b t cs hb=>stepG_nanotime g (ck hg) hb.kind q f1 f2 f3 f4 f5 (by rw[f1] at e;simpa using e),hs,⟨rfl,rfl,rfl,⟨w.tick,rfl⟩,fun _ _=>rfl⟩,o6 he r,nC rfl Iff.rfl,.inr dI,h _⟩
theorem KC (it:Int)(m:Entry c.P f Extern.Sync.canSpin)(p:At ops j a f [.int .i64 it] d)
  (q:ph.gp≠ .gone) (h:∀t:Bool,(t=true->it<4)->ai (WJ c i) fi ops (j+1) n Q (bg a d (.bool t)) F ph):ai (WJ c i) fi ops j (n+1) Q a F ph:=by
 obtain ⟨o,cD,dj,e,hg,g,r,rfl⟩:=p
 obtain ⟨x,rfl,u⟩:=j9 r
 obtain ⟨fn,f1,f2,f3,f4,f5⟩:=m.ex
 have hm:(#[x]:Array Operand).map a.eval=#[.int .i64 it]:=by simp[eD,u]
 refine fD e q fun w s k φ p0 _ hs hi he l=>.inr ?_
 by_cases v:4<=it
 .exact ⟨_,w,#[],s,ph,fun b y cs hb=>stepG_canSpin_no e (ck hg) hb.kind g f1 f2 f3 f4 f5 hm v,hs,.refl _ _,o6 he l,nC rfl Iff.rfl,.inr dI,h false (by simp)⟩
 .exact ⟨_,w.asked,#[],s,ph,fun b y cs hb=>stepG_canSpin_ask e (ck hg) hb.kind g f1 f2 f3 f4 f5 hm (by omega),hs,⟨rfl,rfl,rfl,.refl _,fun _ _=>rfl⟩,o6 he l,nC rfl Iff.rfl,.inr dI,h _ (fun _=>by omega)⟩
end
theorem ai.entry {P:Program}{main:Bool}{S:Type}{JF:S->Goroutine->aa->Prop}{fi f:FuncId}{ops:Array Oper}{j n:Nat}{Q:Act->aa->S->Prop}{a:Act}{F:aa}{ph:S}{d:Option Tmp}(v:Value)(e:dY P main (JF ph))(g:Entry P f (fun _=>pure v))
  {vals:List Value} (i:At ops j a f vals d) (h:ai JF fi ops (j+1) n Q (bg a d v) F ph):ai JF fi ops j (n+1) Q a F ph:=fun b c cs hb k=>by
 obtain ⟨fn,f1,f2,f3,f4,f5⟩:=g.ex
 obtain ⟨o,cD,dj,l,hg,m,_,rfl⟩:=i
 rw[List.range'_succ,eJ hb.round]
 refine e.move (fr':=b.at (a.put o.dst v) (.inRegion ops (List.range' (j+1) n)::c)) (fun w=>stepG_entry_pure v l (ck hg) hb.kind m f1 f2 f3 f4 f5) (by rw[<-eJ hb.round];exact h b c cs hb k)
section
variable {c : Cy} {i : Nat} {ph : Ph} {ops : Array Oper} {j n : Nat} {Q : Act → aa → Ph → Prop} {a : Act} {F : aa} {f fi : FuncId} {d : Option Tmp}
theorem uG (ad:Addr){src dst t:TypeId}(hs:c.P.underlying src=some (.pointer t))(hd:c.P.underlying dst=some .unsafePointer)(e:(c.P.info? t).map (fun i=>decide (i.size=0))=some false){x:Operand}
  (m:nB ops j a (.convert src dst x) d) (p:ph.gp≠ .gone) (q:ev a x= .pointer (some ad)) (r:∀w s,cC c w s->∃v,w.cell? ad=some v) (h:ai (WJ c i) fi ops (j+1) n Q (bg a d (.pointer (some ad))) F ph):ai (WJ c i) fi ops j (n+1) Q a F ph:=by
 obtain ⟨o,f,hg,u,rfl⟩:=m
 refine fD f p fun w s k φ p0 _ g hi he y=>.inr ⟨_,w,#[],s,ph,fun b B cs hb=>?_,g,.refl _ _,o6 he y,nC rfl Iff.rfl,.inr dI,h⟩
 obtain ⟨v,l⟩:=r w s g
 have e1:execOp a.eval o=(do pure (.value (<-convert src dst (.pointer (some ad)))):Sem Next):=by
  unfold execOp
  simp only[u,eD,q]
 have z:(execOp a.eval o).run c.P w= .ok (.value (.pointer (some ad))) w:=by
  rw[e1];simp[run_convert_to_unsafe hs hd e l]
 have A:(execOp a.eval o).events c.P w #[]=#[]:=by
  rw[e1];simp[events_convert_to_unsafe hs hd e l]
 rw[stepG_value f (ck hg) hb.kind z]
 unfold listed
 rw[A,seen_none]
theorem KD {ty:TypeId}(J:c.P.underlying ty=some .bool)(z:b7 c.P ty=some 1)(A:(c.P.funcs[fi]?).any (·.norace)=false)(aG:c.Mu≠c.Wg/\c.Mu≠c.Is/\c.Wg≠c.Is){x y:Operand}
  (B:nB ops j a (.store ty x y) d) (e:ph.gp= .cnt) (g:ev a x= .pointer (some ⟨c.Is,i,none⟩)) (l:ev a y= .bool true) (h:ai (WJ c i) fi ops (j+1) n Q (bg a d undef) F {ph with stored:=true}):ai (WJ c i) fi ops j (n+1) Q a F ph:=by
 obtain ⟨o,p,hg,q,rfl⟩:=B
 refine fD p (by rw[e];simp) fun w s k φ p0 _ hs hi he f=>.inr ?_
 have hlen:=f.i.len
 have r:w.cell? ⟨c.Is,i,none⟩=some (.bool (s.is[i]'(by omega))):=by
  have:=hs.2.2
  simp[World.cell?,this,hlen,hi]
 have t:w.frozen? ⟨c.Is,i,none⟩=false:=by
  have:=hs.2.2
  simp[World.frozen?,this]
 have u:(sizeOf ty).run c.P w= .ok 1 w:=by
  obtain ⟨inf,e,D⟩:=Option.map_eq_some_iff.1 z
  simp[Go.sizeOf,typeInfo,e,D]
 have v:Instr.sureAddr (.pointer (some ⟨c.Is,i,none⟩))=(Pure.pure ⟨c.Is,i,none⟩:Sem Addr):=rfl
 have E:(execOp a.eval o).run c.P w= .ok .skip (w.setCell ⟨c.Is,i,none⟩ (.bool true)):=by
  unfold execOp
  simp only[q,eD,g,l]
  simp[Instr.storeAt,v,storeVar,u,Value.cells,storeCells,Addr.add,r,t,run_store c.P w ⟨c.Is,i,none⟩ (.bool true) .plain rfl,Result.andThen]
 have G:(execOp a.eval o).events c.P w #[]=#[⟨.cell ⟨c.Is,i,none⟩,true,false⟩]:=by
  unfold execOp
  simp only[q,eD,g,l]
  simp[Instr.storeAt,v,storeVar,u,Value.cells,storeCells,Addr.add,r,t,events_store c.P w _ ⟨c.Is,i,none⟩ (.bool true) .plain rfl,run_store c.P w ⟨c.Is,i,none⟩ (.bool true) .plain rfl,Result.evThen]
 have H:seen c.P fi #[⟨.cell ⟨c.Is,i,none⟩,true,false⟩]=#[⟨.cell ⟨c.Is,i,none⟩,true,false⟩]:=by rw[seen_def];simp[seenStep,A]
 obtain ⟨C,S,W,L,m,hm⟩:=f.m
 refine ⟨undef,_,_,{s with is:=s.is.set i true},{ph with stored:=true},fun b K cs hb=>?_,hs.Kw aG i true,.set _ (.inr (.inr rfl)),?_,.store rfl rfl ⟨e,e⟩,.inr dI,h⟩
 .rw[stepG_none p (ck hg) hb.kind E]
  unfold listed
  rw[G,hb.fn,H]
 .exact f.j6 hi he (by rw[e];simp) (by simp[e]) ⟨C,S,W,L,m,nv hm hi _ (.inl (by rw[he]))⟩ (uq f.w hi _ (.inl (by rw[he]))) rfl (fun I=>absurd e I)
end
theorem ai.shr {P:Program}{main:Bool}{S:Type}{JF:S->Goroutine->aa->Prop}{fi:FuncId}{ops:Array Oper}{j n:Nat}{Q:Act->aa->S->Prop}{a:Act}{F:aa}{ph:S}{d:Option Tmp}{t f:TypeId}{k b:IntKind}{u m:Int}(v:Int)(g:dY P main (JF ph)){x y:Operand}
  (i:nB ops j a (.binOp .shr t x y f) d) (l:ev a x= .int k u) (p:ev a y= .int b m) (hm:0<=m) (c:u.fdiv (2 ^ min m.toNat k.bits)=v) (h:ai JF fi ops (j+1) n Q (bg a d (.int k v)) F ph):ai JF fi ops j (n+1) Q a F ph:=by
 obtain ⟨o,q,hg,r,rfl⟩:=i
 have e:¬m<0:=by omega
 have e1:execOp a.eval o=(do eqGuard .shr t x y (.int k u) (.int b m);pure (.value (<-binOp .shr t (.int k u) (.int b m))):Sem Next):=by
  unfold execOp
  simp only[r,eD,l,p]
  simp
 refine ai.plain g (.int k v) q hg (fun w=>?_) (fun w=>?_) h
 .rw[e1];subst c;simp[eqGuard,binOp,Op.shift,e]
 .rw[e1];subst c;simp[eqGuard,binOp,Op.shift,e]
theorem ai.nD {P:Program}{main:Bool}{S:Type}{JF:S->Goroutine->aa->Prop}{fi:FuncId}{ops:Array Oper}{j n:Nat}{Q:Act->aa->S->Prop}{a:Act}{F:aa}{ph:S}{d:Option Tmp}{t b:TypeId}(u v:Int)(c:dY P main (JF ph)){x y:Operand}
  (e:nB ops j a (.binOp .shr t x y b) d) (f:ev a x= .int .i32 u) (g:ev a y= .int .u64 3) (i:u.fdiv 8=v) (h:ai JF fi ops (j+1) n Q (bg a d (.int .i32 v)) F ph):ai JF fi ops j (n+1) Q a F ph:=
 ai.shr v c e f g (by decide) i h
end Go.Sep
end
section
namespace Go.Proofs.YtghbphimkgamkaaGreatDoor
open Go Go.Sep Go.Proofs Go.Conc
open Go.ConcN (upd upd_same)
open Go.ConcM (muA msA)
open Go.ConcR (stA smA)
set_option maxRecDepth 100000
set_option maxHeartbeats 4000000
attribute [local go_sem] Int.reduceBEq Int.reduceBNe muA msA stA smA
section
variable {Mu Wg Is n base T0 i : Nat} {bs : Nat → Bool} {st : Bool} {F : aa}
theorem zb (w:World)(s:Sh)(h:cC (CY Mu Wg Is n bs base T0) w s):∃v,w.cell? ⟨Mu,0,none⟩=some v:=⟨_,h.mu.1⟩
theorem KE (aG:Mu≠Wg/\Mu≠Is/\Wg≠Is)
  (b:cI Tryz.prog (WJ (CY Mu Wg Is n bs base T0) i) 199 #[.pointer (some (muA Mu))] F ⟨.idle,.cnt,st,1⟩ (fun v F' aK=>v= .tuple #[]/\F'=F/\aK=⟨.held,.cnt,st,0⟩)):
  cI Tryz.prog (WJ (CY Mu Wg Is n bs base T0) i) 180 #[.pointer (some (muA Mu))] F ⟨.idle,.cnt,st,0⟩ (fun v F' aK=>v= .tuple #[]/\F'=F/\aK=⟨.held,.cnt,st,0⟩):=by
 have a:=WJ.ey (CY Mu Wg Is n bs base T0) i
 have hJ:∀ph:Ph,ph.gp= .cnt->Go.Sep.Closed Tryz.prog false (WJ (CY Mu Wg Is n bs base T0) i ph):=fun ph h=>Wk.closed (CY Mu Wg Is n bs base T0) i ph h
 refine cI.go (main:=false) a Tryz.func180 rfl Tryz.ntmps180 (by simp) fun A d hd hs=>?_
 have e:=hs 0
 clear hs
 repeat refine aB (a _) ?_
 refine c6 a ?_
 refine y9 rz ⟨_,_,_,rfl,(by first|rfl|simp only[*,go_sem]),rfl,by first|(simp only[*,go_sem];done)|(simp only[*,go_sem];rfl),rfl⟩ (by simp) (by simp) ?_
 refine ai.nil a ?_;try simp only[go_sem]
 repeat refine aB (a _) ?_
 refine c6 a ?_
 refine ai.bB (hJ _ rfl) 3 (n:=1) _ rfl rfl ?_;simp only[*,go_sem]
 refine uF 0 1 uB aG ⟨_,_,_,rfl,(by first|rfl|simp only[*,go_sem]),rfl,by first|(simp only[*,go_sem];done)|(simp only[*,go_sem];rfl),rfl⟩ (by rfl) (by simp) (fun φ ms C S W L m he hi hm=>⟨.held,⟨0,0,0,1,m,JB hm hi _ (by rw[he]) rfl rfl⟩,?_⟩) (fun φ mu ms C S W L m he hi hm f=>⟨.idle,⟨C,S,W,L,m,nv hm hi _ (.inl (by rw[he]))⟩,?_⟩)
 .refine ai.nil a ?_;try simp only[go_sem]
  repeat refine aB (a _) ?_
  refine c5 (a _) (by simp only[*,go_sem]) ?_
  repeat refine aB (a _) ?_
  refine c5 (a _) (by simp only[*,go_sem]) ?_
  repeat refine aB (a _) ?_
  refine c6 a ?_
  refine uE lY ⟨_,_,_,rfl,(by first|rfl|simp only[*,go_sem]),rfl,by first|(simp only[*,go_sem];done)|(simp only[*,go_sem];rfl),rfl⟩ (by simp) (by simp) rfl ?_
  refine ai.nil a ?_;try simp only[go_sem]
  repeat refine aB (a _) ?_
  refine c6 a ?_
  refine ai.bB (hJ _ rfl) 1 (n:=2) _ rfl rfl ?_;simp only[*,go_sem]
  refine uG ⟨Mu,0,none⟩ yY lZ y2 ⟨_,rfl,(by first|rfl|simp only[*,go_sem]),rfl,rfl⟩ (by simp) (by simp only[*,go_sem]) zb ?_
  refine DV uA ⟨_,_,_,rfl,(by first|rfl|simp only[*,go_sem]),rfl,by first|(simp only[*,go_sem];done)|(simp only[*,go_sem];rfl),rfl⟩ (by rfl) ?_
  refine ai.nil a ?_;try simp only[go_sem]
  refine fC ?_;try simp only[go_sem]
  exact o3 rfl (by simp only[*,go_sem]) ⟨rfl,rfl,rfl⟩
 .refine ai.nil a ?_;try simp only[go_sem]
  repeat refine aB (a _) ?_
  refine cH (a _) (by simp only[*,go_sem]) ?_
  refine cJ (a _) ?_;try simp only[go_sem]
  repeat refine aB (a _) ?_
  refine c6 a ?_
  refine ai.bB (hJ _ rfl) 1 (n:=1) _ rfl rfl ?_;simp only[*,go_sem]
  refine ai.gi (a _) rfl rfl rfl F1 (by simp only[*,go_sem,muA]) b fun v F' aK c=>?_
  obtain ⟨rfl,rfl,rfl⟩:=c
  refine ai.nil a ?_
  exact lW rfl (by simp only[*,go_sem]) ⟨rfl,rfl,rfl⟩
def jD (C S W:Nat)(nw:Int)(G:Nat):Mp:=if S=1 then .oT else if 0<C/\W=0 then .gD nw G else .fin
def KF (Mu n:Nat)(st:Bool)(F:aa)(m:Nat)(a:Act)(F':aa)(aK:Ph):Prop:=
 ∃(old:Int) (C S W L G:Nat),F'=F/\slot a 0= .pointer (some ⟨Mu,0,none⟩)/\slot a 4= .int .i32 old/\sz a=43/\a.defers=[]/\Wd old C S W L/\C<=3*n/\G<=m/\
   ((S=0/\L=0/\W=0/\0<C/\aK=⟨.gD old G,.cnt,st,1⟩)\/(¬(S=0/\L=0/\W=0/\0<C)/\aK=⟨.fin,.cnt,st,1⟩))
theorem KG (aG:Mu≠Wg/\Mu≠Is/\Wg≠Is)(ab:n<67108864){nw:Int}{C S W G:Nat}(hw:Wd nw C S W 0)(hC:C<=3*n):
  cI Tryz.prog (WJ (CY Mu Wg Is n bs base T0) i) 201 #[.pointer (some (muA Mu)),.int .i32 nw] F ⟨jD C S W nw G,.cnt,st,1⟩ (fun v F' aK=>v= .tuple #[]/\F'=F/\aK=⟨.fin,.cnt,st,1⟩):=by
 have a:=WJ.ey (CY Mu Wg Is n bs base T0) i
 have hJ:∀ph:Ph,ph.gp= .cnt->Go.Sep.Closed Tryz.prog false (WJ (CY Mu Wg Is n bs base T0) i ph):=fun ph h=>Wk.closed (CY Mu Wg Is n bs base T0) i ph h
 refine cI.go (main:=false) a Tryz.func201 rfl Tryz.ntmps201 (by simp) fun A u hd hs=>?_
 have y:=hs 0
 have k1:=hs 1
 clear hs
 have z:=hw.st.s
 have hW:=hw.st.w
 have w1:IntKind.i32.wrap (nw+1)=nw+1:=by have e0:=hw.st.eq;exact iP (by omega) (by omega)
 have B:Wd (nw+1) C S W 1:=by have e0:=hw.st.eq;exact wd ⟨by omega,by omega,hW,z⟩ (by omega)
 have K:dX (nw+1) 1=1:=B.a1
 repeat refine aB (a _) ?_
 refine c6 a ?_
 refine ai.bB (hJ _ rfl) 4 (n:=0) _ rfl rfl ?_;simp only[*,go_sem]
 refine ai.nil a ?_;try simp only[go_sem]
 repeat refine aB (a _) ?_
 refine cH (a _) (by simp only[*,go_sem]) ?_
 refine cJ (a _) ?_;try simp only[go_sem]
 rcases (by omega:S=1\/S=0) with rfl|rfl
 ·
  have b4:dX nw 4=4:=hw.a4
  repeat refine aB (a _) ?_
  refine c6 a ?_
  refine ai.bB (hJ _ rfl) 3 (n:=0) _ rfl rfl ?_;simp only[*,go_sem]
  refine ai.nil a ?_;try simp only[go_sem]
  repeat refine aB (a _) ?_
  refine cH (a _) (by simp only[*,go_sem]) ?_
  repeat refine aB (a _) ?_
  refine c6 a ?_
  refine ai.bB (hJ _ rfl) 3 (n:=1) _ rfl rfl ?_;simp only[*,go_sem]
  refine DW (.bool true) (.int .i64 2) DI aG ⟨_,_,_,rfl,(by first|rfl|simp only[*,go_sem]),rfl,by first|(simp only[*,go_sem];done)|(simp only[*,go_sem];rfl),rfl⟩ (by rfl) (by simp[jD]) ?_
  refine ai.nil a ?_;try simp only[go_sem]
  exact lW rfl (by simp only[*,go_sem]) ⟨rfl,rfl,rfl⟩
 .have b4:dX nw 4=0:=hw.a4
  repeat refine aB (a _) ?_
  refine c6 a ?_
  refine ai.bB (hJ _ rfl) 3 (n:=0) _ rfl rfl ?_;simp only[*,go_sem]
  refine ai.nil a ?_;try simp only[go_sem]
  repeat refine aB (a _) ?_
  refine c5 (a _) (by simp only[*,go_sem]) ?_
  repeat refine aB (a _) ?_
  refine c6 a ?_
  refine ai.bB (hJ _ rfl) 2 (n:=0) _ rfl rfl ?_;simp only[*,go_sem]
  refine ai.nil a ?_;try simp only[go_sem]
  repeat refine aB (a _) ?_
  refine j7 a ?_
  refine ry a (fun m M F' aK=>KF Mu n st F m M F' aK) G ?_ ?_
  .refine ⟨nw,C,0,W,0,G,rfl,by simp only[*,go_sem,muA],by simp only[*,go_sem],by simp only[*,go_sem],by simp only[*,go_sem],hw,hC,Nat.le_refl _,?_⟩
   by_cases f:0<C/\W=0
   .exact .inl ⟨rfl,rfl,f.2,f.1,by simp[jD,f]⟩
   .exact .inr ⟨fun x=>f ⟨x.2.2.2,x.2.2.1⟩,by simp[jD,f]⟩
  .clear hw hC b4 K B w1 z hW y k1 u hd
   rintro m A F' aK ⟨old,C,S,W,L,G,rfl,y,ad,u,hd,hw,hC,ae,N⟩
   repeat refine aB (a _) ?_
   refine j7 a ?_
   have sh:old.fdiv 8=(C:Int):=hw.sh
   rcases N with ⟨rfl,rfl,rfl,j,rfl⟩|⟨al,rfl⟩
   ·
    have O:dX old 7=0:=hw.a7
    have D:((C:Int)==0)=false:=by simp;omega
    repeat refine aB (a _) ?_
    refine c6 a ?_
    refine ai.bB (hJ _ rfl) 1 (n:=7) _ rfl rfl ?_;simp only[*,go_sem]
    refine ai.nD old (C:Int) (a _) ⟨_,rfl,(by first|rfl|simp only[*,go_sem]),rfl,rfl⟩ (by simp only[*,go_sem]) (by simp only[*,go_sem]) hw.sh ?_
    refine ai.bB (hJ _ rfl) 6 (n:=0) _ rfl rfl ?_;simp only[*,go_sem]
    refine ai.nil a ?_;try simp only[go_sem]
    repeat refine aB (a _) ?_
    refine cH (a _) (by simp only[*,go_sem]) ?_
    refine cJ (a _) ?_;try simp only[go_sem]
    have ao:IntKind.i32.wrap (old - 8)=old - 8:=by have e0:=hw.st.eq;exact iP (by omega) (by omega)
    have P:Wd (old - 8) (C - 1) 0 0 0:=by have e0:=hw.st.eq;exact wd ⟨by omega,by omega,by omega,by omega⟩ (by omega)
    have o2:jx (old - 8) 2=old - 8+2:=P.o2
    repeat refine aB (a _) ?_
    refine c6 a ?_
    refine ai.bB (hJ _ rfl) 4 (n:=0) _ rfl rfl ?_;simp only[*,go_sem]
    refine ai.nil a ?_;try simp only[go_sem]
    repeat refine aB (a _) ?_
    refine c6 a ?_
    refine ai.bB (hJ _ rfl) 5 (n:=1) _ rfl rfl ?_;simp only[*,go_sem]
    refine uF old (old - 8+2) uB aG ⟨_,_,_,rfl,(by first|rfl|simp only[*,go_sem]),rfl,by first|(simp only[*,go_sem];done)|(simp only[*,go_sem];rfl),rfl⟩ (by rfl) (by simp) (fun φ ms Q R T U k he hi hm=>?_) (fun φ mu ms Q R T U k he hi hm V=>?_)
    .obtain ⟨rfl,rfl,rfl,rfl⟩:=hm.st.uniq hw.st
     refine ⟨.oS,⟨_,_,_,_,k,JL hm hi _ (by rw[he]) rfl rfl rfl rfl j⟩,?_⟩
     refine ai.nil a ?_;try simp only[go_sem]
     repeat refine aB (a _) ?_
     refine c5 (a _) (by simp only[*,go_sem]) ?_
     repeat refine aB (a _) ?_
     refine c6 a ?_
     refine ai.bB (hJ _ rfl) 3 (n:=1) _ rfl rfl ?_;simp only[*,go_sem]
     refine DW (.bool false) (.int .i64 2) DI aG ⟨_,_,_,rfl,(by first|rfl|simp only[*,go_sem]),rfl,by first|(simp only[*,go_sem];done)|(simp only[*,go_sem];rfl),rfl⟩ (by rfl) (by simp) ?_
     refine ai.nil a ?_;try simp only[go_sem]
     refine fC ?_;try simp only[go_sem]
     exact o3 rfl (by simp only[*,go_sem]) ⟨rfl,rfl,rfl⟩
    .obtain ⟨X,ar,Y⟩:=JM hm hi {mp:=.gD mu (bP n φ ms),gp:=.cnt,stored:=st,deaf:=1} (by rw[he]) rfl
     have a0:bP n φ ms<G:=Y V
     refine ⟨.gD mu (bP n φ ms),⟨_,_,_,_,k,X⟩,?_⟩
     refine ai.nil a ?_;try simp only[go_sem]
     repeat refine aB (a _) ?_
     refine cH (a _) (by simp only[*,go_sem]) ?_
     refine cJ (a _) ?_;try simp only[go_sem]
     repeat refine aB (a _) ?_
     refine c6 a ?_
     refine ai.bB (hJ _ rfl) 3 (n:=2) _ rfl rfl ?_;simp only[*,go_sem]
     refine o7 Kv o5 ⟨_,rfl,(by first|rfl|simp only[*,go_sem]),rfl,rfl⟩ (by rfl) (by simp only[*,go_sem]) (fun c g d l o p q E H I e=>?_)
     have J:=wd e.st (by have:=e.bound;simp only[CY] at this;omega)
     by_cases b:o=0/\q=0/\p=0/\0<l
     .obtain ⟨r,t,_⟩:=Dh e I {mp:=.gD g (bP n c d),gp:=.cnt,stored:=st,deaf:=1} (by rw[H]) (.inl ⟨b.1,b.2.1,b.2.2.1,b.2.2.2,rfl⟩)
      have Z:bP n c d<=bP n φ ms:=t
      refine ⟨.gD g (bP n c d),⟨_,_,_,_,E,r⟩,?_⟩
      refine ai.bB (hJ _ rfl) 1 (n:=0) _ rfl rfl ?_;simp only[*,go_sem]
      refine ai.nil a ?_;try simp only[go_sem]
      exact ⟨bP n c d,by omega,g,l,o,p,q,bP n c d,rfl,(by simp only[*,go_sem]),(by simp only[*,go_sem]),(by simp only[*,go_sem]),(by simp only[*,go_sem]),J,e.bound,Nat.le_refl _,.inl ⟨b.1,b.2.1,b.2.2.1,b.2.2.2,rfl⟩⟩
     .obtain ⟨r,t,_⟩:=Dh e I {mp:=.fin,gp:=.cnt,stored:=st,deaf:=1} (by rw[H]) (.inr ⟨b,rfl⟩)
      have Z:bP n c d<=bP n φ ms:=t
      refine ⟨.fin,⟨_,_,_,_,E,r⟩,?_⟩
      refine ai.bB (hJ _ rfl) 1 (n:=0) _ rfl rfl ?_;simp only[*,go_sem]
      refine ai.nil a ?_;try simp only[go_sem]
      exact ⟨bP n c d,by omega,g,l,o,p,q,bP n c d,rfl,(by simp only[*,go_sem]),(by simp only[*,go_sem]),(by simp only[*,go_sem]),(by simp only[*,go_sem]),J,e.bound,Nat.le_refl _,.inr ⟨b,rfl⟩⟩
   ·
    by_cases j:C=0
    .have D:((C:Int)==0)=true:=by simp[j]
     repeat refine aB (a _) ?_
     refine c6 a ?_
     refine ai.bB (hJ _ rfl) 1 (n:=7) _ rfl rfl ?_;simp only[*,go_sem]
     refine ai.nD old (C:Int) (a _) ⟨_,rfl,(by first|rfl|simp only[*,go_sem]),rfl,rfl⟩ (by simp only[*,go_sem]) (by simp only[*,go_sem]) hw.sh ?_
     refine ai.bB (hJ _ rfl) 6 (n:=0) _ rfl rfl ?_;simp only[*,go_sem]
     refine ai.nil a ?_;try simp only[go_sem]
     repeat refine aB (a _) ?_
     refine c5 (a _) (by simp only[*,go_sem]) ?_
     refine fC ?_;try simp only[go_sem]
     exact o3 rfl (by simp only[*,go_sem]) ⟨rfl,rfl,rfl⟩
    .have D:((C:Int)==0)=false:=by simp;omega
     have O:=hw.a7
     have a2:(((4*S+(2*W+L):Nat):Int) != 0)=true:=by simp;omega
     repeat refine aB (a _) ?_
     refine c6 a ?_
     refine ai.bB (hJ _ rfl) 1 (n:=7) _ rfl rfl ?_;simp only[*,go_sem]
     refine ai.nD old (C:Int) (a _) ⟨_,rfl,(by first|rfl|simp only[*,go_sem]),rfl,rfl⟩ (by simp only[*,go_sem]) (by simp only[*,go_sem]) hw.sh ?_
     refine ai.bB (hJ _ rfl) 6 (n:=0) _ rfl rfl ?_;simp only[*,go_sem]
     refine ai.nil a ?_;try simp only[go_sem]
     repeat refine aB (a _) ?_
     refine c5 (a _) (by simp only[*,go_sem]) ?_
     refine fC ?_;try simp only[go_sem]
     exact o3 rfl (by simp only[*,go_sem]) ⟨rfl,rfl,rfl⟩
theorem KH (aG:Mu≠Wg/\Mu≠Is/\Wg≠Is)(j:n<67108864):
  cI Tryz.prog (WJ (CY Mu Wg Is n bs base T0) i) 181 #[.pointer (some (muA Mu))] F ⟨.held,.cnt,st,0⟩ (fun v F' aK=>v= .tuple #[]/\F'=F/\aK=⟨.fin,.cnt,st,0⟩):=by
 have a:=WJ.ey (CY Mu Wg Is n bs base T0) i
 have hJ:∀ph:Ph,ph.gp= .cnt->Go.Sep.Closed Tryz.prog false (WJ (CY Mu Wg Is n bs base T0) i ph):=fun ph h=>Wk.closed (CY Mu Wg Is n bs base T0) i ph h
 refine cI.go (main:=false) a Tryz.func181 rfl Tryz.ntmps181 (by simp) fun A x hd hs=>?_
 have y:=hs 0
 clear hs
 repeat refine aB (a _) ?_
 refine c5 (a _) (by simp only[*,go_sem]) ?_
 repeat refine aB (a _) ?_
 refine c6 a ?_
 refine ai.bB (hJ _ rfl) 3 (n:=1) _ rfl rfl ?_;simp only[*,go_sem]
 refine o7 Ku o5 ⟨_,rfl,(by first|rfl|simp only[*,go_sem]),rfl,rfl⟩ (by rfl) (by simp only[*,go_sem]) (fun z B D E G H I k l o p=>⟨.held,⟨_,_,_,_,k,nv p o _ (.inl (by rw[l]))⟩,?_⟩)
 refine ai.nil a ?_;try simp only[go_sem]
 repeat refine aB (a _) ?_
 refine c6 a ?_
 refine ai.bB (hJ _ rfl) 1 (n:=2) _ rfl rfl ?_;simp only[*,go_sem]
 refine uG ⟨Mu,0,none⟩ yY lZ y2 ⟨_,rfl,(by first|rfl|simp only[*,go_sem]),rfl,rfl⟩ (by simp) (by simp only[*,go_sem]) zb ?_
 refine Kz DH ⟨_,_,_,rfl,(by first|rfl|simp only[*,go_sem]),rfl,by first|(simp only[*,go_sem];done)|(simp only[*,go_sem];rfl),rfl⟩ (by rfl) ?_
 refine ai.nil a ?_;try simp only[go_sem]
 repeat refine aB (a _) ?_
 refine c6 a ?_
 refine y9 rz ⟨_,_,_,rfl,(by first|rfl|simp only[*,go_sem]),rfl,by first|(simp only[*,go_sem];done)|(simp only[*,go_sem];rfl),rfl⟩ (by simp) (by simp) ?_
 refine ai.nil a ?_;try simp only[go_sem]
 repeat refine aB (a _) ?_
 refine c6 a ?_
 refine ai.bB (hJ _ rfl) 3 (n:=2) _ rfl rfl ?_;simp only[*,go_sem]
 refine za (-1) yW aG ⟨_,_,_,rfl,(by first|rfl|simp only[*,go_sem]),rfl,by first|(simp only[*,go_sem];done)|(simp only[*,go_sem];rfl),rfl⟩ (by rfl) (by simp) (fun φ mu ms C S W L m he hi hm=>?_)
 have q:=Dg hm hi (by rw[he])
 subst q
 have hb:C<=3*n:=hm.bound
 have r:=hm.st.s
 have hW:=hm.st.w
 have d:IntKind.i32.wrap (mu+ -1)=mu - 1:=by have e0:=hm.st.eq;exact iP (by omega) (by omega)
 have g:St (mu - 1) C S W 0:=⟨by have e0:=hm.st.eq;omega,by omega,hW,r⟩
 have hw:Wd (mu - 1) C S W 0:=wd g (by omega)
 have e:cr n (upd φ i ⟨jD C S W (mu - 1) (sm n φ Mp.wt+2*m),.cnt,st,1⟩) (mu - 1) ms C S W 0 m:=by
  refine JK hm hi _ (by rw[he]) ?_
  by_cases b:S=1
  .exact .inl ⟨b,by simp[jD,b]⟩
  .by_cases c:0<C/\W=0
   .exact .inr (.inl ⟨by omega,c.1,c.2,by simp[jD,b,c]⟩)
   .exact .inr (.inr ⟨by omega,by omega,by simp[jD,b,c]⟩)
 refine ⟨jD C S W (mu - 1) (sm n φ Mp.wt+2*m),mu - 1,d,⟨_,_,_,_,m,e⟩,?_⟩
 refine ai.bB (hJ _ rfl) 1 (n:=0) _ rfl rfl ?_;simp only[*,go_sem]
 refine ai.nil a ?_;try simp only[go_sem]
 by_cases f:mu - 1=0
 .have e0:=g.eq
  have t:jD C S W (mu - 1) (sm n φ Mp.wt+2*m)= .fin:=by
   have:C=0:=by omega
   have:S=0:=by omega
   simp[jD, *]
  clear hw e d e0
  rw[t]
  rw[f]
  repeat refine aB (a _) ?_
  refine c6 a ?_
  refine ai.bB (hJ _ rfl) 2 (n:=0) _ rfl rfl ?_;simp only[*,go_sem]
  refine ai.nil a ?_;try simp only[go_sem]
  repeat refine aB (a _) ?_
  refine cH (a _) (by simp only[*,go_sem]) ?_
  refine cJ (a _) ?_;try simp only[go_sem]
  repeat refine aB (a _) ?_
  refine c6 a ?_
  refine uE lY ⟨_,_,_,rfl,(by first|rfl|simp only[*,go_sem]),rfl,by first|(simp only[*,go_sem];done)|(simp only[*,go_sem];rfl),rfl⟩ (by simp) (by simp) rfl ?_
  refine ai.nil a ?_;try simp only[go_sem]
  exact lW rfl (by simp only[*,go_sem]) ⟨rfl,rfl,rfl⟩
 .have J:(mu - 1 != 0)=true:=by simpa using f
  clear e d f
  repeat refine aB (a _) ?_
  refine c6 a ?_
  refine ai.bB (hJ _ rfl) 2 (n:=0) _ rfl rfl ?_;simp only[*,go_sem]
  refine ai.nil a ?_;try simp only[go_sem]
  repeat refine aB (a _) ?_
  refine c5 (a _) (by simp only[*,go_sem]) ?_
  repeat refine aB (a _) ?_
  refine c6 a ?_
  refine ai.bB (hJ _ rfl) 2 (n:=1) _ rfl rfl ?_;simp only[*,go_sem]
  refine ai.gi (a _) rfl rfl rfl F2 (by simp only[*,go_sem,muA]) (KG aG j hw hb) fun v F' aK u=>?_
  obtain ⟨rfl,rfl,rfl⟩:=u
  refine ai.nil a ?_;try simp only[go_sem]
  repeat refine aB (a _) ?_
  refine c6 a ?_
  refine uE lY ⟨_,_,_,rfl,(by first|rfl|simp only[*,go_sem]),rfl,by first|(simp only[*,go_sem];done)|(simp only[*,go_sem];rfl),rfl⟩ (by simp) (by simp) rfl ?_
  refine ai.nil a ?_;try simp only[go_sem]
  exact lW rfl (by simp only[*,go_sem]) ⟨rfl,rfl,rfl⟩
end
end Go.Proofs.YtghbphimkgamkaaGreatDoor
end
section
namespace Go.Sep
open Go Go.Conc
def uH {S:Type}(b:Act->aa->S->Prop)(Q:Ex->Act->aa->S->Prop):Ex->Act->aa->S->Prop
 | .normal,a,F,ph=>b a F ph
 |e,a,F,ph=>Q e a F ph
attribute [go_sem] uH
theorem kY {P:Program}{main:Bool}{S:Type}{JF:S->Goroutine->aa->Prop}{fi:FuncId}{Q:Ex->Act->aa->S->Prop}{a:Act}{F:aa}{ph:S}(c:∀ph,dY P main (JF ph)){x y:Code}(b:Act->aa->S->Prop)
  (d:cO JF fi x (uH b Q) a F ph) (f:∀a F ph,b a F ph->cO JF fi y Q a F ph):cO JF fi (.seq x y) Q a F ph:=
 aB (c _) (d.mono fun e a F ph h=>by
  cases e with
  |normal=>exact f a F ph h
  |exit i=>exact h
  |ret=>exact h)
theorem uI {P:Program}{main:Bool}{S:Type}{JF:S->Goroutine->aa->Prop}{fi:FuncId}{Q:Ex->Act->aa->S->Prop}{a:Act}{F:aa}{ph:S}(f:∀ph,dY P main (JF ph)){x:Code}(b:Act->aa->S->Prop)
  (c:cO JF fi x (uH b Q) a F ph) (d:∀a F ph,b a F ph->Q .normal a F ph):cO JF fi x Q a F ph:=
 c.mono fun e a F ph h=>by
  cases e with
  |normal=>exact d a F ph h
  |exit i=>exact h
  |ret=>exact h
theorem bh {P:Program}{main:Bool}{S:Type}{JF:S->Goroutine->aa->Prop}{fi:FuncId}{Q:Ex->Act->aa->S->Prop}{a:Act}{F:aa}{ph:S}(b:∀ph,dY P main (JF ph)){id:Nat}{ops:Array Oper}
  (h:∀K:Act->aa->S->Prop,(∀a F ph,Q .normal a F ph->K a F ph)->ai JF fi ops 0 ops.size K a F ph):cO JF fi (.region id ops false) Q a F ph:=c6 b (h _ fun _ _ _ h=>h)
theorem eC {S:Type}{b:Act->aa->S->Prop}{Q:Ex->Act->aa->S->Prop}{a:Act}{F:aa}{ph:S}(h:b a F ph):uH b Q .normal a F ph:=h
theorem jm {S:Type}{I:Nat->Act->aa->S->Prop}{n:Nat}{Q:Ex->Act->aa->S->Prop}{a:Act}{F:aa}{ph:S}(h:∃m,m<n/\I m a F ph):yU I n Q .normal a F ph:=h
theorem KI {x:Int}(a: -9223372036854775808<=x)(b:x<9223372036854775808):IntKind.i64.wrap x=x:=by
 unfold IntKind.wrap;simp[IntKind.bits,IntKind.signed];omega
end Go.Sep
namespace Go.Proofs.YtghbphimkgamkaaGreatDoor
open Go Go.Sep Go.Proofs Go.Conc
open Go.ConcN (upd upd_same)
open Go.ConcM (muA msA)
open Go.ConcR (stA smA)
set_option maxRecDepth 100000
set_option maxHeartbeats 8000000
set_option linter.all false
attribute [local go_sem] Int.reduceBEq Int.reduceBNe muA msA stA smA
def uJ (Mu n:Nat)(st:Bool)(F:aa)(m:Nat)(a:Act)(F':aa)(ph:Ph):Prop:=
 ∃(wt it old:Int) (sv aw:Bool) (C S W L G:Nat),F'=F/\slot a 0= .pointer (some ⟨Mu,0,none⟩)/\slot a 2= .int .i64 wt/\slot a 3= .bool sv/\slot a 4= .bool aw/\slot a 5= .int .i64 it/\slot a 6= .int .i32 old/\sz a=139/\a.defers=[]/\
  Wd old C S W L/\C<=3*n/\0<=it/\it<=4/\(sv=true->aw=true)/\(aw=true->S=0/\W=1)/\8*G+(5 - it).toNat<=m/\ph=⟨.want aw old G,.cnt,st,1⟩
def uK (Mu:Nat)(st:Bool)(F:aa)(a:Act)(F':aa)(ph:Ph):Prop:=F'=F/\slot a 0= .pointer (some ⟨Mu,0,none⟩)/\sz a=139/\a.defers=[]/\ph=⟨.held,.cnt,st,1⟩
def KJ (Mu:Nat)(st:Bool)(F:aa)(wt it:Int)(sv:Bool)(G:Nat)(a:Act)(F':aa)(ph:Ph):Prop:=
 ∃(aw:Bool) (o:Int) (b:Nat),F'=F/\slot a 0= .pointer (some ⟨Mu,0,none⟩)/\slot a 2= .int .i64 wt/\slot a 3= .bool sv/\slot a 4= .bool aw/\slot a 5= .int .i64 it/\sz a=139/\a.defers=[]/\(sv=true->aw=true)/\b<=G/\ph=⟨.want aw o b,.cnt,st,1⟩
def rD (Mu:Nat)(st:Bool)(F:aa)(wt it old:Int)(x:Option Int)(sv aw:Bool)(G:Nat)(a:Act)(F':aa)(ph:Ph):Prop:=
 F'=F/\slot a 0= .pointer (some ⟨Mu,0,none⟩)/\slot a 2= .int .i64 wt/\slot a 3= .bool sv/\slot a 4= .bool aw/\slot a 5= .int .i64 it/\slot a 6= .int .i32 old/\(∀y,x=some y->slot a 7= .int .i32 y)/\sz a=139/\a.defers=[]/\ph=⟨.want aw old G,.cnt,st,1⟩
def DY (Mu:Nat)(st:Bool)(F:aa)(sv:Bool)(mp:Mp)(a:Act)(F':aa)(ph:Ph):Prop:=
 ∃wt:Int,F'=F/\slot a 0= .pointer (some ⟨Mu,0,none⟩)/\slot a 2= .int .i64 wt/\slot a 3= .bool sv/\sz a=139/\a.defers=[]/\ph=⟨mp,.cnt,st,1⟩
def DZ (Mu:Nat)(st:Bool)(F:aa)(mp:Mp)(a:Act)(F':aa)(ph:Ph):Prop:=
 ∃(wt:Int) (sv:Bool),F'=F/\slot a 0= .pointer (some ⟨Mu,0,none⟩)/\slot a 2= .int .i64 wt/\slot a 3= .bool sv/\sz a=139/\a.defers=[]/\ph=⟨mp,.cnt,st,1⟩
def KL (Mu:Nat)(st:Bool)(F:aa)(y:Bool)(a:Act)(F':aa)(ph:Ph):Prop:=
 ∃e:Bool,F'=F/\slot a 0= .pointer (some ⟨Mu,0,none⟩)/\slot a 9= .int .i32 (-7)/\slot a 123= .bool e/\sz a=139/\a.defers=[]/\(e=false->y=true)/\ph=⟨.kV y,.cnt,st,1⟩
section
variable {Mu Wg Is n base T0 i : Nat} {bs : Nat → Bool} {st : Bool} {F : aa}
theorem KM (aG:Mu≠Wg/\Mu≠Is/\Wg≠Is)(eQ:n<67108864):
  cI Tryz.prog (WJ (CY Mu Wg Is n bs base T0) i) 199 #[.pointer (some (muA Mu))] F ⟨.idle,.cnt,st,1⟩ (fun v F' aK=>v= .tuple #[]/\F'=F/\aK=⟨.held,.cnt,st,0⟩):=by
 have a:=WJ.ey (CY Mu Wg Is n bs base T0) i
 have hJ:∀ph:Ph,ph.gp= .cnt->Go.Sep.Closed Tryz.prog false (WJ (CY Mu Wg Is n bs base T0) i ph):=fun ph h=>Wk.closed (CY Mu Wg Is n bs base T0) i ph h
 refine cI.go (main:=false) a Tryz.func199 rfl Tryz.ntmps199 (by simp) fun A d hd hs=>?_
 have f:=hs 0
 clear hs
 repeat refine aB (a _) ?_
 refine bh a fun K b=>?_
 refine ai.bB (hJ _ rfl) 1 (n:=0) _ rfl rfl ?_;simp only[*,go_sem,-b,-a,-hJ]
 refine ai.nil a (b _ _ _ ?_);clear b K
 repeat refine aB (a _) ?_
 refine bh a fun K b=>?_
 refine ai.bB (hJ _ rfl) 1 (n:=0) _ rfl rfl ?_;simp only[*,go_sem,-b,-a,-hJ]
 refine ai.nil a (b _ _ _ ?_);clear b K
 repeat refine aB (a _) ?_
 refine bh a fun K b=>?_
 refine ai.bB (hJ _ rfl) 1 (n:=0) _ rfl rfl ?_;simp only[*,go_sem,-b,-a,-hJ]
 refine ai.nil a (b _ _ _ ?_);clear b K
 repeat refine aB (a _) ?_
 refine bh a fun K b=>?_
 refine ai.bB (hJ _ rfl) 1 (n:=0) _ rfl rfl ?_;simp only[*,go_sem,-b,-a,-hJ]
 refine ai.nil a (b _ _ _ ?_);clear b K
 repeat refine aB (a _) ?_
 refine bh a fun K b=>?_
 refine ai.bB (hJ _ rfl) 3 (n:=2) _ rfl rfl ?_;simp only[*,go_sem,-b,-a,-hJ]
 refine o7 uC o5 ⟨_,rfl,(by first|(simp only[*,go_sem,-b,-a,-hJ];done)|rfl),rfl,rfl⟩ (by rfl) (by simp only[*,go_sem,-b,-a,-hJ]) (fun φ mu ms C S W L m he hi hm=>⟨.want false mu (bP n φ ms),⟨_,_,_,_,m,JC hm hi _ (by rw[he]) rfl⟩,?_⟩)
 have hw:=wd hm.st (by have:C<=3*n:=hm.bound;omega)
 have hC:C<=3*n:=hm.bound
 refine ai.bB (hJ _ rfl) 1 (n:=0) _ rfl rfl ?_;simp only[*,go_sem,-b,-a,-hJ]
 refine ai.nil a (b _ _ _ ?_);clear b K
 refine kY a (uK Mu st F) ?_ ?_
 .repeat refine aB (a _) ?_
  refine j7 a ?_
  refine ry a (uJ Mu n st F) (8*bP n φ ms+5) ?_ ?_
  .exact ⟨0,0,mu,false,false,C,S,W,L,bP n φ ms,rfl,(by simp only[*,go_sem,-a,-hJ]),(by simp only[*,go_sem,-a,-hJ]),(by simp only[*,go_sem,-a,-hJ]),(by simp only[*,go_sem,-a,-hJ]),(by simp only[*,go_sem,-a,-hJ]),(by simp only[*,go_sem,-a,-hJ]),(by simp only[*,go_sem,-a,-hJ]),(by simp only[*,go_sem,-a,-hJ]),hw,hC,by omega,by omega,by simp,by simp,by simp,rfl⟩
  .clear hw hC hm hi he d hd f
   rintro m A F' aK ⟨wt,it,old,sv,aw,C,S,W,L,G,rfl,f,k,o,z,D,I,d,hd,hw,hC,eS,e3,V,X,fa,rfl⟩
   have cS:S=0\/S=1:=by have:=hw.st.s;omega
   have a7:L=0\/L=1:=by have:=hw.st.l;omega
   have bd:W=0\/W=1:=by have:=hw.st.w;omega
   repeat refine aB (a _) ?_
   refine j7 a ?_
   refine kY a (rD Mu st F' wt it old none sv aw G) ?_ ?_
   ·
    by_cases Y:S=0/\L=1
    .obtain ⟨rfl,rfl⟩:=Y
     have b5:dX old 5=1:=hw.a5
     repeat refine aB (a _) ?_
     refine bh a fun K b=>?_
     refine ai.bB (hJ _ rfl) 5 (n:=2) _ rfl rfl ?_;simp only[*,go_sem,-b,-a,-hJ]
     refine KC it Kl ⟨_,_,_,rfl,(by first|(simp only[*,go_sem,-b,-a,-hJ];done)|rfl),rfl,by first|(simp only[*,go_sem,-b,-a,-hJ];done)|(simp only[*,go_sem,-b,-a,-hJ];rfl),rfl⟩ (by simp) fun t ht=>?_
     refine ai.bB (hJ _ rfl) 1 (n:=0) _ rfl rfl ?_;simp only[*,go_sem,-b,-a,-hJ]
     refine ai.nil a (b _ _ _ ?_);clear b K
     cases t
     .repeat refine aB (a _) ?_
      refine cH (a _) (by simp only[*,go_sem,-a,-hJ]) ?_
      refine cJ (a _) ?_
      exact eC ⟨rfl,(by simp only[*,go_sem,-a,-hJ]),(by simp only[*,go_sem,-a,-hJ]),(by simp only[*,go_sem,-a,-hJ]),(by simp only[*,go_sem,-a,-hJ]),(by simp only[*,go_sem,-a,-hJ]),(by simp only[*,go_sem,-a,-hJ]),by simp,(by simp only[*,go_sem,-a,-hJ]),(by simp only[*,go_sem,-a,-hJ]),rfl⟩
     .have fb:=ht rfl
      repeat refine aB (a _) ?_
      refine c5 (a _) (by simp only[*,go_sem,-a,-hJ]) ?_
      refine kY a (KJ Mu st F' wt it sv G) ?_ ?_
      .cases aw
       .obtain rfl:sv=false:=by cases sv<;>simp_all
        rcases bd with rfl|rfl
        .have b2:dX old 2=0:=hw.a2
         by_cases dC:C=0
         .have br:((C:Int) != 0)=false:=by simp[dC]
          repeat refine aB (a _) ?_
          refine bh a fun K b=>?_
          refine ai.bB (hJ _ rfl) 9 (n:=12) _ rfl rfl ?_;simp only[*,go_sem,-b,-a,-hJ]
          refine ai.nD old (C:Int) (a _) ⟨_,rfl,(by first|(simp only[*,go_sem,-b,-a,-hJ];done)|rfl),rfl,rfl⟩ (by simp only[*,go_sem,-b,-a,-hJ]) (by simp only[*,go_sem,-b,-a,-hJ]) hw.sh ?_
          refine ai.bB (hJ _ rfl) 11 (n:=0) _ rfl rfl ?_;simp only[*,go_sem,-b,-a,-hJ]
          refine ai.nil a (b _ _ _ ?_);clear b K
          repeat refine aB (a _) ?_
          refine cH (a _) (by simp only[*,go_sem,-a,-hJ]) ?_
          refine cJ (a _) ?_
          exact eC ⟨false,old,G,rfl,(by simp only[*,go_sem,-a,-hJ]),(by simp only[*,go_sem,-a,-hJ]),(by simp only[*,go_sem,-a,-hJ]),(by simp only[*,go_sem,-a,-hJ]),(by simp only[*,go_sem,-a,-hJ]),(by simp only[*,go_sem,-a,-hJ]),(by simp only[*,go_sem,-a,-hJ]),by simp,Nat.le_refl _,rfl⟩
         .have br:((C:Int) != 0)=true:=by simp;omega
          have o2:jx old 2=old+2:=hw.o2
          repeat refine aB (a _) ?_
          refine bh a fun K b=>?_
          refine ai.bB (hJ _ rfl) 9 (n:=12) _ rfl rfl ?_;simp only[*,go_sem,-b,-a,-hJ]
          refine ai.nD old (C:Int) (a _) ⟨_,rfl,(by first|(simp only[*,go_sem,-b,-a,-hJ];done)|rfl),rfl,rfl⟩ (by simp only[*,go_sem,-b,-a,-hJ]) (by simp only[*,go_sem,-b,-a,-hJ]) hw.sh ?_
          refine ai.bB (hJ _ rfl) 9 (n:=2) _ rfl rfl ?_;simp only[*,go_sem,-b,-a,-hJ]
          refine uF old (old+2) uB aG ⟨_,_,_,rfl,(by first|(simp only[*,go_sem,-b,-a,-hJ];done)|rfl),rfl,by first|(simp only[*,go_sem,-b,-a,-hJ];done)|(simp only[*,go_sem,-b,-a,-hJ];rfl),rfl⟩ (by rfl) (by simp) (fun φ ms bz ao bS Z p he hi hm=>?_) (fun φ mu ms bz ao bS Z p he hi hm dd=>?_)
          .obtain ⟨rfl,rfl,rfl,rfl⟩:=hm.st.uniq hw.st
           refine ⟨.want true old G,⟨_,_,_,_,p,JD hm hi _ (by rw[he]) rfl rfl rfl rfl rfl⟩,?_⟩
           refine ai.bB (hJ _ rfl) 1 (n:=0) _ rfl rfl ?_;simp only[*,go_sem,-b,-a,-hJ]
           refine ai.nil a (b _ _ _ ?_);clear b K
           repeat refine aB (a _) ?_
           refine c5 (a _) (by simp only[*,go_sem,-a,-hJ]) ?_
           repeat refine aB (a _) ?_
           refine bh a fun K b=>?_
           refine ai.bB (hJ _ rfl) 1 (n:=0) _ rfl rfl ?_;simp only[*,go_sem,-b,-a,-hJ]
           refine ai.nil a (b _ _ _ ?_);clear b K
           exact eC ⟨true,old,G,rfl,(by simp only[*,go_sem,-a,-hJ]),(by simp only[*,go_sem,-a,-hJ]),(by simp only[*,go_sem,-a,-hJ]),(by simp only[*,go_sem,-a,-hJ]),(by simp only[*,go_sem,-a,-hJ]),(by simp only[*,go_sem,-a,-hJ]),(by simp only[*,go_sem,-a,-hJ]),by simp,Nat.le_refl _,rfl⟩
          .obtain ⟨J,a8,bj⟩:=um hm hi {mp:=.want false mu (bP n φ ms),gp:=.cnt,stored:=st,deaf:=1} (by rw[he]) rfl
           refine ⟨.want false mu (bP n φ ms),⟨_,_,_,_,p,J⟩,?_⟩
           refine ai.bB (hJ _ rfl) 1 (n:=0) _ rfl rfl ?_;simp only[*,go_sem,-b,-a,-hJ]
           refine ai.nil a (b _ _ _ ?_);clear b K
           repeat refine aB (a _) ?_
           refine cH (a _) (by simp only[*,go_sem,-a,-hJ]) ?_
           refine cJ (a _) ?_
           exact eC ⟨false,mu,bP n φ ms,rfl,(by simp only[*,go_sem,-a,-hJ]),(by simp only[*,go_sem,-a,-hJ]),(by simp only[*,go_sem,-a,-hJ]),(by simp only[*,go_sem,-a,-hJ]),(by simp only[*,go_sem,-a,-hJ]),(by simp only[*,go_sem,-a,-hJ]),(by simp only[*,go_sem,-a,-hJ]),by simp,a8,rfl⟩
        .have b2:dX old 2=2:=hw.a2
         repeat refine aB (a _) ?_
         refine bh a fun K b=>?_
         refine ai.bB (hJ _ rfl) 21 (n:=0) _ rfl rfl ?_;simp only[*,go_sem,-b,-a,-hJ]
         refine ai.nil a (b _ _ _ ?_);clear b K
         repeat refine aB (a _) ?_
         refine cH (a _) (by simp only[*,go_sem,-a,-hJ]) ?_
         refine cJ (a _) ?_
         exact eC ⟨false,old,G,rfl,(by simp only[*,go_sem,-a,-hJ]),(by simp only[*,go_sem,-a,-hJ]),(by simp only[*,go_sem,-a,-hJ]),(by simp only[*,go_sem,-a,-hJ]),(by simp only[*,go_sem,-a,-hJ]),(by simp only[*,go_sem,-a,-hJ]),(by simp only[*,go_sem,-a,-hJ]),by simp,Nat.le_refl _,rfl⟩
       .repeat refine aB (a _) ?_
        refine bh a fun K b=>?_
        refine ai.bB (hJ _ rfl) 21 (n:=0) _ rfl rfl ?_;simp only[*,go_sem,-b,-a,-hJ]
        refine ai.nil a (b _ _ _ ?_);clear b K
        repeat refine aB (a _) ?_
        refine cH (a _) (by simp only[*,go_sem,-a,-hJ]) ?_
        refine cJ (a _) ?_
        exact eC ⟨true,old,G,rfl,(by simp only[*,go_sem,-a,-hJ]),(by simp only[*,go_sem,-a,-hJ]),(by simp only[*,go_sem,-a,-hJ]),(by simp only[*,go_sem,-a,-hJ]),(by simp only[*,go_sem,-a,-hJ]),(by simp only[*,go_sem,-a,-hJ]),(by simp only[*,go_sem,-a,-hJ]),by simp,Nat.le_refl _,rfl⟩
      .clear f k o z D I d hd b5
       rintro A c ab ⟨bk,o2,dE,rfl,f,k,o,z,D,d,hd,dT,fg,rfl⟩
       have fi:IntKind.i64.wrap (it+1)=it+1:=KI (by omega) (by omega)
       repeat refine aB (a _) ?_
       refine bh a fun K b=>?_
       refine ai.entry _ (a _) Km ⟨_,_,_,rfl,(by first|(simp only[*,go_sem,-b,-a,-hJ];done)|rfl),rfl,by first|(simp only[*,go_sem,-b,-a,-hJ];done)|(simp only[*,go_sem,-b,-a,-hJ];rfl),rfl⟩ ?_
       refine ai.nil a (b _ _ _ ?_);clear b K
       repeat refine aB (a _) ?_
       refine bh a fun K b=>?_
       refine ai.bB (hJ _ rfl) 3 (n:=0) _ rfl rfl ?_;simp only[*,go_sem,-b,-a,-hJ]
       refine ai.nil a (b _ _ _ ?_);clear b K
       repeat refine aB (a _) ?_
       refine bh a fun K b=>?_
       refine ai.bB (hJ _ rfl) 3 (n:=2) _ rfl rfl ?_;simp only[*,go_sem,-b,-a,-hJ]
       refine o7 uC o5 ⟨_,rfl,(by first|(simp only[*,go_sem,-b,-a,-hJ];done)|rfl),rfl,rfl⟩ (by rfl) (by simp only[*,go_sem,-b,-a,-hJ]) (fun φ mu ms P al bl b0 b1 he hi hm=>?_)
       obtain ⟨J,a8,bj⟩:=um hm hi {mp:=.want bk mu (bP n φ ms),gp:=.cnt,stored:=st,deaf:=1} (by rw[he]) rfl
       have ad:=wd hm.st (by have:P<=3*n:=hm.bound;omega)
       have a9:P<=3*n:=hm.bound
       have ca:bP n φ ms<=dE:=a8
       have cb:bk=true->al=0/\bl=1:=fun e=>by subst e;exact De hm hi (by rw[he])
       refine ⟨.want bk mu (bP n φ ms),⟨_,_,_,_,b1,J⟩,?_⟩
       refine ai.bB (hJ _ rfl) 1 (n:=0) _ rfl rfl ?_;simp only[*,go_sem,-b,-a,-hJ]
       refine ai.nil a (b _ _ _ ?_);clear b K
       refine oZ ?_
       change ∃p,p<m/\uJ Mu n st c p _ _ _
       exact ⟨8*bP n φ ms+(5 - (it+1)).toNat,by omega,wt,it+1,mu,sv,bk,P,al,bl,b0,bP n φ ms,rfl,(by simp only[*,go_sem,-a,-hJ]),(by simp only[*,go_sem,-a,-hJ]),(by simp only[*,go_sem,-a,-hJ]),(by simp only[*,go_sem,-a,-hJ]),(by simp only[*,go_sem,-a,-hJ]),(by simp only[*,go_sem,-a,-hJ]),(by simp only[*,go_sem,-a,-hJ]),(by simp only[*,go_sem,-a,-hJ]),ad,a9,by omega,by omega,dT,cb,Nat.le_refl _,rfl⟩
    .have b5:=hw.a5
     have cd:(((4*S+L:Nat):Int)==1)=false:=by simp;omega
     repeat refine aB (a _) ?_
     refine bh a fun K b=>?_
     refine ai.bB (hJ _ rfl) 7 (n:=0) _ rfl rfl ?_;simp only[*,go_sem,-b,-a,-hJ]
     refine ai.nil a (b _ _ _ ?_);clear b K
     repeat refine aB (a _) ?_
     refine cH (a _) (by simp only[*,go_sem,-a,-hJ]) ?_
     refine cJ (a _) ?_
     exact eC ⟨rfl,(by simp only[*,go_sem,-a,-hJ]),(by simp only[*,go_sem,-a,-hJ]),(by simp only[*,go_sem,-a,-hJ]),(by simp only[*,go_sem,-a,-hJ]),(by simp only[*,go_sem,-a,-hJ]),(by simp only[*,go_sem,-a,-hJ]),by simp,(by simp only[*,go_sem,-a,-hJ]),(by simp only[*,go_sem,-a,-hJ]),rfl⟩
   .clear f k o z D I d hd
    rintro A c ab ⟨rfl,f,k,o,z,D,I,q,d,hd,rfl⟩
    clear q
    repeat refine aB (a _) ?_
    refine bh a fun K b=>?_
    refine ai.bB (hJ _ rfl) 2 (n:=0) _ rfl rfl ?_;simp only[*,go_sem,-b,-a,-hJ]
    refine ai.nil a (b _ _ _ ?_);clear b K
    obtain ⟨Q,j,r⟩:∃Q:Int,(S=0->Q=old+1 - L)/\(S=1->Q=old):=⟨if S=0 then old+1 - L else old,fun e=>by simp[e],fun e=>by simp[e]⟩
    refine kY a (rD Mu st c wt it old (some Q) sv aw G) ?_ ?_
    .rcases cS with rfl|rfl
     .have b4:dX old 4=0:=hw.a4
      have o1:jx old 1=Q:=by rw[j rfl,hw.o1];omega
      clear j r
      repeat refine aB (a _) ?_
      refine bh a fun K b=>?_
      refine ai.bB (hJ _ rfl) 3 (n:=0) _ rfl rfl ?_;simp only[*,go_sem,-b,-a,-hJ]
      refine ai.nil a (b _ _ _ ?_);clear b K
      repeat refine aB (a _) ?_
      refine c5 (a _) (by simp only[*,go_sem,-a,-hJ]) ?_
      repeat refine aB (a _) ?_
      refine bh a fun K b=>?_
      refine ai.bB (hJ _ rfl) 3 (n:=0) _ rfl rfl ?_;simp only[*,go_sem,-b,-a,-hJ]
      refine ai.nil a (b _ _ _ ?_);clear b K
      exact eC ⟨rfl,(by simp only[*,go_sem,-a,-hJ]),(by simp only[*,go_sem,-a,-hJ]),(by simp only[*,go_sem,-a,-hJ]),(by simp only[*,go_sem,-a,-hJ]),(by simp only[*,go_sem,-a,-hJ]),(by simp only[*,go_sem,-a,-hJ]),fun y g=>by cases g;simp only[*,go_sem,-a,-hJ],(by simp only[*,go_sem,-a,-hJ]),(by simp only[*,go_sem,-a,-hJ]),rfl⟩
     .have b4:dX old 4=4:=hw.a4
      obtain rfl:=r rfl
      clear j r
      repeat refine aB (a _) ?_
      refine bh a fun K b=>?_
      refine ai.bB (hJ _ rfl) 3 (n:=0) _ rfl rfl ?_;simp only[*,go_sem,-b,-a,-hJ]
      refine ai.nil a (b _ _ _ ?_);clear b K
      repeat refine aB (a _) ?_
      refine cH (a _) (by simp only[*,go_sem,-a,-hJ]) ?_
      refine cJ (a _) ?_
      exact eC ⟨rfl,(by simp only[*,go_sem,-a,-hJ]),(by simp only[*,go_sem,-a,-hJ]),(by simp only[*,go_sem,-a,-hJ]),(by simp only[*,go_sem,-a,-hJ]),(by simp only[*,go_sem,-a,-hJ]),(by simp only[*,go_sem,-a,-hJ]),fun y g=>by cases g;simp only[*,go_sem,-a,-hJ],(by simp only[*,go_sem,-a,-hJ]),(by simp only[*,go_sem,-a,-hJ]),rfl⟩
    clear f k o z D I d hd
    rintro A c ab ⟨rfl,f,k,o,z,D,I,q,d,hd,rfl⟩
    replace q:=q _ rfl
    obtain ⟨R,x,E⟩:∃R:Int,(S=1\/L=1->R=Q+8)/\(S=0->L=0->R=Q):=⟨if S=1\/L=1 then Q+8 else Q,fun e=>by simp[e],fun e cf=>by simp[e,cf]⟩
    refine kY a (rD Mu st c wt it old (some R) sv aw G) ?_ ?_
    .by_cases Y:S=1\/L=1
     .have b5:=hw.a5
      have cd:(((4*S+L:Nat):Int) != 0)=true:=by simp;omega
      have fo:IntKind.i32.wrap (Q+8)=R:=by
       have e0:=hw.st.eq
       rw[x Y]
       refine iP ?_ ?_<;>rcases cS with rfl|rfl<;>first|(have:=j rfl;omega)|(have:=r rfl;omega)
      clear j r x E Y
      repeat refine aB (a _) ?_
      refine bh a fun K b=>?_
      refine ai.bB (hJ _ rfl) 3 (n:=0) _ rfl rfl ?_;simp only[*,go_sem,-b,-a,-hJ]
      refine ai.nil a (b _ _ _ ?_);clear b K
      repeat refine aB (a _) ?_
      refine c5 (a _) (by simp only[*,go_sem,-a,-hJ]) ?_
      repeat refine aB (a _) ?_
      refine bh a fun K b=>?_
      refine ai.bB (hJ _ rfl) 3 (n:=0) _ rfl rfl ?_;simp only[*,go_sem,-b,-a,-hJ]
      refine ai.nil a (b _ _ _ ?_);clear b K
      exact eC ⟨rfl,(by simp only[*,go_sem,-a,-hJ]),(by simp only[*,go_sem,-a,-hJ]),(by simp only[*,go_sem,-a,-hJ]),(by simp only[*,go_sem,-a,-hJ]),(by simp only[*,go_sem,-a,-hJ]),(by simp only[*,go_sem,-a,-hJ]),fun y g=>by cases g;simp only[*,go_sem,-a,-hJ],(by simp only[*,go_sem,-a,-hJ]),(by simp only[*,go_sem,-a,-hJ]),rfl⟩
     .obtain rfl:S=0:=by omega
      obtain rfl:L=0:=by omega
      have b5:dX old 5=0:=hw.a5
      obtain rfl:=E rfl rfl
      clear j r x E Y
      repeat refine aB (a _) ?_
      refine bh a fun K b=>?_
      refine ai.bB (hJ _ rfl) 3 (n:=0) _ rfl rfl ?_;simp only[*,go_sem,-b,-a,-hJ]
      refine ai.nil a (b _ _ _ ?_);clear b K
      repeat refine aB (a _) ?_
      refine cH (a _) (by simp only[*,go_sem,-a,-hJ]) ?_
      refine cJ (a _) ?_
      exact eC ⟨rfl,(by simp only[*,go_sem,-a,-hJ]),(by simp only[*,go_sem,-a,-hJ]),(by simp only[*,go_sem,-a,-hJ]),(by simp only[*,go_sem,-a,-hJ]),(by simp only[*,go_sem,-a,-hJ]),(by simp only[*,go_sem,-a,-hJ]),fun y g=>by cases g;simp only[*,go_sem,-a,-hJ],(by simp only[*,go_sem,-a,-hJ]),(by simp only[*,go_sem,-a,-hJ]),rfl⟩
    clear f k o z D I q d hd
    rintro A c ab ⟨rfl,f,k,o,z,D,I,q,d,hd,rfl⟩
    replace q:=q _ rfl
    obtain ⟨M,N,u⟩:∃M:Int,(sv=true->L=1->M=R+4)/\(¬(sv=true/\L=1)->M=R):=⟨if sv=true/\L=1 then R+4 else R,fun e cf=>by simp[e,cf],fun e=>by simp[e]⟩
    refine kY a (rD Mu st c wt it old (some M) sv aw G) ?_ ?_
    .cases sv
     .obtain rfl:=u (by simp)
      clear j r x E N u
      repeat refine aB (a _) ?_
      refine bh a fun K b=>?_
      refine ai.bB (hJ _ rfl) 6 (n:=0) _ rfl rfl ?_;simp only[*,go_sem,-b,-a,-hJ]
      refine ai.nil a (b _ _ _ ?_);clear b K
      repeat refine aB (a _) ?_
      refine cH (a _) (by simp only[*,go_sem,-a,-hJ]) ?_
      refine cJ (a _) ?_
      exact eC ⟨rfl,(by simp only[*,go_sem,-a,-hJ]),(by simp only[*,go_sem,-a,-hJ]),(by simp only[*,go_sem,-a,-hJ]),(by simp only[*,go_sem,-a,-hJ]),(by simp only[*,go_sem,-a,-hJ]),(by simp only[*,go_sem,-a,-hJ]),fun y g=>by cases g;simp only[*,go_sem,-a,-hJ],(by simp only[*,go_sem,-a,-hJ]),(by simp only[*,go_sem,-a,-hJ]),rfl⟩
     .obtain rfl:aw=true:=V rfl
      rcases a7 with rfl|rfl
      .have ea:dX old 1=0:=hw.a1
       obtain rfl:=u (by simp)
       clear j r x E N u
       repeat refine aB (a _) ?_
       refine bh a fun K b=>?_
       refine ai.bB (hJ _ rfl) 6 (n:=0) _ rfl rfl ?_;simp only[*,go_sem,-b,-a,-hJ]
       refine ai.nil a (b _ _ _ ?_);clear b K
       repeat refine aB (a _) ?_
       refine cH (a _) (by simp only[*,go_sem,-a,-hJ]) ?_
       refine cJ (a _) ?_
       exact eC ⟨rfl,(by simp only[*,go_sem,-a,-hJ]),(by simp only[*,go_sem,-a,-hJ]),(by simp only[*,go_sem,-a,-hJ]),(by simp only[*,go_sem,-a,-hJ]),(by simp only[*,go_sem,-a,-hJ]),(by simp only[*,go_sem,-a,-hJ]),fun y g=>by cases g;simp only[*,go_sem,-a,-hJ],(by simp only[*,go_sem,-a,-hJ]),(by simp only[*,go_sem,-a,-hJ]),rfl⟩
      .have ea:dX old 1=1:=hw.a1
       have o4:jx R 4=M:=by
        have e0:=hw.st.eq
        obtain ⟨rfl,rfl⟩:=X rfl
        have e1:=j rfl
        have e2:=x (.inr rfl)
        rw[N rfl rfl,(wd (C:=C+1) (S:=0) (W:=1) (L:=1) ⟨by omega,by omega,by omega,by omega⟩ (by omega)).o4]
        omega
       clear j r x E N u
       repeat refine aB (a _) ?_
       refine bh a fun K b=>?_
       refine ai.bB (hJ _ rfl) 6 (n:=0) _ rfl rfl ?_;simp only[*,go_sem,-b,-a,-hJ]
       refine ai.nil a (b _ _ _ ?_);clear b K
       repeat refine aB (a _) ?_
       refine c5 (a _) (by simp only[*,go_sem,-a,-hJ]) ?_
       repeat refine aB (a _) ?_
       refine bh a fun K b=>?_
       refine ai.bB (hJ _ rfl) 3 (n:=0) _ rfl rfl ?_;simp only[*,go_sem,-b,-a,-hJ]
       refine ai.nil a (b _ _ _ ?_);clear b K
       exact eC ⟨rfl,(by simp only[*,go_sem,-a,-hJ]),(by simp only[*,go_sem,-a,-hJ]),(by simp only[*,go_sem,-a,-hJ]),(by simp only[*,go_sem,-a,-hJ]),(by simp only[*,go_sem,-a,-hJ]),(by simp only[*,go_sem,-a,-hJ]),fun y g=>by cases g;simp only[*,go_sem,-a,-hJ],(by simp only[*,go_sem,-a,-hJ]),(by simp only[*,go_sem,-a,-hJ]),rfl⟩
    clear f k o z D I q d hd
    rintro A c ab ⟨rfl,f,k,o,z,D,I,q,d,hd,rfl⟩
    replace q:=q _ rfl
    obtain ⟨ae,T,U⟩:∃ae:Int,(aw=true->ae=M - 2)/\(aw=false->ae=M):=⟨if aw then M - 2 else M,fun e=>by simp[e],fun e=>by simp[e]⟩
    refine kY a (rD Mu st c wt it old (some ae) sv aw G) ?_ ?_
    .cases aw
     .obtain rfl:=U rfl
      clear j r x E N u T U
      repeat refine aB (a _) ?_
      refine bh a fun K b=>?_
      refine ai.bB (hJ _ rfl) 1 (n:=0) _ rfl rfl ?_;simp only[*,go_sem,-b,-a,-hJ]
      refine ai.nil a (b _ _ _ ?_);clear b K
      repeat refine aB (a _) ?_
      refine cH (a _) (by simp only[*,go_sem,-a,-hJ]) ?_
      refine cJ (a _) ?_
      exact eC ⟨rfl,(by simp only[*,go_sem,-a,-hJ]),(by simp only[*,go_sem,-a,-hJ]),(by simp only[*,go_sem,-a,-hJ]),(by simp only[*,go_sem,-a,-hJ]),(by simp only[*,go_sem,-a,-hJ]),(by simp only[*,go_sem,-a,-hJ]),fun y g=>by cases g;simp only[*,go_sem,-a,-hJ],(by simp only[*,go_sem,-a,-hJ]),(by simp only[*,go_sem,-a,-hJ]),rfl⟩
     .obtain ⟨rfl,rfl⟩:=X rfl
      have ad:∃P al,Wd M P al 1 1:=by
       have e0:=hw.st.eq
       have e1:=j rfl
       rcases a7 with rfl|rfl
       .have e2:=E rfl rfl
        have ar:=u (by simp)
        exact ⟨C,0,wd ⟨by omega,by omega,by omega,by omega⟩ (by omega)⟩
       .have e2:=x (.inr rfl)
        cases sv
        .have ar:=u (by simp)
         exact ⟨C+1,0,wd ⟨by omega,by omega,by omega,by omega⟩ (by omega)⟩
        .have ar:=N rfl rfl
         exact ⟨C+1,1,wd ⟨by omega,by omega,by omega,by omega⟩ (by omega)⟩
      obtain ⟨P,al,ad⟩:=ad
      have b2:dX M 2=2:=ad.a2
      have n2:ru M 2=ae:=by rw[T rfl,ad.n2];rfl
      clear j r x E N u T U
      repeat refine aB (a _) ?_
      refine bh a fun K b=>?_
      refine ai.bB (hJ _ rfl) 1 (n:=0) _ rfl rfl ?_;simp only[*,go_sem,-b,-a,-hJ]
      refine ai.nil a (b _ _ _ ?_);clear b K
      repeat refine aB (a _) ?_
      refine c5 (a _) (by simp only[*,go_sem,-a,-hJ]) ?_
      repeat refine aB (a _) ?_
      refine bh a fun K b=>?_
      refine ai.bB (hJ _ rfl) 3 (n:=0) _ rfl rfl ?_;simp only[*,go_sem,-b,-a,-hJ]
      refine ai.nil a (b _ _ _ ?_);clear b K
      repeat refine aB (a _) ?_
      refine cH (a _) (by simp only[*,go_sem,-a,-hJ]) ?_
      refine cJ (a _) ?_
      repeat refine aB (a _) ?_
      refine bh a fun K b=>?_
      refine ai.bB (hJ _ rfl) 3 (n:=0) _ rfl rfl ?_;simp only[*,go_sem,-b,-a,-hJ]
      refine ai.nil a (b _ _ _ ?_);clear b K
      exact eC ⟨rfl,(by simp only[*,go_sem,-a,-hJ]),(by simp only[*,go_sem,-a,-hJ]),(by simp only[*,go_sem,-a,-hJ]),(by simp only[*,go_sem,-a,-hJ]),(by simp only[*,go_sem,-a,-hJ]),(by simp only[*,go_sem,-a,-hJ]),fun y g=>by cases g;simp only[*,go_sem,-a,-hJ],(by simp only[*,go_sem,-a,-hJ]),(by simp only[*,go_sem,-a,-hJ]),rfl⟩
    clear f k o z D I q d hd
    rintro A c ab ⟨rfl,f,k,o,z,D,I,q,d,hd,rfl⟩
    replace q:=q _ rfl
    repeat refine aB (a _) ?_
    refine bh a fun K b=>?_
    refine ai.bB (hJ _ rfl) 5 (n:=1) _ rfl rfl ?_;simp only[*,go_sem,-b,-a,-hJ]
    refine uF old ae uB aG ⟨_,_,_,rfl,(by first|(simp only[*,go_sem,-b,-a,-hJ];done)|rfl),rfl,by first|(simp only[*,go_sem,-b,-a,-hJ];done)|(simp only[*,go_sem,-b,-a,-hJ];rfl),rfl⟩ (by rfl) (by simp) (fun φ ms bz ao bS Z p he hi hm=>?_) (fun φ mu ms bz ao bS Z p he hi hm dd=>?_)
    .obtain ⟨rfl,rfl,rfl,rfl⟩:=hm.st.uniq hw.st
     by_cases Y:ao=0/\Z=0
     .obtain ⟨rfl,rfl⟩:=Y
      have O:ae=old+1 - (if aw then 2 else 0):=by
       have e1:=j rfl
       have e2:=E rfl rfl
       have ar:=u (by simp)
       cases aw
       .have O:=U rfl
        simp;omega
       .have O:=T rfl
        simp;omega
      have b5:dX old 5=0:=hw.a5
      refine ⟨.held,by rw[O];exact ⟨_,_,_,_,p,JE hm hi _ (by rw[he]) rfl rfl rfl (fun e=>(X e).2)⟩,?_⟩
      clear j r x E N u T U O he hi hm V X cS a7 bd
      refine ai.nil a (b _ _ _ ?_);clear b K
      repeat refine aB (a _) ?_
      refine c5 (a _) (by simp only[*,go_sem,-a,-hJ]) ?_
      repeat refine aB (a _) ?_
      refine bh a fun K b=>?_
      refine ai.bB (hJ _ rfl) 3 (n:=0) _ rfl rfl ?_;simp only[*,go_sem,-b,-a,-hJ]
      refine ai.nil a (b _ _ _ ?_);clear b K
      repeat refine aB (a _) ?_
      refine c5 (a _) (by simp only[*,go_sem,-a,-hJ]) ?_
      refine oZ ?_
      change uK Mu st c _ _ _
      exact ⟨rfl,(by simp only[*,go_sem,-a,-hJ]),(by simp only[*,go_sem,-a,-hJ]),(by simp only[*,go_sem,-a,-hJ]),rfl⟩
     .have cl:ao=1\/Z=1:=by omega
      have O:ae=old+8+(if sv then 4 else 0) - (if aw then 2 else 0):=by
       have e2:=x cl
       rcases cS with rfl|rfl
       .have e1:=j rfl
        obtain rfl:Z=1:=by omega
        cases sv
        .have ar:=u (by simp)
         cases aw
         .have O:=U rfl
          simp;omega
         .have O:=T rfl
          simp;omega
        .obtain rfl:aw=true:=V rfl
         have ar:=N rfl rfl
         have O:=T rfl
         simp;omega
       .have eb:aw=false:=by
         cases aw
         .rfl
         .exact absurd (X rfl).1 (by omega)
        subst eb
        have ec:sv=false:=by
         cases sv
         .rfl
         .exact absurd (V rfl) (by simp)
        subst ec
        have e1:=r rfl
        have ar:=u (by simp)
        have O:=U rfl
        simp;omega
      have df:sv=true->aw=true/\Z=1:=fun e=>⟨V e,by have:=X (V e);omega⟩
      have dk:bP n φ ms<=G:=(hm.seen i hi (some old) G (by rw[he];rfl)).1
      have b5:=hw.a5
      have cd:(((4*ao+Z:Nat):Int)==0)=false:=by simp;omega
      refine ⟨.iN (bP n φ ms),by rw[O];exact ⟨_,_,_,_,p,JG hm hi _ (by rw[he]) rfl cl df⟩,?_⟩
      clear j r x E N u T U O he hi hm V X cS a7 bd Y cl df
      revert dk
      generalize bP n φ ms=B
      intro dk
      refine ai.nil a (b _ _ _ ?_);clear b K
      repeat refine aB (a _) ?_
      refine c5 (a _) (by simp only[*,go_sem,-a,-hJ]) ?_
      repeat refine aB (a _) ?_
      refine bh a fun K b=>?_
      refine ai.bB (hJ _ rfl) 3 (n:=0) _ rfl rfl ?_;simp only[*,go_sem,-b,-a,-hJ]
      refine ai.nil a (b _ _ _ ?_);clear b K
      repeat refine aB (a _) ?_
      refine cH (a _) (by simp only[*,go_sem,-a,-hJ]) ?_
      refine cJ (a _) ?_
      repeat refine aB (a _) ?_
      refine bh a fun K b=>?_
      refine ai.bB (hJ _ rfl) 3 (n:=0) _ rfl rfl ?_;simp only[*,go_sem,-b,-a,-hJ]
      refine ai.nil a (b _ _ _ ?_);clear b K
      repeat refine aB (a _) ?_
      refine bh a fun K b=>?_
      refine ai.bB (hJ _ rfl) 2 (n:=0) _ rfl rfl ?_;simp only[*,go_sem,-b,-a,-hJ]
      refine ai.nil a (b _ _ _ ?_);clear b K
      first|refine kY a (DY Mu st c sv (.iN B)) ?_ ?_|refine uI a (DY Mu st c sv (.iN B)) ?_ ?_
      .cases fp:(wt==0)
       .repeat refine aB (a _) ?_
        refine cH (a _) (by simp only[*,go_sem,-a,-hJ]) ?_
        refine cJ (a _) ?_
        exact eC ⟨wt,rfl,(by simp only[*,go_sem,-a,-hJ]),(by simp only[*,go_sem,-a,-hJ]),(by simp only[*,go_sem,-a,-hJ]),(by simp only[*,go_sem,-a,-hJ]),(by simp only[*,go_sem,-a,-hJ]),rfl⟩
       .repeat refine aB (a _) ?_
        refine c5 (a _) (by simp only[*,go_sem,-a,-hJ]) ?_
        repeat refine aB (a _) ?_
        refine bh a fun K b=>?_
        refine DX DJ DQ ⟨_,_,_,rfl,(by first|(simp only[*,go_sem,-b,-a,-hJ];done)|rfl),rfl,by first|(simp only[*,go_sem,-b,-a,-hJ];done)|(simp only[*,go_sem,-b,-a,-hJ];rfl),rfl⟩ (by simp) fun t=>?_
        refine ai.bB (hJ _ rfl) 1 (n:=0) _ rfl rfl ?_;simp only[*,go_sem,-b,-a,-hJ]
        refine ai.nil a (b _ _ _ ?_);clear b K
        exact eC ⟨t,rfl,(by simp only[*,go_sem,-a,-hJ]),(by simp only[*,go_sem,-a,-hJ]),(by simp only[*,go_sem,-a,-hJ]),(by simp only[*,go_sem,-a,-hJ]),(by simp only[*,go_sem,-a,-hJ]),rfl⟩
      clear f k o z D I q d hd b5 cd
      rintro A c ab ⟨dp,rfl,f,k,o,d,hd,rfl⟩
      repeat refine aB (a _) ?_
      refine bh a fun K b=>?_
      refine ai.bB (hJ _ rfl) 4 (n:=1) _ rfl rfl ?_;simp only[*,go_sem,-b,-a,-hJ]
      refine KB (slot A 8) (.int .i64 2) Kk aG ⟨_,_,_,rfl,(by first|(simp only[*,go_sem,-b,-a,-hJ];done)|rfl),rfl,by first|(simp only[*,go_sem,-b,-a,-hJ];done)|(simp only[*,go_sem,-b,-a,-hJ];rfl),rfl⟩ (by rfl) rfl ?_
      refine ai.nil a (b _ _ _ ?_);clear b K
      first|refine kY a (DZ Mu st c (.j4 B)) ?_ ?_|refine uI a (DZ Mu st c (.j4 B)) ?_ ?_
      .cases sv
       .repeat refine aB (a _) ?_
        refine bh a fun K b=>?_
        refine ai.bB (hJ _ rfl) 2 (n:=6) _ rfl rfl ?_;simp only[*,go_sem,-b,-a,-hJ]
        refine DX DJ DQ ⟨_,_,_,rfl,(by first|(simp only[*,go_sem,-b,-a,-hJ];done)|rfl),rfl,by first|(simp only[*,go_sem,-b,-a,-hJ];done)|(simp only[*,go_sem,-b,-a,-hJ];rfl),rfl⟩ (by simp) fun t=>?_
        refine ai.bB (hJ _ rfl) 5 (n:=0) _ rfl rfl ?_;simp only[*,go_sem,-b,-a,-hJ]
        refine ai.nil a (b _ _ _ ?_);clear b K
        exact eC ⟨dp,_,rfl,(by simp only[*,go_sem,-a,-hJ]),(by simp only[*,go_sem,-a,-hJ]),(by simp only[*,go_sem,-a,-hJ];rfl),(by simp only[*,go_sem,-a,-hJ]),(by simp only[*,go_sem,-a,-hJ]),rfl⟩
       .repeat refine aB (a _) ?_
        refine bh a fun K b=>?_
        refine ai.bB (hJ _ rfl) 8 (n:=0) _ rfl rfl ?_;simp only[*,go_sem,-b,-a,-hJ]
        refine ai.nil a (b _ _ _ ?_);clear b K
        exact eC ⟨dp,true,rfl,(by simp only[*,go_sem,-a,-hJ]),(by simp only[*,go_sem,-a,-hJ]),(by simp only[*,go_sem,-a,-hJ]),(by simp only[*,go_sem,-a,-hJ]),(by simp only[*,go_sem,-a,-hJ]),rfl⟩
      clear f k o d hd
      rintro A c ab ⟨ed,dq,rfl,f,k,o,d,hd,rfl⟩
      repeat refine aB (a _) ?_
      refine bh a fun K b=>?_
      refine ai.bB (hJ _ rfl) 3 (n:=2) _ rfl rfl ?_;simp only[*,go_sem,-b,-a,-hJ]
      refine o7 uC o5 ⟨_,rfl,(by first|(simp only[*,go_sem,-b,-a,-hJ];done)|rfl),rfl,rfl⟩ (by rfl) (by simp only[*,go_sem,-b,-a,-hJ]) (fun φ mu ms H ba cu cy bm he hi hm=>?_)
      have ds:H<=3*n:=hm.bound
      have a0:=wd hm.st (by omega)
      rcases (by have:=hm.st.s;omega:ba=0\/ba=1) with rfl|rfl
      .obtain ⟨J,rfl,c0⟩:=JI hm hi {mp:=.want true mu (bP n φ ms),gp:=.cnt,stored:=st,deaf:=1} (by rw[he]) rfl rfl
       have fr:bP n φ ms<B:=c0
       refine ⟨.want true mu (bP n φ ms),⟨_,_,_,_,bm,J⟩,?_⟩
       have b4:dX mu 4=0:=a0.a4
       clear J c0
       refine ai.bB (hJ _ rfl) 1 (n:=0) _ rfl rfl ?_;simp only[*,go_sem,-b,-a,-hJ]
       refine ai.nil a (b _ _ _ ?_);clear b K
       repeat refine aB (a _) ?_
       refine bh a fun K b=>?_
       refine ai.bB (hJ _ rfl) 3 (n:=0) _ rfl rfl ?_;simp only[*,go_sem,-b,-a,-hJ]
       refine ai.nil a (b _ _ _ ?_);clear b K
       repeat refine aB (a _) ?_
       refine cH (a _) (by simp only[*,go_sem,-a,-hJ]) ?_
       refine cJ (a _) ?_
       repeat refine aB (a _) ?_
       refine bh a fun K b=>?_
       refine ai.bB (hJ _ rfl) 1 (n:=0) _ rfl rfl ?_;simp only[*,go_sem,-b,-a,-hJ]
       refine ai.nil a (b _ _ _ ?_);clear b K
       repeat refine aB (a _) ?_
       refine bh a fun K b=>?_
       refine ai.bB (hJ _ rfl) 1 (n:=0) _ rfl rfl ?_;simp only[*,go_sem,-b,-a,-hJ]
       refine ai.nil a (b _ _ _ ?_);clear b K
       change ∃p,p<m/\uJ Mu n st c p _ _ _
       exact ⟨8*bP n φ ms+5,by omega,ed,0,mu,dq,true,H,0,1,cy,bP n φ ms,rfl,(by simp only[*,go_sem,-a,-hJ]),(by simp only[*,go_sem,-a,-hJ]),(by simp only[*,go_sem,-a,-hJ]),(by simp only[*,go_sem,-a,-hJ]),(by simp only[*,go_sem,-a,-hJ]),(by simp only[*,go_sem,-a,-hJ]),(by simp only[*,go_sem,-a,-hJ]),(by simp only[*,go_sem,-a,-hJ]),a0,ds,by omega,by omega,fun _=>rfl,fun _=>⟨rfl,rfl⟩,by simp,rfl⟩
      .obtain ⟨J,rfl,rfl,eh⟩:=JJ hm hi {mp:=.kV (decide (2<=H)),gp:=.cnt,stored:=st,deaf:=1} (by rw[he]) rfl rfl
       refine ⟨.kV (decide (2<=H)),⟨_,_,_,_,bm,J⟩,?_⟩
       have b4:dX mu 4=4:=a0.a4
       have b3:dX mu 3=0:=a0.a3
       have br:((H:Int)==0)=false:=by simp;omega
       have da:=a0.sh
       obtain ⟨y,g⟩:∃y,decide (2<=H)=y:=⟨_,rfl⟩
       have a6:((H:Int)==1)=false->y=true:=fun e=>by rw[<-g];simp at e ⊢;omega
       rw[g]
       clear J he hi hm a0 ds eh g
       refine ai.bB (hJ _ rfl) 1 (n:=0) _ rfl rfl ?_;simp only[*,go_sem,-b,-a,-hJ]
       refine ai.nil a (b _ _ _ ?_);clear b K
       repeat refine aB (a _) ?_
       refine bh a fun K b=>?_
       refine ai.bB (hJ _ rfl) 3 (n:=0) _ rfl rfl ?_;simp only[*,go_sem,-b,-a,-hJ]
       refine ai.nil a (b _ _ _ ?_);clear b K
       repeat refine aB (a _) ?_
       refine c5 (a _) (by simp only[*,go_sem,-a,-hJ]) ?_
       repeat refine aB (a _) ?_
       refine bh a fun K b=>?_
       refine ai.bB (hJ _ rfl) 5 (n:=3) _ rfl rfl ?_;simp only[*,go_sem,-b,-a,-hJ]
       refine ai.nD mu (H:Int) (a _) ⟨_,rfl,(by first|(simp only[*,go_sem,-b,-a,-hJ];done)|rfl),rfl,rfl⟩ (by simp only[*,go_sem,-b,-a,-hJ]) (by simp only[*,go_sem,-b,-a,-hJ]) da ?_
       refine ai.bB (hJ _ rfl) 2 (n:=0) _ rfl rfl ?_;simp only[*,go_sem,-b,-a,-hJ]
       refine ai.nil a (b _ _ _ ?_);clear b K
       repeat refine aB (a _) ?_
       refine cH (a _) (by simp only[*,go_sem,-a,-hJ]) ?_
       refine cJ (a _) ?_
       repeat refine aB (a _) ?_
       refine bh a fun K b=>?_
       refine ai.bB (hJ _ rfl) 1 (n:=0) _ rfl rfl ?_;simp only[*,go_sem,-b,-a,-hJ]
       refine ai.nil a (b _ _ _ ?_);clear b K
       repeat refine aB (a _) ?_
       refine uI a (KL Mu st c y) ?_ ?_
       .cases dq
        .repeat refine aB (a _) ?_
         refine bh a fun K b=>?_
         refine ai.bB (hJ _ rfl) 7 (n:=0) _ rfl rfl ?_;simp only[*,go_sem,-b,-a,-hJ]
         refine ai.nil a (b _ _ _ ?_);clear b K
         exact eC ⟨true,rfl,(by simp only[*,go_sem,-a,-hJ]),(by simp only[*,go_sem,-a,-hJ]),(by simp only[*,go_sem,-a,-hJ]),(by simp only[*,go_sem,-a,-hJ]),(by simp only[*,go_sem,-a,-hJ]),by simp,rfl⟩
        .repeat refine aB (a _) ?_
         refine bh a fun K b=>?_
         refine ai.bB (hJ _ rfl) 4 (n:=3) _ rfl rfl ?_;simp only[*,go_sem,-b,-a,-hJ]
         refine ai.nD mu (H:Int) (a _) ⟨_,rfl,(by first|(simp only[*,go_sem,-b,-a,-hJ];done)|rfl),rfl,rfl⟩ (by simp only[*,go_sem,-b,-a,-hJ]) (by simp only[*,go_sem,-b,-a,-hJ]) da ?_
         refine ai.bB (hJ _ rfl) 2 (n:=0) _ rfl rfl ?_;simp only[*,go_sem,-b,-a,-hJ]
         refine ai.nil a (b _ _ _ ?_);clear b K
         exact eC ⟨(H:Int)==1,rfl,(by simp only[*,go_sem,-a,-hJ]),(by simp only[*,go_sem,-a,-hJ]),(by simp only[*,go_sem,-a,-hJ]),(by simp only[*,go_sem,-a,-hJ]),(by simp only[*,go_sem,-a,-hJ]),a6,rfl⟩
       clear f k o d hd b4 b3 br da a6
       rintro A c ab ⟨e,rfl,f,fs,ft,d,hd,a6,rfl⟩
       cases e
       .obtain rfl:=a6 rfl
        clear a6
        repeat refine aB (a _) ?_
        refine cH (a _) (by simp only[*,go_sem,-a,-hJ]) ?_
        refine cJ (a _) ?_
        repeat refine aB (a _) ?_
        refine bh a fun K b=>?_
        refine ai.bB (hJ _ rfl) 4 (n:=1) _ rfl rfl ?_;simp only[*,go_sem,-b,-a,-hJ]
        refine za (-7) yW aG ⟨_,_,_,rfl,(by first|(simp only[*,go_sem,-b,-a,-hJ];done)|rfl),rfl,by first|(simp only[*,go_sem,-b,-a,-hJ];done)|(simp only[*,go_sem,-b,-a,-hJ];rfl),rfl⟩ (by rfl) (by simp) (fun φ mu ms P al bl b0 b1 he hi hm=>⟨.held,_,?_,⟨_,_,_,_,_,Df hm hi {mp:=.held,gp:=.cnt,stored:=st,deaf:=1} false (by rw[he]) rfl (fun _=>rfl)⟩,?_⟩)
        .have e0:=hm.st.eq
         have a9:P<=3*n:=hm.bound
         have et:=hm.st.s
         have eu:=hm.st.w
         have ev:=hm.st.l
         rw[iP (by omega) (by omega)]
         simp;omega
        refine ai.nil a (b _ _ _ ?_);clear b K
        refine oZ ?_
        change uK Mu st c _ _ _
        exact ⟨rfl,(by simp only[*,go_sem,-a,-hJ]),(by simp only[*,go_sem,-a,-hJ]),(by simp only[*,go_sem,-a,-hJ]),rfl⟩
       .clear a6
        repeat refine aB (a _) ?_
        refine c5 (a _) (by simp only[*,go_sem,-a,-hJ]) ?_
        repeat refine aB (a _) ?_
        refine bh a fun K b=>?_
        refine ai.bB (hJ _ rfl) 3 (n:=0) _ rfl rfl ?_;simp only[*,go_sem,-b,-a,-hJ]
        refine ai.nil a (b _ _ _ ?_);clear b K
        repeat refine aB (a _) ?_
        refine bh a fun K b=>?_
        refine ai.bB (hJ _ rfl) 4 (n:=1) _ rfl rfl ?_;simp only[*,go_sem,-b,-a,-hJ]
        refine za (-11) yW aG ⟨_,_,_,rfl,(by first|(simp only[*,go_sem,-b,-a,-hJ];done)|rfl),rfl,by first|(simp only[*,go_sem,-b,-a,-hJ];done)|(simp only[*,go_sem,-b,-a,-hJ];rfl),rfl⟩ (by rfl) (by simp) (fun φ mu ms P al bl b0 b1 he hi hm=>⟨.held,_,?_,⟨_,_,_,_,_,Df hm hi {mp:=.held,gp:=.cnt,stored:=st,deaf:=1} true (by rw[he]) rfl (by simp)⟩,?_⟩)
        .have e0:=hm.st.eq
         have a9:P<=3*n:=hm.bound
         have et:=hm.st.s
         have eu:=hm.st.w
         have ev:=hm.st.l
         rw[iP (by omega) (by omega)]
         simp;omega
        refine ai.nil a (b _ _ _ ?_);clear b K
        refine oZ ?_
        change uK Mu st c _ _ _
        exact ⟨rfl,(by simp only[*,go_sem,-a,-hJ]),(by simp only[*,go_sem,-a,-hJ]),(by simp only[*,go_sem,-a,-hJ]),rfl⟩
    .obtain ⟨J,a8,bj⟩:=um hm hi {mp:=.want aw mu (bP n φ ms),gp:=.cnt,stored:=st,deaf:=1} (by rw[he]) rfl
     have c0:bP n φ ms<G:=bj dd
     refine ⟨.want aw mu (bP n φ ms),⟨_,_,_,_,p,J⟩,?_⟩
     clear j r x E N u T U J a8 bj he hi hm X cS a7 bd
     refine ai.nil a (b _ _ _ ?_);clear b K
     repeat refine aB (a _) ?_
     refine cH (a _) (by simp only[*,go_sem,-a,-hJ]) ?_
     repeat refine aB (a _) ?_
     refine bh a fun K b=>?_
     refine ai.bB (hJ _ rfl) 3 (n:=2) _ rfl rfl ?_;simp only[*,go_sem,-b,-a,-hJ]
     refine o7 uC o5 ⟨_,rfl,(by first|(simp only[*,go_sem,-b,-a,-hJ];done)|rfl),rfl,rfl⟩ (by rfl) (by simp only[*,go_sem,-b,-a,-hJ]) (fun bb db bc H ba cu cy bm dt du bo=>?_)
     obtain ⟨ca,dv,_⟩:=um bo du {mp:=.want aw db (bP n bb bc),gp:=.cnt,stored:=st,deaf:=1} (by rw[dt]) rfl
     have fu:bP n bb bc<=bP n φ ms:=dv
     have a9:H<=3*n:=bo.bound
     have ad:=wd bo.st (by omega)
     have cb:aw=true->ba=0/\cu=1:=fun e=>by subst e;exact De bo du (by rw[dt])
     refine ⟨.want aw db (bP n bb bc),⟨_,_,_,_,bm,ca⟩,?_⟩
     clear ca dv
     refine ai.bB (hJ _ rfl) 1 (n:=0) _ rfl rfl ?_;simp only[*,go_sem,-b,-a,-hJ]
     refine ai.nil a (b _ _ _ ?_);clear b K
     change ∃p,p<m/\uJ Mu n st c p _ _ _
     exact ⟨8*bP n bb bc+(5 - it).toNat,by omega,wt,it,db,sv,aw,H,ba,cu,cy,bP n bb bc,rfl,(by simp only[*,go_sem,-a,-hJ]),(by simp only[*,go_sem,-a,-hJ]),(by simp only[*,go_sem,-a,-hJ]),(by simp only[*,go_sem,-a,-hJ]),(by simp only[*,go_sem,-a,-hJ]),(by simp only[*,go_sem,-a,-hJ]),(by simp only[*,go_sem,-a,-hJ]),(by simp only[*,go_sem,-a,-hJ]),ad,a9,by omega,by omega,V,cb,Nat.le_refl _,rfl⟩
 .rintro A F' aK ⟨rfl,f,d,hd,rfl⟩
  repeat refine aB (a _) ?_
  refine c5 (a _) (by simp only[*,go_sem,-a,-hJ]) ?_
  repeat refine aB (a _) ?_
  refine bh a fun K b=>?_
  refine uE lY ⟨_,_,_,rfl,(by first|(simp only[*,go_sem,-b,-a,-hJ];done)|rfl),rfl,by first|(simp only[*,go_sem,-b,-a,-hJ];done)|(simp only[*,go_sem,-b,-a,-hJ];rfl),rfl⟩ (by simp) (by simp) rfl ?_
  refine ai.nil a (b _ _ _ ?_);clear b K
  repeat refine aB (a _) ?_
  refine bh a fun K b=>?_
  refine ai.bB (hJ _ rfl) 1 (n:=2) _ rfl rfl ?_;simp only[*,go_sem,-b,-a,-hJ]
  refine uG ⟨Mu,0,none⟩ yY lZ y2 ⟨_,rfl,(by first|(simp only[*,go_sem,-b,-a,-hJ];done)|rfl),rfl,rfl⟩ (by simp) (by simp only[*,go_sem,-b,-a,-hJ]) zb ?_
  refine DV uA ⟨_,_,_,rfl,(by first|(simp only[*,go_sem,-b,-a,-hJ];done)|rfl),rfl,by first|(simp only[*,go_sem,-b,-a,-hJ];done)|(simp only[*,go_sem,-b,-a,-hJ];rfl),rfl⟩ (by rfl) ?_
  refine ai.nil a (b _ _ _ ?_);clear b K
  exact lW rfl (by simp only[*,go_sem,-a,-hJ]) ⟨rfl,rfl,rfl⟩
end
end Go.Proofs.YtghbphimkgamkaaGreatDoor
end
section
namespace Go.Proofs.YtghbphimkgamkaaGreatDoor
open Go Go.Sep Go.Proofs Go.Conc
open Go.ConcN (upd upd_same)
open Go.ConcM (muA msA)
open Go.ConcR (stA smA)
set_option maxRecDepth 100000
set_option maxHeartbeats 4000000
attribute [local go_sem] Int.reduceBEq Int.reduceBNe muA msA stA smA
section
variable {Mu Wg Is n base T0 i : Nat} {bs : Nat → Bool} {st : Bool} {F : aa}
theorem KN (aG:Mu≠Wg/\Mu≠Is/\Wg≠Is)(b:n<67108864):
  cI Tryz.prog (WJ (CY Mu Wg Is n bs base T0) i) 146 #[.pointer (some (muA Mu))] F ⟨.idle,.cnt,st,0⟩ (fun v F' aK=>v= .tuple #[]/\F'=F/\aK=⟨.held,.cnt,st,0⟩):=by
 have a:=WJ.ey (CY Mu Wg Is n bs base T0) i
 have hJ:∀ph:Ph,ph.gp= .cnt->Go.Sep.Closed Tryz.prog false (WJ (CY Mu Wg Is n bs base T0) i ph):=fun ph h=>Wk.closed (CY Mu Wg Is n bs base T0) i ph h
 refine cI.go (main:=false) a Tryz.func146 rfl Tryz.ntmps146 (by simp) fun A d hd hs=>?_
 have e:=hs 0
 clear hs
 repeat refine aB (a _) ?_
 refine c6 a ?_
 refine ai.bB (hJ _ rfl) 3 (n:=1) _ rfl rfl ?_;simp only[*,go_sem]
 refine ai.gi (a _) rfl rfl rfl FX (by simp only[*,go_sem,muA]) (KE aG (KM aG b)) fun v F' aK c=>?_
 obtain ⟨rfl,rfl,rfl⟩:=c
 refine ai.nil a ?_
 exact lW rfl (by simp only[*,go_sem]) ⟨rfl,rfl,rfl⟩
theorem KO (aG:Mu≠Wg/\Mu≠Is/\Wg≠Is)(b:n<67108864):
  cI Tryz.prog (WJ (CY Mu Wg Is n bs base T0) i) 147 #[.pointer (some (muA Mu))] F ⟨.held,.cnt,st,0⟩ (fun v F' aK=>v= .tuple #[]/\F'=F/\aK=⟨.fin,.cnt,st,0⟩):=by
 have a:=WJ.ey (CY Mu Wg Is n bs base T0) i
 have hJ:∀ph:Ph,ph.gp= .cnt->Go.Sep.Closed Tryz.prog false (WJ (CY Mu Wg Is n bs base T0) i ph):=fun ph h=>Wk.closed (CY Mu Wg Is n bs base T0) i ph h
 refine cI.go (main:=false) a Tryz.func147 rfl Tryz.ntmps147 (by simp) fun A d hd hs=>?_
 have e:=hs 0
 clear hs
 repeat refine aB (a _) ?_
 refine c6 a ?_
 refine ai.bB (hJ _ rfl) 3 (n:=1) _ rfl rfl ?_;simp only[*,go_sem]
 refine ai.gi (a _) rfl rfl rfl FY (by simp only[*,go_sem,muA]) (KH aG b) fun v F' aK c=>?_
 obtain ⟨rfl,rfl,rfl⟩:=c
 refine ai.nil a ?_
 exact lW rfl (by simp only[*,go_sem]) ⟨rfl,rfl,rfl⟩
end
end Go.Proofs.YtghbphimkgamkaaGreatDoor
end
section
namespace Go.Sep
open Go Go.Conc
def uL (op:BinOp)(u v:Value):Option Value:=match op with
 | .shl=>match u,v with
  | .int k a,.int _ b=>if b<0 then none else some (.int k (k.wrap (a*2 ^ min b.toNat k.bits)))
  |_,_=>none
 | .shr=>match u,v with
  | .int k a,.int _ b=>if b<0 then none else some (.int k (a.fdiv (2 ^ min b.toNat k.bits)))
  |_,_=>none
 |_=>nM op u v
def o8 (P:Program)(op:Op)(a:Act):Option Value:=match op with
 | .move x| .assign x=>some (ev a x)
 | .nilCheck x=>match ev a x with
  | .pointer (some ad)=>some (.pointer (some ad))
  |_=>none
 | .pick c x y=>match ev a c with
  | .bool b=>some (if b then ev a x else ev a y)
  |_=>none
 | .binOp op t x y _=>uL op (ev a x) (ev a y)
 | .unOp op _ x=>mm op (ev a x)
 | .convert src dst x=>mq P src dst (ev a x)
 | .fieldAddr s x n=>match ev a x with
  | .pointer (some ad)=>match cR P s n with
   |some k=>some (.pointer (some (ad.add k)))
   |none=>none
  |_=>none
 |_=>none
theorem KP {P:Program}{op:BinOp}{t:TypeId}{x y:Operand}{u v r:Value}(h:uL op u v=some r)(w:World):
  (do eqGuard op t x y u v;pure (.value (<-binOp op t u v)):Sem Next).run P w= .ok (.value r) w/\(do eqGuard op t x y u v;pure (.value (<-binOp op t u v)):Sem Next).events P w #[]=#[]:=by
 unfold uL at h
 split at h
 .split at h
  case h_2=>cases h
  split at h
  .cases h
  .rename_i hb;cases h;simp[eqGuard,binOp,Op.shift,hb]
 .split at h
  case h_2=>cases h
  split at h
  .cases h
  .rename_i hb;cases h;simp[eqGuard,binOp,Op.shift,hb]
 .rename_i n1 n2
  unfold nM at h
  split at h
  case h_2=>cases h
  rename_i k a d b
  split at h
  case isFalse=>cases h
  rename_i c
  subst c
  cases op<;>simp only[binOp,ne_eq,not_true_eq_false,if_false,Op.intArith,Op.intDiv,Op.intCmp,Op.intBits,Op.shift,eqGuard] at h ⊢<;>first
   |(cases h;done)
   |(exact absurd rfl n1)
   |(exact absurd rfl n2)
   |(cases h;simp;done)
   |(split at h
     .cases h
     .rename_i hb;cases h;simp[hb])
theorem D1 {P:Program}{o:Oper}{a:Act}{v:Value}(h:o8 P o.op a=some v)(w:World):(execOp a.eval o).run P w= .ok (.value v) w/\(execOp a.eval o).events P w #[]=#[]:=by
 obtain ⟨dst,op,type,pos,after,guard⟩:=o;unfold execOp;simp only[eD] at h ⊢;unfold o8 at h;cases op<;>simp only[reduceCtorEq] at h ⊢
 case move x=>cases h;simp
 case assign x=>cases h;simp
 case nilCheck x=>
  split at h
  .rename_i ad e;cases h;simp[e]
  .cases h
 case pick c x y=>
  split at h
  .rename_i b hb;cases h;simp[hb,asBool]
  .cases h
 case binOp op t x y r=>have:=KP (P:=P) (t:=t) (x:=x) (y:=y) h w;simpa using this
 case unOp op t x=>
  revert h;cases ev a x<;>cases op<;>simp only[mm,reduceCtorEq,false_implies,Option.some.injEq]<;>intro h<;>subst h<;>simp[Op.unary,Op.intArith]
 case convert src dst x=>
  revert h;cases e:ev a x<;>simp only[mq,reduceCtorEq,false_implies];intro h;split at h
  .rename_i k1 A i j;cases h;simp[convert,run_underlying i,run_underlying j,Conv.intToInt]
  .cases h
 case fieldAddr s x n=>
  split at h
  case h_2=>cases h
  rename_i ad l;split at h
  case h_2=>cases h
  rename_i k d;cases h;unfold cR at d;split at d
  case h_2=>cases d
  rename_i B g;split at d
  case h_2=>cases d
  rename_i f p;split at d
  case h_2=>cases d
  rename_i m hm;cases d;obtain ⟨inf,q,u⟩:=Option.map_eq_some_iff.1 hm;have z:Instr.sureAddr (.pointer (some ad))=(Pure.pure ad:Sem Addr):=rfl;simp[Instr.fieldAt,run_underlying g,g,p,l,z,fieldPlace,Go.sizeOf,typeInfo,q,u,Result.andThen,Result.evThen]
def iT (P:Program)(ops:Array Oper)(K:Act->Prop):List Oper->Act->Prop
 |[],a=>K a
 |o::rest,a=>match cF ops o a with
  |some true=>match o8 P o.op a with
   |some v=>iT P ops K rest (bg a o.dst v)
   |none=>False
  |some false=>iT P ops K rest (bg a o.dst undef)
  |none=>False
theorem KQ {P:Program}{ops:Array Oper}{K:Act->Prop}{a:Act}:iT P ops K [] a=K a:=(Eq.refl _).trans (Eq.refl _)
theorem KR {P:Program}{ops:Array Oper}{K:Act->Prop}{o:Oper}{rest:List Oper}{a:Act}:iT P ops K (o::rest) a=match cF ops o a with
  |some true=>match o8 P o.op a with
   |some v=>iT P ops K rest (bg a o.dst v)
   |none=>False
  |some false=>iT P ops K rest (bg a o.dst undef)
  |none=>False:=(Eq.refl _).trans (Eq.refl _)
attribute [go_sem] KQ KR o8 uL
section
variable {P : Program} {main : Bool} {S : Type} {JF : S → Goroutine → aa → Prop} {fi : FuncId} {ops : Array Oper} {F : aa} {ph : S} {Q : Act → aa → S → Prop}
theorem ze (d:dY P main (JF ph)):∀(l:List Oper) (i n:Nat) (a:Act),(∀j o,l[j]?=some o->ops[i+j]?=some o)->iT P ops (fun b=>ai JF fi ops (i+l.length) n Q b F ph) l a->ai JF fi ops i (l.length+n) Q a F ph
 |[],i,n,a,_,h=>by rw[List.length_nil,Nat.zero_add];exact h
 |o::rest,i,n,a,k,h=>by
  have m:ops[i]?=some o:=k 0 o rfl
  have p:∀j x,rest[j]?=some x->ops[i+1+j]?=some x:=fun j x q=>by rw[Nat.add_assoc,Nat.add_comm 1 j];exact k (j+1) x q
  have e:(o::rest).length+n=(rest.length+n)+1:=by rw[List.length_cons];omega
  have e2:∀b,ai JF fi ops (i+(o::rest).length) n Q b F ph->ai JF fi ops (i+1+rest.length) n Q b F ph:=fun b x=>by
   rw[show i+1+rest.length=i+(o::rest).length by rw[List.length_cons];omega];exact x
  rw[e]
  have mono:∀(l:List Oper) (a:Act) {K f:Act->Prop},(∀a,K a->f a)->iT P ops K l a->iT P ops f l a:=by
   intro l
   induction l with
   |nil=>intro a K f g h;exact g a h
   |cons o l ih=>
    intro a K f g h
    unfold iT at h ⊢
    cases hg:cF ops o a with
    |none=>rw[hg] at h;exact h.elim
    |some t=>
     rw[hg] at h
     cases t with
     |false=>exact ih _ g h
     |true=>
      simp only at h ⊢
      cases c:o8 P o.op a with
      |none=>rw[c] at h;exact h.elim
      |some v=>rw[c] at h;exact ih _ g h
  unfold iT at h
  split at h
  .rename_i hg
   split at h
   .rename_i v c
    exact ai.plain d v m hg (fun w=>(D1 c w).1) (fun w=>(D1 c w).2) (ze d rest (i+1) n _ p (mono _ _ e2 h))
   .exact h.elim
  .rename_i hg
   exact ai.skip d m hg (ze d rest (i+1) n _ p (mono _ _ e2 h))
  .exact h.elim
theorem ai.pure (d:dY P main (JF ph))(m:Nat){i n:Nat}{a:Act}(l:List Oper)(c:(ops.toList.drop i).take m=l)(hm:l.length=m)(h:iT P ops (fun e=>ai JF fi ops (i+m) n Q e F ph) l a):ai JF fi ops i (m+n) Q a F ph:=by
 subst hm;refine ze d l i n a (fun j o b=>?_) h;rw[<-c] at b;have f:j<l.length:=by
  rcases Nat.lt_or_ge j l.length with x|x
  .exact x
  .rw[c,List.getElem?_eq_none x] at b;cases b
 rw[List.getElem?_take,if_pos f,List.getElem?_drop] at b;simpa using b
end
end Go.Sep
end
section
namespace Go.Sep
open Go Go.Conc
open Go.ConcN (sumTo upd upd_ne upd_same)
open Go.ConcM (MuAt muA msA muBlock OsLater)
open Go.ConcR (WgAt wgBlock stA smA)
section
variable {c : Cy} {i : Nat} {ph : Ph} {ops : Array Oper} {j n : Nat} {Q : Act → aa → Ph → Prop} {a : Act} {F : aa} {f fi : FuncId} {d : Option Tmp}
theorem Inv.group {k:Nat}{φ:Nat->Ph}{p0:P0}{s:Sh}(h:Inv c.n c.bs k φ p0 s)(hi:i<c.n)(he:φ i=ph)(a:ph.gp≠ .new)(b:ph.gp≠ .cnt){gp:Gp}(d:gp≠ .new){wg ws:Int}
  (hw:dD c.n (upd φ i {ph with gp:=gp}) p0 wg ws):Inv c.n c.bs k (upd φ i {ph with gp:=gp}) p0 {s with wg:=wg,ws:=ws}:=by
 obtain ⟨C,S,W,L,m,hm⟩:=h.m
 refine h.j6 hi he a d ⟨C,S,W,L,m,nv hm hi _ (.inl (by rw[he]))⟩ hw ?_ (fun _=>?_)
 .have:=h.i.all i hi
  rw[he] at this
  exact (y8 this).symm
 .have:=h.i.done i hi (by rw[he];exact b) (by rw[he];exact a)
  rw[he] at this
  exact this
theorem KS (m:Entry c.P f (Extern.Atomic.update (Op.intArith .add) .u64 true))(aG:c.Mu≠c.Wg/\c.Mu≠c.Is/\c.Wg≠c.Is)(H:c.n<67108864)(p:At ops j a f [.pointer (some (stA c.Wg)),.int .u64 18446744069414584320] d)
  (e:ph.gp= .rel) (q:0<ph.deaf)
  (h:∀v t:Nat,v<=c.n->t<=1->ai (WJ c i) fi ops (j+1) n Q (bg a d (.int .u64 ((v:Int)*4294967296+t))) F {ph with gp:=if v=0/\t=1 then .ld else .gone}):
  ai (WJ c i) fi ops j (n+1) Q a F ph:=by
 obtain ⟨o,cD,dj,l,hg,r,u,rfl⟩:=p
 obtain ⟨x,y,rfl,z,A⟩:=rA u
 obtain ⟨fn,f1,f2,f3,f4,f5⟩:=m.ex
 refine fD l (by rw[e];simp) fun w s k φ p0 _ hs hi he g=>.inr ?_
 obtain ⟨v,t,e1,ht,B,_⟩:=Di g.w hi ph (by rw[he];exact e)
 obtain ⟨C,D,E,I,_,hw⟩:=Di g.w hi {ph with gp:=if v=0/\t=1 then .ld else .gone} (by rw[he];exact e)
 obtain ⟨rfl,rfl⟩:v=C/\t=D:=by simp only[cY] at e1 E;omega
 have e2:IntKind.u64.wrap (s.wg+18446744069414584320)=(v:Int)*4294967296+t:=by
  rw[e1]
  unfold IntKind.wrap
  simp only[IntKind.bits,IntKind.signed,cY]
  simp
  omega
 have G:s.wg - cY=(v:Int)*4294967296+t:=by rw[e1];simp only[cY];omega
 refine ⟨.int .u64 ((v:Int)*4294967296+t),_,_,{s with wg:=(v:Int)*4294967296+t},{ph with gp:=if v=0/\t=1 then .ld else .gone},fun b J cs hb=>by rw[<-e2];exact stepG_add_atomic l (ck hg) hb.kind r f1 f2 f3 f4 .u64 f5 z A hs.wg.1 hs.wg.2,by rw[<-e2];exact hs.uD aG _,.set _ (.inr (.inl rfl)),?_,y6 rfl ?_ q (.inl rfl),.inr dI,h v t B ht⟩
 .refine g.group hi he (by rw[e];simp) (by rw[e];simp) (by split<;>simp) ?_
  rw[<-G]
  exact hw rfl
 .simp only[e];split<;>simp
theorem KT (m:Entry c.P f (Extern.Atomic.loadT (.int .u64)))(p:At ops j a f [.pointer (some (stA c.Wg))] d)(e:ph.gp= .ld)(q:0<ph.deaf)
  (h:ai (WJ c i) fi ops (j+1) n Q (bg a d (.int .u64 1)) F {ph with gp:=.st}):ai (WJ c i) fi ops j (n+1) Q a F ph:=by
 obtain ⟨o,cD,dj,g,hg,r,t,rfl⟩:=p
 obtain ⟨x,rfl,u⟩:=j9 t
 obtain ⟨fn,f1,f2,f3,f4,f5⟩:=m.ex
 refine fD g (by rw[e];simp) fun w s k φ p0 _ hs hi he l=>.inr ?_
 obtain ⟨e1,hw⟩:=JP l.w hi {ph with gp:=.st} (by rw[he];exact e) rfl
 exact ⟨.int .u64 1,_,_,s,{ph with gp:=.st},fun b v cs hb=>by rw[<-e1];exact stepG_load_atomic g (ck hg) hb.kind r f1 f2 f3 f4 .u64 f5 u hs.wg.1,hs,.refl _ _,l.group hi he (by rw[e];simp) (by rw[e];simp) (by simp) hw,y5 false rfl (by simp[e]) q (.inl rfl),.inr dI,h⟩
theorem KU (m:Entry c.P f Extern.Atomic.storeT)(aG:c.Mu≠c.Wg/\c.Mu≠c.Is/\c.Wg≠c.Is)(p:At ops j a f [.pointer (some (stA c.Wg)),.int .u64 0] d)(e:ph.gp= .st)(q:0<ph.deaf)
  (h:ai (WJ c i) fi ops (j+1) n Q (bg a d (.tuple #[])) F {ph with gp:=.sm}):ai (WJ c i) fi ops j (n+1) Q a F ph:=by
 obtain ⟨o,cD,dj,g,hg,r,t,rfl⟩:=p
 obtain ⟨x,y,rfl,u,v⟩:=rA t
 obtain ⟨fn,f1,f2,f3,f4,f5⟩:=m.ex
 refine fD g (by rw[e];simp) fun w s k φ p0 _ hs hi he l=>.inr ?_
 obtain ⟨e1,hw⟩:=JQ l.w hi {ph with gp:=.sm} (by rw[he];exact e) rfl
 exact ⟨.tuple #[],_,_,{s with wg:=0},{ph with gp:=.sm},fun b z cs hb=>stepG_store_atomic g (ck hg) hb.kind r f1 f2 f3 f4 f5 u v hs.wg.1 hs.wg.2,hs.uD aG _,.set _ (.inr (.inl rfl)),l.group hi he (by rw[e];simp) (by rw[e];simp) (by simp) hw,y5 true rfl (by simp[e]) q (.inl rfl),.inr dI,h⟩
theorem KV (r t:Value)(l:Entry c.P f Extern.Sync.semrelease)(aG:c.Mu≠c.Wg/\c.Mu≠c.Is/\c.Wg≠c.Is)(u:At ops j a f [.pointer (some (smA c.Wg)),r,t] d)(e:ph.gp= .sm)
  (h:ai (WJ c i) fi ops (j+1) n Q (bg a d (.tuple #[])) F {ph with gp:=.gone}):ai (WJ c i) fi ops j (n+1) Q a F ph:=by
 obtain ⟨o,cD,dj,m,hg,p,v,rfl⟩:=u
 obtain ⟨x,y,z,rfl,g,_,_⟩:=rC v
 obtain ⟨fn,f1,f2,f3,f4,f5⟩:=l.ex
 refine fD m (by rw[e];simp) fun w s k φ p0 _ hs hi he q=>.inr ?_
 obtain ⟨e1,hw⟩:=JR q.w hi {ph with gp:=.gone} (by rw[he];exact e) rfl
 have A:IntKind.u32.wrap (s.ws+1)=s.ws+1:=by rw[e1];decide
 refine ⟨.tuple #[],_,_,{s with ws:=s.ws+1},{ph with gp:=.gone},fun b B cs hb=>stepG_semrelease m (ck hg) hb.kind p f1 f2 f3 f4 f5 (by simp[eD,g]) hs.ws.1 hs.ws.2,by rw[A];exact hs.DT aG _,.set _ (.inr (.inl rfl)),
  q.group hi he (by rw[e];simp) (by rw[e];simp) (by simp) hw,y7 rfl (by simp[e]) (.inl rfl),.inl ⟨_,p,fun x g=>?_⟩,h⟩
 cases g
 exact ⟨f,rfl,l.DG⟩
end
end Go.Sep
end
section
namespace Go.Sep
open Go Go.Conc
open Go.ConcN (sumTo upd upd_ne upd_same)
theorem ai.defer {P:Program}{main:Bool}{S:Type}{JF:S->Goroutine->aa->Prop}{fi f:FuncId}{ops:Array Oper}{j n:Nat}{Q:Act->aa->S->Prop}{a:Act}{F:aa}{ph:S}(e:dY P main (JF ph)){o:Oper}{cD:Array Operand}{dj:Array TypeId}{vals:Array Value}
  (g:ops[j]?=some o) (hg:cF ops o a=some true) (k:o.op= .defer {callee:=.value (.func f),args:=cD,argTypes:=dj}) (hd:o.dst=none) (l:cD.map a.eval=vals)
  (h:∀c:Act,(∀i,slot c i=slot a i)->sz c=sz a->c.defers=dcall f vals::a.defers->ai JF fi ops (j+1) n Q c F ph):ai JF fi ops j (n+1) Q a F ph:=fun b d cs hb m=>by
 rw[List.range'_succ,eJ hb.round]
 refine e.move (fr':=b.at (Act.put ⟨a.tmps,dcall f (cD.map a.eval)::a.defers⟩ o.dst undef) (.inRegion ops (List.range' (j+1) n)::d)) (fun w=>stepG_defer g (ck hg) hb.kind k) ?_
 rw[<-eJ hb.round,hd,l]
 exact h ⟨a.tmps,dcall f vals::a.defers⟩ (fun _=>rfl) rfl rfl b d cs hb m
section
variable {c : Cy} {i : Nat} {ph : Ph} {F : aa} {f : FuncId}
theorem KW (g:Entry c.P f (fun _=>do mark .enable;pure Extern.Race.none_))(hg:ph.gp= .gone){d:Nat}(hd:ph.deaf=d+1){b:Frame}{a:Act}{todo:List Item}{cs:List Frame}{e:List Deferred}(j:a.defers=dcall f #[]::e)
  (h:WJ c i {ph with deaf:=d} (G {b.at ⟨a.tmps,e⟩ todo with mode:=.returning} cs) F):WJ c i ph (G {b.at a todo with mode:=.returning} cs) F:=by
 obtain ⟨F0,r,hle,hW⟩:=h
 obtain ⟨q,_,k⟩:=hW.left hg
 obtain ⟨fn,f1,f2,f3,f4,f5⟩:=g.ex
 refine Wk.gone (q:=q+1) hg (QuitsD.unwind_mark .enable rfl (by simp) j f1 f2 f3 f4 f5 ?_)
 rw[hd]
 exact k
def kZ (f:FuncId)(R:Value->aa->Ph->Prop):Ex->Act->aa->Ph->Prop
 | .exit _,_,_,_=>False
 |_,a,F,ph=>a.defers=[dcall f #[]]/\ph.gp= .gone/\∃b,ph.deaf=b+1/\R (.tuple #[]) F {ph with deaf:=b}
theorem cI.KX {f0:FuncId}(p:Entry c.P f (fun _=>do mark .enable;pure Extern.Race.none_)){fn:Func}{cd:Code}{n:Nat}{args:Array Value}{R:Value->aa->Ph->Prop}(l:c.P.funcs[f0]?=some fn)(hb:fn.body=some cd)(m:fn.results=#[])(o:fn.ntmps=n)(v:args.size<=n)
  (h:∀A:Act,sz A=n->A.defers=[]->(∀i,slot A i=args.getD i undef)->cO (WJ c i) f0 cd (kZ f R) A F ph):cI c.P (WJ c i) f0 args F ph R:=by
 intro d cs q
 let b:Frame:={(default:Frame) with fn:=f0,kind:=.normal}
 have r:b.roundOf=none:=rfl
 have s:Frame.enter c.P f0 args .normal=on b {tmps:=args++Array.replicate (fn.ntmps - args.size) undef,defers:=[]} [.code cd]:=by
  simp[Frame.enter,on,l,hb,b]
  rfl
 rw[s]
 have g:=WJ.ey c i
 have leave:∀(a:Act) (todo:List Item) F' (aK:Ph),(a.defers=[dcall f #[]]/\aK.gp= .gone/\∃j,aK.deaf=j+1/\R (.tuple #[]) F' {aK with deaf:=j})->WJ c i aK (G {on b a todo with mode:=.returning} (d::cs)) F':=by
  intro a todo F' aK ⟨hd,hg,j,t,u⟩
  rw[eJ r]
  refine KW p hg t hd ((g _).move (fr':=d.finish (.tuple #[])) (cs':=cs) (fun w=>?_) (q _ F' _ u))
  exact stepG_leave rfl rfl l (results_none m _ c.P w) (events_results_none m _ _)
 refine h _ (by simp[sz,o];omega) rfl (fun i=>?_) b [] (d::cs) ⟨by simp[b],rfl,rfl⟩ fun e a F' aK k=>?_
 .simp only[slot,o,Array.getD_eq_getD_getElem?]
  rcases Nat.lt_or_ge i args.size with hi|hi
  .rw[Array.getElem?_append_left hi]
  .rw[Array.getElem?_append_right hi,Array.getElem?_replicate,Array.getElem?_eq_none hi]
   split<;>rfl
 .cases e with
  |normal=>exact (g aK).move (fun _=>mc rfl) (leave a _ F' aK k)
  |exit i=>exact k.elim
  |ret=>exact fun x=>(g aK).move (fun _=>stepG_ret' rfl) (leave a _ F' aK k)
def zf (R:aa->Ph->Prop):Ex->Act->aa->Ph->Prop
 | .exit _,_,_,_=>False
 |_,a,F,ph=>a.defers=[]/\R F ph
theorem KY {f0:FuncId}{fn:Func}{cd:Code}{n:Nat}{args:Array Value}{R:aa->Ph->Prop}(k:c.P.funcs[f0]?=some fn)(p:(fn.name== "runtime.NumGoroutine")=false)(hb:fn.body=some cd)(l:fn.results=#[])(m:fn.ntmps=n)(t:args.size<=n)
  {b:Frame} {a:Act} {todo:List Item} {cs:List Frame} {f:List Deferred} (q:a.defers=dcall f0 args::f)
  (h:∀A:Act,sz A=n->A.defers=[]->(∀i,slot A i=args.getD i undef)->cO (WJ c i) f0 cd (zf R) A F ph)
  (r:∀F' aK,R F' aK->WJ c i aK (G {b.at ⟨a.tmps,f⟩ todo with mode:=.returning} cs) F'):WJ c i ph (G {b.at a todo with mode:=.returning} cs) F:=by
 have g:=WJ.ey c i
 refine (g ph).move (fun w=>stepG_unwind_enter q k p hb) ?_
 have leave:∀(d:Act) (o:List Item) F' (aK:Ph),(d.defers=[]/\R F' aK)->WJ c i aK (G {(baseD f0).at d o with mode:=.returning} ({b.at ⟨a.tmps,f⟩ todo with mode:=.returning}::cs)) F':=by
  intro d o F' aK ⟨hd,s⟩
  exact (g _).move (fun w=>stepG_leave_deferred rfl hd k (results_none l _ c.P w) (events_results_none l _ _) rfl) (r F' aK s)
 have:=h {tmps:=args++Array.replicate (fn.ntmps - args.size) undef,defers:=[]} (by simp[sz,m];omega) rfl (fun i=>?_) (baseD f0) [] ({b.at ⟨a.tmps,f⟩ todo with mode:=.returning}::cs) ⟨by simp[baseD],rfl,rfl⟩ fun e d F' aK j=>?_
 .rw[eJ rfl] at this;exact this
 .simp only[slot,m,Array.getD_eq_getD_getElem?]
  rcases Nat.lt_or_ge i args.size with hi|hi
  .rw[Array.getElem?_append_left hi]
  .rw[Array.getElem?_append_right hi,Array.getElem?_replicate,Array.getElem?_eq_none hi]
   split<;>rfl
 .cases e with
  |normal=>exact (g aK).move (fun _=>mc rfl) (leave d _ F' aK j)
  |exit i=>exact j.elim
  |ret=>exact fun u=>(g aK).move (fun _=>stepG_ret' rfl) (leave d _ F' aK j)
end
attribute [go_sem] kZ zf
end Go.Sep
end
section
namespace Go.Sep
open Go
def k3 (x y:Int):Int:=IntKind.u64.wrap ((BitVec.ofInt 64 x&&& BitVec.ofInt 64 y).toNat:Int)
@[go_sem] theorem SQ (x y:Int):IntKind.u64.wrap ((@HAnd.hAnd (BitVec 64) (BitVec 64) (BitVec 64) (@instHAndOfAndOp (BitVec IntKind.u64.bits) (@BitVec.instAndOp IntKind.u64.bits)) (BitVec.ofInt 64 x) (BitVec.ofInt 64 y)).toNat:Int)=k3 x y:=rfl
theorem zg (v t:Nat)(a:v<2147483648)(ht:t<=1):k3 ((v:Int)*4294967296+(t:Int)) 2147483648=0:=Go.ConcN.st_flag v t a ht
theorem zh (v t:Nat)(a:v<2147483648)(ht:t<=1):k3 ((v:Int)*4294967296+(t:Int)) 2147483647=(t:Int):=Go.ConcN.st_waiters v t a ht
theorem zi (v t:Nat)(ht:t<=1):((v:Int)*4294967296+(t:Int)).fdiv 4294967296=v:=by
 rw[Int.fdiv_eq_ediv_of_nonneg _ (by decide)];omega
end Go.Sep
namespace Go.Proofs.YtghbphimkgamkaaGreatDoor
open Go Go.Sep Go.Proofs Go.Conc
open Go.ConcN (upd upd_same)
open Go.ConcM (muA msA)
open Go.ConcR (stA smA)
set_option maxRecDepth 100000
set_option maxHeartbeats 4000000
set_option linter.all false
attribute [local go_sem] Int.reduceBEq Int.reduceBNe muA msA stA smA
section
variable {Mu Wg Is n base T0 i : Nat} {bs : Nat → Bool} {st : Bool} {F : aa}
theorem KZ (w:World)(s:Sh)(h:cC (CY Mu Wg Is n bs base T0) w s):∃v,w.cell? ⟨Wg,0,none⟩=some v:=⟨_,h.wg.1⟩
theorem K0 (aG:Mu≠Wg/\Mu≠Is/\Wg≠Is)(b:n<67108864){mp:Mp}:
  cI Tryz.prog (WJ (CY Mu Wg Is n bs base T0) i) 173 #[.pointer (some (stA Wg)),.int .u64 18446744069414584320] F ⟨mp,.rel,st,1⟩
   (fun r F' aK=>F'=F/\∃v t:Nat,v<=n/\t<=1/\r= .int .u64 ((v:Int)*4294967296+(t:Int))/\aK=⟨mp,if v=0/\t=1 then .ld else .gone,st,1⟩):=by
 have a:=WJ.ey (CY Mu Wg Is n bs base T0) i
 refine cI.go (main:=false) a Tryz.func173 rfl Tryz.ntmps173 (by simp) fun A d hd hs=>?_
 have e:=hs 0
 have k1:=hs 1
 clear hs
 repeat refine aB (a _) ?_
 refine c6 a ?_
 refine ai.pure (a _) 1 (n:=0) _ rfl rfl ?_;simp only[*,go_sem]
 refine ai.nil a ?_;try simp only[go_sem]
 repeat refine aB (a _) ?_
 refine c6 a ?_
 refine ai.pure (a _) 4 (n:=2) _ rfl rfl ?_;simp only[*,go_sem]
 refine KS DK aG b ⟨_,_,_,rfl,(by first|rfl|simp only[*,go_sem]),rfl,by first|(simp only[*,go_sem];done)|(simp only[*,go_sem];rfl),rfl⟩ (by rfl) (by simp) fun v t c ht=>?_
 refine ai.pure (a _) 1 (n:=0) _ rfl rfl ?_;simp only[*,go_sem]
 refine ai.nil a ?_;try simp only[go_sem]
 refine fC ?_;try simp only[go_sem]
 exact (lX rfl (by simp only[*,go_sem]) (by simp only[*,go_sem]) ⟨rfl,v,t,c,ht,rfl,rfl⟩).2
theorem K1 {mp:Mp}:
  cI Tryz.prog (WJ (CY Mu Wg Is n bs base T0) i) 175 #[.pointer (some (stA Wg))] F ⟨mp,.ld,st,1⟩
   (fun r F' aK=>F'=F/\r= .int .u64 1/\aK=⟨mp,.st,st,1⟩):=by
 have a:=WJ.ey (CY Mu Wg Is n bs base T0) i
 refine cI.go (main:=false) a Tryz.func175 rfl Tryz.ntmps175 (by simp) fun A b hd hs=>?_
 have c:=hs 0
 clear hs
 repeat refine aB (a _) ?_
 refine c6 a ?_
 refine ai.pure (a _) 1 (n:=0) _ rfl rfl ?_;simp only[*,go_sem]
 refine ai.nil a ?_;try simp only[go_sem]
 repeat refine aB (a _) ?_
 refine c6 a ?_
 refine ai.pure (a _) 3 (n:=2) _ rfl rfl ?_;simp only[*,go_sem]
 refine KT yX ⟨_,_,_,rfl,(by first|rfl|simp only[*,go_sem]),rfl,by first|(simp only[*,go_sem];done)|(simp only[*,go_sem];rfl),rfl⟩ (by rfl) (by simp) ?_
 refine ai.pure (a _) 1 (n:=0) _ rfl rfl ?_;simp only[*,go_sem]
 refine ai.nil a ?_;try simp only[go_sem]
 refine fC ?_;try simp only[go_sem]
 exact (lX rfl (by simp only[*,go_sem]) (by simp only[*,go_sem]) ⟨rfl,rfl,rfl⟩).2
theorem K2 (aG:Mu≠Wg/\Mu≠Is/\Wg≠Is){mp:Mp}:
  cI Tryz.prog (WJ (CY Mu Wg Is n bs base T0) i) 176 #[.pointer (some (stA Wg)),.int .u64 0] F ⟨mp,.st,st,1⟩
   (fun r F' aK=>F'=F/\r= .tuple #[]/\aK=⟨mp,.sm,st,1⟩):=by
 have a:=WJ.ey (CY Mu Wg Is n bs base T0) i
 refine cI.go (main:=false) a Tryz.func176 rfl Tryz.ntmps176 (by simp) fun A b hd hs=>?_
 have c:=hs 0
 have k1:=hs 1
 clear hs
 repeat refine aB (a _) ?_
 refine c6 a ?_
 refine ai.pure (a _) 4 (n:=1) _ rfl rfl ?_;simp only[*,go_sem]
 refine KU Ko aG ⟨_,_,_,rfl,(by first|rfl|simp only[*,go_sem]),rfl,by first|(simp only[*,go_sem];done)|(simp only[*,go_sem];rfl),rfl⟩ (by rfl) (by simp) ?_
 refine ai.nil a ?_;try simp only[go_sem]
 exact lW rfl (by simp only[*,go_sem]) ⟨rfl,rfl,rfl⟩
end
end Go.Proofs.YtghbphimkgamkaaGreatDoor
end
section
namespace Go.Sep
open Go Go.Conc
open Go.ConcN (sumTo upd upd_ne upd_same)
open Go.ConcM (MuAt muA msA muBlock OsLater)
open Go.ConcR (WgAt wgBlock stA smA)
structure X where
 Mu:Nat
 Wg:Nat
 Is:Nat
 n:Nat
 bs:Nat->Bool
 base:Nat
 T0:Nat
 B0:Nat
inductive Z where
 |free
 |co (x:X) (k:Nat) (p:P0) (d:Nat)
structure PT where
 P:Program
 tM:TypeId
 tW:TypeId
 tI:TypeId
abbrev X.cy (x:X)(T:PT):Cy:=⟨T.P,x.Mu,x.Wg,x.Is,T.tM,T.tW,T.tI,x.n,x.bs,x.base,x.T0⟩
def ZJ (T:PT)(Φ:Goroutine->aa->Prop):Z->Goroutine->aa->Prop
 | .free=>iS T.P Φ
 | .co x k p d=>fun g F=>(p= .reg->k=x.n)/\ew (x.cy T) x.B0 (iS T.P Φ) k p d g F
section
variable {T : PT} {Φ : Goroutine → aa → Prop} {x : X} {k d : Nat} {p : P0} {ops : Array Oper} {j n : Nat} {Q : Act → aa → Z → Prop} {a : Act} {F : aa} {o : Oper} {f fi : FuncId} {dt : Option Tmp}
theorem D2 {c:Cy}:Ev0 c d d #[]:=⟨by simp,rfl⟩
theorem K3 {c:Cy}:Ev0 c d (d+1) #[cL .disable]:=⟨fun e he=>by simp at he;exact .inl he,rfl⟩
theorem D3 {c:Cy}:Ev0 c (d+1) d #[cL .enable]:=⟨fun e he=>by simp at he;exact .inr (.inl he),rfl⟩
theorem zj {c:Cy}{ad:Addr}(y:Bool)(h:ad.block=c.Wg):Ev0 c d d #[⟨.cell ad,y,true⟩]:=⟨fun e he=>by simp at he;exact .inr (.inr ⟨ad,h,.inl ⟨y,he⟩⟩),by simp[deafBehind]⟩
theorem D4 {c:Cy}{ad:Addr}(h:ad.block=c.Wg):Ev0 c d d #[⟨.cell ad,false,true⟩,⟨.cell ad,true,true⟩]:=
 ⟨fun e he=>by simp at he;rcases he with he|he<;>exact .inr (.inr ⟨ad,h,.inl ⟨_,he⟩⟩),by simp[deafBehind]⟩
theorem K4 {c:Cy}{ad:Addr}(h:ad.block=c.Wg):Ev0 c d d #[cL (.read ad)]:=⟨fun e he=>by simp at he;exact .inr (.inr ⟨ad,h,.inr (.inl he)⟩),by simp[deafBehind,cL]⟩
theorem K5 {c:Cy}{ad:Addr}(h:ad.block=c.Wg):Ev0 c d d #[cL (.write ad)]:=⟨fun e he=>by simp at he;exact .inr (.inr ⟨ad,h,.inr (.inr he)⟩),by simp[deafBehind,cL]⟩
theorem K6 {c:Cy}{ad:Addr}(h:ad.block=c.Wg):Ev0 c d d (semEvents ad):=by
 refine ⟨fun e he=>?_,by simp[deafBehind,semEvents]⟩;simp[semEvents] at he;rcases he with rfl|rfl|rfl|rfl
 .exact .inl rfl
 .exact .inr (.inr ⟨ad,h,.inl ⟨_,rfl⟩⟩)
 .exact .inr (.inr ⟨ad,h,.inl ⟨_,rfl⟩⟩)
 .exact .inr (.inl rfl)
theorem ZJ.ey (T:PT)(Φ:Goroutine->aa->Prop)(z:Z):dY T.P true (ZJ T Φ z):=by
 cases z with
 |free=>exact Closed.ey (Dx T.P Φ)
 |co x k p d=>
  refine ⟨fun {fr fr' cs cs' F} hs h=>⟨h.1,ew.yS (c:=x.cy T) rfl rfl h.1 fun w s φ e a b=>?_⟩⟩;exact ⟨_,w,#[],s,p,d,hs w,a,.refl _ _,b,D2,.inr dI,h.2⟩
theorem ZJ.closed (T:PT)(Φ:Goroutine->aa->Prop){z:Z}(b:∀x k d,z≠ .co x k .reg d):Closed T.P true (ZJ T Φ z):=by
 cases z with
 |free=>exact Dx T.P Φ
 |co x k p d=>
  have a:p≠ .reg:=fun e=>b x k d (by rw[e]);have hC:=ew.closed (x.cy T) x.B0 (iS T.P Φ) k p d a
  exact ⟨fun hle h=>⟨h.1,hC.mono hle h.2⟩,fun {fr cs F} h=>⟨fun e=>absurd e a,hC.step fun w hw=>by
   obtain ⟨g',w',es,F',k1,c,f,g,i⟩:=h w hw
   exact ⟨g',w',es,F',k1,c,f,g,i.2⟩⟩⟩
theorem k4 (A:ops[j]?=some o)(i:p= .reg->k=x.n)
  (h:∀(w:World) (s:Sh) (φ:Nat->Ph),Has F w->cC (x.cy T) w s->Inv x.n x.bs k φ p s->
   ∃(v:Value) (w':World) (es:Array Event) (s':Sh) (f:P0) (g:Nat),(∀(b:Frame) (e:List Item) (cs:List Frame),BF fi b->
    stepG T.P true (G (b.at a (.inRegion ops (j::List.range' (j+1) n)::e)) cs) w= .go (G (b.at (a.put o.dst v) (.inRegion ops (List.range' (j+1) n)::e)) cs) w' es)/\cC (x.cy T) w' s'/\iu (x.cy T) w w'/\Inv x.n x.bs k φ f s'/\Ev0 (x.cy T) d g es/\
    (s'.ms<=s.ms/\s'.ws<=s.ws)/\ai (ZJ T Φ) fi ops (j+1) n Q (a.put o.dst v) F (.co x k f g)):ai (ZJ T Φ) fi ops j (n+1) Q a F (.co x k p d):=fun b e cs hb l=>by
 rw[List.range'_succ,eJ hb.round]
 refine ⟨i,ew.yS (c:=x.cy T) rfl rfl i fun w s φ e1 e2 m=>?_⟩
 obtain ⟨v,w',es,s',f,g,k1,q,r,t,u,y,z⟩:=h w s φ e1 e2 m
 have:=z b e cs hb l
 rw[eJ hb.round] at this
 exact ⟨_,w',es,s',f,g,k1 b e cs hb,q,r,t,u,.inr y,this.2⟩
theorem o9 {k:Nat}{φ:Nat->Ph}{p a:P0}{s:Sh}(h:Inv x.n x.bs k φ p s){wg ws:Int}(hw:dD x.n φ a wg ws):Inv x.n x.bs k φ a {s with wg:=wg,ws:=ws}:=⟨h.m,hw,h.i⟩
theorem D5 (i:Entry T.P f (fun _=>do mark .disable;pure Extern.Race.none_)){vals:List Value}(l:At ops j a f vals dt)(m:p= .reg->k=x.n)(c:P0)(q:∀φ wg ws,dD x.n φ p wg ws->dD x.n φ c wg ws)
  (h:ai (ZJ T Φ) fi ops (j+1) n Q (bg a dt (.tuple #[])) F (.co x k c (d+1))):ai (ZJ T Φ) fi ops j (n+1) Q a F (.co x k p d):=by
 obtain ⟨o,cD,dj,e,hg,r,_,rfl⟩:=l
 obtain ⟨fn,f1,f2,f3,f4,f5⟩:=i.ex
 exact k4 e m fun w s φ _ hs g=>⟨.tuple #[],w,_,s,c,d+1,fun b t cs hb=>stepG_mark0 .disable (by simp) e (ck hg) hb.kind r f1 f2 f3 f4 f5,hs,.refl _ _,o9 g (q _ _ _ g.w),K3,dI,h⟩
theorem D6 (e:Entry T.P f (fun _=>do mark .enable;pure Extern.Race.none_)){vals:List Value}(g:At ops j a f vals dt)(i:p= .reg->k=x.n)
  (h:ai (ZJ T Φ) fi ops (j+1) n Q (bg a dt (.tuple #[])) F (.co x k p d)):ai (ZJ T Φ) fi ops j (n+1) Q a F (.co x k p (d+1)):=by
 obtain ⟨o,cD,dj,c,hg,l,_,rfl⟩:=g
 obtain ⟨fn,f1,f2,f3,f4,f5⟩:=e.ex
 exact k4 c i fun w s φ _ hs m=>⟨.tuple #[],w,_,s,p,d,fun b q cs hb=>stepG_mark0 .enable (by simp) c (ck hg) hb.kind l f1 f2 f3 f4 f5,hs,.refl _ _,m,D3,dI,h⟩
theorem K7 (e:Entry T.P f (Extern.Race.marked .read))(g:At ops j a f [.pointer (some (smA x.Wg))] dt)(i:p= .reg->k=x.n)
  (h:ai (ZJ T Φ) fi ops (j+1) n Q (bg a dt (.tuple #[])) F (.co x k p d)):ai (ZJ T Φ) fi ops j (n+1) Q a F (.co x k p d):=by
 obtain ⟨o,cD,dj,c,hg,l,m,rfl⟩:=g
 obtain ⟨y,rfl,q⟩:=j9 m
 obtain ⟨fn,f1,f2,f3,f4,f5⟩:=e.ex
 exact k4 c i fun w s φ _ hs r=>⟨.tuple #[],w,_,s,p,d,fun b t cs hb=>stepG_markAt .read (by simp) c (ck hg) hb.kind l f1 f2 f3 f4 f5 (by simp[eD,q]),hs,.refl _ _,r,K4 (ad:=smA x.Wg) rfl,dI,h⟩
theorem K8 (e:Entry T.P f (Extern.Race.marked .write))(g:At ops j a f [.pointer (some (smA x.Wg))] dt)(i:p= .reg->k=x.n)
  (h:ai (ZJ T Φ) fi ops (j+1) n Q (bg a dt (.tuple #[])) F (.co x k p d)):ai (ZJ T Φ) fi ops j (n+1) Q a F (.co x k p d):=by
 obtain ⟨o,cD,dj,c,hg,l,m,rfl⟩:=g
 obtain ⟨y,rfl,q⟩:=j9 m
 obtain ⟨fn,f1,f2,f3,f4,f5⟩:=e.ex
 exact k4 c i fun w s φ _ hs r=>⟨.tuple #[],w,_,s,p,d,fun b t cs hb=>stepG_markAt .write (by simp) c (ck hg) hb.kind l f1 f2 f3 f4 f5 (by simp[eD,q]),hs,.refl _ _,r,K5 (ad:=smA x.Wg) rfl,dI,h⟩
theorem uM (ad:Addr){src dst t:TypeId}(hs:T.P.underlying src=some (.pointer t))(hd:T.P.underlying dst=some .unsafePointer)(c:(T.P.info? t).map (fun i=>decide (i.size=0))=some false){y:Operand}
  (l:nB ops j a (.convert src dst y) dt) (m:p= .reg->k=x.n) (q:ev a y= .pointer (some ad)) (r:∀w s,cC (x.cy T) w s->∃v,w.cell? ad=some v) (h:ai (ZJ T Φ) fi ops (j+1) n Q (bg a dt (.pointer (some ad))) F (.co x k p d)):ai (ZJ T Φ) fi ops j (n+1) Q a F (.co x k p d):=by
 obtain ⟨o,e,hg,u,rfl⟩:=l
 refine k4 e m fun w s φ _ f z=>⟨_,w,#[],s,p,d,fun b C cs hb=>?_,f,.refl _ _,z,D2,dI,h⟩
 obtain ⟨v,g⟩:=r w s f
 have e1:execOp a.eval o=(do pure (.value (<-convert src dst (.pointer (some ad)))):Sem Next):=by
  unfold execOp
  simp only[u,eD,q]
 have A:(execOp a.eval o).run T.P w= .ok (.value (.pointer (some ad))) w:=by
  rw[e1];simp[run_convert_to_unsafe hs hd c g]
 have B:(execOp a.eval o).events T.P w #[]=#[]:=by
  rw[e1];simp[events_convert_to_unsafe hs hd c g]
 rw[stepG_value e (ck hg) hb.kind A]
 unfold listed
 rw[B,seen_none]
theorem K9 (i:Entry T.P f (Extern.Atomic.update (Op.intArith .add) .u64 true))(aG:x.Mu≠x.Wg/\x.Mu≠x.Is/\x.Wg≠x.Is)(A:x.n<67108864)(l:At ops j a f [.pointer (some (stA x.Wg)),.int .u64 4294967296] dt)
  (h:∀v:Nat,v<=x.n->ai (ZJ T Φ) fi ops (j+1) n Q (bg a dt (.int .u64 (((v+1:Nat):Int)*4294967296+((0:Nat):Int)))) F (.co x k (.opn 1) d)):ai (ZJ T Φ) fi ops j (n+1) Q a F (.co x k (.opn 0) d):=by
 obtain ⟨o,cD,dj,c,hg,m,p,rfl⟩:=l
 obtain ⟨y,z,rfl,q,r⟩:=rA p
 obtain ⟨fn,f1,f2,f3,f4,f5⟩:=i.ex
 refine k4 c (fun e=>by cases e) fun w s φ _ hs g=>?_
 obtain ⟨v,e1,t,hw⟩:=JS g.w
 have e2:IntKind.u64.wrap (s.wg+4294967296)=((v+1:Nat):Int)*4294967296+((0:Nat):Int):=by
  rw[e1]
  unfold IntKind.wrap
  simp only[IntKind.bits,IntKind.signed,cY]
  simp
  omega
 have u:s.wg+cY=((v+1:Nat):Int)*4294967296+((0:Nat):Int):=by rw[e1];simp only[cY];omega
 rw[u] at hw
 exact ⟨_,_,_,{s with wg:=((v+1:Nat):Int)*4294967296+((0:Nat):Int)},.opn 1,d,fun b B cs hb=>by rw[<-e2];exact stepG_add_atomic c (ck hg) hb.kind m f1 f2 f3 f4 .u64 f5 q r hs.wg.1 hs.wg.2,by rw[<-e2];exact hs.uD aG _,.set _ (.inr (.inl rfl)),o9 g hw,D4 rfl,dI,h v t⟩
theorem La (i:Entry T.P f (Extern.Atomic.loadT (.int .u64)))(l:At ops j a f [.pointer (some (stA x.Wg))] dt){u:Nat}
  (h:∀v:Nat,v<=u->ai (ZJ T Φ) fi ops (j+1) n Q (bg a dt (.int .u64 ((v:Int)*4294967296+((0:Nat):Int)))) F (.co x k (if v=0 then .eU else .look v) d)):ai (ZJ T Φ) fi ops j (n+1) Q a F (.co x k (.look u) d):=by
 obtain ⟨o,cD,dj,c,hg,m,p,rfl⟩:=l
 obtain ⟨y,rfl,q⟩:=j9 p
 obtain ⟨fn,f1,f2,f3,f4,f5⟩:=i.ex
 refine k4 c (fun e=>by cases e) fun w s φ _ hs g=>?_
 obtain ⟨v,e1,r,hw⟩:=JW g.w
 have e2:s.wg=(v:Int)*4294967296+((0:Nat):Int):=by rw[e1];simp only[cY];omega
 exact ⟨_,_,_,s,_,d,fun b t cs hb=>by rw[<-e2];exact stepG_load_atomic c (ck hg) hb.kind m f1 f2 f3 f4 .u64 f5 q hs.wg.1,hs,.refl _ _,o9 g hw,zj false rfl,dI,h v r⟩
theorem Lb (i:Entry T.P f (Extern.Atomic.loadT (.int .u64)))(l:At ops j a f [.pointer (some (stA x.Wg))] dt)
  (h:ai (ZJ T Φ) fi ops (j+1) n Q (bg a dt (.int .u64 0)) F (.co x k .eU d)):ai (ZJ T Φ) fi ops j (n+1) Q a F (.co x k .eU d):=by
 obtain ⟨o,cD,dj,c,hg,m,p,rfl⟩:=l
 obtain ⟨y,rfl,q⟩:=j9 p
 obtain ⟨fn,f1,f2,f3,f4,f5⟩:=i.ex
 refine k4 c (fun e=>by cases e) fun w s φ _ hs g=>?_
 have e2:s.wg=0:=(Dj g.w).1
 exact ⟨_,_,_,s,_,d,fun b r cs hb=>by rw[<-e2];exact stepG_load_atomic c (ck hg) hb.kind m f1 f2 f3 f4 .u64 f5 q hs.wg.1,hs,.refl _ _,g,zj false rfl,dI,h⟩
theorem Lc (q:Entry T.P f (Extern.Atomic.casT (.int .u64)))(aG:x.Mu≠x.Wg/\x.Mu≠x.Is/\x.Wg≠x.Is){v:Nat}(r:0<v)(G:k=x.n)(t:At ops j a f [.pointer (some (stA x.Wg)),.int .u64 ((v:Int)*4294967296+((0:Nat):Int)),.int .u64 ((v:Int)*4294967296+((0:Nat):Int)+1)] dt)
  (u:ai (ZJ T Φ) fi ops (j+1) n Q (bg a dt (.bool true)) F (.co x k .reg d)) (A:ai (ZJ T Φ) fi ops (j+1) n Q (bg a dt (.bool false)) F (.co x k (.look (v - 1)) d)):ai (ZJ T Φ) fi ops j (n+1) Q a F (.co x k (.look v) d):=by
 obtain ⟨o,cD,dj,g,hg,h,B,rfl⟩:=t
 obtain ⟨y,z,H,rfl,i,l,m⟩:=rC B
 obtain ⟨fn,f1,f2,f3,f4,f5⟩:=q.ex
 refine k4 g (fun e=>by cases e) fun w s φ _ hs c=>?_
 by_cases e:s.wg=(v:Int)*4294967296+((0:Nat):Int)
 .have e1:s.wg=(v:Int)*cY:=by rw[e];simp only[cY];omega
  have hw:=c.w
  rw[e1] at hw
  have p:=JX hw r
  have C:(v:Int)*cY+1=(v:Int)*4294967296+((0:Nat):Int)+1:=by simp only[cY];omega
  rw[C] at p
  exact ⟨.bool true,_,_,{s with wg:=(v:Int)*4294967296+((0:Nat):Int)+1},.reg,d,fun b D cs hb=>stepG_cas_hit g (ck hg) hb.kind h f1 f2 f3 f4 .u64 f5 i l m (by rw[<-e];exact hs.wg.1) hs.wg.2,hs.uD aG _,.set _ (.inr (.inl rfl)),o9 c p,D4 rfl,dI,u⟩
 .have e1:s.wg≠(v:Int)*cY:=fun E=>e (by rw[E];simp only[cY];omega)
  exact ⟨.bool false,_,_,s,.look (v - 1),d,fun b D cs hb=>stepG_cas_miss g (ck hg) hb.kind h f1 f2 f3 f4 .u64 f5 i l m hs.wg.1 hs.wg.2 e,hs,.refl _ _,o9 c (JY c.w e1).2,zj false rfl,dI,A⟩
theorem Ld (q:Value)(r:Entry T.P f Extern.Sync.semacquire)(aG:x.Mu≠x.Wg/\x.Mu≠x.Is/\x.Wg≠x.Is)(g:k=x.n)(t:At ops j a f [.pointer (some (smA x.Wg)),q] dt)
  (h:ai (ZJ T Φ) fi ops (j+1) n Q (bg a dt (.tuple #[])) F (.co x k .eU d)):ai (ZJ T Φ) fi ops j (n+1) Q a F (.co x k .reg d):=fun b u cs hb v=>by
 obtain ⟨o,cD,dj,i,hg,l,A,rfl⟩:=t
 obtain ⟨y,z,rfl,m,_⟩:=rA A
 obtain ⟨fn,f1,f2,f3,f4,f5⟩:=r.ex
 rw[List.range'_succ,eJ hb.round]
 refine ⟨fun _=>g,ew.act (c:=x.cy T) rfl rfl (fun _=>⟨g,fun w s hs e=>?_⟩) fun w s φ e1 hs p B=>?_⟩
 .exact stepG_semacquire_wait i (ck hg) l f1 f2 f3 f4 f5 (ad:=smA x.Wg) (by simp[eD,m]) (by rw[hs.ws.1,e])
 .have e:=B rfl
  obtain ⟨C,D,hw⟩:=JZ p.w e
  have:=h b u cs hb v
  rw[eJ hb.round] at this
  exact ⟨_,_,_,{s with ws:=s.ws - 1},.eU,d,stepG_semacquire i (ck hg) hb.kind l f1 f2 f3 f4 f5 (by simp[eD,m]) hs.ws.1 e hs.ws.2,hs.DT aG _,.set _ (.inr (.inl rfl)),o9 p hw,K6 rfl,.inr ⟨Int.le_refl _,by simp only;omega⟩,this.2⟩
theorem D7 (d:Entry T.P f (Extern.Race.marked .acquire))(e:k=x.n)(g:At ops j a f [.pointer (some (stA x.Wg))] dt)
  (h:ai (ZJ T Φ) fi ops (j+1) n Q (bg a dt (.tuple #[])) ⟨F.ro,(x.Is,(x.cy T).fin)::F.own⟩ .free):ai (ZJ T Φ) fi ops j (n+1) Q a F (.co x k .eU 0):=fun b i cs hb l=>by
 obtain ⟨o,cD,dj,m,hg,p,q,rfl⟩:=g
 obtain ⟨y,rfl,r⟩:=j9 q
 obtain ⟨fn,f1,f2,f3,f4,f5⟩:=d.ex
 rw[List.range'_succ,eJ hb.round]
 subst e
 have:=h b i cs hb l
 rw[eJ hb.round] at this
 exact ⟨fun _=>rfl,ew.join (c:=x.cy T) rfl rfl fun w hw=>⟨_,stepG_markAt .acquire (by simp) m (ck hg) hb.kind p f1 f2 f3 f4 f5 (by simp[eD,r]),rfl,this⟩⟩
theorem Lf (i:k<x.n){d:Deferred}{fv:Operand}{g:Fn}{caps:Array Value}(l:ops[j]?=some o)(hg:cF ops o a=some true)(f:∀w,(execOp a.eval o).run T.P w= .ok (.spawn d) w/\(execOp a.eval o).events T.P w #[]=#[])(hd:d.target= .fn g caps)
  (hW:Wk (x.cy T) k ⟨.idle,.cnt,false,0⟩ (born T.P d) ⟨F.ro,[]⟩) (h:ai (ZJ T Φ) fi ops (j+1) n Q (bg a o.dst undef) F (.co x (k+1) (.opn 0) 0)):ai (ZJ T Φ) fi ops j (n+1) Q a F (.co x k (.opn 1) 0):=fun b m cs hb p=>by
 rw[List.range'_succ,eJ hb.round]
 have:=h b m cs hb p
 rw[eJ hb.round] at this
 refine ⟨fun e=>(by cases e),ew.spawn (c:=x.cy T) rfl rfl i fun w hw=>⟨_,_,?_,hW,rfl,rfl,this.2⟩⟩
 rw[stepG_spawn l (ck hg) hb.kind (f w).1 hd]
 unfold listed
 rw[(f w).2,seen_none]
 rfl
end
section
variable {T : PT} {Φ : Goroutine → aa → Prop} {fi f : FuncId}
theorem Lg {cd:Code}{Q:Ex->Act->aa->Z->Prop}{a:Act}{F:aa}(c:aa)(Mu Wg Is n:Nat)(bs:Nat->Bool)
  (hle:Le ⟨c.ro,(Mu,muBlock T.tM 0 0)::(Wg,wgBlock T.tW 0 0)::(Is,.cells (List.replicate n (Value.bool false)).toArray T.tI)::c.own⟩ F)
  (h:∀base B0 T0,0<base->(Mu≠Wg/\Mu≠Is/\Wg≠Is)->cO (ZJ T Φ) fi cd Q a c (.co ⟨Mu,Wg,Is,n,bs,base,T0,B0⟩ 0 (.opn 0) 0)):cO (ZJ T Φ) fi cd Q a F .free:=fun b k cs hb d=>
 iS.found bs rfl rfl hle fun base B0 T0 e aG=>(h base B0 T0 e aG b k cs hb d).2
theorem Lh (l:Entry T.P f (fun _=>do mark .enable;pure Extern.Race.none_)){x:X}{k d:Nat}{p:P0}{F:aa}(e:p= .reg->k=x.n){b:Frame}{a:Act}{todo:List Item}{cs:List Frame}{i:List Deferred}(m:a.defers=dcall f #[]::i)
  (h:ZJ T Φ (.co x k p d) (G {b.at ⟨a.tmps,i⟩ todo with mode:=.returning} cs) F):ZJ T Φ (.co x k p (d+1)) (G {b.at a todo with mode:=.returning} cs) F:=by
 obtain ⟨fn,f1,f2,f3,f4,f5⟩:=l.ex
 refine ⟨e,ew.yS (c:=x.cy T) rfl rfl e fun w s φ e1 hs o=>⟨_,w,#[cL .enable],s,p,d,?_,hs,.refl _ _,o,D3,.inr dI,h.2⟩⟩
 exact stepG_unwind_entry (v:=.tuple #[]) m f1 f2 f3 f4 f5 (by simp[Extern.Race.none_]) (by simp[cL]) (by
  intro y j
  simp[cL] at j
  subst j
  exact ⟨rfl,fun g h=>by cases h⟩)
def zk (f:FuncId)(R:Value->aa->Z->Prop):Ex->Act->aa->Z->Prop
 | .exit _,_,_,_=>False
 |_,a,F,z=>a.defers=[dcall f #[]]/\∃x k p d,(p= .reg->k=x.n)/\z= .co x k p (d+1)/\R (.tuple #[]) F (.co x k p d)
theorem cI.Li {f0:FuncId}(r:Entry T.P f (fun _=>do mark .enable;pure Extern.Race.none_)){fn:Func}{cd:Code}{n:Nat}{args:Array Value}{R:Value->aa->Z->Prop}{F:aa}{z:Z}(m:T.P.funcs[f0]?=some fn)(hb:fn.body=some cd)(o:fn.results=#[])(q:fn.ntmps=n)(C:args.size<=n)
  (h:∀A:Act,sz A=n->A.defers=[]->(∀i,slot A i=args.getD i undef)->cO (ZJ T Φ) f0 cd (zk f R) A F z):cI T.P (ZJ T Φ) f0 args F z R:=by
 intro g cs s
 let b:Frame:={(default:Frame) with fn:=f0,kind:=.normal}
 have t:b.roundOf=none:=rfl
 have u:Frame.enter T.P f0 args .normal=on b {tmps:=args++Array.replicate (fn.ntmps - args.size) undef,defers:=[]} [.code cd]:=by
  simp[Frame.enter,on,m,hb,b]
  rfl
 rw[u]
 have j:=ZJ.ey T Φ
 have leave:∀(c:Act) (todo:List Item) F' (a:Z),(c.defers=[dcall f #[]]/\∃x k p d,(p= .reg->k=x.n)/\a= .co x k p (d+1)/\R (.tuple #[]) F' (.co x k p d))->ZJ T Φ a (G {on b c todo with mode:=.returning} (g::cs)) F':=by
  intro c todo F' a ⟨hd,x,k,p,d,v,y,B⟩
  subst y
  rw[eJ t]
  refine Lh r v hd ((j _).move (fr':=g.finish (.tuple #[])) (cs':=cs) (fun w=>?_) (s _ F' _ B))
  exact stepG_leave rfl rfl m (results_none o _ T.P w) (events_results_none o _ _)
 refine h _ (by simp[sz,q];omega) rfl (fun i=>?_) b [] (g::cs) ⟨by simp[b],rfl,rfl⟩ fun e c F' a l=>?_
 .simp only[slot,q,Array.getD_eq_getD_getElem?]
  rcases Nat.lt_or_ge i args.size with hi|hi
  .rw[Array.getElem?_append_left hi]
  .rw[Array.getElem?_append_right hi,Array.getElem?_replicate,Array.getElem?_eq_none hi]
   split<;>rfl
 .cases e with
  |normal=>exact (j a).move (fun _=>mc rfl) (leave c _ F' a l)
  |exit i=>exact l.elim
  |ret=>exact fun D=>(j a).move (fun _=>stepG_ret' rfl) (leave c _ F' a l)
theorem fK.Lj {args:Array Value}{ro:Addr->Option Value}{R:Value->aa->Prop}(h:∀Φ,cI T.P (ZJ T Φ) f args ⟨ro,[]⟩ .free (fun v F' z=>z= .free/\R v F')):fK T.P f args ⟨ro,[]⟩ R:=
 fK.Kj fun Φ c cs a=>h Φ c cs fun v F' z ⟨b,d⟩=>by subst b;exact a v F' d
end
end Go.Sep
end
section
namespace Go.Proofs.YtghbphimkgamkaaGreatDoor
open Go Go.Sep Go.Proofs Go.Conc
open Go.ConcN (upd upd_same)
open Go.ConcM (muA msA)
open Go.ConcR (stA smA)
set_option maxRecDepth 100000
set_option maxHeartbeats 4000000
attribute [local go_sem] Int.reduceBEq Int.reduceBNe muA msA stA smA
noncomputable abbrev TT:PT:=⟨Tryz.prog,189,196,4⟩
theorem Ll {f:FuncId}{R:Value->aa->Z->Prop}{a:Act}{F:aa}{x:X}{k d:Nat}{p:P0}(hd:a.defers=[dcall f #[]])(b:p= .reg->k=x.n)(c:R (.tuple #[]) F (.co x k p d)):zk f R .ret a F (.co x k p (d+1)):=⟨hd,x,k,p,d,b,rfl,c⟩
section
variable {Φ : Goroutine → aa → Prop} {x : X} {F : aa} {k : Nat}
theorem D8 (w:World)(s:Sh)(h:cC (x.cy TT) w s):∃v,w.cell? ⟨x.Wg,0,none⟩=some v:=⟨_,h.wg.1⟩
theorem D9 (w:World)(s:Sh)(h:cC (x.cy TT) w s):∃v,w.cell? ⟨x.Wg,1,none⟩=some v:=⟨_,h.ws.1⟩
theorem Lm (aG:x.Mu≠x.Wg/\x.Mu≠x.Is/\x.Wg≠x.Is)(c:x.n<67108864):
  cI Tryz.prog (ZJ TT Φ) 173 #[.pointer (some (stA x.Wg)),.int .u64 4294967296] F (.co x k (.opn 0) 1)
   (fun r F' d=>F'=F/\∃v:Nat,v<=x.n/\r= .int .u64 (((v+1:Nat):Int)*4294967296+((0:Nat):Int))/\d= .co x k (.opn 1) 1):=by
 have a:=ZJ.ey TT Φ
 have hJ:True:=trivial
 refine cI.go (main:=true) a Tryz.func173 rfl Tryz.ntmps173 (by simp) fun A f hd hs=>?_
 have g:=hs 0
 have k1:=hs 1
 clear hs
 repeat refine aB (a _) ?_
 refine bh a fun K b=>?_
 refine ai.pure (a _) 1 (n:=0) _ rfl rfl ?_;simp only[*,go_sem,-b,-a]
 refine ai.nil a (b _ _ _ ?_);clear b K
 repeat refine aB (a _) ?_
 refine bh a fun K b=>?_
 refine ai.pure (a _) 4 (n:=2) _ rfl rfl ?_;simp only[*,go_sem,-b,-a]
 refine K9 DK aG c ⟨_,_,_,rfl,(by first|(simp only[*,go_sem,-b,-a,-hJ];done)|rfl),rfl,by first|(simp only[*,go_sem,-b,-a,-hJ];done)|(simp only[*,go_sem,-b,-a,-hJ];rfl),rfl⟩ fun v e=>?_
 refine ai.pure (a _) 1 (n:=0) _ rfl rfl ?_;simp only[*,go_sem,-b,-a]
 refine ai.nil a (b _ _ _ ?_);clear b K
 exact fC (lX rfl (by simp only[*,go_sem,-a,-hJ]) (by simp only[*,go_sem,-a,-hJ]) ⟨rfl,v,e,rfl,rfl⟩).2
theorem Ln {u:Nat}:
  cI Tryz.prog (ZJ TT Φ) 175 #[.pointer (some (stA x.Wg))] F (.co x k (.look u) 1)
   (fun r F' c=>F'=F/\∃v:Nat,v<=u/\r= .int .u64 ((v:Int)*4294967296+((0:Nat):Int))/\c= .co x k (if v=0 then .eU else .look v) 1):=by
 have a:=ZJ.ey TT Φ
 have hJ:True:=trivial
 refine cI.go (main:=true) a Tryz.func175 rfl Tryz.ntmps175 (by simp) fun A e hd hs=>?_
 have f:=hs 0
 clear hs
 repeat refine aB (a _) ?_
 refine bh a fun K b=>?_
 refine ai.pure (a _) 1 (n:=0) _ rfl rfl ?_;simp only[*,go_sem,-b,-a]
 refine ai.nil a (b _ _ _ ?_);clear b K
 repeat refine aB (a _) ?_
 refine bh a fun K b=>?_
 refine ai.pure (a _) 3 (n:=2) _ rfl rfl ?_;simp only[*,go_sem,-b,-a]
 refine La yX ⟨_,_,_,rfl,(by first|(simp only[*,go_sem,-b,-a,-hJ];done)|rfl),rfl,by first|(simp only[*,go_sem,-b,-a,-hJ];done)|(simp only[*,go_sem,-b,-a,-hJ];rfl),rfl⟩ fun v d=>?_
 refine ai.pure (a _) 1 (n:=0) _ rfl rfl ?_;simp only[*,go_sem,-b,-a]
 refine ai.nil a (b _ _ _ ?_);clear b K
 exact fC (lX rfl (by simp only[*,go_sem,-a,-hJ]) (by simp only[*,go_sem,-a,-hJ]) ⟨rfl,v,d,rfl,rfl⟩).2
theorem Lo:
  cI Tryz.prog (ZJ TT Φ) 175 #[.pointer (some (stA x.Wg))] F (.co x k .eU 1)
   (fun r F' c=>F'=F/\r= .int .u64 0/\c= .co x k .eU 1):=by
 have a:=ZJ.ey TT Φ
 have hJ:True:=trivial
 refine cI.go (main:=true) a Tryz.func175 rfl Tryz.ntmps175 (by simp) fun A d hd hs=>?_
 have e:=hs 0
 clear hs
 repeat refine aB (a _) ?_
 refine bh a fun K b=>?_
 refine ai.pure (a _) 1 (n:=0) _ rfl rfl ?_;simp only[*,go_sem,-b,-a]
 refine ai.nil a (b _ _ _ ?_);clear b K
 repeat refine aB (a _) ?_
 refine bh a fun K b=>?_
 refine ai.pure (a _) 3 (n:=2) _ rfl rfl ?_;simp only[*,go_sem,-b,-a]
 refine Lb yX ⟨_,_,_,rfl,(by first|(simp only[*,go_sem,-b,-a,-hJ];done)|rfl),rfl,by first|(simp only[*,go_sem,-b,-a,-hJ];done)|(simp only[*,go_sem,-b,-a,-hJ];rfl),rfl⟩ ?_
 refine ai.pure (a _) 1 (n:=0) _ rfl rfl ?_;simp only[*,go_sem,-b,-a]
 refine ai.nil a (b _ _ _ ?_);clear b K
 exact fC (lX rfl (by simp only[*,go_sem,-a,-hJ]) (by simp only[*,go_sem,-a,-hJ]) ⟨rfl,rfl,rfl⟩).2
theorem Lp (aG:x.Mu≠x.Wg/\x.Mu≠x.Is/\x.Wg≠x.Is){v:Nat}(d:0<v):
  cI Tryz.prog (ZJ TT Φ) 184 #[.pointer (some (stA x.Wg)),.int .u64 ((v:Int)*4294967296+((0:Nat):Int)),.int .u64 ((v:Int)*4294967296+((0:Nat):Int)+1)] F (.co x x.n (.look v) 1)
   (fun r F' c=>F'=F/\((r= .bool true/\c= .co x x.n .reg 1)\/(r= .bool false/\c= .co x x.n (.look (v - 1)) 1))):=by
 have a:=ZJ.ey TT Φ
 have hJ:True:=trivial
 refine cI.go (main:=true) a Tryz.func184 rfl Tryz.ntmps184 (by simp) fun A e hd hs=>?_
 have f:=hs 0
 have k1:=hs 1
 have g:=hs 2
 clear hs
 repeat refine aB (a _) ?_
 refine bh a fun K b=>?_
 refine ai.pure (a _) 1 (n:=0) _ rfl rfl ?_;simp only[*,go_sem,-b,-a]
 refine ai.nil a (b _ _ _ ?_);clear b K
 repeat refine aB (a _) ?_
 refine bh a fun K b=>?_
 refine ai.pure (a _) 5 (n:=2) _ rfl rfl ?_;simp only[*,go_sem,-b,-a]
 refine Lc Kn aG d rfl ⟨_,_,_,rfl,(by first|(simp only[*,go_sem,-b,-a,-hJ];done)|rfl),rfl,by first|(simp only[*,go_sem,-b,-a,-hJ];done)|(simp only[*,go_sem,-b,-a,-hJ];rfl),rfl⟩ ?_ ?_
 .refine ai.pure (a _) 1 (n:=0) _ rfl rfl ?_;simp only[*,go_sem,-b,-a]
  refine ai.nil a (b _ _ _ ?_);clear b K
  exact fC (lX rfl (by simp only[*,go_sem,-a,-hJ]) (by simp only[*,go_sem,-a,-hJ]) ⟨rfl,.inl ⟨rfl,rfl⟩⟩).2
 .refine ai.pure (a _) 1 (n:=0) _ rfl rfl ?_;simp only[*,go_sem,-b,-a]
  refine ai.nil a (b _ _ _ ?_);clear b K
  exact fC (lX rfl (by simp only[*,go_sem,-a,-hJ]) (by simp only[*,go_sem,-a,-hJ]) ⟨rfl,.inr ⟨rfl,rfl⟩⟩).2
end
attribute [local go_sem] Int.reduceBEq Int.reduceBNe muA msA stA smA
def Lq (Wg:Nat)(F:aa)(z:Z)(v:Int)(a:Act)(F':aa)(b:Z):Prop:=
 F'=F/\slot a 1= .int .i64 1/\slot a 7= .int .i32 v/\slot a 8= .int .u32 0/\sz a=117/\a.defers=[dcall 168 #[]]/\b=z
section
variable {Φ : Goroutine → aa → Prop} {x : X} {F : aa} {k : Nat}
theorem Lr (aG:x.Mu≠x.Wg/\x.Mu≠x.Is/\x.Wg≠x.Is)(o:x.n<67108864):
  cI Tryz.prog (ZJ TT Φ) 141 #[.pointer (some (stA x.Wg)),.int .i64 1] F (.co x k (.opn 0) 0)
   (fun r F' g=>r= .tuple #[]/\F'=F/\g= .co x k (.opn 1) 0):=by
 have a:=ZJ.ey TT Φ
 have hJ:True:=trivial
 refine cI.Li lY Tryz.func141 rfl rfl Tryz.ntmps141 (by simp) fun A i hd hs=>?_
 have p:=hs 0
 have k1:=hs 1
 clear hs
 have c1:decide ((1:Int)<0)=false:=by decide
 have c2:decide ((1:Int)>0)=true:=by decide
 repeat refine aB (a _) ?_
 refine c5 (a _) (by simp only[*,go_sem,-a,-hJ]) ?_
 repeat refine aB (a _) ?_
 refine bh a fun K b=>?_
 refine ai.pure (a _) 2 (n:=0) _ rfl rfl ?_;simp only[*,go_sem,-b,-a]
 refine ai.nil a (b _ _ _ ?_);clear b K
 repeat refine aB (a _) ?_
 refine cH (a _) (by simp only[*,go_sem,-a,-hJ]) ?_
 refine cJ (a _) ?_
 repeat refine aB (a _) ?_
 refine bh a fun K b=>?_
 refine D5 rz ⟨_,_,_,rfl,(by first|(simp only[*,go_sem,-b,-a,-hJ];done)|rfl),rfl,by first|(simp only[*,go_sem,-b,-a,-hJ];done)|(simp only[*,go_sem,-b,-a,-hJ];rfl),rfl⟩ (fun e=>by cases e) (.opn 0) (fun _ _ _ h=>h) ?_
 refine ai.nil a (b _ _ _ ?_);clear b K
 repeat refine aB (a _) ?_
 refine bh a fun K b=>?_
 refine ai.defer (a _) rfl (by first|(simp only[*,go_sem,-b,-a,-hJ];done)|rfl) rfl rfl (by simp;rfl) fun d e1 e2 j=>?_
 have l0:slot d 0= .pointer (some ⟨x.Wg,0,none⟩):=(e1 0).trans (by simp only[*,go_sem,-a,-hJ])
 have l:slot d 1= .int .i64 1:=(e1 1).trans (by simp only[*,go_sem,-a,-hJ])
 replace i:sz d=117:=e2.trans (by simp only[*,go_sem,-a,-hJ])
 replace hd:d.defers=[dcall 168 #[]]:=j.trans (by simp only[*,go_sem,-a,-hJ])
 clear e1 e2 j p k1
 refine ai.nil a (b _ _ _ ?_);clear b K
 repeat refine aB (a _) ?_
 refine bh a fun K b=>?_
 refine ai.pure (a _) 1 (n:=0) _ rfl rfl ?_;simp only[*,go_sem,-b,-a]
 refine ai.nil a (b _ _ _ ?_);clear b K
 repeat refine aB (a _) ?_
 refine bh a fun K b=>?_
 refine ai.entry (.bool false) (a _) DL ⟨_,_,_,rfl,(by first|(simp only[*,go_sem,-b,-a,-hJ];done)|rfl),rfl,by first|(simp only[*,go_sem,-b,-a,-hJ];done)|(simp only[*,go_sem,-b,-a,-hJ];rfl),rfl⟩ ?_
 refine ai.nil a (b _ _ _ ?_);clear b K
 repeat refine aB (a _) ?_
 refine cH (a _) (by simp only[*,go_sem,-a,-hJ]) ?_
 refine cJ (a _) ?_
 have w1:IntKind.u64.wrap 1=1:=by decide
 have w2:IntKind.u64.wrap (1*2 ^ min 32 64)=4294967296:=by decide
 repeat refine aB (a _) ?_
 refine bh a fun K b=>?_
 refine ai.pure (a _) 6 (n:=2) _ rfl rfl ?_;simp only[*,go_sem,-b,-a]
 refine ai.gi (a _) rfl (by first|(simp only[*,go_sem,-b,-a,-hJ];done)|rfl) rfl AR (by simp only[*,go_sem,-b,-a,-hJ]) (Lm aG o) fun r F' aK q=>?_
 obtain ⟨rfl,v,s,rfl,rfl⟩:=q
 obtain ⟨y,c⟩:∃y:Int,y=((v+1:Nat):Int)*4294967296+((0:Nat):Int):=⟨_,rfl⟩
 rw[<-c]
 have a1:iC y 2147483648=0:=by show k3 y 2147483648=0;rw[c];exact zg (v+1) 0 (by omega) (by omega)
 have a2:iC y 2147483647=0:=by show k3 y 2147483647=0;rw[c];exact zh (v+1) 0 (by omega) (by omega)
 obtain ⟨V,m⟩:∃V:Int,V=((v+1:Nat):Int):=⟨_,rfl⟩
 have a3:y.fdiv (2 ^ min 32 64)=V:=by rw[c,m];exact zi (v+1) 0 (by omega)
 have a4:IntKind.i32.wrap V=V:=iP (by omega) (by omega)
 have a5:IntKind.u32.wrap 0=0:=by decide
 have w:IntKind.i32.wrap 1=1:=by decide
 have c3:decide (V<0)=false:=by simp;omega
 have c4:decide (V>0)=true:=by simp;omega
 have f:(V==1)=true\/(V==1)=false:=by cases (V==1)<;>simp
 clear c m s
 refine ai.pure (a _) 1 (n:=0) _ rfl rfl ?_;simp only[*,go_sem,-b,-a]
 refine ai.nil a (b _ _ _ ?_);clear b K
 repeat refine aB (a _) ?_
 refine bh a fun K b=>?_
 refine ai.pure (a _) 7 (n:=0) _ rfl rfl ?_;simp only[*,go_sem,-b,-a]
 refine ai.nil a (b _ _ _ ?_);clear b K
 repeat refine aB (a _) ?_
 refine cH (a _) (by simp only[*,go_sem,-a,-hJ]) ?_
 refine cJ (a _) ?_
 repeat refine aB (a _) ?_
 refine bh a fun K b=>?_
 refine ai.pure (a _) 4 (n:=0) _ rfl rfl ?_;simp only[*,go_sem,-b,-a]
 refine ai.nil a (b _ _ _ ?_);clear b K
 repeat refine aB (a _) ?_
 refine bh a fun K b=>?_
 refine ai.pure (a _) 4 (n:=0) _ rfl rfl ?_;simp only[*,go_sem,-b,-a]
 refine ai.nil a (b _ _ _ ?_);clear b K
 repeat refine aB (a _) ?_
 refine bh a fun K b=>?_
 refine ai.pure (a _) 10 (n:=0) _ rfl rfl ?_;simp only[*,go_sem,-b,-a]
 refine ai.nil a (b _ _ _ ?_);clear b K
 repeat refine aB (a _) ?_
 refine uI a (Lq x.Wg F' (.co x k (.opn 1) 1) V) ?_ ?_
 .rcases f with f|f
  .repeat refine aB (a _) ?_
   refine c5 (a _) (by simp only[*,go_sem,-a,-hJ]) ?_
   repeat refine aB (a _) ?_
   refine bh a fun K b=>?_
   refine ai.pure (a _) 3 (n:=2) _ rfl rfl ?_;simp only[*,go_sem,-b,-a]
   refine uM ⟨x.Wg,1,none⟩ DN lZ DO ⟨_,rfl,(by first|(simp only[*,go_sem,-b,-a,-hJ];done)|rfl),rfl,rfl⟩ (fun e=>by cases e) (by simp only[*,go_sem,-b,-a,-hJ]) D9 ?_
   refine K7 Kp ⟨_,_,_,rfl,(by first|(simp only[*,go_sem,-b,-a,-hJ];done)|rfl),rfl,by first|(simp only[*,go_sem,-b,-a,-hJ];done)|(simp only[*,go_sem,-b,-a,-hJ];rfl),rfl⟩ (fun e=>by cases e) ?_
   refine ai.nil a (b _ _ _ ?_);clear b K
   exact eC ⟨rfl,(by simp only[*,go_sem,-a,-hJ]),(by simp only[*,go_sem,-a,-hJ]),(by simp only[*,go_sem,-a,-hJ]),(by simp only[*,go_sem,-a,-hJ]),(by simp only[*,go_sem,-a,-hJ]),rfl⟩
  .repeat refine aB (a _) ?_
   refine cH (a _) (by simp only[*,go_sem,-a,-hJ]) ?_
   refine cJ (a _) ?_
   exact eC ⟨rfl,(by simp only[*,go_sem,-a,-hJ]),(by simp only[*,go_sem,-a,-hJ]),(by simp only[*,go_sem,-a,-hJ]),(by simp only[*,go_sem,-a,-hJ]),(by simp only[*,go_sem,-a,-hJ]),rfl⟩
 clear f l0 l i hd a1 a2 a3
 rintro A t z ⟨rfl,l,B,C,i,hd,rfl⟩
 repeat refine aB (a _) ?_
 refine bh a fun K b=>?_
 refine ai.pure (a _) 2 (n:=0) _ rfl rfl ?_;simp only[*,go_sem,-b,-a]
 refine ai.nil a (b _ _ _ ?_);clear b K
 repeat refine aB (a _) ?_
 refine cH (a _) (by simp only[*,go_sem,-a,-hJ]) ?_
 refine cJ (a _) ?_
 repeat refine aB (a _) ?_
 refine bh a fun K b=>?_
 refine ai.pure (a _) 12 (n:=0) _ rfl rfl ?_;simp only[*,go_sem,-b,-a]
 refine ai.nil a (b _ _ _ ?_);clear b K
 repeat refine aB (a _) ?_
 refine cH (a _) (by simp only[*,go_sem,-a,-hJ]) ?_
 refine cJ (a _) ?_
 repeat refine aB (a _) ?_
 refine bh a fun K b=>?_
 refine ai.pure (a _) 6 (n:=0) _ rfl rfl ?_;simp only[*,go_sem,-b,-a]
 refine ai.nil a (b _ _ _ ?_);clear b K
 repeat refine aB (a _) ?_
 refine c5 (a _) (by simp only[*,go_sem,-a,-hJ]) ?_
 exact fC (show zk 168 (fun r u g=>r= .tuple #[]/\u=t/\g= .co x k (.opn 1) 0) .ret _ _ _ from Ll (by simp only[*,go_sem,-a,-hJ]) (fun e=>by cases e) ⟨rfl,rfl,rfl⟩)
end
attribute [local go_sem] Int.reduceBEq Int.reduceBNe muA msA stA smA
def Ea (x:X)(F:aa)(m:Nat)(a:Act)(F':aa)(z:Z):Prop:=
 ∃u:Nat,u<=m/\u<=x.n/\F'=F/\slot a 0= .pointer (some ⟨x.Wg,0,none⟩)/\sz a=84/\a.defers=[]/\z= .co x x.n (.look u) 1
section
variable {Φ : Goroutine → aa → Prop} {x : X} {F : aa} {k : Nat}
theorem Ls (aG:x.Mu≠x.Wg/\x.Mu≠x.Is/\x.Wg≠x.Is)(z:x.n<67108864):
  cI Tryz.prog (ZJ TT Φ) 148 #[.pointer (some (stA x.Wg))] F (.co x x.n (.opn 0) 0)
   (fun r F' d=>r= .tuple #[]/\F'=⟨F.ro,(x.Is,(x.cy TT).fin)::F.own⟩/\d= .free):=by
 have a:=ZJ.ey TT Φ
 have hJ:True:=trivial
 refine cI.go (main:=true) a Tryz.func148 rfl Tryz.ntmps148 (by simp) fun A o hd hs=>?_
 have p:=hs 0
 clear hs
 repeat refine aB (a _) ?_
 refine c5 (a _) (by simp only[*,go_sem,-a,-hJ]) ?_
 repeat refine aB (a _) ?_
 refine bh a fun K b=>?_
 refine D5 rz ⟨_,_,_,rfl,(by first|(simp only[*,go_sem,-b,-a,-hJ];done)|rfl),rfl,by first|(simp only[*,go_sem,-b,-a,-hJ];done)|(simp only[*,go_sem,-b,-a,-hJ];rfl),rfl⟩ (fun e=>by cases e) (.look x.n) (fun _ _ _ h=>JV h) ?_
 refine ai.nil a (b _ _ _ ?_);clear b K
 repeat refine aB (a _) ?_
 refine j7 a ?_
 refine ry a (Ea x F) x.n ?_ ?_
 .exact ⟨x.n,Nat.le_refl _,Nat.le_refl _,rfl,(by simp only[*,go_sem,-a,-hJ]),(by simp only[*,go_sem,-a,-hJ]),(by simp only[*,go_sem,-a,-hJ]),rfl⟩
 .clear o hd p
  rintro m A F' d ⟨u,B,C,rfl,p,o,hd,rfl⟩
  repeat refine aB (a _) ?_
  refine j7 a ?_
  repeat refine aB (a _) ?_
  refine bh a fun K b=>?_
  refine ai.pure (a _) 3 (n:=2) _ rfl rfl ?_;simp only[*,go_sem,-b,-a]
  refine ai.gi (a _) rfl (by first|(simp only[*,go_sem,-b,-a,-hJ];done)|rfl) rfl vV (by simp only[*,go_sem,-b,-a,-hJ]) Ln fun r k D f=>?_
  obtain ⟨rfl,v,t,rfl,rfl⟩:=f
  obtain ⟨y,c⟩:∃y:Int,y=(v:Int)*4294967296+((0:Nat):Int):=⟨_,rfl⟩
  rw[<-c]
  have a1:iC y 2147483648=0:=by show k3 y 2147483648=0;rw[c];exact zg v 0 (by omega) (by omega)
  have a2:iC y 2147483647=0:=by show k3 y 2147483647=0;rw[c];exact zh v 0 (by omega) (by omega)
  obtain ⟨V,i⟩:∃V:Int,V=(v:Int):=⟨_,rfl⟩
  have a3:y.fdiv (2 ^ min 32 64)=V:=by rw[c,i];exact zi v 0 (by omega)
  have a4:IntKind.i32.wrap V=V:=iP (by omega) (by omega)
  have a5:IntKind.u32.wrap 0=0:=by decide
  have E:IntKind.u64.wrap (y+1)=y+1:=by
   unfold IntKind.wrap
   simp only[IntKind.bits,IntKind.signed]
   simp
   omega
  by_cases j:v=0
  ·
   have c1:(V==0)=true:=by rw[i,j];rfl
   have g:(if v=0 then P0.eU else .look v)= .eU:=if_pos j
   rw[g]
   clear g c i t j
   refine ai.pure (a _) 1 (n:=0) _ rfl rfl ?_;simp only[*,go_sem,-b,-a]
   refine ai.nil a (b _ _ _ ?_);clear b K
   repeat refine aB (a _) ?_
   refine bh a fun K b=>?_
   refine ai.pure (a _) 4 (n:=0) _ rfl rfl ?_;simp only[*,go_sem,-b,-a]
   refine ai.nil a (b _ _ _ ?_);clear b K
   repeat refine aB (a _) ?_
   refine bh a fun K b=>?_
   refine ai.pure (a _) 4 (n:=0) _ rfl rfl ?_;simp only[*,go_sem,-b,-a]
   refine ai.nil a (b _ _ _ ?_);clear b K
   repeat refine aB (a _) ?_
   refine bh a fun K b=>?_
   refine ai.pure (a _) 2 (n:=0) _ rfl rfl ?_;simp only[*,go_sem,-b,-a]
   refine ai.nil a (b _ _ _ ?_);clear b K
   repeat refine aB (a _) ?_
   refine c5 (a _) (by simp only[*,go_sem,-a,-hJ]) ?_
   repeat refine aB (a _) ?_
   refine c5 (a _) (by simp only[*,go_sem,-a,-hJ]) ?_
   repeat refine aB (a _) ?_
   refine bh a fun K b=>?_
   refine D6 lY ⟨_,_,_,rfl,(by first|(simp only[*,go_sem,-b,-a,-hJ];done)|rfl),rfl,by first|(simp only[*,go_sem,-b,-a,-hJ];done)|(simp only[*,go_sem,-b,-a,-hJ];rfl),rfl⟩ (fun e=>by cases e) ?_
   refine ai.nil a (b _ _ _ ?_);clear b K
   repeat refine aB (a _) ?_
   refine bh a fun K b=>?_
   refine ai.pure (a _) 1 (n:=2) _ rfl rfl ?_;simp only[*,go_sem,-b,-a]
   refine uM ⟨x.Wg,0,none⟩ yZ lZ y3 ⟨_,rfl,(by first|(simp only[*,go_sem,-b,-a,-hJ];done)|rfl),rfl,rfl⟩ (fun e=>by cases e) (by simp only[*,go_sem,-b,-a,-hJ]) D8 ?_
   refine D7 uA rfl ⟨_,_,_,rfl,(by first|(simp only[*,go_sem,-b,-a,-hJ];done)|rfl),rfl,by first|(simp only[*,go_sem,-b,-a,-hJ];done)|(simp only[*,go_sem,-b,-a,-hJ];rfl),rfl⟩ ?_
   refine ai.nil a (b _ _ _ ?_);clear b K
   repeat refine aB (a _) ?_
   refine bh a fun K b=>?_
   refine ai.pure (a _) 11 (n:=0) _ rfl rfl ?_;simp only[*,go_sem,-b,-a]
   refine ai.nil a (b _ _ _ ?_);clear b K
   repeat refine aB (a _) ?_
   refine cH (a _) (by simp only[*,go_sem,-a,-hJ]) ?_
   refine cJ (a _) ?_
   exact fC (show j8 Tryz.prog Tryz.f148 (fun (r:Value) (F':aa) (d:Z)=>r= .tuple #[]/\F'=⟨k.ro,(x.Is,(x.cy TT).fin)::k.own⟩/\d=Z.free) .ret _ _ _ from o3 rfl (by simp only[*,go_sem,-a,-hJ]) ⟨rfl,rfl,rfl⟩)
  .have c1:(V==0)=false:=by simp;omega
   have g:(if v=0 then P0.eU else .look v)= .look v:=if_neg j
   rw[g]
   have l:=Lp (Φ:=Φ) (F:=k) aG (v:=v) (by omega)
   rw[<-c] at l
   clear g c i
   refine ai.pure (a _) 1 (n:=0) _ rfl rfl ?_;simp only[*,go_sem,-b,-a]
   refine ai.nil a (b _ _ _ ?_);clear b K
   repeat refine aB (a _) ?_
   refine bh a fun K b=>?_
   refine ai.pure (a _) 4 (n:=0) _ rfl rfl ?_;simp only[*,go_sem,-b,-a]
   refine ai.nil a (b _ _ _ ?_);clear b K
   repeat refine aB (a _) ?_
   refine bh a fun K b=>?_
   refine ai.pure (a _) 4 (n:=0) _ rfl rfl ?_;simp only[*,go_sem,-b,-a]
   refine ai.nil a (b _ _ _ ?_);clear b K
   repeat refine aB (a _) ?_
   refine bh a fun K b=>?_
   refine ai.pure (a _) 2 (n:=0) _ rfl rfl ?_;simp only[*,go_sem,-b,-a]
   refine ai.nil a (b _ _ _ ?_);clear b K
   repeat refine aB (a _) ?_
   refine cH (a _) (by simp only[*,go_sem,-a,-hJ]) ?_
   refine cJ (a _) ?_
   repeat refine aB (a _) ?_
   refine bh a fun K b=>?_
   refine ai.pure (a _) 6 (n:=1) _ rfl rfl ?_;simp only[*,go_sem,-b,-a]
   refine ai.gi (a _) rfl (by first|(simp only[*,go_sem,-b,-a,-hJ];done)|rfl) rfl FZ (by simp only[*,go_sem,-b,-a,-hJ]) l fun r w G f=>?_
   clear l
   obtain ⟨rfl,⟨rfl,rfl⟩|⟨rfl,rfl⟩⟩:=f
   ·
    refine ai.nil a (b _ _ _ ?_);clear b K
    repeat refine aB (a _) ?_
    refine c5 (a _) (by simp only[*,go_sem,-a,-hJ]) ?_
    repeat refine aB (a _) ?_
    refine bh a fun K b=>?_
    refine ai.pure (a _) 4 (n:=0) _ rfl rfl ?_;simp only[*,go_sem,-b,-a]
    refine ai.nil a (b _ _ _ ?_);clear b K
    repeat refine aB (a _) ?_
    refine c5 (a _) (by simp only[*,go_sem,-a,-hJ]) ?_
    repeat refine aB (a _) ?_
    refine bh a fun K b=>?_
    refine ai.pure (a _) 3 (n:=2) _ rfl rfl ?_;simp only[*,go_sem,-b,-a]
    refine uM ⟨x.Wg,1,none⟩ DN lZ DO ⟨_,rfl,(by first|(simp only[*,go_sem,-b,-a,-hJ];done)|rfl),rfl,rfl⟩ (fun _=>rfl) (by simp only[*,go_sem,-b,-a,-hJ]) D9 ?_
    refine K8 Kq ⟨_,_,_,rfl,(by first|(simp only[*,go_sem,-b,-a,-hJ];done)|rfl),rfl,by first|(simp only[*,go_sem,-b,-a,-hJ];done)|(simp only[*,go_sem,-b,-a,-hJ];rfl),rfl⟩ (fun _=>rfl) ?_
    refine ai.nil a (b _ _ _ ?_);clear b K
    repeat refine aB (a _) ?_
    refine bh a fun K b=>?_
    refine ai.pure (a _) 1 (n:=0) _ rfl rfl ?_;simp only[*,go_sem,-b,-a]
    refine ai.nil a (b _ _ _ ?_);clear b K
    repeat refine aB (a _) ?_
    refine bh a fun K b=>?_
    refine ai.pure (a _) 6 (n:=0) _ rfl rfl ?_;simp only[*,go_sem,-b,-a]
    refine ai.nil a (b _ _ _ ?_);clear b K
    repeat refine aB (a _) ?_
    refine cH (a _) (by simp only[*,go_sem,-a,-hJ]) ?_
    refine cJ (a _) ?_
    repeat refine aB (a _) ?_
    refine bh a fun K b=>?_
    refine ai.pure (a _) 4 (n:=1) _ rfl rfl ?_;simp only[*,go_sem,-b,-a]
    refine Ld (.bool false) Kr aG rfl ⟨_,_,_,rfl,(by first|(simp only[*,go_sem,-b,-a,-hJ];done)|rfl),rfl,by first|(simp only[*,go_sem,-b,-a,-hJ];done)|(simp only[*,go_sem,-b,-a,-hJ];rfl),rfl⟩ ?_
    refine ai.nil a (b _ _ _ ?_);clear b K
    repeat refine aB (a _) ?_
    refine bh a fun K b=>?_
    refine ai.pure (a _) 3 (n:=3) _ rfl rfl ?_;simp only[*,go_sem,-b,-a]
    refine ai.gi (a _) rfl (by first|(simp only[*,go_sem,-b,-a,-hJ];done)|rfl) rfl vV (by simp only[*,go_sem,-b,-a,-hJ]) Lo fun r q H f=>?_
    obtain ⟨rfl,rfl,rfl⟩:=f
    refine ai.pure (a _) 2 (n:=0) _ rfl rfl ?_;simp only[*,go_sem,-b,-a]
    refine ai.nil a (b _ _ _ ?_);clear b K
    repeat refine aB (a _) ?_
    refine c5 (a _) (by simp only[*,go_sem,-a,-hJ]) ?_
    repeat refine aB (a _) ?_
    refine bh a fun K b=>?_
    refine D6 lY ⟨_,_,_,rfl,(by first|(simp only[*,go_sem,-b,-a,-hJ];done)|rfl),rfl,by first|(simp only[*,go_sem,-b,-a,-hJ];done)|(simp only[*,go_sem,-b,-a,-hJ];rfl),rfl⟩ (fun e=>by cases e) ?_
    refine ai.nil a (b _ _ _ ?_);clear b K
    repeat refine aB (a _) ?_
    refine bh a fun K b=>?_
    refine ai.pure (a _) 1 (n:=2) _ rfl rfl ?_;simp only[*,go_sem,-b,-a]
    refine uM ⟨x.Wg,0,none⟩ yZ lZ y3 ⟨_,rfl,(by first|(simp only[*,go_sem,-b,-a,-hJ];done)|rfl),rfl,rfl⟩ (fun e=>by cases e) (by simp only[*,go_sem,-b,-a,-hJ]) D8 ?_
    refine D7 uA rfl ⟨_,_,_,rfl,(by first|(simp only[*,go_sem,-b,-a,-hJ];done)|rfl),rfl,by first|(simp only[*,go_sem,-b,-a,-hJ];done)|(simp only[*,go_sem,-b,-a,-hJ];rfl),rfl⟩ ?_
    refine ai.nil a (b _ _ _ ?_);clear b K
    repeat refine aB (a _) ?_
    refine bh a fun K b=>?_
    refine ai.pure (a _) 1 (n:=0) _ rfl rfl ?_;simp only[*,go_sem,-b,-a]
    refine ai.nil a (b _ _ _ ?_);clear b K
    repeat refine aB (a _) ?_
    refine cH (a _) (by simp only[*,go_sem,-a,-hJ]) ?_
    refine cJ (a _) ?_
    exact fC (show j8 Tryz.prog Tryz.f148 (fun (r:Value) (F':aa) (d:Z)=>r= .tuple #[]/\F'=⟨q.ro,(x.Is,(x.cy TT).fin)::q.own⟩/\d=Z.free) .ret _ _ _ from o3 rfl (by simp only[*,go_sem,-a,-hJ]) ⟨rfl,rfl,rfl⟩)
   ·
    refine ai.nil a (b _ _ _ ?_);clear b K
    repeat refine aB (a _) ?_
    refine cH (a _) (by simp only[*,go_sem,-a,-hJ]) ?_
    refine cJ (a _) ?_
    change ∃s,s<m/\Ea x w s _ _ _
    exact ⟨v - 1,by omega,v - 1,Nat.le_refl _,by omega,rfl,(by simp only[*,go_sem,-a,-hJ]),(by simp only[*,go_sem,-a,-hJ]),(by simp only[*,go_sem,-a,-hJ]),rfl⟩
end
end Go.Proofs.YtghbphimkgamkaaGreatDoor
end
section
namespace Go.Sep
open Go Go.Conc
variable {P : Program}
theorem Lt {t e:TypeId}{i:TypeInfo}{n:Nat}{R:Value->aa->Prop}{F:aa}(hu:P.underlying t=some (.slice e))(hi:P.info? e=some i)(hb:i.bytes=1)(hs:b7 P e=some 1)(d:zeroOf P e=some (.bool false))(g:n<1048576)
  (h:∀b,dS F b->R (.slice (some ⟨b,0,none⟩) n n) (F.push b (.cells (List.replicate n (Value.bool false)).toArray e))):eW P (Instr.makeSlice t (.int .i64 n) (.int .i64 n)) R F:=by
 unfold eW
 have hw:IntKind.i64.wrap (n:Int)=(n:Int):=by
  unfold IntKind.wrap
  simp[IntKind.bits,IntKind.signed]
  omega
 have e1:¬((n:Int)<0\/(1:Int)*(n:Int)>2 ^ 48):=by
  have:((2:Int) ^ 48)=281474976710656:=by decide
  omega
 simp only[Instr.makeSlice,bw,dy,hu,Ab,pK,hi,hb,hw]
 have e2:(((n:Int)<0||decide (((1:Nat):Int)*(n:Int)>2 ^ 48))||decide ((n:Int)<0)||decide ((n:Int)>(n:Int)))=false:=by
  have:((2:Int) ^ 48)=281474976710656:=by decide
  simp only[Bool.or_eq_false_iff,decide_eq_false_iff_not]
  omega
 rw[if_neg (by rw[e2];simp)]
 simp only[bw]
 refine vC _ ?_
 simp only[bw,eO,hs,Int.toNat_natCast,Nat.mul_one]
 have fin:∀zero:Array Value,(n≠0->zero=#[.bool false])->aY P (newRow e ((Array.range n).map (fun j=>zero[j % zero.size]!))) (fun a G=>aY P (Pure.pure (Value.slice (some a) n n)) R G) F:=fun zero hzero=>by
  simp only[newRow,bw,pJ,bI]
  have f:((Array.range n).map (fun j=>zero[j % zero.size]!))=(List.replicate n (Value.bool false)).toArray:=by
   rcases Nat.eq_zero_or_pos n with rfl|k
   .simp
   .rw[hzero (by omega)]
    rw[<-Array.toList_inj]
    simp only[Array.toList_map,Array.toList_range]
    apply List.ext_getElem
    .simp
    .intro i l m
     simp[Nat.mod_one]
  rw[f]
  exact ⟨rfl,h⟩
 by_cases c:n=0
 .rw[if_pos c]
  exact fin #[] (fun x=>absurd c x)
 .rw[if_neg c]
  rw[bw,mg,d]
  exact fin #[.bool false] (fun _=>rfl)
section
variable {T : PT} {Φ : Goroutine → aa → Prop} {fi : FuncId}
def zl:Z->Bool| .co _ _ .reg _=>false|_=>true
theorem ZJ.Lu (T:PT)(Φ:Goroutine->aa->Prop)(z:Z)(h:zl z=true):Closed T.P true (ZJ T Φ z):=ZJ.closed T Φ fun x k d e=>by subst e;simp[zl] at h
theorem Eb {P:Program}{main:Bool}{S:Type}{JF:S->Goroutine->aa->Prop}{ph:S}(hJ:Closed P main (JF ph)){c:Code}{Q:Ex->Act->aa->S->Prop}{a:Act}{F F':aa}(hle:Le F F')(h:cO JF fi c Q a F ph):cO JF fi c Q a F' ph:=
 fun b k cs hb d=>hJ.mono hle (h b k cs hb d)
theorem zm {P:Program}{main:Bool}{S:Type}{JF:S->Goroutine->aa->Prop}{ph:S}(hJ:Closed P main (JF ph)){c:Code}{Q:Ex->Act->aa->S->Prop}{a:Act}{F:aa}(h:aQ (keys F.own)->aE F.ro F.own->cO JF fi c Q a F ph):cO JF fi c Q a F ph:=by
 intro b k cs hb d;by_cases hw:∃w,Has F w
 .obtain ⟨w,hw⟩:=hw;refine h ⟨hw.nodup⟩ (fun b hb off sp=>?_) b k cs hb d;cases e:F.ro ⟨b,off,sp⟩ with
  |none=>rfl
  |some v=>exact absurd hb (hw.apart _ v e)
 .exact hJ.step fun w f=>absurd ⟨w,f⟩ hw
end
theorem nE {ro:Addr->Option Value}{b a off:Nat}{sp:Option Nat}{o:Obj}(h:ro ⟨a,off,sp⟩=none)(aG:a≠b):bV ro b o ⟨a,off,sp⟩=none:=by simp[bV,h,aG]
theorem Lv {ro:Addr->Option Value}{b3 b4 b a I M W:Nat}{i o4 g c d e f:Obj}(p:aQ (keys [(W,f),(M,e),(a,c),(I,d),(b,g),(b4,o4),(b3,i)]))(l:aE ro [(W,f),(M,e),(a,c),(I,d),(b,g),(b4,o4),(b3,i)]):
  ∃j,Ext ro j/\Le ⟨j,[(M,e),(W,f),(I,d)]⟩ ⟨ro,[(W,f),(M,e),(a,c),(I,d),(b,g),(b4,o4),(b3,i)]⟩/\
   (∀off v,cellOf i off=some v->j ⟨b3,off,none⟩=some v)/\(∀off v,cellOf o4 off=some v->j ⟨b4,off,none⟩=some v)/\(∀off v,cellOf g off=some v->j ⟨b,off,none⟩=some v)/\(∀off v,cellOf c off=some v->j ⟨a,off,none⟩=some v):=by
 have hd:=p.1
 simp only[keys,List.map_cons,List.map_nil,List.nodup_cons,List.mem_cons,List.not_mem_nil,not_or] at hd
 obtain ⟨⟨-,a1,-,a2,a3,a4,-⟩,⟨G,-,H,J,K,-⟩,⟨c1,c2,c3,c4,-⟩,⟨i1,i2,i3,-⟩,⟨e1,e2,-⟩,⟨r,-⟩,-⟩:=hd
 have r3:∀off sp,ro ⟨b3,off,sp⟩=none:=l b3 (by simp[keys])
 have s:∀off sp,ro ⟨b4,off,sp⟩=none:=l b4 (by simp[keys])
 have t:∀off sp,ro ⟨b,off,sp⟩=none:=l b (by simp[keys])
 have u:∀off sp,ro ⟨a,off,sp⟩=none:=l a (by simp[keys])
 clear l p
 have w:b4≠b3:=r
 have x:b≠b3:=e2
 have y:b≠b4:=e1
 have z:a≠b3:=c4
 have A:a≠b4:=c3
 have B:a≠b:=c2
 let s1:=bV ro b3 i
 let s2:=bV s1 b4 o4
 let k:=bV s2 b g
 let n:=bV k a c
 have C:Ext ro s1:=gq _ _ _
 have q:Ext s1 s2:=gq _ _ _
 have o:Ext s2 k:=gq _ _ _
 have m:Ext k n:=gq _ _ _
 have t4:∀off sp,s1 ⟨b4,off,sp⟩=none:=fun off sp=>nE (s off sp) w
 have t7:∀off sp,s2 ⟨b,off,sp⟩=none:=fun off sp=>nE (nE (t off sp) x) y
 have t8:∀off sp,k ⟨a,off,sp⟩=none:=fun off sp=>nE (nE (nE (u off sp) z) A) B
 have k1:Le ⟨s1,[(W,f),(M,e),(a,c),(I,d),(b,g),(b4,o4)]⟩ ⟨ro,[(W,f),(M,e),(a,c),(I,d),(b,g),(b4,o4),(b3,i)]⟩:=
  ku (by simp[lk, *]) (by simp) (by simp[au,Ne.symm, *])
 have D:Le ⟨s2,[(W,f),(M,e),(a,c),(I,d),(b,g)]⟩ ⟨s1,[(W,f),(M,e),(a,c),(I,d),(b,g),(b4,o4)]⟩:=
  ku (by simp[lk, *]) (by simp) (by simp[au,Ne.symm, *])
 have E:Le ⟨k,[(W,f),(M,e),(a,c),(I,d)]⟩ ⟨s2,[(W,f),(M,e),(a,c),(I,d),(b,g)]⟩:=
  ku (by simp[lk, *]) (by simp) (by simp[au,Ne.symm, *])
 have F:Le ⟨n,[(W,f),(M,e),(I,d)]⟩ ⟨k,[(W,f),(M,e),(a,c),(I,d)]⟩:=
  ku (by simp[lk, *]) (by simp) (by simp[au,Ne.symm, *])
 refine ⟨n,((C.trans q).trans o).trans m,AT.trans (((F.trans E).trans D).trans k1),fun off v h=>?_,fun off v h=>?_,fun off v h=>?_,fun off v h=>?_⟩
 .exact m _ _ (o _ _ (q _ _ ((jd r3).trans h)))
 .exact m _ _ (o _ _ ((jd t4).trans h))
 .exact m _ _ ((jd t7).trans h)
 .exact (jd t8).trans h
theorem Lx {ro:Addr->Option Value}{a b2:Nat}{o1 o2:Obj}(d:aQ (keys [(b2,o2),(a,o1)]))(c:aE ro [(b2,o2),(a,o1)]):
  ∃b,Ext ro b/\Le ⟨b,[]⟩ ⟨ro,[(b2,o2),(a,o1)]⟩/\(∀off v,cellOf o1 off=some v->b ⟨a,off,none⟩=some v)/\(∀off v,cellOf o2 off=some v->b ⟨b2,off,none⟩=some v):=by
 have hd:=d.1
 simp only[keys,List.map_cons,List.map_nil,List.nodup_cons,List.mem_cons,List.not_mem_nil,not_or] at hd
 have r1:∀off sp,ro ⟨a,off,sp⟩=none:=c a (by simp[keys])
 have r2:∀off sp,ro ⟨b2,off,sp⟩=none:=c b2 (by simp[keys])
 have e:b2≠a:=by obtain ⟨⟨z,-⟩,-⟩:=hd;exact z
 have t2:∀off sp,bV ro a o1 ⟨b2,off,sp⟩=none:=fun off sp=>nE (r2 off sp) e
 have k1:Le ⟨bV ro a o1,[(b2,o2)]⟩ ⟨ro,[(b2,o2),(a,o1)]⟩:=ku (by simp[lk, *]) (by simp) (by simp[au,Ne.symm, *])
 have f:Le ⟨bV (bV ro a o1) b2 o2,[]⟩ ⟨bV ro a o1,[(b2,o2)]⟩:=ku (by simp only[lk];simp) (by simp) trivial
 exact ⟨_,(gq _ _ _).trans (gq _ _ _),f.trans k1,fun off v h=>gq _ _ _ _ _ ((jd r1).trans h),fun off v h=>(jd t2).trans h⟩
theorem Ly {T:PT}{Φ:Goroutine->aa->Prop}{x:X}{k:Nat}{ops:Array Oper}{j n:Nat}{Q:Act->aa->Z->Prop}{a:Act}{F:aa}{fi:FuncId}(b:k<x.n){y:Operand}{f0:FuncId}{dj:Array TypeId}{caps:Array Value}(c:nB ops j a (.go {callee:=.value y,args:=#[],argTypes:=dj}) none)(d:ev a y= .func (.func f0) #[] caps)
  (hW:Wk (x.cy T) k ⟨.idle,.cnt,false,0⟩ (born T.P {target:=.fn (.func f0) caps,args:=#[]}) ⟨F.ro,[]⟩) (h:ai (ZJ T Φ) fi ops (j+1) n Q (bg a none undef) F (.co x (k+1) (.opn 0) 0)):ai (ZJ T Φ) fi ops j (n+1) Q a F (.co x k (.opn 1) 0):=by
 obtain ⟨o,e,hg,f,hd⟩:=c
 have e1:execOp a.eval o=(pure (.spawn {target:=.fn (.func f0) caps,args:=#[]}):Sem Next):=by
  unfold execOp
  have e0:(#[]:Array Value)++Array.map (ev a) #[]=#[]:=by simp
  simp only[f,resolve,eD,d,Deferred.ofValue,e0]
  rfl
 refine Lf (fv:=y) b e hg (fun w=>?_) rfl hW (by rw[hd];exact h)
 rw[e1]
 exact ⟨rfl,rfl⟩
end Go.Sep
end
section
namespace Go.Proofs.YtghbphimkgamkaaGreatDoor
open Go Go.Sep Go.Proofs Go.Conc
open Go.ConcN (upd upd_same)
open Go.ConcM (muA msA)
open Go.ConcR (stA smA)
set_option maxRecDepth 100000
set_option maxHeartbeats 4000000
attribute [local go_sem] Int.reduceBEq Int.reduceBNe muA msA stA smA
def Lz (Wg:Nat)(st:Bool)(F:aa)(m:Nat)(a:Act)(F':aa)(ph:Ph):Prop:=
 ∃t8:Int,F'=F/\slot a 0= .pointer (some ⟨Wg,0,none⟩)/\slot a 8= .int .u32 t8/\sz a=117/\a.defers=[dcall 168 #[]]/\((m=1/\t8=1/\ph=⟨.fin,.sm,st,1⟩)\/(m=0/\t8=0/\ph=⟨.fin,.gone,st,1⟩))
theorem LA {f:FuncId}{R:Value->aa->Ph->Prop}{a:Act}{F:aa}{ph:Ph}{b:Nat}(hd:a.defers=[dcall f #[]])(hg:ph.gp= .gone)(h:ph.deaf=b+1)(c:R (.tuple #[]) F {ph with deaf:=b}):kZ f R .normal a F ph:=⟨hd,hg,b,h,c⟩
theorem uN {f:FuncId}{R:Value->aa->Ph->Prop}{a:Act}{F:aa}{ph:Ph}{b:Nat}(hd:a.defers=[dcall f #[]])(hg:ph.gp= .gone)(h:ph.deaf=b+1)(c:R (.tuple #[]) F {ph with deaf:=b}):kZ f R .ret a F ph:=⟨hd,hg,b,h,c⟩
section
variable {Mu Wg Is n base T0 i : Nat} {bs : Nat → Bool} {st : Bool} {F : aa}
theorem LB (aG:Mu≠Wg/\Mu≠Is/\Wg≠Is)(s:n<67108864){mp:Mp}(u:mp= .idle\/mp= .fin)(w:st=bs i):
  cI Tryz.prog (WJ (CY Mu Wg Is n bs base T0) i) 141 #[.pointer (some (stA Wg)),.int .i64 (-1)] F ⟨mp,.cnt,st,0⟩
   (fun r F' aK=>r= .tuple #[]/\F'=F/\aK=⟨.fin,.gone,st,0⟩):=by
 have a:=WJ.ey (CY Mu Wg Is n bs base T0) i
 refine cI.KX lY Tryz.func141 rfl rfl Tryz.ntmps141 (by simp) fun A h hd hs=>?_
 have hJ:True:=trivial
 have y:=hs 0
 have k1:=hs 1
 clear hs
 subst w
 have c1:decide ((-1:Int)<0)=true:=by decide
 have c2:decide ((-1:Int)>0)=false:=by decide
 repeat refine aB (a _) ?_
 refine c5 (a _) (by simp only[*,go_sem,-a,-hJ]) ?_
 repeat refine aB (a _) ?_
 refine bh a fun K b=>?_
 refine ai.pure (a _) 2 (n:=0) _ rfl rfl ?_;simp only[*,go_sem,-b,-a]
 refine ai.nil a (b _ _ _ ?_);clear b K
 repeat refine aB (a _) ?_
 refine c5 (a _) (by simp only[*,go_sem,-a,-hJ]) ?_
 repeat refine aB (a _) ?_
 refine bh a fun K b=>?_
 refine ai.pure (a _) 1 (n:=2) _ rfl rfl ?_;simp only[*,go_sem,-b,-a]
 refine uG ⟨Wg,0,none⟩ yZ lZ y3 ⟨_,rfl,(by first|(simp only[*,go_sem,-b,-a,-hJ];done)|rfl),rfl,rfl⟩ (by simp) (by simp only[*,go_sem,-b,-a,-hJ]) KZ ?_
 refine KA DH ⟨_,_,_,rfl,(by first|(simp only[*,go_sem,-b,-a,-hJ];done)|rfl),rfl,by first|(simp only[*,go_sem,-b,-a,-hJ];done)|(simp only[*,go_sem,-b,-a,-hJ];rfl),rfl⟩ rfl rfl u rfl ?_
 refine ai.nil a (b _ _ _ ?_);clear b K
 repeat refine aB (a _) ?_
 refine bh a fun K b=>?_
 refine y9 rz ⟨_,_,_,rfl,(by first|(simp only[*,go_sem,-b,-a,-hJ];done)|rfl),rfl,by first|(simp only[*,go_sem,-b,-a,-hJ];done)|(simp only[*,go_sem,-b,-a,-hJ];rfl),rfl⟩ (by simp) (by simp) ?_
 refine ai.nil a (b _ _ _ ?_);clear b K
 repeat refine aB (a _) ?_
 refine bh a fun K b=>?_
 refine ai.defer (a _) rfl (by first|(simp only[*,go_sem,-b,-a,-hJ];done)|rfl) rfl rfl (by simp;rfl) fun g e1 e2 l=>?_
 have l0:slot g 0= .pointer (some ⟨Wg,0,none⟩):=(e1 0).trans (by simp only[*,go_sem,-a,-hJ])
 have z:slot g 1= .int .i64 (-1):=(e1 1).trans (by simp only[*,go_sem,-a,-hJ])
 replace h:sz g=117:=e2.trans (by simp only[*,go_sem,-a,-hJ])
 replace hd:g.defers=[dcall 168 #[]]:=l.trans (by simp only[*,go_sem,-a,-hJ])
 clear e1 e2 l y k1
 refine ai.nil a (b _ _ _ ?_);clear b K
 repeat refine aB (a _) ?_
 refine bh a fun K b=>?_
 refine ai.pure (a _) 1 (n:=0) _ rfl rfl ?_;simp only[*,go_sem,-b,-a]
 refine ai.nil a (b _ _ _ ?_);clear b K
 repeat refine aB (a _) ?_
 refine bh a fun K b=>?_
 refine ai.entry (.bool false) (a _) DL ⟨_,_,_,rfl,(by first|(simp only[*,go_sem,-b,-a,-hJ];done)|rfl),rfl,by first|(simp only[*,go_sem,-b,-a,-hJ];done)|(simp only[*,go_sem,-b,-a,-hJ];rfl),rfl⟩ ?_
 refine ai.nil a (b _ _ _ ?_);clear b K
 repeat refine aB (a _) ?_
 refine cH (a _) (by simp only[*,go_sem,-a,-hJ]) ?_
 refine cJ (a _) ?_
 have w1:IntKind.u64.wrap (-1)=18446744073709551615:=by decide
 have w2:IntKind.u64.wrap (18446744073709551615*2 ^ min 32 64)=18446744069414584320:=by decide
 repeat refine aB (a _) ?_
 refine bh a fun K b=>?_
 refine ai.pure (a _) 6 (n:=2) _ rfl rfl ?_;simp only[*,go_sem,-b,-a]
 refine ai.gi (a _) rfl (by first|(simp only[*,go_sem,-b,-a,-hJ];done)|rfl) rfl AR (by simp only[*,go_sem,-b,-a,-hJ]) (K0 aG s) fun r F' aK f=>?_
 obtain ⟨rfl,v,t,o,ht,rfl,rfl⟩:=f
 obtain ⟨x,d⟩:∃x:Int,x=(v:Int)*4294967296+(t:Int):=⟨_,rfl⟩
 rw[<-d]
 have a1:iC x 2147483648=0:=by show k3 x 2147483648=0;rw[d];exact zg v t (by omega) ht
 have a2:iC x 2147483647=(t:Int):=by show k3 x 2147483647=(t:Int);rw[d];exact zh v t (by omega) ht
 have a3:x.fdiv (2 ^ min 32 64)=(v:Int):=by rw[d];exact zi v t ht
 have a4:IntKind.i32.wrap (v:Int)=(v:Int):=iP (by omega) (by omega)
 have a5:IntKind.u32.wrap (t:Int)=(t:Int):=by
  unfold IntKind.wrap
  simp[IntKind.bits,IntKind.signed]
  omega
 have j:v=0->t=1->((1:Int) != x)=false:=fun e B=>by rw[d,e,B];rfl
 clear d
 refine ai.pure (a _) 1 (n:=0) _ rfl rfl ?_;simp only[*,go_sem,-b,-a]
 refine ai.nil a (b _ _ _ ?_);clear b K
 repeat refine aB (a _) ?_
 refine bh a fun K b=>?_
 refine ai.pure (a _) 7 (n:=0) _ rfl rfl ?_;simp only[*,go_sem,-b,-a]
 refine ai.nil a (b _ _ _ ?_);clear b K
 repeat refine aB (a _) ?_
 refine cH (a _) (by simp only[*,go_sem,-a,-hJ]) ?_
 refine cJ (a _) ?_
 repeat refine aB (a _) ?_
 refine bh a fun K b=>?_
 refine ai.pure (a _) 4 (n:=0) _ rfl rfl ?_;simp only[*,go_sem,-b,-a]
 refine ai.nil a (b _ _ _ ?_);clear b K
 repeat refine aB (a _) ?_
 refine bh a fun K b=>?_
 refine ai.pure (a _) 4 (n:=0) _ rfl rfl ?_;simp only[*,go_sem,-b,-a]
 refine ai.nil a (b _ _ _ ?_);clear b K
 repeat refine aB (a _) ?_
 refine bh a fun K b=>?_
 refine ai.pure (a _) 10 (n:=0) _ rfl rfl ?_;simp only[*,go_sem,-b,-a]
 refine ai.nil a (b _ _ _ ?_);clear b K
 repeat refine aB (a _) ?_
 refine cH (a _) (by simp only[*,go_sem,-a,-hJ]) ?_
 refine cJ (a _) ?_
 have c3:decide ((v:Int)<0)=false:=by simp
 repeat refine aB (a _) ?_
 refine bh a fun K b=>?_
 refine ai.pure (a _) 2 (n:=0) _ rfl rfl ?_;simp only[*,go_sem,-b,-a]
 refine ai.nil a (b _ _ _ ?_);clear b K
 repeat refine aB (a _) ?_
 refine cH (a _) (by simp only[*,go_sem,-a,-hJ]) ?_
 refine cJ (a _) ?_
 have p:t=0\/t=1:=by omega
 by_cases hC:v=0/\t=1
 ·
  obtain ⟨rfl,rfl⟩:=hC
  have C:((1:Int) != x)=false:=j rfl rfl
  have hg:(if (0:Nat)=0/\(1:Nat)=1 then Gp.ld else Gp.gone)= .ld:=rfl
  rw[hg]
  have D:((1:Nat):Int)=1:=rfl
  clear hg j p o ht
  repeat refine aB (a _) ?_
  refine bh a fun K b=>?_
  refine ai.pure (a _) 12 (n:=0) _ rfl rfl ?_;simp only[*,go_sem,-b,-a]
  refine ai.nil a (b _ _ _ ?_);clear b K
  repeat refine aB (a _) ?_
  refine cH (a _) (by simp only[*,go_sem,-a,-hJ]) ?_
  refine cJ (a _) ?_
  repeat refine aB (a _) ?_
  refine bh a fun K b=>?_
  refine ai.pure (a _) 6 (n:=0) _ rfl rfl ?_;simp only[*,go_sem,-b,-a]
  refine ai.nil a (b _ _ _ ?_);clear b K
  repeat refine aB (a _) ?_
  refine cH (a _) (by simp only[*,go_sem,-a,-hJ]) ?_
  refine cJ (a _) ?_
  repeat refine aB (a _) ?_
  refine bh a fun K b=>?_
  refine ai.pure (a _) 3 (n:=3) _ rfl rfl ?_;simp only[*,go_sem,-b,-a]
  refine ai.gi (a _) rfl (by first|(simp only[*,go_sem,-b,-a,-hJ];done)|rfl) rfl vV (by simp only[*,go_sem,-b,-a,-hJ]) K1 fun r F' aK f=>?_
  obtain ⟨rfl,rfl,rfl⟩:=f
  refine ai.pure (a _) 2 (n:=0) _ rfl rfl ?_;simp only[*,go_sem,-b,-a]
  refine ai.nil a (b _ _ _ ?_);clear b K
  repeat refine aB (a _) ?_
  refine cH (a _) (by simp only[*,go_sem,-a,-hJ]) ?_
  refine cJ (a _) ?_
  repeat refine aB (a _) ?_
  refine bh a fun K b=>?_
  refine ai.pure (a _) 3 (n:=1) _ rfl rfl ?_;simp only[*,go_sem,-b,-a]
  refine ai.gi (a _) rfl (by first|(simp only[*,go_sem,-b,-a,-hJ];done)|rfl) rfl FW (by simp only[*,go_sem,-b,-a,-hJ]) (K2 aG) fun r F' aK f=>?_
  obtain ⟨rfl,rfl,rfl⟩:=f
  refine ai.nil a (b _ _ _ ?_);clear b K
  repeat refine aB (a _) ?_
  refine bh a fun K b=>?_
  refine ai.pure (a _) 1 (n:=0) _ rfl rfl ?_;simp only[*,go_sem,-b,-a]
  refine ai.nil a (b _ _ _ ?_);clear b K
  repeat refine aB (a _) ?_
  refine cH (a _) (by simp only[*,go_sem,-a,-hJ]) ?_
  refine cJ (a _) ?_
  repeat refine aB (a _) ?_
  refine j7 a ?_
  refine ry a (Lz Wg (bs i) F') 1 ?_ ?_
  .exact ⟨1,rfl,(by simp only[*,go_sem,-a,-hJ]),(by simp only[*,go_sem,-a,-hJ]),(by simp only[*,go_sem,-a,-hJ]),(by simp only[*,go_sem,-a,-hJ]),.inl ⟨rfl,rfl,rfl⟩⟩
  .clear l0 z h hd c1 c2 c3 C a1 a2 a3 a4 a5 w1 w2 D
   rintro m A E H ⟨t8,rfl,l0,I,h,hd,⟨rfl,rfl,rfl⟩|⟨rfl,rfl,rfl⟩⟩
   .have G:((1:Int) != 0)=true:=rfl
    have w3:IntKind.u32.wrap (1 - 1)=0:=by decide
    repeat refine aB (a _) ?_
    refine bh a fun K b=>?_
    refine ai.pure (a _) 2 (n:=0) _ rfl rfl ?_;simp only[*,go_sem,-b,-a]
    refine ai.nil a (b _ _ _ ?_);clear b K
    repeat refine aB (a _) ?_
    refine c5 (a _) (by simp only[*,go_sem,-a,-hJ]) ?_
    refine cJ (a _) ?_
    repeat refine aB (a _) ?_
    refine j7 a ?_
    repeat refine aB (a _) ?_
    refine bh a fun K b=>?_
    refine ai.pure (a _) 3 (n:=1) _ rfl rfl ?_;simp only[*,go_sem,-b,-a]
    refine KV (.bool false) (.int .i64 0) Ks aG ⟨_,_,_,rfl,(by first|(simp only[*,go_sem,-b,-a,-hJ];done)|rfl),rfl,by first|(simp only[*,go_sem,-b,-a,-hJ];done)|(simp only[*,go_sem,-b,-a,-hJ];rfl),rfl⟩ (by rfl) ?_
    refine ai.nil a (b _ _ _ ?_);clear b K
    repeat refine aB (a _) ?_
    refine bh a fun K b=>?_
    refine ai.pure (a _) 3 (n:=0) _ rfl rfl ?_;simp only[*,go_sem,-b,-a]
    refine ai.nil a (b _ _ _ ?_);clear b K
    exact ⟨0,by omega,0,rfl,(by simp only[*,go_sem,-a,-hJ]),(by simp only[*,go_sem,-a,-hJ]),(by simp only[*,go_sem,-a,-hJ]),(by simp only[*,go_sem,-a,-hJ]),.inr ⟨rfl,rfl,rfl⟩⟩
   .have G:((0:Int) != 0)=false:=rfl
    repeat refine aB (a _) ?_
    refine bh a fun K b=>?_
    refine ai.pure (a _) 2 (n:=0) _ rfl rfl ?_;simp only[*,go_sem,-b,-a]
    refine ai.nil a (b _ _ _ ?_);clear b K
    repeat refine aB (a _) ?_
    refine cH (a _) (by simp only[*,go_sem,-a,-hJ]) ?_
    exact oZ (show kZ 168 (fun r c aK=>r= .tuple #[]/\c=E/\aK=⟨.fin,.gone,bs i,0⟩) .normal _ _ _ from LA (by simp only[*,go_sem,-a,-hJ]) rfl rfl ⟨rfl,rfl,rfl⟩)
 ·
  rw[if_neg hC]
  have q:(0<v/\decide ((v:Int)>0)=true)\/(v=0/\decide ((v:Int)>0)=false/\((t:Int)==0)=true):=by
   rcases Nat.eq_zero_or_pos v with e|e
   .refine .inr ⟨e,by simp[e],?_⟩
    obtain rfl:t=0:=by omega
    rfl
   .exact .inl ⟨e,by simp;omega⟩
  have a7:((t:Int) != 0)=false\/((t:Int) != 0)=true:=by cases ((t:Int) != 0)<;>simp
  clear j hC o ht p
  rcases a7 with a7|a7
  .repeat refine aB (a _) ?_
   refine bh a fun K b=>?_
   refine ai.pure (a _) 12 (n:=0) _ rfl rfl ?_;simp only[*,go_sem,-b,-a]
   refine ai.nil a (b _ _ _ ?_);clear b K
   repeat refine aB (a _) ?_
   refine cH (a _) (by simp only[*,go_sem,-a,-hJ]) ?_
   refine cJ (a _) ?_
   rcases q with ⟨_,k⟩|⟨_,k,b2⟩
   .repeat refine aB (a _) ?_
    refine bh a fun K b=>?_
    refine ai.pure (a _) 6 (n:=0) _ rfl rfl ?_;simp only[*,go_sem,-b,-a]
    refine ai.nil a (b _ _ _ ?_);clear b K
    repeat refine aB (a _) ?_
    refine c5 (a _) (by simp only[*,go_sem,-a,-hJ]) ?_
    exact fC (show kZ 168 (fun r c aK=>r= .tuple #[]/\c=F'/\aK=⟨.fin,.gone,bs i,0⟩) .ret _ _ _ from uN (by simp only[*,go_sem,-a,-hJ]) rfl rfl ⟨rfl,rfl,rfl⟩)
   .repeat refine aB (a _) ?_
    refine bh a fun K b=>?_
    refine ai.pure (a _) 6 (n:=0) _ rfl rfl ?_;simp only[*,go_sem,-b,-a]
    refine ai.nil a (b _ _ _ ?_);clear b K
    repeat refine aB (a _) ?_
    refine c5 (a _) (by simp only[*,go_sem,-a,-hJ]) ?_
    exact fC (show kZ 168 (fun r c aK=>r= .tuple #[]/\c=F'/\aK=⟨.fin,.gone,bs i,0⟩) .ret _ _ _ from uN (by simp only[*,go_sem,-a,-hJ]) rfl rfl ⟨rfl,rfl,rfl⟩)
  .repeat refine aB (a _) ?_
   refine bh a fun K b=>?_
   refine ai.pure (a _) 12 (n:=0) _ rfl rfl ?_;simp only[*,go_sem,-b,-a]
   refine ai.nil a (b _ _ _ ?_);clear b K
   repeat refine aB (a _) ?_
   refine cH (a _) (by simp only[*,go_sem,-a,-hJ]) ?_
   refine cJ (a _) ?_
   rcases q with ⟨_,k⟩|⟨_,k,b2⟩
   .repeat refine aB (a _) ?_
    refine bh a fun K b=>?_
    refine ai.pure (a _) 6 (n:=0) _ rfl rfl ?_;simp only[*,go_sem,-b,-a]
    refine ai.nil a (b _ _ _ ?_);clear b K
    repeat refine aB (a _) ?_
    refine c5 (a _) (by simp only[*,go_sem,-a,-hJ]) ?_
    exact fC (show kZ 168 (fun r c aK=>r= .tuple #[]/\c=F'/\aK=⟨.fin,.gone,bs i,0⟩) .ret _ _ _ from uN (by simp only[*,go_sem,-a,-hJ]) rfl rfl ⟨rfl,rfl,rfl⟩)
   .repeat refine aB (a _) ?_
    refine bh a fun K b=>?_
    refine ai.pure (a _) 6 (n:=0) _ rfl rfl ?_;simp only[*,go_sem,-b,-a]
    refine ai.nil a (b _ _ _ ?_);clear b K
    repeat refine aB (a _) ?_
    refine c5 (a _) (by simp only[*,go_sem,-a,-hJ]) ?_
    exact fC (show kZ 168 (fun r c aK=>r= .tuple #[]/\c=F'/\aK=⟨.fin,.gone,bs i,0⟩) .ret _ _ _ from uN (by simp only[*,go_sem,-a,-hJ]) rfl rfl ⟨rfl,rfl,rfl⟩)
end
end Go.Proofs.YtghbphimkgamkaaGreatDoor
end
section
namespace Go.Sep
open Go Go.Conc
open Go.ConcN (sumTo upd upd_ne upd_same)
def jE (P:Program):Frame:={(default:Frame) with fn:=P.funcs.size,defers:=[],mode:=.panicking [goexitEntry]}
section
variable {P : Program} {f : FuncId} {fn : Func} {cd : Code} {w : World} {caps args : Array Value}
theorem LC (a:P.funcs[f]?=some fn)(b:(fn.name== "runtime.NumGoroutine")=false)(hb:fn.body=some cd):
  stepG P false (born P {target:=.fn (.func f) caps,args:=args}) w= .go (G ((baseD f).at {tmps:=args++caps++Array.replicate (fn.ntmps - (args++caps).size) undef,defers:=[]} [.code cd]) [jE P]) w #[]:=by
 have c:¬fn.name= "runtime.NumGoroutine":=by simpa using b
 rw[<-enter_atD (args++caps) a hb]
 simp[born,G,stepG,unwind,callDeferred,invoke,callFunc,a,c,hb,GStep.after,seen_none,jE]
theorem LD {b:Frame}{a:Act}{todo:List Item}(d:b.kind= .deferred)(hd:a.defers=[])(e:P.funcs[b.fn]?=some fn)(c:fn.results=#[]):
  stepG P false (G {b.at a todo with mode:=.returning} [jE P]) w= .go (G (jE P) []) w #[]:=by
 have he:(results fn a.tmps).events P w #[]=#[]:=events_results_none c _ _
 have f:(results fn a.tmps).run P w= .ok (.tuple #[]) w:=results_none c _ P w
 simp[G,stepG,unwind,doReturn,Frame.at,d,hd,e,f,he,jE,goexitEntry,seen_none,GStep.after]
theorem LF:stepG P false (G (jE P) []) w= .go {frame:=jE P,callers:=[],status:=.finished,dying:=none} w #[]:=by
 have e:(default:Frame).todo=[]:=rfl;simp[G,stepG,unwind,jE,goexitEntry,Frame.catches,e]
end
section
variable {c : Cy} {i : Nat} {F : aa} {f fd : FuncId}
def zn (c:Cy)(i:Nat)(fd:FuncId)(v:Value):Ex->Act->aa->Ph->Prop
 | .exit _,_,_,_=>False
 |_,a,_,ph=>a.defers=[dcall fd #[v]]/\(ph.mp= .idle\/ph.mp= .fin)/\ph.gp= .cnt/\ph.stored=c.bs i/\ph.deaf=0
theorem worker {fn b:Func}{cd l:Code}{n nd:Nat}{v:Value}(m:c.P.funcs[f]?=some fn)(z:(fn.name== "runtime.NumGoroutine")=false)(hb:fn.body=some cd)(B:fn.results=#[])(o:fn.ntmps=n){caps:Array Value}(R:caps.size<=n)
  (C:c.P.funcs[fd]?=some b) (D:(b.name== "runtime.NumGoroutine")=false) (E:b.body=some l) (H:b.results=#[]) (I:b.ntmps=nd) (J:1<=nd)
  (hd:∀(mp:Mp) (F:aa),mp= .idle\/mp= .fin->∀A:Act,sz A=nd->A.defers=[]->(∀j,slot A j=(#[v]:Array Value).getD j undef)->cO (WJ c i) fd l (zf fun F' aK=>aK=⟨.fin,.gone,c.bs i,0⟩) A F ⟨mp,.cnt,c.bs i,0⟩)
  (h:∀A:Act,sz A=n->A.defers=[]->(∀j,slot A j=caps.getD j undef)->cO (WJ c i) f cd (zn c i fd v) A F ⟨.idle,.cnt,false,0⟩):
  Wk c i ⟨.idle,.cnt,false,0⟩ (born c.P {target:=.fn (.func f) caps,args:=#[]}) F:=by
 have p:=WJ.ey c i
 have e0:∀w,stepG c.P false (born c.P {target:=.fn (.func f) caps,args:=#[]}) w= .go (G ((baseD f).at {tmps:=caps++Array.replicate (fn.ntmps - caps.size) undef,defers:=[]} [.code cd]) [jE c.P]) w #[]:=fun w=>by
  have:=LC (P:=c.P) (w:=w) (caps:=caps) (args:=#[]) m z hb
  simpa using this
 refine Wk.act (c:=c) (i:=i) rfl rfl (by simp) fun w s k φ p0 e1 e2 S K L=>.inr ⟨_,w,#[],s,⟨.idle,.cnt,false,0⟩,e0 w,e2,.refl _ _,?_,nC rfl Iff.rfl,.inr dI,?_⟩
 .rw[<-K,y4];exact L
 have out:∀(a:Act) (r:List Item) F' (aK:Ph),(a.defers=[dcall fd #[v]]/\(aK.mp= .idle\/aK.mp= .fin)/\aK.gp= .cnt/\aK.stored=c.bs i/\aK.deaf=0)->WJ c i aK (G {(baseD f).at a r with mode:=.returning} [jE c.P]) F':=by
  intro a r F' aK ⟨k1,t,u,x,y⟩
  obtain ⟨mp,gp,st,T⟩:=aK
  simp only at t u x y
  subst u x y
  refine KY C D E H I (by simpa using J) k1 (fun A M N O=>hd mp F' t A M N O) fun U V Q=>?_
  subst Q
  refine Wk.gone (q:=2) rfl (QuitsD.ctl rfl (fun w=>LD rfl rfl m B) (QuitsD.ctl rfl (fun w=>LF) ⟨rfl,rfl⟩))
 have:=h {tmps:=caps++Array.replicate (fn.ntmps - caps.size) undef,defers:=[]} (by simp[sz,o];omega) rfl (fun j=>?_) (baseD f) [] [jE c.P] ⟨by simp[baseD],rfl,rfl⟩ fun e a F' aK g=>?_
 .rw[eJ rfl] at this;exact this
 .simp only[slot,o,Array.getD_eq_getD_getElem?]
  rcases Nat.lt_or_ge j caps.size with d|d
  .rw[Array.getElem?_append_left d]
  .rw[Array.getElem?_append_right d,Array.getElem?_replicate,Array.getElem?_eq_none d]
   split<;>rfl
 .cases e with
  |normal=>exact (p aK).move (fun _=>mc rfl) (out a _ F' aK g)
  |exit i=>exact g.elim
  |ret=>exact fun W=>(p aK).move (fun _=>stepG_ret' rfl) (out a _ F' aK g)
end
attribute [go_sem] zn
end Go.Sep
end
section
namespace Go.Proofs.YtghbphimkgamkaaGreatDoor
open Go Go.Sep Go.Proofs Go.Conc
open Go.ConcN (upd upd_same)
open Go.ConcM (muA msA)
open Go.ConcR (stA smA)
set_option maxRecDepth 100000
set_option maxHeartbeats 4000000
attribute [local go_sem] Int.reduceBEq Int.reduceBNe muA msA stA smA
theorem LG:(Tryz.prog.funcs[142]?).any (·.norace)=false:=by kernel_rfl
section
variable {Mu Wg Is n base T0 i : Nat} {bs : Nat → Bool}
theorem LH (aG:Mu≠Wg/\Mu≠Is/\Wg≠Is)(x:n<67108864)(a5:i<n){ro:Addr->Option Value}(u0:cT){s1:Value}(o:aA e8 ro s1 u0.book.az){K:Value}(q:aA eF ro K u0.book.props){L:Value}(r:aA eG ro L u0.book.av){M:Value}(s:aA di ro M u0.book.told)
  (z:Int) (B:List Int) {N:Value} (u:aA rI ro N B) (C:List bn) {O:Value} (g:aA jh ro O C) {f b2 b3 b4 P Q:Nat}
  (g0:ro ⟨f,0,none⟩=some (.int .i64 u0.book.bH)) (R:ro ⟨f,1,none⟩=some (.int .i64 u0.book.bM)) (S:ro ⟨f,2,none⟩=some (.int .i64 u0.book.aV.num)) (T:ro ⟨f,3,none⟩=some (.int .i64 u0.book.aV.den)) (U:ro ⟨f,4,none⟩=some s1) (V:ro ⟨f,5,none⟩=some K) (W:ro ⟨f,6,none⟩=some L) (X:ro ⟨f,7,none⟩=some M)
  (Y:ro ⟨b2,0,none⟩=some (.int .i64 z)) (Z:ro ⟨b3,0,none⟩=some N) (ab:ro ⟨b4,0,none⟩=some O) (D:ro ⟨P,0,none⟩=some (.slice (some ⟨Is,0,none⟩) n n)) (E:ro ⟨Q,0,none⟩=some (.int .i64 i))
  (h:ag (s9 u0.book z B) (fun b=>sY b C)=some (bs i)):
  Wk (CY Mu Wg Is n bs base T0) i ⟨.idle,.cnt,false,0⟩ (born Tryz.prog {target:=.fn (.func 142) #[.pointer (some ⟨Wg,0,none⟩),.pointer (some ⟨f,0,none⟩),.pointer (some ⟨b2,0,none⟩),.pointer (some ⟨b3,0,none⟩),.pointer (some ⟨b4,0,none⟩),.pointer (some ⟨Mu,0,none⟩),.pointer (some ⟨P,0,none⟩),.pointer (some ⟨Q,0,none⟩)],args:=#[]}) ⟨ro,[]⟩:=by
 have d:=WJ.ey (CY Mu Wg Is n bs base T0) i
 have hJ:∀ph:Ph,ph.gp= .cnt->Go.Sep.Closed Tryz.prog false (WJ (CY Mu Wg Is n bs base T0) i ph):=fun ph h=>Wk.closed (CY Mu Wg Is n bs base T0) i ph h
 refine worker (c:=CY Mu Wg Is n bs base T0) (i:=i) (fd:=143) (v:=.pointer (some ⟨Wg,0,none⟩)) Tryz.func142 rfl rfl rfl Tryz.ntmps142 (by simp) Tryz.func143 rfl rfl rfl Tryz.ntmps143 (by simp) ?_ ?_
 .intro mp F a6 A G hd hs
  have w:=hs 0
  clear hs h g0 R S T U V W X Y Z ab D E o q r s u g hJ a5
  repeat refine aB (d _) ?_
  refine c6 d ?_
  refine ai.pure (d _) 1 (n:=1) _ rfl rfl ?_;simp only[*,go_sem]
  refine ai.gi (d _) rfl rfl rfl AQ (by simp only[*,go_sem,stA]) (LB aG x a6 rfl) fun v F' aK j=>?_
  obtain ⟨rfl,rfl,rfl⟩:=j
  refine ai.nil d ?_
  exact ⟨(by simp only[*,go_sem]),rfl⟩
 .intro ad G hd hs
  have w:=hs 0
  have k1:=hs 1
  have ae:=hs 2
  have al:=hs 3
  have ao:=hs 4
  have ar:=hs 5
  have a0:=hs 6
  have a2:=hs 7
  clear hs
  repeat refine aB (d _) ?_
  refine c6 d ?_
  refine ai.defer (d _) (vals:=#[.pointer (some ⟨Wg,0,none⟩)]) rfl (by rfl) rfl rfl (by simp only[List.map_toArray,List.map_cons,List.map_nil];rw[show ad.eval (.tmp 0)=slot ad 0 from rfl,w];rfl) fun A e1 e2 H=>?_
  replace w:=(e1 0).trans w
  replace k1:=(e1 1).trans k1
  replace ae:=(e1 2).trans ae
  replace al:=(e1 3).trans al
  replace ao:=(e1 4).trans ao
  replace ar:=(e1 5).trans ar
  replace a0:=(e1 6).trans a0
  replace a2:=(e1 7).trans a2
  replace G:sz A=20:=e2.trans G
  rw[hd] at H
  replace hd:=H
  clear e1 e2 H
  refine ai.nil d ?_;try simp only[go_sem]
  obtain ⟨d3,c4,rfl,a7,a8,a9⟩:=id o
  obtain ⟨d10,dp,rfl,ba,bb,bc⟩:=id q
  obtain ⟨d17,dq,rfl,bd,bj,bk⟩:=id r
  obtain ⟨d24,ds,rfl,bl,bm,bo⟩:=id s
  obtain ⟨d38,dt,rfl,br,bz,bS⟩:=id u
  obtain ⟨d45,du,rfl,b0,b1,I⟩:=id g
  repeat refine aB (d _) ?_
  have l:=hJ ⟨.idle,.cnt,false,0⟩ rfl
  refine cO.of l ?_
  refine F4 l mixed [0,1,2,3,5] [4,6] ⟨ro,[]⟩ (by simp only[*,go_sem,-h]) (by kernel_rfl) ?_
  have b5:=fP h;clear h;obtain ⟨ca,a3,h⟩:=b5
  simp only[*,go_sem,-h,-hJ,-d]
  refine vN l _ (Hz u0.book ⟨o,q,r,s⟩ z B u a3) fun v dv m cb j=>?_
  obtain ⟨dC,dE,dT,ea,rfl,k⟩:=j
  replace g:=g.mono m;clear I;obtain ⟨_,_,I⟩:=g.op
  obtain ⟨d63,eb,rfl,cd,cf,cl⟩:=id k.e
  obtain ⟨d68,ec,rfl,cu,cy,cS⟩:=id k.p
  obtain ⟨d73,ed,rfl,c0,da,db⟩:=id k.y
  obtain ⟨d78,eh,rfl,dd,df,dk⟩:=id k.t
  replace D:=m _ _ D
  replace E:=m _ _ E
  clear g0 R S T U V W X Y Z ab
  refine ⟨⟨m,fun a J=>by simp[keys] at J,trivial⟩,mB ?_⟩
  simp only[*,go_sem,-h,-hJ,-d]
  refine aU l _ (Hl ca (k.mono aN) C (g.mono aN) h) ?_
  refine ⟨⟨m,fun a J=>by simp[keys] at J,trivial⟩,?_⟩
  clear o q r s u g k a9 bc bk bo bS I cl cS db dk h a3 a7 ba bd bl br b0 cd cu c0 dd a8 bb bj bm bz b1 cf cy da df l cb
  have i0:(0:Int)<=(i:Int):=by omega
  have i1:(i:Int)<(n:Int):=by omega
  cases a4:bs i
  .repeat refine aB (d _) ?_
   refine cH (d _) (by simp only[*,go_sem]) ?_
   refine cJ (d _) ?_
   exact ⟨(by simp only[*,go_sem]),.inl rfl,rfl,a4.symm,rfl⟩
  .repeat refine aB (d _) ?_
   refine c5 (d _) (by simp only[*,go_sem]) ?_
   repeat refine aB (d _) ?_
   refine c6 d ?_
   refine ai.gi (d _) rfl (by rfl) rfl FT (by simp only[*,go_sem]) (KN aG x) fun v F' aK j=>?_
   obtain ⟨rfl,rfl,rfl⟩:=j
   refine ai.nil d ?_;try simp only[go_sem]
   repeat refine aB (d _) ?_
   refine c6 d ?_
   refine ai.bB (hJ _ rfl) 3 (n:=1) _ rfl rfl ?_;simp only[*,go_sem]
   refine KD Kt AG LG aG ⟨_,rfl,(by first|rfl|simp only[*,go_sem]),rfl,rfl⟩ (by rfl) (by simp only[*,go_sem]) (by simp only[*,go_sem]) ?_
   refine ai.nil d ?_;try simp only[go_sem]
   repeat refine aB (d _) ?_
   refine c6 d ?_
   refine ai.gi (d _) rfl (by rfl) rfl FU (by simp only[*,go_sem]) (KO aG x) fun v F' aK j=>?_
   obtain ⟨rfl,rfl,rfl⟩:=j
   refine ai.nil d ?_
   exact (show zn _ _ _ _ .normal _ _ _ from ⟨(by simp only[*,go_sem]),.inr rfl,rfl,a4.symm,rfl⟩)
end
end Go.Proofs.YtghbphimkgamkaaGreatDoor
end
section
namespace Go.Proofs.YtghbphimkgamkaaGreatDoor
open Go Go.Sep Go.Proofs Go.Conc
open Go.ConcN (upd upd_same)
open Go.ConcM (muA msA muBlock)
open Go.ConcR (stA smA wgBlock)
set_option maxRecDepth 100000
set_option maxHeartbeats 4000000
attribute [local go_sem] Int.reduceBEq Int.reduceBNe muA msA stA smA
def LI (u0:cT)(a:Int)(c:List bn)(d:List Int):Option Bool:=ag (s9 u0.book a d) fun b=>sY b c
def rE (f:List Int->Option Bool):List (List Int)->Option (List Bool)
 |[]=>some []
 |x::l=>ag (f x) fun b=>ag (rE f l) fun r=>some (b::r)
def zo (a:List Bool)(i23:Nat)(b:List Int)(st:List (List Int)):Option (Fl (List (List Int)) (List (List Int))):=
 ag (bf a (i23:Int)) fun c=>cond (c) (ag (dc st ([b])) fun d=>some (.nx d)) (some (.nx st))
def uO (u0:cT)(b:Int)(a:List (List Int)):Option (List (List Int)):=
 cond (decide (a.length<1048576)) (ag (tv u0) fun c=>ag (rE (LI u0 b c) a) fun bl=>ag (bJ (zo bl) 0 a ([]:List (List Int))) fun o=>aF o (fun d=>some d) (fun _ _=>none) (fun r=>some r)) none
theorem Ec {f:List Int->Option Bool}:∀{l:List (List Int)} {bl:List Bool},rE f l=some bl->bl.length=l.length/\∀(i:Nat) (a:List Int),l[i]?=some a->f a=some (bl[i]?.getD false)
 |[],bl,h=>by
  simp[rE] at h;subst h
  exact ⟨rfl,fun i a hi=>by simp at hi⟩
 |x::l,bl,h=>by
  unfold rE at h
  obtain ⟨b,hb,h⟩:=fP h
  obtain ⟨r,c,h⟩:=fP h
  have h:=Option.some.inj h
  subst h
  obtain ⟨e1,e2⟩:=Ec c
  refine ⟨by simp[e1],fun i a hi=>?_⟩
  cases i with
  |zero=>simp at hi;subst hi;simpa using hb
  |succ i=>simp at hi;simpa using e2 i a hi
def Ed (x:X)(d:Addr->Option Value)(b3 b4 e f:Nat)(b:Value)(m:Nat)(a:Act)(F:aa)(z:Z):Prop:=
 ∃(i:Nat) (c:Addr->Option Value),m=x.n - i/\i<=x.n/\F=⟨c,[]⟩/\Ext d c/\slot a 2=b/\slot a 3= .pointer (some ⟨b3,0,none⟩)/\slot a 4= .pointer (some ⟨b4,0,none⟩)/\slot a 6= .slice none 0 0/\slot a 7= .pointer (some ⟨e,0,none⟩)/\slot a 8= .pointer (some ⟨f,0,none⟩)/\slot a 9= .pointer (some ⟨x.Mu,0,none⟩)/\slot a 10= .pointer (some ⟨x.Wg,0,none⟩)/\slot a 21=b/\slot a 22= .int .i64 x.n/\slot a 23= .int .i64 i/\sz a=49/\a.defers=[]/\z= .co x i (.opn 0) 0
theorem LJ (l:List Bool):(l.map fun b=>[Value.bool b]).flatten=l.map Value.bool:=by
 induction l with
 |nil=>rfl
 |cons b l ih=>simp only[List.map_cons,List.flatten_cons,ih];rfl
theorem LK:Tryz.prog.underlying 182=some (.slice 4):=by kernel_rfl
theorem LL:Tryz.prog.info? 4=some ((Tryz.prog.info? 4).getD default):=by kernel_rfl
theorem Ee {ro:Addr->Option Value}(u0:cT){s1:Value}(q:aA e8 ro s1 u0.book.az){bo:Value}(s:aA eF ro bo u0.book.props){br:Value}(u:aA eG ro br u0.book.av){bs:Value}(w:aA di ro bs u0.book.told){bz:Value}(a4:aA g7 ro bz u0.all)(ae:Int)(d:List (List Int)){bS:Value}(o:aA (rL rI) ro bS d){r:List (List Int)}(h:uO u0 ae d=some r):
  p9 Tryz.prog 85 #[.agg #[.int .i64 u0.book.bH,.int .i64 u0.book.bM,.int .i64 u0.book.aV.num,.int .i64 u0.book.aV.den,s1,bo,br,bs,bz],.int .i64 ae,bS] ro (fun v aM=>∃b0,v=b0/\aA (rL rI) aM b0 r):=by
 refine fK.Lj (T:=TT) fun Φ=>?_
 obtain ⟨d3,c4,rfl,fu,fv,fw⟩:=id q
 obtain ⟨d10,fx,rfl,fz,gg,R⟩:=id s
 obtain ⟨d17,I,rfl,gl,gn,gp⟩:=id u
 obtain ⟨d24,gB,rfl,gC,gM,gT⟩:=id w
 obtain ⟨d31,il,rfl,gV,g0,g1⟩:=id a4
 obtain ⟨d38,b1,rfl,im,b2,C⟩:=id o
 unfold uO at h
 have hlen:d.length<1048576:=by
  rcases Nat.lt_or_ge d.length 1048576 with y|y
  .exact y
  .rw[show decide (d.length<1048576)=false by simp;omega] at h;cases h
 rw[show decide (d.length<1048576)=true by simp;omega] at h
 simp only[cond_true] at h
 obtain ⟨b5,ca,h⟩:=fP h
 obtain ⟨bl,cb,h⟩:=fP h
 obtain ⟨cd,cf⟩:=Ec cb
 have a:=ZJ.ey TT Φ
 have hJ:=fun (z:Z) (S:zl z=true)=>ZJ.Lu TT Φ z S
 refine cI.go (main:=true) a Tryz.func85 rfl Tryz.ntmps85 (by simp) fun A S hd hs=>?_
 have g2:=hs 0
 have k1:=hs 1
 have cl:=hs 2
 clear hs cb
 repeat refine aB (a _) ?_
 refine bh a fun K c=>?_
 refine ai.bB (hJ _ rfl) 3 (n:=0) _ rfl rfl ?_;simp only[*,go_sem,-c,-a,-hJ]
 intro b3 f3;have r3:=eK f3;have n3:=fI f3
 try simp only[au] at n3
 intro b4 f4;have g3:=eK f4;have cu:=fI f4
 try simp only[au] at cu
 try simp only[*,go_sem,-c,-a,-hJ,-h]
 refine ai.nil a (c _ _ _ ?_);clear c K
 have p:=hJ .free rfl
 repeat refine aB (a _) ?_
 refine bh a fun K c=>?_
 refine ai.bB (hJ _ rfl) 4 (n:=0) _ rfl rfl ?_;simp only[*,go_sem,-c,-a,-hJ]
 refine vN p _ (BK u0 ⟨q,s,u,w⟩ a4 ca) fun v iv J g4 U=>?_
 obtain ⟨ix,rfl,L⟩:=U
 replace q:=q.mono J
 replace s:=s.mono J
 replace u:=u.mono J
 replace w:=w.mono J
 replace o:=o.mono J
 obtain ⟨d45,ha,rfl,hc,hf,hg⟩:=id L
 clear fw R gp gT g1 C hg r3 g3
 refine aJ ?_
 try simp only[*,go_sem,-c,-a,-hJ,-h,-p]
 intro a5 f7;have hh:=eK f7;have cS:=fI f7
 try simp only[au] at cS
 try simp only[*,go_sem,-c,-a,-hJ,-h,-p]
 refine ai.nil a (c _ _ _ ?_);clear c K
 repeat refine aB (a _) ?_
 refine bh a fun K c=>?_
 refine ai.bB (hJ _ rfl) 5 (n:=0) _ rfl rfl ?_;simp only[*,go_sem,-c,-a,-hJ]
 refine Lt LK LL rfl AG FH hlen fun k a6=>?_
 have rI:=eK a6;have nI:=fI a6
 try simp only[au] at nI
 refine aJ ?_
 try simp only[*,go_sem,-c,-a,-hJ,-h,-p]
 intro V f8;have hj:=eK f8;have c0:=fI f8
 try simp only[au] at c0
 try simp only[*,go_sem,-c,-a,-hJ,-h,-p]
 refine ai.nil a (c _ _ _ ?_);clear c K
 repeat refine aB (a _) ?_
 refine bh a fun K c=>?_
 refine ai.bB (hJ _ rfl) 1 (n:=0) _ rfl rfl ?_;simp only[*,go_sem,-c,-a,-hJ]
 intro M f9;have hk:=eK f9;have da:=fI f9
 try simp only[au] at da
 try simp only[*,go_sem,-c,-a,-hJ,-h,-p]
 refine ai.nil a (c _ _ _ ?_);clear c K
 repeat refine aB (a _) ?_
 refine bh a fun K c=>?_
 refine ai.bB (hJ _ rfl) 1 (n:=0) _ rfl rfl ?_;simp only[*,go_sem,-c,-a,-hJ]
 intro N f10;have hl:=eK f10;have db:=fI f10
 try simp only[au] at db
 try simp only[*,go_sem,-c,-a,-hJ,-h,-p]
 refine ai.nil a (c _ _ _ ?_);clear c K
 repeat refine aB (a _) ?_
 refine bh a fun K c=>?_
 refine ai.bB (hJ _ rfl) 3 (n:=0) _ rfl rfl ?_;simp only[*,go_sem,-c,-a,-hJ]
 refine ai.nil a (c _ _ _ ?_);clear c K
 refine zm p fun nd no=>?_
 obtain ⟨al,D,hle,B,dd,df,dk⟩:=Lv nd no
 clear nd no
 refine Lg (T:=TT) (Φ:=Φ) ⟨al,[]⟩ M N k d.length (fun i=>bl[i]?.getD false) hle ?_
 intro base B0 T0 hn aG
 clear hle
 have ao:d.length<67108864:=by omega
 replace q:=q.mono D
 replace s:=s.mono D
 replace u:=u.mono D
 replace w:=w.mono D
 replace o:=o.mono D
 replace L:=L.mono D
 have dp:=B 0 (.int .i64 u0.book.bH) rfl
 have dq:=B 1 (.int .i64 u0.book.bM) rfl
 have ds:=B 2 (.int .i64 u0.book.aV.num) rfl
 have dt:=B 3 (.int .i64 u0.book.aV.den) rfl
 have du:=B 4 (.slice d3 u0.book.az.length c4) rfl
 have dv:=B 5 (.slice d10 u0.book.props.length fx) rfl
 have dC:=B 6 (.slice d17 u0.book.av.length I) rfl
 have dE:=B 7 (.slice d24 u0.book.told.length gB) rfl
 have dT:=dd 0 (.int .i64 ae) rfl
 have ea:=df 0 (.slice d45 b5.length ha) rfl
 have a7:=dk 0 (.slice (some ⟨k,0,none⟩) d.length d.length) rfl
 clear B dd df dk f3 f4 f7 f8 f9 f10 a6 n3 cu cS c0 da db nI hh hj hk hl rI g4
 repeat refine aB (a _) ?_
 refine j7 a ?_
 refine ry a (Ed (⟨M,N,k,d.length,(fun i=>bl[i]?.getD false),base,T0,B0⟩:X) al b3 b4 a5 V (.slice d38 d.length b1)) d.length ?_ ?_
 .exact ⟨0,al,rfl,Nat.zero_le _,rfl,Ext.refl _,(by simp only[*,go_sem,-a,-hJ]),(by simp only[*,go_sem,-a,-hJ]),(by simp only[*,go_sem,-a,-hJ]),(by simp only[*,go_sem,-a,-hJ]),(by simp only[*,go_sem,-a,-hJ]),(by simp only[*,go_sem,-a,-hJ]),(by simp only[*,go_sem,-a,-hJ]),(by simp only[*,go_sem,-a,-hJ]),(by simp only[*,go_sem,-a,-hJ]),(by simp only[*,go_sem,-a,-hJ]),(by simp only[*,go_sem,-a,-hJ]),(by simp only[*,go_sem,-a,-hJ]),(by simp only[*,go_sem,-a,-hJ]),rfl⟩
 clear g2 k1 cl S hd
 rintro m A F' eb ⟨i,P,rfl,hi,rfl,e,cl,ho,hp,jC,hq,j1,hr,ht,hv,hx,hy,S,hd,rfl⟩
 have hi:i<=d.length:=hi
 replace q:=q.mono e
 replace s:=s.mono e
 replace u:=u.mono e
 replace w:=w.mono e
 replace o:=o.mono e
 replace L:=L.mono e
 rcases Nat.lt_or_ge i d.length with ar|hz
 .have c1:decide ((i:Int)<(d.length:Int))=true:=by simp;omega
  have i0:(0:Int)<=(i:Int):=by omega
  have i1:(i:Int)<(d.length:Int):=by omega
  obtain ⟨a8,ec⟩:∃x,d[i]?=some x:=⟨_,List.getElem?_eq_getElem ar⟩
  obtain ⟨_,_,C⟩:=o.op
  obtain ⟨hA,ed,a9,ba,W⟩:=C _ _ ec
  obtain ⟨hB,rfl,Y⟩:=ba
  obtain ⟨d32,ab,rfl,hD,hE,-⟩:=id Y
  cases a9
  have hF:=W 0 _ rfl
  simp only[go_sem] at hF
  clear W C
  have eh:=cv (n:=i) (by omega)
  repeat refine aB (a _) ?_
  refine bh a fun K c=>?_
  refine ai.bB (hJ _ rfl) 1 (n:=0) _ rfl rfl ?_;simp only[*,go_sem,-c,-a,-hJ]
  refine ai.nil a (c _ _ _ ?_);clear c K
  repeat refine aB (a _) ?_
  refine c5 (a _) (by simp only[*,go_sem,-a,-hJ]) ?_
  refine cJ (a _) ?_
  repeat refine aB (a _) ?_
  refine j7 a ?_
  repeat refine aB (a _) ?_
  refine bh a fun K c=>?_
  refine ai.bB (hJ _ rfl) 7 (n:=0) _ rfl rfl ?_;simp only[*,go_sem,-c,-a,-hJ]
  intro hG f11;have hI:=eK f11;have et:=fI f11
  try simp only[au] at et
  try simp only[*,go_sem,-c,-a,-hJ,-h,-p]
  intro hK f12;have hL:=eK f12;have eu:=fI f12
  try simp only[au] at eu
  try simp only[*,go_sem,-c,-a,-hJ,-h,-p]
  refine ai.nil a (c _ _ _ ?_);clear c K
  refine zm (hJ _ rfl) fun nd no=>?_
  obtain ⟨hM,f,hle,ev,eQ⟩:=Lx nd no
  clear nd no f11 f12 hI hL et eu
  refine Eb (hJ _ rfl) hle ?_
  clear hle
  have hN:=ev 0 (.int .i64 i) rfl
  have hP:=eQ 0 (.slice d32 a8.length ab) rfl
  clear ev eQ
  repeat refine aB (a _) ?_
  refine bh a fun K c=>?_
  refine ai.gi (a _) rfl (by first|(simp only[*,go_sem,-c,-a,-hJ];done)|rfl) rfl AQ (by simp only[*,go_sem,-c,-a,-hJ]) (Lr aG ao) fun v F' eb U=>?_
  obtain ⟨rfl,rfl,rfl⟩:=U
  refine ai.nil a (c _ _ _ ?_);clear c K
  repeat refine aB (a _) ?_
  refine bh a fun K c=>?_
  refine ai.bB (hJ _ rfl) 1 (n:=1) _ rfl rfl ?_;simp only[*,go_sem,-c,-a,-hJ]
  refine Ly (caps:=#[.pointer (some ⟨N,0,none⟩),.pointer (some ⟨b3,0,none⟩),.pointer (some ⟨b4,0,none⟩),.pointer (some ⟨hK,0,none⟩),.pointer (some ⟨a5,0,none⟩),.pointer (some ⟨M,0,none⟩),.pointer (some ⟨V,0,none⟩),.pointer (some ⟨hG,0,none⟩)]) (f0:=142) ar ⟨_,rfl,(by first|(simp only[*,go_sem,-c,-a,-hJ];done)|rfl),rfl,rfl⟩ (by simp only[*,go_sem,-c,-a,-hJ]) ?_ ?_
  .exact LH aG ao ar u0 (q.mono f) (s.mono f) (u.mono f) (w.mono f) ae a8 (Y.mono f) b5 (L.mono f) (f _ _ (e _ _ dp)) (f _ _ (e _ _ dq)) (f _ _ (e _ _ ds)) (f _ _ (e _ _ dt)) (f _ _ (e _ _ du)) (f _ _ (e _ _ dv)) (f _ _ (e _ _ dC)) (f _ _ (e _ _ dE)) (f _ _ (e _ _ dT)) hP (f _ _ (e _ _ ea)) (f _ _ (e _ _ a7)) hN (cf i a8 ec)
  refine ai.nil a (c _ _ _ ?_);clear c K
  repeat refine aB (a _) ?_
  refine bh a fun K c=>?_
  refine ai.bB (hJ _ rfl) 2 (n:=0) _ rfl rfl ?_;simp only[*,go_sem,-c,-a,-hJ]
  refine ai.nil a (c _ _ _ ?_);clear c K
  change ∃eS,eS<d.length - i/\Ed _ al b3 b4 a5 V _ eS _ _ _
  exact ⟨d.length - (i+1),by omega,i+1,hM,rfl,ar,rfl,e.trans f,(by simp only[*,go_sem,-a,-hJ]),(by simp only[*,go_sem,-a,-hJ]),(by simp only[*,go_sem,-a,-hJ]),(by simp only[*,go_sem,-a,-hJ]),(by simp only[*,go_sem,-a,-hJ]),(by simp only[*,go_sem,-a,-hJ]),(by simp only[*,go_sem,-a,-hJ]),(by simp only[*,go_sem,-a,-hJ]),(by simp only[*,go_sem,-a,-hJ]),(by simp only[*,go_sem,-a,-hJ]),(by simp only[*,go_sem,-a,-hJ]),(by simp only[*,go_sem,-a,-hJ]),(by simp only[*,go_sem,-a,-hJ]),rfl⟩
 .have c1:decide ((i:Int)<(d.length:Int))=false:=by simp;omega
  obtain rfl:i=d.length:=by omega
  repeat refine aB (a _) ?_
  refine bh a fun K c=>?_
  refine ai.bB (hJ _ rfl) 1 (n:=0) _ rfl rfl ?_;simp only[*,go_sem,-c,-a,-hJ]
  refine ai.nil a (c _ _ _ ?_);clear c K
  repeat refine aB (a _) ?_
  refine cH (a _) (by simp only[*,go_sem,-a,-hJ]) ?_
  refine oZ ?_
  simp only[go_sem]
  repeat refine aB (a _) ?_
  refine bh a fun K c=>?_
  refine ai.gi (a _) rfl (by first|(simp only[*,go_sem,-c,-a,-hJ];done)|rfl) rfl FV (by simp only[*,go_sem,-c,-a,-hJ]) (Ls aG ao) fun v F' eb U=>?_
  obtain ⟨rfl,rfl,rfl⟩:=U
  refine ai.nil a (c _ _ _ ?_);clear c K
  refine zm p fun nd no=>?_
  have rI:∀off sp,P ⟨k,off,sp⟩=none:=fun off sp=>no k (by simp[keys]) off sp
  have hle:Le ⟨bV P k (X.cy (⟨M,N,k,d.length,(fun i=>bl[i]?.getD false),base,T0,B0⟩:X) TT).fin,[]⟩ ⟨P,[(k,(X.cy (⟨M,N,k,d.length,(fun i=>bl[i]?.getD false),base,T0,B0⟩:X) TT).fin)]⟩:=ku (by simp[lk]) (by simp) trivial
  have ad:aA rB (bV P k (X.cy (⟨M,N,k,d.length,(fun i=>bl[i]?.getD false),base,T0,B0⟩:X) TT).fin) (.slice (some ⟨k,0,none⟩) bl.length bl.length) bl:=aA.flat (fun b=>[.bool b]) bl (fun _=>rfl) rI (by
   show (((List.range d.length).map fun i=>Value.bool (bl[i]?.getD false)).toArray).toList=_
   rw[<-cd]
   apply List.ext_getElem?
   intro j
   rw[LJ bl]
   simp only[List.getElem?_map]
   rcases Nat.lt_or_ge j bl.length with y|y
   .simp[y]
   .simp[y]) (by omega)
  obtain ⟨E,bb⟩:∃E,E=bV P k (X.cy (⟨M,N,k,d.length,(fun i=>bl[i]?.getD false),base,T0,B0⟩:X) TT).fin:=⟨_,rfl⟩
  have a0:Ext P E:=by rw[bb];exact gq _ _ _
  have hQ:Ext ro E:=J.trans (D.trans (e.trans a0))
  rw[<-bb] at hle ad
  refine Eb p hle ?_
  replace o:=o.mono a0
  have a7:E ⟨V,0,none⟩=some (.slice (some ⟨k,0,none⟩) bl.length bl.length):=by rw[cd];exact a0 _ _ (e _ _ a7)
  clear hle nd no bb rI dp dq ds dt du dv dC dE dT ea a hJ aG ao hn q s u w L ca cf c1 hlen hz hi a0 J D e ho hp hq hr ht hv hx hy fu fv fz gg gl gn gC gM a4 gV g0 hc hf
  obtain ⟨_,_,C⟩:=o.op
  obtain ⟨_,_,R⟩:=ad.op
  have hJ:=p
  clear p
  refine cO.of hJ ?_
  repeat refine af hJ ?_
  refine ak hJ ?_
  simp only[*,go_sem,-h]
  repeat refine af hJ ?_
  refine ak hJ ?_
  simp only[*,go_sem,-h]
  repeat refine af hJ ?_
  refine aO hJ ?_
  have g:=fP h;clear h;obtain ⟨hR,G,hS⟩:=g;have h:=True.intro
  refine bU hJ [13,14,15,34,35,36,37,38,39,40,41,42,43,44,45,46,47] (fun m e0 F'=>∃(i23:Nat) (d17:Option Addr) (I:Nat) (a2:List (Nat×Obj)) (H:(List (List Int))),m=d.length - i23/\i23<=d.length/\bJ (zo bl) i23 (d.drop i23) H=some hR/\F'=⟨E,a2⟩/\aP (rL rI) E 35 (.slice d17 H.length I) H a2/\H.length<=I/\slot e0 34= .int .i64 (i23:Int)/\slot e0 13= .slice d17 H.length I) d.length ?_ ?_
  .refine ⟨0,none,0,[],([]:List (List Int)),(Nat.sub_zero _).symm,Nat.zero_le _,G,rfl,aP.nil _ _ _,Nat.le_refl _,?_⟩
   simp only[*,go_sem,-h]
  .rintro j2 Q F' O ⟨i23,d17,I,a2,H,rfl,kh,G,rfl,bc,hT,kj,kk⟩
   have h:=True.intro
   have kl:sz Q=49:=by rw[O.size];simp only[*,go_sem,-h]
   have km:Q.defers=[]:=by rw[O.defers];simp only[*,go_sem,-h]
   have kn:slot Q 6= .slice none 0 0:=by rw[O.dZ 6 (by decide)];simp only[*,go_sem,-h]
   have kp:slot Q 8= .pointer (some ⟨V,0,none⟩):=by rw[O.dZ 8 (by decide)];simp only[*,go_sem,-h]
   have ks:slot Q 32= .slice d38 d.length b1:=by rw[O.dZ 32 (by decide)];simp only[*,go_sem,-h]
   have kt:slot Q 33= .int .i64 (d.length:Int):=by rw[O.dZ 33 (by decide)];simp only[*,go_sem,-h]
   clear O S hd
   repeat refine af hJ ?_
   refine ak hJ ?_
   simp only[*,go_sem,-h]
   repeat refine af hJ ?_
   rcases Nat.lt_or_ge i23 d.length with hV|e1
   .refine dU hJ (by simp only[*,go_sem,-h]) ?_
    refine aI hJ ?_
    obtain ⟨a3,bd⟩:∃x,d[i23]?=some x:=⟨_,List.getElem?_eq_getElem hV⟩
    rw[dg bd] at G
    have g:=fP G;clear G h;obtain ⟨kv,h,e3⟩:=g
    unfold zo at h
    try dsimp only at h
    obtain ⟨kx,ky,hX,hY,fa⟩:=C _ _ bd
    obtain ⟨hB,rfl,Y⟩:=hY;obtain ⟨d32,ab,rfl,hD,hE,k0⟩:=id Y
    cases hX
    have hZ:=fa 0 _ rfl;simp only[go_sem] at hZ
    clear fa bd
    repeat refine af hJ ?_
    refine aO hJ ?_
    repeat refine af hJ ?_
    refine aC hJ fun k2=>?_
    refine ak hJ ?_
    simp only[*,go_sem,-h]
    repeat refine af hJ ?_
    refine aC hJ fun lb=>?_
    refine ak hJ ?_
    have g:=fP h;clear h;obtain ⟨h0,h1,h⟩:=g
    obtain ⟨lh,lj,fb⟩:=cG h1
    obtain ⟨hA,ed,a9,ba,W⟩:=R _ _ fb
    obtain rfl:ed=[.bool h0]:=ba
    cases a9
    have h2:=W 0 _ rfl;simp only[go_sem] at h2
    clear W fb
    try simp only[*,go_sem,-h]
    have g:=je h;clear h;rcases g with ⟨bj,h⟩|⟨bj,h⟩
    .try simp only[Int.ofNat_lt] at bj
     refine dU hJ (by simp only[*,go_sem,-h]) ?_
     refine aC hJ fun h3=>?_
     refine ak hJ ?_
     have g:=fP h;clear h;obtain ⟨h4,h5,h⟩:=g
     obtain ⟨h6,fg⟩:=dr h5
     simp only[*,go_sem,-h]
     intro fi f45;have h7:=eK f45;have fo:=fI f45
     have h8:=aQ.cons fo h3
     try simp only[au] at fo
     try simp only[*,go_sem,-h]
     refine A7 (r:=(rL rI)) (l:=H) (x:=a3) (cs:=#[.slice d32 a3.length ab]) (e2:=35) [(fi,.cells #[.slice d32 a3.length ab] 35)] [] (by first|rfl|simp only[aS]|(simp only[aS];rfl)) bc h8 h6 ⟨_,rfl,Y⟩ (by simp only[*,go_sem,-h]) h7 rfl rfl lz lz sj sn rfl sk (by decide) (by decide) (fun ll fp bk h9 ib ln=>?_)
     simp only[aS] at ib
     subst h9
     rw[<-fg] at bk;clear fg
     obtain ⟨d53,ic,rfl,ih⟩:=bk.len
     refine ⟨⟨E,(fi,.cells #[.slice d32 a3.length ab] 35)::fp⟩,Le.refl _,?_⟩
     refine aJ ?_
     try simp only[*,go_sem,-h]
     have g:=Option.some.inj h;clear h;subst g
     have h:=True.intro
     have eh:=cv (n:=i23) (by have:=b2;omega)
     refine ak hJ ?_
     simp only[*,go_sem,-h]
     refine ⟨d.length - (i23+1),by omega,_,Le.sub (List.Sublist.cons _ (List.Sublist.refl _)),i23+1,d53,ic,fp,h4,rfl,by omega,e3,rfl,bk,ih,?_⟩
     simp only[*,go_sem,-h]
    .try simp only[Int.ofNat_lt] at bj
     refine dM hJ (by simp only[*,go_sem,-h]) ?_
     refine aI hJ ?_
     have g:=Option.some.inj h;clear h;subst g
     have h:=True.intro
     have eh:=cv (n:=i23) (by have:=b2;omega)
     refine ak hJ ?_
     simp only[*,go_sem,-h]
     refine ⟨d.length - (i23+1),by omega,_,Le.sub (List.Sublist.refl _),i23+1,d17,I,a2,H,rfl,by omega,e3,rfl,bc,hT,?_⟩
     simp only[*,go_sem,-h]
   .have lo:=Nat.not_lt.2 e1
    refine dM hJ (by simp only[*,go_sem,-h]) ?_
    rw[List.drop_eq_nil_of_le e1] at G
    have g:=Option.some.inj G;clear G h;subst g
    have h:=hS
    dsimp only[aF] at h
    refine bO ?_
    simp only[go_sem]
    repeat refine af hJ ?_
    refine aC hJ fun lr=>?_
    refine ak hJ ?_
    simp only[*,go_sem,-h]
    have g:=Option.some.inj h;clear h;subst g
    refine aC hJ fun fr=>?_
    obtain ⟨fs,bm,lv,ft,ik⟩:=bc.lB (([]:List (Nat×Obj))) [] [] (by first|rfl|simp only[aS]|(simp only[aS];rfl)) (by first|rfl|simp only[aS]|(simp only[aS];rfl)) fr (aE.nil _)
    clear fr
    refine cz (F:=⟨fs,([]:List (Nat×Obj))⟩) hJ ik ?_
    obtain ⟨lx,ly,lL⟩:=ft.op
    replace o:=o.mono bm;clear C;obtain ⟨_,_,C⟩:=o.op
    replace ad:=ad.mono bm;clear R;obtain ⟨_,_,R⟩:=ad.op
    refine ax ?_
    exact (lX (t:=6) rfl (by simp only[*,go_sem]) (by simp only[*,go_sem]) ⟨rfl,fs,hQ.trans bm,Le.refl _,_,rfl,ft⟩).2
end Go.Proofs.YtghbphimkgamkaaGreatDoor
end
section
namespace Go.Proofs.YtghbphimkgamkaaGreatDoor
open Go Go.Sep Go.Proofs
set_option maxRecDepth 100000
set_option maxHeartbeats 4000000
def zq (u0:aj)(b:Int):Option ((List Int)×Int):=
 ag (fW u0 ([(g9 b),ow])) fun a=>cond ((a.2 != 0)) (some (([]:(List Int)),a.2)) (ag (tc a.1.book ([([]:(List Int))])) fun c=>ag (uO a.1 b c) fun d=>ag (xK d) fun e=>some (e,0))
theorem LM {ro:Addr->Option Value}(L:de ro)(u0:aj){s1 g i j:Value}(D:bN ro u0 s1 g i j)(a:Int){r:((List Int)×Int)}(h:zq u0 a=some r):p9 Tryz.prog 13 #[bv u0 s1 g i j,.int .i64 a] ro (fun v aM=>∃W,v= .tuple #[W,.int .i64 r.2]/\aA rI aM W r.1):=by
 unfold zq at h;have ba:=D.oc;simp only[bC] at ba;refine fK.go Tryz.func13 rfl Tryz.ntmps13 Tryz.results13 (by simp) fun Φ hJ A b5 hd hs=>?_;have ca:=hs 0;have k1:=hs 1;clear hs;refine ah hJ ?_;simp only[*,go_sem];refine ay fun w c bb=>?_;try simp only[au] at bb
 refine af hJ ?_;refine aC hJ fun bc=>?_;refine ak hJ ?_;revert h;refine bS fun n bd h=>?_;simp only[*,go_sem];refine ay fun z X Y=>?_;have Z:=aQ.cons Y bc;try simp only[au] at Y
 obtain ⟨B,M,ab⟩:=fS (b:=z) (o:=(.cells #[.func (.func 82) #[.int .i64 a] #[],.func (.func 83) #[] #[]] 133)) [] ((w,bk u0 s1 g i j)::[]) Z X (aE.cons c (aE.nil _));have ad:aA (c8) (bV ro z (.cells #[.func (.func 82) #[.int .i64 a] #[],.func (.func 83) #[] #[]] 133)) (.slice (some ⟨z,0,none⟩) 2 2) [(g9 a),ow]:=(aA.two (r:=(c8)) (e:=133) (v:=.func (.func 82) #[.int .i64 a] #[]) (u:=.func (.func 83) #[] #[]) (x:=(g9 a)) (y:=ow) (own:=[(z,.cells #[.func (.func 82) #[.int .i64 a] #[],.func (.func 83) #[] #[]] 133)]) X (by simp[lk]) rfl ⟨82,#[.int .i64 a],#[],rfl,⟨by simp only[go_sem],fun bj bl N _ _ _ _ _ O P Q R h=>by simp only[go_sem];exact wA a N ⟨O,P,Q,R⟩ h⟩⟩ ⟨83,#[],#[],rfl,⟨by simp only[go_sem],fun bj bl N _ _ _ _ _ O P Q R h=>by simp only[go_sem];exact HZ N ⟨O,P,Q,R⟩ h⟩⟩)
 generalize bV ro z (.cells #[.func (.func 82) #[.int .i64 a] #[],.func (.func 83) #[] #[]] 133)=cb at ad M B ab;refine g6 hJ ab ?_;replace D:=D.mono B;replace c:=M.hd;replace L:=L.mono B;simp only[bu] at M;have bm:=aQ.tl Z;refine b9 hJ _ (jT L u0 D ([(g9 a),ow]) ad bd) fun v ae al ao k=>?_;obtain ⟨E,F,G,H,I,rfl,d,q⟩:=k;have bo:=d.oc;simp only[bC] at bo;have br:=q.oc;simp only[bC] at br;replace c:=ao.hd;simp only[bu] at ao;refine aJ ?_;simp only[*,go_sem];refine ay fun J f ar=>?_;have cd:=aQ.cons ar bm;try simp only[au] at ar
 refine af hJ (ah hJ ?_);simp only[*,go_sem];revert h;refine aT hJ (fun bs h=>?_) fun bs h=>?_
 .obtain rfl:=sI h;refine ah hJ ?_;simp only[*,go_sem];refine ax ?_;simp only[*,go_sem];exact ⟨_,(B).trans al,Le.sub (List.nil_sublist _),_,rfl,aA.nil _ _⟩
 refine aI hJ (af hJ ?_);refine aC hJ fun bz=>?_;refine cP hJ mixed 4 2 (by simp only[*,go_sem]) (by kernel_rfl) ?_;revert h;refine bS fun b0 b1 h=>?_;simp only[*,go_sem];refine ay fun C a0 a2=>?_;have a3:=aQ.cons a2 bz;try simp only[au] at a2
 simp only[*,go_sem];obtain ⟨m,K,a4⟩:=fS (b:=C) (o:=(.cells #[.slice none 0 0] 35)) [] ((J,kn n.1 E F G H I)::(w,bk u0 s1 g i j)::[]) a3 a0 (aE.cons f (aE.cons c (aE.nil _)));have a5:aA (rL rI) (bV ae C (.cells #[.slice none 0 0] 35)) (.slice (some ⟨C,0,none⟩) 1 1) [([]:(List Int))]:=(aA.one (r:=(rL rI)) (e:=35) (cs:=#[.slice none 0 0]) (x:=([]:(List Int))) (own:=[(C,.cells #[.slice none 0 0] 35)]) a0 (by simp[lk]) ⟨_,rfl,aA.nil _ _⟩)
 generalize bV ae C (.cells #[.slice none 0 0] 35)=cf at a5 K m a4;refine g6 hJ a4 ?_;replace d:=d.mono m;replace q:=q.mono m;replace f:=K.hd;replace c:=K.tl.hd;simp only[bu] at K;have cl:=aQ.tl a3;refine b9 hJ _ (BD n.1.book d ([([]:(List Int))]) a5 b1) fun v cu s S k=>?_;obtain ⟨cy,rfl,a6⟩:=k;replace d:=d.mono s;replace q:=q.mono s;replace f:=S.hd;replace c:=S.tl.hd;simp only[bu] at S;obtain ⟨d92,cS,rfl,c0,da,-⟩:=id a6;have db:=eN (l:=[(J,kn n.1 E F G H I),(w,bk u0 s1 g i j)]) (m.trans s) (aE.cons f (aE.cons c (aE.nil _)));refine ⟨by simp only[*,go_sem],?_⟩;refine mB ?_;revert h;refine bS fun b2 b3 h=>?_;simp only[*,go_sem];refine sF _ (Ee n.1 d.e d.p d.y d.t q a b0 a6 b3) fun v dd T U k=>?_;obtain ⟨df,rfl,a7⟩:=k;replace f:=U.hd;replace c:=U.tl.hd;simp only[bu] at U;obtain ⟨d111,dk,rfl,dp,dq,-⟩:=id a7;have ds:=eN (l:=[(J,kn n.1 E F G H I),(w,bk u0 s1 g i j)]) ((m.trans s).trans T) (aE.cons f (aE.cons c (aE.nil _)));refine ⟨by simp only[*,go_sem],?_⟩;refine mB ?_;revert h;refine bS fun dt b4 h=>?_;obtain rfl:=sI h;simp only[*,go_sem];refine b9 hJ _ (H7 b2 a7 b4) fun v du a8 V k=>?_;obtain ⟨dv,rfl,a9⟩:=k;replace f:=V.hd;replace c:=V.tl.hd;simp only[bu] at V;obtain ⟨d124,dC,rfl,dE,dT,-⟩:=id a9;have ea:=eN (l:=[(J,kn n.1 E F G H I),(w,bk u0 s1 g i j)]) (((m.trans s).trans T).trans a8) (aE.cons f (aE.cons c (aE.nil _)));refine ⟨by simp only[*,go_sem],?_⟩;refine mB ?_;simp only[*,go_sem];refine ax ?_;simp only[*,go_sem];exact ⟨_,(((((B).trans al).trans m).trans s).trans T).trans a8,Le.sub (List.nil_sublist _),_,rfl,a9⟩
def zu (u0:aj)(c:Int)(a:(cT×Int))(st:(Bool×Int×(List (List Int))×Int)):Option (Fl (Bool×Int×(List (List Int))×Int) ((List Int)×Bool×Int)):=
 cond (decide (st.2.2.2<(IntKind.i64.wrap ((IntKind.i64.wrap (3 - (u0.props.length:Int)))+1)))) (ag (uO a.1 c st.2.2.1) fun b=>cond (decide (0<(b.length:Int))) (ag (bf b 0) fun d=>some (.rt (d,true,0))) (ag (tc a.1.book st.2.2.1) fun e=>some (.nx (st.1,st.2.1,e,(IntKind.i64.wrap (st.2.2.2+1)))))) (some (.bk (st.1,st.2.1,st.2.2.1,st.2.2.2)))
def zv (u0:aj)(b:Int):Option ((List Int)×Bool×Int):=
 ag (fW u0 ([(g9 b)])) fun a=>cond ((a.2 != 0)) (some (([]:(List Int)),false,a.2)) (ag (aZ (zu u0 b a) fu (false,a.2,([([]:(List Int))]),0)) fun o=>aF o (fun c=>some (([]:(List Int)),false,0)) (fun _ _=>none) (fun r=>some r))
theorem LN {ro:Addr->Option Value}(K:de ro)(u0:aj){s1 S k l:Value}(n:bN ro u0 s1 S k l)(a:Int){r:((List Int)×Bool×Int)}(h:zv u0 a=some r):p9 Tryz.prog 16 #[bv u0 s1 S k l,.int .i64 a] ro (fun v aM=>∃T,v= .tuple #[T,.bool r.2.1,.int .i64 r.2.2]/\aA rI aM T r.1):=by
 obtain ⟨d10,L,rfl,ec,ed,-⟩:=id n.p;unfold zv at h;have bm:=n.oc;simp only[bC] at bm;refine fK.go Tryz.func16 rfl Tryz.ntmps16 Tryz.results16 (by simp) fun Φ hJ A bo hd hs=>?_;have br:=hs 0;have k1:=hs 1;clear hs;refine ah hJ ?_;simp only[*,go_sem];refine ay fun M C bs=>?_;try simp only[au] at bs
 refine af hJ ?_;refine aC hJ fun bz=>?_;refine ak hJ ?_;revert h;refine bS fun f b0 h=>?_;simp only[*,go_sem];refine ay fun q U V=>?_;have W:=aQ.cons V bz;try simp only[au] at V
 obtain ⟨g,N,X⟩:=fS (b:=q) (o:=(.cells #[.func (.func 82) #[.int .i64 a] #[]] 133)) [] ((M,bk u0 s1 (sl d10 u0.props L) k l)::[]) W U (aE.cons C (aE.nil _));have Y:aA (c8) (bV ro q (.cells #[.func (.func 82) #[.int .i64 a] #[]] 133)) (.slice (some ⟨q,0,none⟩) 1 1) [(g9 a)]:=(aA.one (r:=(c8)) (e:=133) (cs:=#[.func (.func 82) #[.int .i64 a] #[]]) (x:=(g9 a)) (own:=[(q,.cells #[.func (.func 82) #[.int .i64 a] #[]] 133)]) U (by simp[lk]) ⟨82,#[.int .i64 a],#[],rfl,⟨by simp only[go_sem],fun eh et b1 _ _ _ _ _ b2 b3 b4 b5 h=>by simp only[go_sem];exact wA a b1 ⟨b2,b3,b4,b5⟩ h⟩⟩)
 generalize bV ro q (.cells #[.func (.func 82) #[.int .i64 a] #[]] 133)=eu at Y N g X;refine g6 hJ X ?_;replace n:=n.mono g;replace C:=N.hd;replace K:=K.mono g;simp only[bu] at N;have ca:=aQ.tl W;refine b9 hJ _ (jT K u0 n ([(g9 a)]) Y b0) fun v Z O ab s=>?_;obtain ⟨ad,ae,al,ao,ar,rfl,c,i⟩:=s;have cb:=c.oc;simp only[bC] at cb;have cd:=i.oc;simp only[bC] at cd;replace C:=ab.hd;simp only[bu] at ab;refine aJ ?_;simp only[*,go_sem];refine ay fun a0 cf a2=>?_;have ev:=aQ.cons a2 ca;try simp only[au] at a2
 refine af hJ (ah hJ ?_);simp only[*,go_sem];revert h;refine aT hJ (fun cl h=>?_) fun cl h=>?_
 .obtain rfl:=sI h;refine ah hJ ?_;simp only[*,go_sem];refine ax ?_;simp only[*,go_sem];exact ⟨_,(g).trans O,Le.sub (List.nil_sublist _),_,rfl,aA.nil _ _⟩
 refine aI hJ (af hJ ?_);refine aC hJ fun cu=>?_;refine ak hJ ?_;simp only[*,go_sem];refine ay fun j a3 a4=>?_;have eQ:=aQ.cons a4 cu;try simp only[au] at a4
 refine af hJ (ah hJ ?_);simp only[*,go_sem];refine aC hJ fun a5=>?_;obtain ⟨u,a6,a7⟩:=fS (b:=j) (o:=(.cells #[.slice none 0 0] 35)) [] ((a0,kn f.1 ad ae al ao ar)::(M,bk u0 s1 (sl d10 u0.props L) k l)::[]) a5 a3 (aE.cons cf (aE.cons C (aE.nil _)));clear a5;have P:aA (rL rI) (bV Z j (.cells #[.slice none 0 0] 35)) (.slice (some ⟨j,0,none⟩) 1 1) [([]:(List Int))]:=(aA.one (r:=(rL rI)) (e:=35) (cs:=#[.slice none 0 0]) (x:=([]:(List Int))) (own:=[(j,.cells #[.slice none 0 0] 35)]) a3 (by simp[lk]) ⟨_,rfl,aA.nil _ _⟩)
 generalize bV Z j (.cells #[.slice none 0 0] 35)=a8 at u a6 a7 P;refine cz hJ a7 ?_;obtain ⟨eS,e0,-⟩:=P.op;replace c:=c.mono u;replace i:=i.mono u;simp only[bu] at a6;refine aO hJ ?_;revert h;refine bS fun cy D a9=>?_;refine bU hJ (rg 27 17 [4,5,6,8,9]) (fun m E F'=>∃(F:Addr->Option Value) (d98:Option Addr) (Q:Nat) (G:Bool) (H:Int) (d:(List (List Int))) (I:Int),aZ (zu u0 a f) m (G,H,d,I)=some cy/\F'=⟨F,(a0,kn f.1 ad ae al ao ar)::(M,bk u0 s1 (sl d10 u0.props L) k l)::[]⟩/\Ext a8 F/\aA (rL rI) F (.slice d98 d.length Q) d/\slot E 5= .bool G/\slot E 6= .int .i64 H/\slot E 8= .slice d98 d.length Q/\slot E 27= .int .i64 I) fu ?_ ?_
 .refine ⟨a8,(some ⟨j,0,none⟩),1,false,f.2,([([]:(List Int))]),0,D,rfl,Ext.refl _,P,?_⟩;simp only[*,go_sem]
 rintro R e1 F' ba ⟨F,d98,Q,G,H,d,I,D,rfl,w,z,e2,e3,fa,fb⟩;refine fT hJ fun _ cS=>?_;replace c:=c.mono w;replace i:=i.mono w;simp only[bu] at cS;obtain ⟨fg,fi,-⟩:=z.op;obtain ⟨c0,da,db⟩:=ba.pick [1,7,26] (by decide);simp only[*,go_sem] at c0 da db;clear ba bo hd br k1;obtain _|R:=R
 .exact absurd D (by simp only[aZ,reduceCtorEq,not_false_eq_true])
 revert D;refine bS fun fo h B=>?_;unfold zu at h;try dsimp only at h
 refine ah hJ ?_;simp only[*,go_sem];refine af hJ ?_;revert h;refine aT hJ (fun dd h=>?_) fun dd h=>?_
 .refine aI hJ (af hJ ?_);refine aO hJ (af hJ ?_);refine ah hJ ?_;revert h;refine bS fun fp df h=>?_;simp only[*,go_sem];refine sF _ (Ee f.1 c.e c.p c.y c.t i a d z df) fun v fr J dk s=>?_;obtain ⟨fs,rfl,bb⟩:=s;replace z:=z.mono J;replace c:=c.mono J;simp only[bu] at dk;obtain ⟨d121,ft,rfl,fv,fw,-⟩:=id bb;refine aJ ?_;simp only[*,go_sem];refine ah hJ ?_;simp only[*,go_sem];revert h;refine aT hJ (fun dp h=>?_) fun dp h=>?_
  .refine ah hJ ?_;revert h;refine bS fun fx dq h=>?_;obtain rfl:=sI h;obtain ⟨fz,gg,bc⟩:=cG dq;obtain ⟨gl,gn,ds,dt,bd⟩:=bb.el _ _ bc;obtain ⟨gp,rfl,bj⟩:=dt;obtain ⟨d130,gB,rfl,gC,gM,gT⟩:=id bj;cases ds;have du:=bd 0 _ rfl;simp only[go_sem] at du;clear bd bc;simp only[*,go_sem];obtain rfl:=sI B;clear B;have h:=a9;dsimp only[aF] at h;obtain rfl:=sI h;refine ax ?_;simp only[*,go_sem];exact ⟨_,((((g).trans O).trans u).trans w).trans J,Le.sub (List.nil_sublist _),_,rfl,bj⟩
  refine aI hJ (ak hJ ?_);revert h;refine bS fun dv dC h=>?_;obtain rfl:=sI h;simp only[*,go_sem];refine b9 hJ _ (BD f.1.book c d z dC) fun v dE dT ea s=>?_;obtain ⟨gV,rfl,bl⟩:=s;simp only[bu] at ea;obtain ⟨d144,eb,rfl,g0,g1,-⟩:=id bl;refine aJ ?_;simp only[*,go_sem];refine ak hJ ?_;simp only[*,go_sem];refine ⟨R,Nat.lt_succ_self _,_,Le.sub (List.Sublist.refl _),dE,d144,eb,G,H,dv,(IntKind.i64.wrap (I+1)),B,rfl,(w.trans (J.trans dT)),bl,?_⟩;simp only[*,go_sem]
 obtain rfl:=sI h;refine bO ?_;simp only[go_sem];obtain rfl:=sI B;clear B;have h:=a9;dsimp only[aF] at h;obtain rfl:=sI h;refine ah hJ ?_;simp only[*,go_sem];refine ax ?_;simp only[*,go_sem];exact ⟨_,(((g).trans O).trans u).trans w,Le.sub (List.nil_sublist _),_,rfl,aA.nil _ _⟩
end Go.Proofs.YtghbphimkgamkaaGreatDoor
end

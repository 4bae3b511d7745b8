/- A part of the proof of a row and its tied card: QO10. -/
import Derived.Test.YtghbphimkgamkaaGreatDoorQO9
import Derived.Conc.AtomicLaws2
import Derived.Conc.WgArith
set_option linter.all false
section
namespace Go.Sep
open Go Go.Conc
open Go.ConcN (sumTo upd upd_ne upd_same)
open Go.ConcM (MuAt muA msA muBlock OsLater)
open Go.ConcR (WgAt wgBlock stA smA)
section
variable {c : Cy} {i : Nat} {ph : Ph} {ops : Array Oper} {j n : Nat} {Q : Act → aa → Ph → Prop} {a : Act} {F : aa} {f fi : FuncId} {d : Option Tmp}
theorem dL {s:Sh}:s.ms<=s.ms/\s.ws<=s.ws:=⟨Int.le_refl _,Int.le_refl _⟩
theorem yV (g:Entry c.P f (fun _=>do mark .disable;pure Extern.Race.none_)){vals:List Value}(l:At ops j a f vals d)(m:ph.gp≠ .gone)(p:ph.gp≠ .new)
  (h:ai (WJ c i) fi ops (j+1) n Q (bg a d (.tuple #[])) F {ph with deaf:=ph.deaf+1}):ai (WJ c i) fi ops j (n+1) Q a F ph:=by
 obtain ⟨o,cB,dj,e,hg,q,_,rfl⟩:=l
 refine fG e m fun w s k φ p0 _ hs hi he r=>.inr ⟨.tuple #[],w,_,s,_,fun b t cs hb=>?_,hs,.refl _ _,r.DO hi he p _,Kz,.inr dL,h⟩
 obtain ⟨fn,f1,f2,f3,f4,f5⟩:=g.ex
 exact stepG_mark0 .disable (by simp) e (cj hg) hb.kind q f1 f2 f3 f4 f5
theorem uN (l:Entry c.P f (fun _=>do mark .enable;pure Extern.Race.none_)){vals:List Value}(m:At ops j a f vals d)(p:ph.gp≠ .gone)(q:ph.gp≠ .new){e:Nat}(hd:ph.deaf=e+1)
  (h:ai (WJ c i) fi ops (j+1) n Q (bg a d (.tuple #[])) F {ph with deaf:=e}):ai (WJ c i) fi ops j (n+1) Q a F ph:=by
 obtain ⟨o,cB,dj,g,hg,r,_,rfl⟩:=m
 refine fG g p fun w s k φ p0 _ hs hi he t=>.inr ⟨.tuple #[],w,_,s,_,fun b u cs hb=>?_,hs,.refl _ _,t.DO hi he q _,KA hd,.inr dL,h⟩
 obtain ⟨fn,f1,f2,f3,f4,f5⟩:=l.ex
 exact stepG_mark0 .enable (by simp) g (cj hg) hb.kind r f1 f2 f3 f4 f5
theorem pe {k:Nat}{φ:Nat->Ph}{p0:P0}{s:Sh}(he:φ i=ph)(a:Inv c.n c.bs k φ p0 s):Inv c.n c.bs k (upd φ i ph) p0 s:=by rw[<-he,yQ];exact a
theorem DQ (l:Entry c.P f (Extern.Race.marked .acquire))(m:At ops j a f [.pointer (some (muA c.Mu))] d)(e:ph.gp= .cnt)
  (h:ai (WJ c i) fi ops (j+1) n Q (bg a d (.tuple #[])) F ph):ai (WJ c i) fi ops j (n+1) Q a F ph:=by
 obtain ⟨o,cB,dj,g,hg,p,q,rfl⟩:=m
 obtain ⟨x,rfl,r⟩:=jY q
 refine fG g (by rw[e];simp) fun w s k φ p0 _ hs hi he t=>.inr ⟨.tuple #[],w,_,s,ph,fun b u cs hb=>?_,hs,.refl _ _,pe he t,.word (.acquire (muA c.Mu)) rfl (.inl rfl) rfl ⟨e,e⟩,.inr dL,h⟩
 obtain ⟨fn,f1,f2,f3,f4,f5⟩:=l.ex
 exact stepG_markAt .acquire (by simp) g (cj hg) hb.kind p f1 f2 f3 f4 f5 (by simp[eG,r])
theorem KB (l:Entry c.P f (Extern.Race.marked .releaseMerge))(m:At ops j a f [.pointer (some (muA c.Mu))] d)(e:ph.gp= .cnt)
  (h:ai (WJ c i) fi ops (j+1) n Q (bg a d (.tuple #[])) F ph):ai (WJ c i) fi ops j (n+1) Q a F ph:=by
 obtain ⟨o,cB,dj,g,hg,p,q,rfl⟩:=m
 obtain ⟨x,rfl,r⟩:=jY q
 refine fG g (by rw[e];simp) fun w s k φ p0 _ hs hi he t=>.inr ⟨.tuple #[],w,_,s,ph,fun b u cs hb=>?_,hs,.refl _ _,pe he t,.word (.releaseMerge (muA c.Mu)) rfl (.inr rfl) rfl ⟨e,e⟩,.inr dL,h⟩
 obtain ⟨fn,f1,f2,f3,f4,f5⟩:=l.ex
 exact stepG_markAt .releaseMerge (by simp) g (cj hg) hb.kind p f1 f2 f3 f4 f5 (by simp[eG,r])
theorem KC (q:Entry c.P f (Extern.Race.marked .releaseMerge))(r:At ops j a f [.pointer (some (stA c.Wg))] d)(g:ph.gp= .cnt)
  (hd:ph.deaf=0) (t:ph.mp= .idle\/ph.mp= .fin) (u:ph.stored=c.bs i)
  (h:ai (WJ c i) fi ops (j+1) n Q (bg a d (.tuple #[])) F {mp:=.fin,gp:=.rel,stored:=ph.stored,deaf:=0}):ai (WJ c i) fi ops j (n+1) Q a F ph:=by
 obtain ⟨o,cB,dj,p,hg,v,y,rfl⟩:=r
 obtain ⟨x,rfl,z⟩:=jY y
 refine fG p (by rw[g];simp) fun w s k φ p0 _ hs hi he l=>.inr ⟨.tuple #[],w,_,s,{mp:=.fin,gp:=.rel,stored:=ph.stored,deaf:=0},fun b A cs hb=>?_,hs,.refl _ _,?_,.rel rfl ⟨hd,rfl⟩ g,.inr dL,h⟩
 .obtain ⟨fn,f1,f2,f3,f4,f5⟩:=q.ex
  exact stepG_markAt .releaseMerge (by simp) p (cj hg) hb.kind v f1 f2 f3 f4 f5 (by simp[eG,z])
 .obtain ⟨C,S,W,L,m,hm⟩:=l.m
  refine l.jV hi he (by rw[g];simp) (by simp) ⟨C,S,W,L,m,nc hm hi _ ?_⟩ (uD l.w hi _ (.inr ⟨by rw[he];exact g,rfl⟩)) ?_ (fun _=>⟨u,rfl⟩)
  .rw[he];rcases t with e|e
   .exact .inr ⟨e,rfl⟩
   .exact .inl e.symm
  .have:=l.i.all i hi
   rw[he] at this
   exact (yU this).symm
theorem uO (old nw:Int)(I:Entry c.P f (Extern.Atomic.casT (.int .i32)))(aD:c.Mu≠c.Wg/\c.Mu≠c.Is/\c.Wg≠c.Is)(J:At ops j a f [.pointer (some (muA c.Mu)),.int .i32 old,.int .i32 nw] d)
  (e:ph.gp= .cnt) (B:0<ph.deaf)
  (K:∀φ ms C S W L m,φ i=ph->i<c.n->cv c.n φ old ms C S W L m->∃mp,(∃g h l p q,cv c.n (upd φ i {ph with mp:=mp}) nw ms g h l p q)/\ai (WJ c i) fi ops (j+1) n Q (bg a d (.bool true)) F {ph with mp:=mp})
  (M:∀φ mu ms C S W L m,φ i=ph->i<c.n->cv c.n φ mu ms C S W L m->mu≠old->∃mp,(∃g h l p q,cv c.n (upd φ i {ph with mp:=mp}) mu ms g h l p q)/\ai (WJ c i) fi ops (j+1) n Q (bg a d (.bool false)) F {ph with mp:=mp}):ai (WJ c i) fi ops j (n+1) Q a F ph:=by
 obtain ⟨o,cB,dj,r,hg,D,N,rfl⟩:=J
 obtain ⟨x,y,z,rfl,E,G,H⟩:=rH N
 obtain ⟨fn,f1,f2,f3,f4,f5⟩:=I.ex
 refine fG r (by rw[e];simp) fun w s k φ p0 _ hs hi he t=>.inr ?_
 obtain ⟨C,S,W,L,m,hm⟩:=t.m
 by_cases u:s.mu=old
 .subst u
  obtain ⟨mp,v,A⟩:=K φ s.ms C S W L m he hi hm
  exact ⟨.bool true,_,_,{s with mu:=nw},{ph with mp:=mp},fun b O cs hb=>stepG_cas_hit r (cj hg) hb.kind D f1 f2 f3 f4 .i32 f5 E G H hs.mu.1 hs.mu.2,hs.DK aD nw,.set _ (.inl rfl),t.mutex hi he e v,yS rfl Iff.rfl B (.inr ⟨rfl,e⟩),.inr dL,A⟩
 .obtain ⟨mp,v,A⟩:=M φ s.mu s.ms C S W L m he hi hm u
  exact ⟨.bool false,_,_,{s with mu:=s.mu},{ph with mp:=mp},fun b O cs hb=>stepG_cas_miss r (cj hg) hb.kind D f1 f2 f3 f4 .i32 f5 E G H hs.mu.1 hs.mu.2 u,hs,.refl _ _,t.mutex hi he e v,yR false rfl Iff.rfl B (.inr ⟨rfl,e⟩),.inr dL,A⟩
theorem yW (dl:Int)(q:Entry c.P f (Extern.Atomic.update (Op.intArith .add) .i32 true))(aD:c.Mu≠c.Wg/\c.Mu≠c.Is/\c.Wg≠c.Is)(r:At ops j a f [.pointer (some (muA c.Mu)),.int .i32 dl] d)
  (g:ph.gp= .cnt) (t:0<ph.deaf)
  (h:∀φ mu ms C S W L m,φ i=ph->i<c.n->cv c.n φ mu ms C S W L m->∃mp nw,IntKind.i32.wrap (mu+dl)=nw/\(∃u v z A B,cv c.n (upd φ i {ph with mp:=mp}) nw ms u v z A B)/\ai (WJ c i) fi ops (j+1) n Q (bg a d (.int .i32 nw)) F {ph with mp:=mp}):
  ai (WJ c i) fi ops j (n+1) Q a F ph:=by
 obtain ⟨o,cB,dj,l,hg,D,E,rfl⟩:=r
 obtain ⟨x,y,rfl,G,H⟩:=rG E
 obtain ⟨fn,f1,f2,f3,f4,f5⟩:=q.ex
 refine fG l (by rw[g];simp) fun w s k φ p0 _ hs hi he p=>.inr ?_
 obtain ⟨C,S,W,L,m,hm⟩:=p.m
 obtain ⟨mp,nw,e,I,J⟩:=h φ s.mu s.ms C S W L m he hi hm
 exact ⟨.int .i32 nw,_,_,{s with mu:=nw},{ph with mp:=mp},fun b K cs hb=>by rw[<-e];exact stepG_add_atomic l (cj hg) hb.kind D f1 f2 f3 f4 .i32 f5 G H hs.mu.1 hs.mu.2,by rw[<-e];exact hs.DK aD _,.set _ (.inl rfl),p.mutex hi he g I,yS rfl Iff.rfl t (.inr ⟨rfl,g⟩),.inr dL,J⟩
theorem pg {ty:TypeId}(p:(c.P.funcs[fi]?).any (·.norace)=true)(e:c.P.underlying ty=some (.int .i32)){x:Operand}(q:nh ops j a (.load ty x) d)(f:ph.gp= .cnt)(r:ev a x= .pointer (some (muA c.Mu)))
  (h:∀φ mu ms C S W L m,φ i=ph->i<c.n->cv c.n φ mu ms C S W L m->∃mp,(∃t u v y z,cv c.n (upd φ i {ph with mp:=mp}) mu ms t u v y z)/\ai (WJ c i) fi ops (j+1) n Q (bg a d (.int .i32 mu)) F {ph with mp:=mp}):
  ai (WJ c i) fi ops j (n+1) Q a F ph:=by
 obtain ⟨o,g,hg,A,rfl⟩:=q
 refine fG g (by rw[f];simp) fun w s k φ p0 _ hs hi he l=>.inr ?_
 obtain ⟨C,S,W,L,m,hm⟩:=l.m
 obtain ⟨mp,B,D⟩:=h φ s.mu s.ms C S W L m he hi hm
 have e1:execOp a.eval o=(do pure (.value (<-loadVar ty (muA c.Mu))):Sem Next):=by
  unfold execOp
  simp only[A,eG,r]
  rfl
 have E:(execOp a.eval o).run c.P w= .ok (.value (.int .i32 s.mu)) w:=by
  rw[e1]
  have:=hs.mu.1
  simp[loadVar,isAgg,run_underlying e,this]
 have G:(execOp a.eval o).events c.P w #[]=#[⟨.cell (muA c.Mu),false,false⟩]:=by
  rw[e1]
  have:=hs.mu.1
  simp[loadVar,isAgg,run_underlying e,events_load,this]
 have H:seen c.P fi #[⟨.cell (muA c.Mu),false,false⟩]=#[]:=by rw[seen_def];simp[seenStep,p]
 refine ⟨.int .i32 s.mu,w,#[],{s with mu:=s.mu},{ph with mp:=mp},fun b I cs hb=>?_,hs,.refl _ _,l.mutex hi he f B,ni rfl Iff.rfl,.inr dL,D⟩
 rw[stepG_value g (cj hg) hb.kind E]
 unfold listed
 rw[G,hb.fn,H]
end
section
variable {c : Cy} {i : Nat} {ph : Ph} {ops : Array Oper} {j n : Nat} {Q : Act → aa → Ph → Prop} {a : Act} {F : aa} {f fi : FuncId} {d : Option Tmp}
theorem KD (u v:Value)(A:Entry c.P f Extern.Sync.semacquire)(aD:c.Mu≠c.Wg/\c.Mu≠c.Is/\c.Wg≠c.Is)(B:At ops j a f [.pointer (some (msA c.Mu)),u,v] d)
  (e:ph.gp= .cnt) {G:Nat} (hm:ph.mp= .iN G) (h:ai (WJ c i) fi ops (j+1) n Q (bg a d (.tuple #[])) F {ph with mp:=.jT G}):ai (WJ c i) fi ops j (n+1) Q a F ph:=by
 obtain ⟨o,cB,dj,g,hg,p,D,rfl⟩:=B
 obtain ⟨x,y,z,rfl,q,_,_⟩:=rH D
 obtain ⟨fn,f1,f2,f3,f4,f5⟩:=A.ex
 refine fG g (by rw[e];simp) fun w s k φ p0 _ hs hi he r=>?_
 by_cases l:s.ms=0
 .refine .inl ⟨by rw[hm];rfl,l,fun b E cs=>stepG_semacquire_wait g (cj hg) p f1 f2 f3 f4 f5 (ad:=msA c.Mu) (by simp[eG,q]) (by rw[hs.ms.1,l])⟩
 .obtain ⟨C,S,W,L,m,t⟩:=r.m
  have H:=t.cnt
  refine .inr ⟨.tuple #[],_,_,{s with ms:=s.ms - 1},{ph with mp:=.jT G},fun b E cs hb=>stepG_semacquire g (cj hg) hb.kind p f1 f2 f3 f4 f5 (by simp[eG,q]) hs.ms.1 l hs.ms.2,hs.DL aD _,.set _ (.inl rfl),
   r.mutex hi he e ⟨C,S,W,L,m - 1,JJ t hi _ (by rw[he];exact hm) rfl (by omega)⟩,yT rfl Iff.rfl (.inr ⟨rfl,e⟩),.inr ⟨by simp only;omega,Int.le_refl _⟩,h⟩
theorem DR (u v:Value)(p:Entry c.P f Extern.Sync.semrelease)(aD:c.Mu≠c.Wg/\c.Mu≠c.Is/\c.Wg≠c.Is)(A:At ops j a f [.pointer (some (msA c.Mu)),u,v] d)
  (g:ph.gp= .cnt) (hm:ph.mp= .oW\/ph.mp= .oX) (h:ai (WJ c i) fi ops (j+1) n Q (bg a d (.tuple #[])) F {ph with mp:=.fin}):ai (WJ c i) fi ops j (n+1) Q a F ph:=by
 obtain ⟨o,cB,dj,q,hg,r,B,rfl⟩:=A
 obtain ⟨x,y,z,rfl,l,_,_⟩:=rH B
 obtain ⟨fn,f1,f2,f3,f4,f5⟩:=p.ex
 refine fG q (by rw[g];simp) fun w s k φ p0 _ hs hi he t=>.inr ?_
 obtain ⟨C,S,W,L,m,e⟩:=t.m
 have E:=e.cnt
 have hb:=e.st.w
 have G:=e.st.s
 have H:m<=1:=by
  rcases Nat.lt_or_ge S 1 with y|y
  .have:=e.norm (by omega);omega
  .have:=e.gf (by omega);omega
 have D:IntKind.u32.wrap (s.ms+1)=s.ms+1:=by
  unfold IntKind.wrap
  simp[IntKind.bits,IntKind.signed]
  omega
 refine ⟨.tuple #[],_,_,{s with ms:=s.ms+1},{ph with mp:=.fin},fun b I cs hb=>stepG_semrelease q (cj hg) hb.kind r f1 f2 f3 f4 f5 (by simp[eG,l]) hs.ms.1 hs.ms.2,by rw[D];exact hs.DL aD _,.set _ (.inl rfl),
  t.mutex hi he g ⟨C,S,W,L,m+1,JP e hi _ (by rw[he];exact hm) rfl⟩,yT rfl Iff.rfl (.inr ⟨rfl,g⟩),.inl ⟨_,r,fun x l=>?_⟩,h⟩
 cases l
 exact ⟨f,rfl,p.Dy⟩
theorem DS (l:Entry c.P f Extern.OsHooks.nano)(e:(c.P.funcs[f]?).any (·.norace)=true){vals:List Value}(m:At ops j a f vals d)
  (p:ph.gp≠ .gone) (h:∀x:Int,ai (WJ c i) fi ops (j+1) n Q (bg a d (.int .i64 x)) F ph):ai (WJ c i) fi ops j (n+1) Q a F ph:=by
 obtain ⟨o,cB,dj,g,hg,q,_,rfl⟩:=m
 obtain ⟨fn,f1,f2,f3,f4,f5⟩:=l.ex
 refine fG g p fun w s k φ p0 _ hs hi he r=>.inr ⟨_,w.later,#[],s,ph,fun b t cs hb=>stepG_nanotime g (cj hg) hb.kind q f1 f2 f3 f4 f5 (by rw[f1] at e;simpa using e),hs,⟨rfl,rfl,rfl,⟨w.tick,rfl⟩,fun _ _=>rfl⟩,pe he r,ni rfl Iff.rfl,.inr dL,h _⟩
theorem KE (it:Int)(m:Entry c.P f Extern.Sync.canSpin)(p:At ops j a f [.int .i64 it] d)
  (q:ph.gp≠ .gone) (h:∀t:Bool,(t=true->it<4)->ai (WJ c i) fi ops (j+1) n Q (bg a d (.bool t)) F ph):ai (WJ c i) fi ops j (n+1) Q a F ph:=by
 obtain ⟨o,cB,dj,e,hg,g,r,rfl⟩:=p
 obtain ⟨x,rfl,u⟩:=jY r
 obtain ⟨fn,f1,f2,f3,f4,f5⟩:=m.ex
 have hm:(#[x]:Array Operand).map a.eval=#[.int .i64 it]:=by simp[eG,u]
 refine fG e q fun w s k φ p0 _ hs hi he l=>.inr ?_
 by_cases v:4<=it
 .exact ⟨_,w,#[],s,ph,fun b y cs hb=>stepG_canSpin_no e (cj hg) hb.kind g f1 f2 f3 f4 f5 hm v,hs,.refl _ _,pe he l,ni rfl Iff.rfl,.inr dL,h false (by simp)⟩
 .exact ⟨_,w.asked,#[],s,ph,fun b y cs hb=>stepG_canSpin_ask e (cj hg) hb.kind g f1 f2 f3 f4 f5 hm (by omega),hs,⟨rfl,rfl,rfl,.refl _,fun _ _=>rfl⟩,pe he l,ni rfl Iff.rfl,.inr dL,h _ (fun _=>by omega)⟩
end
theorem ai.entry {P:Program}{main:Bool}{S:Type}{JF:S->Goroutine->aa->Prop}{fi f:FuncId}{ops:Array Oper}{j n:Nat}{Q:Act->aa->S->Prop}{a:Act}{F:aa}{ph:S}{d:Option Tmp}(v:Value)(e:dZ P main (JF ph))(g:Entry P f (fun _=>pure v))
  {vals:List Value} (i:At ops j a f vals d) (h:ai JF fi ops (j+1) n Q (bg a d v) F ph):ai JF fi ops j (n+1) Q a F ph:=fun b c cs hb k=>by
 obtain ⟨fn,f1,f2,f3,f4,f5⟩:=g.ex
 obtain ⟨o,cB,dj,l,hg,m,_,rfl⟩:=i
 rw[List.range'_succ,eJ hb.round]
 refine e.move (fr':=b.at (a.put o.dst v) (.inRegion ops (List.range' (j+1) n)::c)) (fun w=>stepG_entry_pure v l (cj hg) hb.kind m f1 f2 f3 f4 f5) (by rw[<-eJ hb.round];exact h b c cs hb k)
section
variable {c : Cy} {i : Nat} {ph : Ph} {ops : Array Oper} {j n : Nat} {Q : Act → aa → Ph → Prop} {a : Act} {F : aa} {f fi : FuncId} {d : Option Tmp}
theorem uP (ad:Addr){src dst t:TypeId}(hs:c.P.underlying src=some (.pointer t))(hd:c.P.underlying dst=some .unsafePointer)(e:(c.P.info? t).map (fun i=>decide (i.size=0))=some false){x:Operand}
  (m:nh ops j a (.convert src dst x) d) (p:ph.gp≠ .gone) (q:ev a x= .pointer (some ad)) (r:∀w s,cA c w s->∃v,w.cell? ad=some v) (h:ai (WJ c i) fi ops (j+1) n Q (bg a d (.pointer (some ad))) F ph):ai (WJ c i) fi ops j (n+1) Q a F ph:=by
 obtain ⟨o,f,hg,u,rfl⟩:=m
 refine fG f p fun w s k φ p0 _ g hi he y=>.inr ⟨_,w,#[],s,ph,fun b B cs hb=>?_,g,.refl _ _,pe he y,ni rfl Iff.rfl,.inr dL,h⟩
 obtain ⟨v,l⟩:=r w s g
 have e1:execOp a.eval o=(do pure (.value (<-convert src dst (.pointer (some ad)))):Sem Next):=by
  unfold execOp
  simp only[u,eG,q]
 have z:(execOp a.eval o).run c.P w= .ok (.value (.pointer (some ad))) w:=by
  rw[e1];simp[run_convert_to_unsafe hs hd e l]
 have A:(execOp a.eval o).events c.P w #[]=#[]:=by
  rw[e1];simp[events_convert_to_unsafe hs hd e l]
 rw[stepG_value f (cj hg) hb.kind z]
 unfold listed
 rw[A,seen_none]
theorem KF {ty:TypeId}(J:c.P.underlying ty=some .bool)(z:bY c.P ty=some 1)(A:(c.P.funcs[fi]?).any (·.norace)=false)(aD:c.Mu≠c.Wg/\c.Mu≠c.Is/\c.Wg≠c.Is){x y:Operand}
  (B:nh ops j a (.store ty x y) d) (e:ph.gp= .cnt) (g:ev a x= .pointer (some ⟨c.Is,i,none⟩)) (l:ev a y= .bool true) (h:ai (WJ c i) fi ops (j+1) n Q (bg a d undef) F {ph with stored:=true}):ai (WJ c i) fi ops j (n+1) Q a F ph:=by
 obtain ⟨o,p,hg,q,rfl⟩:=B
 refine fG p (by rw[e];simp) fun w s k φ p0 _ hs hi he f=>.inr ?_
 have hlen:=f.i.len
 have r:w.cell? ⟨c.Is,i,none⟩=some (.bool (s.is[i]'(by omega))):=by
  have:=hs.2.2
  simp[World.cell?,this,hlen,hi]
 have t:w.frozen? ⟨c.Is,i,none⟩=false:=by
  have:=hs.2.2
  simp[World.frozen?,this]
 have u:(sizeOf ty).run c.P w= .ok 1 w:=by
  obtain ⟨inf,e,D⟩:=Option.map_eq_some_iff.1 z
  simp[Go.sizeOf,typeInfo,e,D]
 have v:Instr.sureAddr (.pointer (some ⟨c.Is,i,none⟩))=(Pure.pure ⟨c.Is,i,none⟩:Sem Addr):=rfl
 have E:(execOp a.eval o).run c.P w= .ok .skip (w.setCell ⟨c.Is,i,none⟩ (.bool true)):=by
  unfold execOp
  simp only[q,eG,g,l]
  simp[Instr.storeAt,v,storeVar,u,Value.cells,storeCells,Addr.add,r,t,run_store c.P w ⟨c.Is,i,none⟩ (.bool true) .plain rfl,Result.andThen]
 have G:(execOp a.eval o).events c.P w #[]=#[⟨.cell ⟨c.Is,i,none⟩,true,false⟩]:=by
  unfold execOp
  simp only[q,eG,g,l]
  simp[Instr.storeAt,v,storeVar,u,Value.cells,storeCells,Addr.add,r,t,events_store c.P w _ ⟨c.Is,i,none⟩ (.bool true) .plain rfl,run_store c.P w ⟨c.Is,i,none⟩ (.bool true) .plain rfl,Result.evThen]
 have H:seen c.P fi #[⟨.cell ⟨c.Is,i,none⟩,true,false⟩]=#[⟨.cell ⟨c.Is,i,none⟩,true,false⟩]:=by rw[seen_def];simp[seenStep,A]
 obtain ⟨C,S,W,L,m,hm⟩:=f.m
 refine ⟨undef,_,_,{s with is:=s.is.set i true},{ph with stored:=true},fun b K cs hb=>?_,hs.Ky aD i true,.set _ (.inr (.inr rfl)),?_,.store rfl rfl ⟨e,e⟩,.inr dL,h⟩
 .rw[stepG_none p (cj hg) hb.kind E]
  unfold listed
  rw[G,hb.fn,H]
 .exact f.jV hi he (by rw[e];simp) (by simp[e]) ⟨C,S,W,L,m,nc hm hi _ (.inl (by rw[he]))⟩ (uD f.w hi _ (.inl (by rw[he]))) rfl (fun I=>absurd e I)
end
theorem ai.shr {P:Program}{main:Bool}{S:Type}{JF:S->Goroutine->aa->Prop}{fi:FuncId}{ops:Array Oper}{j n:Nat}{Q:Act->aa->S->Prop}{a:Act}{F:aa}{ph:S}{d:Option Tmp}{t f:TypeId}{k b:IntKind}{u m:Int}(v:Int)(g:dZ P main (JF ph)){x y:Operand}
  (i:nh ops j a (.binOp .shr t x y f) d) (l:ev a x= .int k u) (p:ev a y= .int b m) (hm:0<=m) (c:u.fdiv (2 ^ min m.toNat k.bits)=v) (h:ai JF fi ops (j+1) n Q (bg a d (.int k v)) F ph):ai JF fi ops j (n+1) Q a F ph:=by
 obtain ⟨o,q,hg,r,rfl⟩:=i
 have e:¬m<0:=by omega
 have e1:execOp a.eval o=(do eqGuard .shr t x y (.int k u) (.int b m);pure (.value (<-binOp .shr t (.int k u) (.int b m))):Sem Next):=by
  unfold execOp
  simp only[r,eG,l,p]
  simp
 refine ai.plain g (.int k v) q hg (fun w=>?_) (fun w=>?_) h
 .rw[e1];subst c;simp[eqGuard,binOp,Op.shift,e]
 .rw[e1];subst c;simp[eqGuard,binOp,Op.shift,e]
theorem ai.nj {P:Program}{main:Bool}{S:Type}{JF:S->Goroutine->aa->Prop}{fi:FuncId}{ops:Array Oper}{j n:Nat}{Q:Act->aa->S->Prop}{a:Act}{F:aa}{ph:S}{d:Option Tmp}{t b:TypeId}(u v:Int)(c:dZ P main (JF ph)){x y:Operand}
  (e:nh ops j a (.binOp .shr t x y b) d) (f:ev a x= .int .i32 u) (g:ev a y= .int .u64 3) (i:u.fdiv 8=v) (h:ai JF fi ops (j+1) n Q (bg a d (.int .i32 v)) F ph):ai JF fi ops j (n+1) Q a F ph:=
 ai.shr v c e f g (by decide) i h
end Go.Sep
end
section
namespace Go.Proofs.YtghbphimkgamkaaGreatDoor
open Go Go.Sep Go.Proofs Go.Conc
open Go.ConcN (upd upd_same)
open Go.ConcM (muA msA)
open Go.ConcR (stA smA)
set_option maxRecDepth 100000
set_option maxHeartbeats 4000000
attribute [local go_sem] Int.reduceBEq Int.reduceBNe muA msA stA smA
section
variable {Mu Wg Is n base T0 i : Nat} {bs : Nat → Bool} {st : Bool} {F : aa}
theorem yX (w:World)(s:Sh)(h:cA (CY Mu Wg Is n bs base T0) w s):∃v,w.cell? ⟨Mu,0,none⟩=some v:=⟨_,h.mu.1⟩
theorem KG (aD:Mu≠Wg/\Mu≠Is/\Wg≠Is)
  (b:cG Tryz.prog (WJ (CY Mu Wg Is n bs base T0) i) 199 #[.pointer (some (muA Mu))] F ⟨.idle,.cnt,st,1⟩ (fun v F' aL=>v= .tuple #[]/\F'=F/\aL=⟨.held,.cnt,st,0⟩)):
  cG Tryz.prog (WJ (CY Mu Wg Is n bs base T0) i) 180 #[.pointer (some (muA Mu))] F ⟨.idle,.cnt,st,0⟩ (fun v F' aL=>v= .tuple #[]/\F'=F/\aL=⟨.held,.cnt,st,0⟩):=by
 have a:=WJ.ez (CY Mu Wg Is n bs base T0) i
 have hJ:∀ph:Ph,ph.gp= .cnt->Go.Sep.Closed Tryz.prog false (WJ (CY Mu Wg Is n bs base T0) i ph):=fun ph h=>Wk.closed (CY Mu Wg Is n bs base T0) i ph h
 refine cG.go (main:=false) a Tryz.func180 rfl Tryz.ntmps180 (by simp) fun A d hd hs=>?_
 have e:=hs 0
 clear hs
 repeat apply aB (a _)
 refine c5 a ?_
 refine yV rF ⟨_,_,_,rfl,(by first|rfl|simp only[*,go_sem]),rfl,by first|(simp only[*,go_sem];done)|(simp only[*,go_sem];rfl),rfl⟩ (by simp) (by simp) ?_
 refine ai.nil a ?_;try simp only[go_sem]
 repeat apply aB (a _)
 refine c5 a ?_
 refine ai.bA (hJ _ rfl) 3 (n:=1) _ rfl rfl ?_;simp only[*,go_sem]
 refine uO 0 1 uK aD ⟨_,_,_,rfl,(by first|rfl|simp only[*,go_sem]),rfl,by first|(simp only[*,go_sem];done)|(simp only[*,go_sem];rfl),rfl⟩ (by rfl) (by simp) (fun φ ms C S W L m he hi hm=>⟨.held,⟨0,0,0,1,m,JD hm hi _ (by rw[he]) rfl rfl⟩,?_⟩) (fun φ mu ms C S W L m he hi hm f=>⟨.idle,⟨C,S,W,L,m,nc hm hi _ (.inl (by rw[he]))⟩,?_⟩)
 .refine ai.nil a ?_;try simp only[go_sem]
  repeat apply aB (a _)
  refine cZ (a _) (by simp only[*,go_sem]) ?_
  repeat apply aB (a _)
  refine cZ (a _) (by simp only[*,go_sem]) ?_
  repeat apply aB (a _)
  refine c5 a ?_
  refine uN lS ⟨_,_,_,rfl,(by first|rfl|simp only[*,go_sem]),rfl,by first|(simp only[*,go_sem];done)|(simp only[*,go_sem];rfl),rfl⟩ (by simp) (by simp) rfl ?_
  refine ai.nil a ?_;try simp only[go_sem]
  repeat apply aB (a _)
  refine c5 a ?_
  refine ai.bA (hJ _ rfl) 1 (n:=2) _ rfl rfl ?_;simp only[*,go_sem]
  refine uP ⟨Mu,0,none⟩ yM lT yO ⟨_,rfl,(by first|rfl|simp only[*,go_sem]),rfl,rfl⟩ (by simp) (by simp only[*,go_sem]) yX ?_
  refine DQ uJ ⟨_,_,_,rfl,(by first|rfl|simp only[*,go_sem]),rfl,by first|(simp only[*,go_sem];done)|(simp only[*,go_sem];rfl),rfl⟩ (by rfl) ?_
  refine ai.nil a ?_;try simp only[go_sem]
  refine fF ?_;try simp only[go_sem]
  exact o8 rfl (by simp only[*,go_sem]) ⟨rfl,rfl,rfl⟩
 .refine ai.nil a ?_;try simp only[go_sem]
  repeat apply aB (a _)
  refine cD (a _) (by simp only[*,go_sem]) ?_
  apply cH (a _);try simp only[go_sem]
  repeat apply aB (a _)
  refine c5 a ?_
  refine ai.bA (hJ _ rfl) 1 (n:=1) _ rfl rfl ?_;simp only[*,go_sem]
  refine ai.gj (a _) rfl rfl rfl F2 (by simp only[*,go_sem,muA]) b fun v F' aL c=>?_
  obtain ⟨rfl,rfl,rfl⟩:=c
  refine ai.nil a ?_
  exact lQ rfl (by simp only[*,go_sem]) ⟨rfl,rfl,rfl⟩
def jy (C S W:Nat)(nw:Int)(G:Nat):Mp:=if S=1 then .oX else if 0<C/\W=0 then .gA nw G else .fin
def KH (Mu n:Nat)(st:Bool)(F:aa)(m:Nat)(a:Act)(F':aa)(aL:Ph):Prop:=
 ∃(old:Int) (C S W L G:Nat),F'=F/\slot a 0= .pointer (some ⟨Mu,0,none⟩)/\slot a 4= .int .i32 old/\sz a=43/\a.defers=[]/\Wd old C S W L/\C<=3*n/\G<=m/\
   ((S=0/\L=0/\W=0/\0<C/\aL=⟨.gA old G,.cnt,st,1⟩)\/(¬(S=0/\L=0/\W=0/\0<C)/\aL=⟨.fin,.cnt,st,1⟩))
theorem KI (aD:Mu≠Wg/\Mu≠Is/\Wg≠Is)(ab:n<67108864){nw:Int}{C S W G:Nat}(hw:Wd nw C S W 0)(hC:C<=3*n):
  cG Tryz.prog (WJ (CY Mu Wg Is n bs base T0) i) 201 #[.pointer (some (muA Mu)),.int .i32 nw] F ⟨jy C S W nw G,.cnt,st,1⟩ (fun v F' aL=>v= .tuple #[]/\F'=F/\aL=⟨.fin,.cnt,st,1⟩):=by
 have a:=WJ.ez (CY Mu Wg Is n bs base T0) i
 have hJ:∀ph:Ph,ph.gp= .cnt->Go.Sep.Closed Tryz.prog false (WJ (CY Mu Wg Is n bs base T0) i ph):=fun ph h=>Wk.closed (CY Mu Wg Is n bs base T0) i ph h
 refine cG.go (main:=false) a Tryz.func201 rfl Tryz.ntmps201 (by simp) fun A u hd hs=>?_
 have y:=hs 0
 have k1:=hs 1
 clear hs
 have z:=hw.st.s
 have hW:=hw.st.w
 have w1:IntKind.i32.wrap (nw+1)=nw+1:=by have e0:=hw.st.eq;exact iP (by omega) (by omega)
 have B:Wd (nw+1) C S W 1:=by have e0:=hw.st.eq;exact wd ⟨by omega,by omega,hW,z⟩ (by omega)
 have K:dY (nw+1) 1=1:=B.a1
 repeat apply aB (a _)
 refine c5 a ?_
 refine ai.bA (hJ _ rfl) 4 (n:=0) _ rfl rfl ?_;simp only[*,go_sem]
 refine ai.nil a ?_;try simp only[go_sem]
 repeat apply aB (a _)
 refine cD (a _) (by simp only[*,go_sem]) ?_
 apply cH (a _);try simp only[go_sem]
 rcases (by omega:S=1\/S=0) with rfl|rfl
 ·
  have b4:dY nw 4=4:=hw.a4
  repeat apply aB (a _)
  refine c5 a ?_
  refine ai.bA (hJ _ rfl) 3 (n:=0) _ rfl rfl ?_;simp only[*,go_sem]
  refine ai.nil a ?_;try simp only[go_sem]
  repeat apply aB (a _)
  refine cD (a _) (by simp only[*,go_sem]) ?_
  repeat apply aB (a _)
  refine c5 a ?_
  refine ai.bA (hJ _ rfl) 3 (n:=1) _ rfl rfl ?_;simp only[*,go_sem]
  refine DR (.bool true) (.int .i64 2) DC aD ⟨_,_,_,rfl,(by first|rfl|simp only[*,go_sem]),rfl,by first|(simp only[*,go_sem];done)|(simp only[*,go_sem];rfl),rfl⟩ (by rfl) (by simp[jy]) ?_
  refine ai.nil a ?_;try simp only[go_sem]
  exact lQ rfl (by simp only[*,go_sem]) ⟨rfl,rfl,rfl⟩
 .have b4:dY nw 4=0:=hw.a4
  repeat apply aB (a _)
  refine c5 a ?_
  refine ai.bA (hJ _ rfl) 3 (n:=0) _ rfl rfl ?_;simp only[*,go_sem]
  refine ai.nil a ?_;try simp only[go_sem]
  repeat apply aB (a _)
  refine cZ (a _) (by simp only[*,go_sem]) ?_
  repeat apply aB (a _)
  refine c5 a ?_
  refine ai.bA (hJ _ rfl) 2 (n:=0) _ rfl rfl ?_;simp only[*,go_sem]
  refine ai.nil a ?_;try simp only[go_sem]
  repeat apply aB (a _)
  refine jW a ?_
  refine rE a (fun m M F' aL=>KH Mu n st F m M F' aL) G ?_ ?_
  .refine ⟨nw,C,0,W,0,G,rfl,by simp only[*,go_sem,muA],by simp only[*,go_sem],by simp only[*,go_sem],by simp only[*,go_sem],hw,hC,Nat.le_refl _,?_⟩
   by_cases f:0<C/\W=0
   .exact .inl ⟨rfl,rfl,f.2,f.1,by simp[jy,f]⟩
   .exact .inr ⟨fun x=>f ⟨x.2.2.2,x.2.2.1⟩,by simp[jy,f]⟩
  .clear hw hC b4 K B w1 z hW y k1 u hd
   rintro m A F' aL ⟨old,C,S,W,L,G,rfl,y,ad,u,hd,hw,hC,ae,N⟩
   repeat apply aB (a _)
   refine jW a ?_
   have sh:old.fdiv 8=(C:Int):=hw.sh
   rcases N with ⟨rfl,rfl,rfl,j,rfl⟩|⟨al,rfl⟩
   ·
    have O:dY old 7=0:=hw.a7
    have D:((C:Int)==0)=false:=by simp;omega
    repeat apply aB (a _)
    refine c5 a ?_
    refine ai.bA (hJ _ rfl) 1 (n:=7) _ rfl rfl ?_;simp only[*,go_sem]
    refine ai.nj old (C:Int) (a _) ⟨_,rfl,(by first|rfl|simp only[*,go_sem]),rfl,rfl⟩ (by simp only[*,go_sem]) (by simp only[*,go_sem]) hw.sh ?_
    refine ai.bA (hJ _ rfl) 6 (n:=0) _ rfl rfl ?_;simp only[*,go_sem]
    refine ai.nil a ?_;try simp only[go_sem]
    repeat apply aB (a _)
    refine cD (a _) (by simp only[*,go_sem]) ?_
    apply cH (a _);try simp only[go_sem]
    have ao:IntKind.i32.wrap (old - 8)=old - 8:=by have e0:=hw.st.eq;exact iP (by omega) (by omega)
    have P:Wd (old - 8) (C - 1) 0 0 0:=by have e0:=hw.st.eq;exact wd ⟨by omega,by omega,by omega,by omega⟩ (by omega)
    have o2:js (old - 8) 2=old - 8+2:=P.o2
    repeat apply aB (a _)
    refine c5 a ?_
    refine ai.bA (hJ _ rfl) 4 (n:=0) _ rfl rfl ?_;simp only[*,go_sem]
    refine ai.nil a ?_;try simp only[go_sem]
    repeat apply aB (a _)
    refine c5 a ?_
    refine ai.bA (hJ _ rfl) 5 (n:=1) _ rfl rfl ?_;simp only[*,go_sem]
    refine uO old (old - 8+2) uK aD ⟨_,_,_,rfl,(by first|rfl|simp only[*,go_sem]),rfl,by first|(simp only[*,go_sem];done)|(simp only[*,go_sem];rfl),rfl⟩ (by rfl) (by simp) (fun φ ms Q R T U k he hi hm=>?_) (fun φ mu ms Q R T U k he hi hm V=>?_)
    .obtain ⟨rfl,rfl,rfl,rfl⟩:=hm.st.uniq hw.st
     refine ⟨.oW,⟨_,_,_,_,k,JN hm hi _ (by rw[he]) rfl rfl rfl rfl j⟩,?_⟩
     refine ai.nil a ?_;try simp only[go_sem]
     repeat apply aB (a _)
     refine cZ (a _) (by simp only[*,go_sem]) ?_
     repeat apply aB (a _)
     refine c5 a ?_
     refine ai.bA (hJ _ rfl) 3 (n:=1) _ rfl rfl ?_;simp only[*,go_sem]
     refine DR (.bool false) (.int .i64 2) DC aD ⟨_,_,_,rfl,(by first|rfl|simp only[*,go_sem]),rfl,by first|(simp only[*,go_sem];done)|(simp only[*,go_sem];rfl),rfl⟩ (by rfl) (by simp) ?_
     refine ai.nil a ?_;try simp only[go_sem]
     refine fF ?_;try simp only[go_sem]
     exact o8 rfl (by simp only[*,go_sem]) ⟨rfl,rfl,rfl⟩
    .obtain ⟨X,ar,Y⟩:=JO hm hi {mp:=.gA mu (bM n φ ms),gp:=.cnt,stored:=st,deaf:=1} (by rw[he]) rfl
     have a0:bM n φ ms<G:=Y V
     refine ⟨.gA mu (bM n φ ms),⟨_,_,_,_,k,X⟩,?_⟩
     refine ai.nil a ?_;try simp only[go_sem]
     repeat apply aB (a _)
     refine cD (a _) (by simp only[*,go_sem]) ?_
     apply cH (a _);try simp only[go_sem]
     repeat apply aB (a _)
     refine c5 a ?_
     refine ai.bA (hJ _ rfl) 3 (n:=2) _ rfl rfl ?_;simp only[*,go_sem]
     refine pg Kx o9 ⟨_,rfl,(by first|rfl|simp only[*,go_sem]),rfl,rfl⟩ (by rfl) (by simp only[*,go_sem]) (fun c g d l o p q E H I e=>?_)
     have J:=wd e.st (by have:=e.bound;simp only[CY] at this;omega)
     by_cases b:o=0/\q=0/\p=0/\0<l
     .obtain ⟨r,t,_⟩:=Dc e I {mp:=.gA g (bM n c d),gp:=.cnt,stored:=st,deaf:=1} (by rw[H]) (.inl ⟨b.1,b.2.1,b.2.2.1,b.2.2.2,rfl⟩)
      have Z:bM n c d<=bM n φ ms:=t
      refine ⟨.gA g (bM n c d),⟨_,_,_,_,E,r⟩,?_⟩
      refine ai.bA (hJ _ rfl) 1 (n:=0) _ rfl rfl ?_;simp only[*,go_sem]
      refine ai.nil a ?_;try simp only[go_sem]
      exact ⟨bM n c d,by omega,g,l,o,p,q,bM n c d,rfl,(by simp only[*,go_sem]),(by simp only[*,go_sem]),(by simp only[*,go_sem]),(by simp only[*,go_sem]),J,e.bound,Nat.le_refl _,.inl ⟨b.1,b.2.1,b.2.2.1,b.2.2.2,rfl⟩⟩
     .obtain ⟨r,t,_⟩:=Dc e I {mp:=.fin,gp:=.cnt,stored:=st,deaf:=1} (by rw[H]) (.inr ⟨b,rfl⟩)
      have Z:bM n c d<=bM n φ ms:=t
      refine ⟨.fin,⟨_,_,_,_,E,r⟩,?_⟩
      refine ai.bA (hJ _ rfl) 1 (n:=0) _ rfl rfl ?_;simp only[*,go_sem]
      refine ai.nil a ?_;try simp only[go_sem]
      exact ⟨bM n c d,by omega,g,l,o,p,q,bM n c d,rfl,(by simp only[*,go_sem]),(by simp only[*,go_sem]),(by simp only[*,go_sem]),(by simp only[*,go_sem]),J,e.bound,Nat.le_refl _,.inr ⟨b,rfl⟩⟩
   ·
    by_cases j:C=0
    .have D:((C:Int)==0)=true:=by simp[j]
     repeat apply aB (a _)
     refine c5 a ?_
     refine ai.bA (hJ _ rfl) 1 (n:=7) _ rfl rfl ?_;simp only[*,go_sem]
     refine ai.nj old (C:Int) (a _) ⟨_,rfl,(by first|rfl|simp only[*,go_sem]),rfl,rfl⟩ (by simp only[*,go_sem]) (by simp only[*,go_sem]) hw.sh ?_
     refine ai.bA (hJ _ rfl) 6 (n:=0) _ rfl rfl ?_;simp only[*,go_sem]
     refine ai.nil a ?_;try simp only[go_sem]
     repeat apply aB (a _)
     refine cZ (a _) (by simp only[*,go_sem]) ?_
     refine fF ?_;try simp only[go_sem]
     exact o8 rfl (by simp only[*,go_sem]) ⟨rfl,rfl,rfl⟩
    .have D:((C:Int)==0)=false:=by simp;omega
     have O:=hw.a7
     have a2:(((4*S+(2*W+L):Nat):Int) != 0)=true:=by simp;omega
     repeat apply aB (a _)
     refine c5 a ?_
     refine ai.bA (hJ _ rfl) 1 (n:=7) _ rfl rfl ?_;simp only[*,go_sem]
     refine ai.nj old (C:Int) (a _) ⟨_,rfl,(by first|rfl|simp only[*,go_sem]),rfl,rfl⟩ (by simp only[*,go_sem]) (by simp only[*,go_sem]) hw.sh ?_
     refine ai.bA (hJ _ rfl) 6 (n:=0) _ rfl rfl ?_;simp only[*,go_sem]
     refine ai.nil a ?_;try simp only[go_sem]
     repeat apply aB (a _)
     refine cZ (a _) (by simp only[*,go_sem]) ?_
     refine fF ?_;try simp only[go_sem]
     exact o8 rfl (by simp only[*,go_sem]) ⟨rfl,rfl,rfl⟩
theorem KJ (aD:Mu≠Wg/\Mu≠Is/\Wg≠Is)(j:n<67108864):
  cG Tryz.prog (WJ (CY Mu Wg Is n bs base T0) i) 181 #[.pointer (some (muA Mu))] F ⟨.held,.cnt,st,0⟩ (fun v F' aL=>v= .tuple #[]/\F'=F/\aL=⟨.fin,.cnt,st,0⟩):=by
 have a:=WJ.ez (CY Mu Wg Is n bs base T0) i
 have hJ:∀ph:Ph,ph.gp= .cnt->Go.Sep.Closed Tryz.prog false (WJ (CY Mu Wg Is n bs base T0) i ph):=fun ph h=>Wk.closed (CY Mu Wg Is n bs base T0) i ph h
 refine cG.go (main:=false) a Tryz.func181 rfl Tryz.ntmps181 (by simp) fun A x hd hs=>?_
 have y:=hs 0
 clear hs
 repeat apply aB (a _)
 refine cZ (a _) (by simp only[*,go_sem]) ?_
 repeat apply aB (a _)
 refine c5 a ?_
 refine ai.bA (hJ _ rfl) 3 (n:=1) _ rfl rfl ?_;simp only[*,go_sem]
 refine pg Kw o9 ⟨_,rfl,(by first|rfl|simp only[*,go_sem]),rfl,rfl⟩ (by rfl) (by simp only[*,go_sem]) (fun z B D E G H I k l o p=>⟨.held,⟨_,_,_,_,k,nc p o _ (.inl (by rw[l]))⟩,?_⟩)
 refine ai.nil a ?_;try simp only[go_sem]
 repeat apply aB (a _)
 refine c5 a ?_
 refine ai.bA (hJ _ rfl) 1 (n:=2) _ rfl rfl ?_;simp only[*,go_sem]
 refine uP ⟨Mu,0,none⟩ yM lT yO ⟨_,rfl,(by first|rfl|simp only[*,go_sem]),rfl,rfl⟩ (by simp) (by simp only[*,go_sem]) yX ?_
 refine KB Dz ⟨_,_,_,rfl,(by first|rfl|simp only[*,go_sem]),rfl,by first|(simp only[*,go_sem];done)|(simp only[*,go_sem];rfl),rfl⟩ (by rfl) ?_
 refine ai.nil a ?_;try simp only[go_sem]
 repeat apply aB (a _)
 refine c5 a ?_
 refine yV rF ⟨_,_,_,rfl,(by first|rfl|simp only[*,go_sem]),rfl,by first|(simp only[*,go_sem];done)|(simp only[*,go_sem];rfl),rfl⟩ (by simp) (by simp) ?_
 refine ai.nil a ?_;try simp only[go_sem]
 repeat apply aB (a _)
 refine c5 a ?_
 refine ai.bA (hJ _ rfl) 3 (n:=2) _ rfl rfl ?_;simp only[*,go_sem]
 refine yW (-1) yK aD ⟨_,_,_,rfl,(by first|rfl|simp only[*,go_sem]),rfl,by first|(simp only[*,go_sem];done)|(simp only[*,go_sem];rfl),rfl⟩ (by rfl) (by simp) (fun φ mu ms C S W L m he hi hm=>?_)
 have q:=Db hm hi (by rw[he])
 subst q
 have hb:C<=3*n:=hm.bound
 have r:=hm.st.s
 have hW:=hm.st.w
 have d:IntKind.i32.wrap (mu+ -1)=mu - 1:=by have e0:=hm.st.eq;exact iP (by omega) (by omega)
 have g:St (mu - 1) C S W 0:=⟨by have e0:=hm.st.eq;omega,by omega,hW,r⟩
 have hw:Wd (mu - 1) C S W 0:=wd g (by omega)
 have e:cv n (upd φ i ⟨jy C S W (mu - 1) (sm n φ Mp.wt+2*m),.cnt,st,1⟩) (mu - 1) ms C S W 0 m:=by
  refine JM hm hi _ (by rw[he]) ?_
  by_cases b:S=1
  .exact .inl ⟨b,by simp[jy,b]⟩
  .by_cases c:0<C/\W=0
   .exact .inr (.inl ⟨by omega,c.1,c.2,by simp[jy,b,c]⟩)
   .exact .inr (.inr ⟨by omega,by omega,by simp[jy,b,c]⟩)
 refine ⟨jy C S W (mu - 1) (sm n φ Mp.wt+2*m),mu - 1,d,⟨_,_,_,_,m,e⟩,?_⟩
 refine ai.bA (hJ _ rfl) 1 (n:=0) _ rfl rfl ?_;simp only[*,go_sem]
 refine ai.nil a ?_;try simp only[go_sem]
 by_cases f:mu - 1=0
 .have e0:=g.eq
  have t:jy C S W (mu - 1) (sm n φ Mp.wt+2*m)= .fin:=by
   have:C=0:=by omega
   have:S=0:=by omega
   simp[jy, *]
  clear hw e d e0
  rw[t]
  rw[f]
  repeat apply aB (a _)
  refine c5 a ?_
  refine ai.bA (hJ _ rfl) 2 (n:=0) _ rfl rfl ?_;simp only[*,go_sem]
  refine ai.nil a ?_;try simp only[go_sem]
  repeat apply aB (a _)
  refine cD (a _) (by simp only[*,go_sem]) ?_
  apply cH (a _);try simp only[go_sem]
  repeat apply aB (a _)
  refine c5 a ?_
  refine uN lS ⟨_,_,_,rfl,(by first|rfl|simp only[*,go_sem]),rfl,by first|(simp only[*,go_sem];done)|(simp only[*,go_sem];rfl),rfl⟩ (by simp) (by simp) rfl ?_
  refine ai.nil a ?_;try simp only[go_sem]
  exact lQ rfl (by simp only[*,go_sem]) ⟨rfl,rfl,rfl⟩
 .have J:(mu - 1 != 0)=true:=by simpa using f
  clear e d f
  repeat apply aB (a _)
  refine c5 a ?_
  refine ai.bA (hJ _ rfl) 2 (n:=0) _ rfl rfl ?_;simp only[*,go_sem]
  refine ai.nil a ?_;try simp only[go_sem]
  repeat apply aB (a _)
  refine cZ (a _) (by simp only[*,go_sem]) ?_
  repeat apply aB (a _)
  refine c5 a ?_
  refine ai.bA (hJ _ rfl) 2 (n:=1) _ rfl rfl ?_;simp only[*,go_sem]
  refine ai.gj (a _) rfl rfl rfl F3 (by simp only[*,go_sem,muA]) (KI aD j hw hb) fun v F' aL u=>?_
  obtain ⟨rfl,rfl,rfl⟩:=u
  refine ai.nil a ?_;try simp only[go_sem]
  repeat apply aB (a _)
  refine c5 a ?_
  refine uN lS ⟨_,_,_,rfl,(by first|rfl|simp only[*,go_sem]),rfl,by first|(simp only[*,go_sem];done)|(simp only[*,go_sem];rfl),rfl⟩ (by simp) (by simp) rfl ?_
  refine ai.nil a ?_;try simp only[go_sem]
  exact lQ rfl (by simp only[*,go_sem]) ⟨rfl,rfl,rfl⟩
end
end Go.Proofs.YtghbphimkgamkaaGreatDoor
end
section
namespace Go.Sep
open Go Go.Conc
def uQ {S:Type}(b:Act->aa->S->Prop)(Q:Ex->Act->aa->S->Prop):Ex->Act->aa->S->Prop
 | .normal,a,F,ph=>b a F ph
 |e,a,F,ph=>Q e a F ph
attribute [go_sem] uQ
theorem kQ {P:Program}{main:Bool}{S:Type}{JF:S->Goroutine->aa->Prop}{fi:FuncId}{Q:Ex->Act->aa->S->Prop}{a:Act}{F:aa}{ph:S}(c:∀ph,dZ P main (JF ph)){x y:Code}(b:Act->aa->S->Prop)
  (d:cM JF fi x (uQ b Q) a F ph) (f:∀a F ph,b a F ph->cM JF fi y Q a F ph):cM JF fi (.seq x y) Q a F ph:=
 aB (c _) (d.mono fun e a F ph h=>by
  cases e with
  |normal=>exact f a F ph h
  |exit i=>exact h
  |ret=>exact h)
theorem uR {P:Program}{main:Bool}{S:Type}{JF:S->Goroutine->aa->Prop}{fi:FuncId}{Q:Ex->Act->aa->S->Prop}{a:Act}{F:aa}{ph:S}(f:∀ph,dZ P main (JF ph)){x:Code}(b:Act->aa->S->Prop)
  (c:cM JF fi x (uQ b Q) a F ph) (d:∀a F ph,b a F ph->Q .normal a F ph):cM JF fi x Q a F ph:=
 c.mono fun e a F ph h=>by
  cases e with
  |normal=>exact d a F ph h
  |exit i=>exact h
  |ret=>exact h
theorem bh {P:Program}{main:Bool}{S:Type}{JF:S->Goroutine->aa->Prop}{fi:FuncId}{Q:Ex->Act->aa->S->Prop}{a:Act}{F:aa}{ph:S}(b:∀ph,dZ P main (JF ph)){id:Nat}{ops:Array Oper}
  (h:∀K:Act->aa->S->Prop,(∀a F ph,Q .normal a F ph->K a F ph)->ai JF fi ops 0 ops.size K a F ph):cM JF fi (.region id ops false) Q a F ph:=c5 b (h _ fun _ _ _ h=>h)
theorem eE {S:Type}{b:Act->aa->S->Prop}{Q:Ex->Act->aa->S->Prop}{a:Act}{F:aa}{ph:S}(h:b a F ph):uQ b Q .normal a F ph:=h
theorem jl {S:Type}{I:Nat->Act->aa->S->Prop}{n:Nat}{Q:Ex->Act->aa->S->Prop}{a:Act}{F:aa}{ph:S}(h:∃m,m<n/\I m a F ph):yI I n Q .normal a F ph:=h
theorem KL {x:Int}(a: -9223372036854775808<=x)(b:x<9223372036854775808):IntKind.i64.wrap x=x:=by
 unfold IntKind.wrap;simp[IntKind.bits,IntKind.signed];omega
end Go.Sep
namespace Go.Proofs.YtghbphimkgamkaaGreatDoor
open Go Go.Sep Go.Proofs Go.Conc
open Go.ConcN (upd upd_same)
open Go.ConcM (muA msA)
open Go.ConcR (stA smA)
set_option maxRecDepth 100000
set_option maxHeartbeats 8000000
set_option linter.all false
attribute [local go_sem] Int.reduceBEq Int.reduceBNe muA msA stA smA
def uS (Mu n:Nat)(st:Bool)(F:aa)(m:Nat)(a:Act)(F':aa)(ph:Ph):Prop:=
 ∃(wt it old:Int) (sv aw:Bool) (C S W L G:Nat),F'=F/\slot a 0= .pointer (some ⟨Mu,0,none⟩)/\slot a 2= .int .i64 wt/\slot a 3= .bool sv/\slot a 4= .bool aw/\slot a 5= .int .i64 it/\slot a 6= .int .i32 old/\sz a=139/\a.defers=[]/\
  Wd old C S W L/\C<=3*n/\0<=it/\it<=4/\(sv=true->aw=true)/\(aw=true->S=0/\W=1)/\8*G+(5 - it).toNat<=m/\ph=⟨.want aw old G,.cnt,st,1⟩
def uT (Mu:Nat)(st:Bool)(F:aa)(a:Act)(F':aa)(ph:Ph):Prop:=F'=F/\slot a 0= .pointer (some ⟨Mu,0,none⟩)/\sz a=139/\a.defers=[]/\ph=⟨.held,.cnt,st,1⟩
def KM (Mu:Nat)(st:Bool)(F:aa)(wt it:Int)(sv:Bool)(G:Nat)(a:Act)(F':aa)(ph:Ph):Prop:=
 ∃(aw:Bool) (o:Int) (b:Nat),F'=F/\slot a 0= .pointer (some ⟨Mu,0,none⟩)/\slot a 2= .int .i64 wt/\slot a 3= .bool sv/\slot a 4= .bool aw/\slot a 5= .int .i64 it/\sz a=139/\a.defers=[]/\(sv=true->aw=true)/\b<=G/\ph=⟨.want aw o b,.cnt,st,1⟩
def rJ (Mu:Nat)(st:Bool)(F:aa)(wt it old:Int)(x:Option Int)(sv aw:Bool)(G:Nat)(a:Act)(F':aa)(ph:Ph):Prop:=
 F'=F/\slot a 0= .pointer (some ⟨Mu,0,none⟩)/\slot a 2= .int .i64 wt/\slot a 3= .bool sv/\slot a 4= .bool aw/\slot a 5= .int .i64 it/\slot a 6= .int .i32 old/\(∀y,x=some y->slot a 7= .int .i32 y)/\sz a=139/\a.defers=[]/\ph=⟨.want aw old G,.cnt,st,1⟩
def DT (Mu:Nat)(st:Bool)(F:aa)(sv:Bool)(mp:Mp)(a:Act)(F':aa)(ph:Ph):Prop:=
 ∃wt:Int,F'=F/\slot a 0= .pointer (some ⟨Mu,0,none⟩)/\slot a 2= .int .i64 wt/\slot a 3= .bool sv/\sz a=139/\a.defers=[]/\ph=⟨mp,.cnt,st,1⟩
def DU (Mu:Nat)(st:Bool)(F:aa)(mp:Mp)(a:Act)(F':aa)(ph:Ph):Prop:=
 ∃(wt:Int) (sv:Bool),F'=F/\slot a 0= .pointer (some ⟨Mu,0,none⟩)/\slot a 2= .int .i64 wt/\slot a 3= .bool sv/\sz a=139/\a.defers=[]/\ph=⟨mp,.cnt,st,1⟩
def KN (Mu:Nat)(st:Bool)(F:aa)(y:Bool)(a:Act)(F':aa)(ph:Ph):Prop:=
 ∃e:Bool,F'=F/\slot a 0= .pointer (some ⟨Mu,0,none⟩)/\slot a 9= .int .i32 (-7)/\slot a 123= .bool e/\sz a=139/\a.defers=[]/\(e=false->y=true)/\ph=⟨.kN y,.cnt,st,1⟩
section
variable {Mu Wg Is n base T0 i : Nat} {bs : Nat → Bool} {st : Bool} {F : aa}
theorem KO (aD:Mu≠Wg/\Mu≠Is/\Wg≠Is)(e3:n<67108864):
  cG Tryz.prog (WJ (CY Mu Wg Is n bs base T0) i) 199 #[.pointer (some (muA Mu))] F ⟨.idle,.cnt,st,1⟩ (fun v F' aL=>v= .tuple #[]/\F'=F/\aL=⟨.held,.cnt,st,0⟩):=by
 have a:=WJ.ez (CY Mu Wg Is n bs base T0) i
 have hJ:∀ph:Ph,ph.gp= .cnt->Go.Sep.Closed Tryz.prog false (WJ (CY Mu Wg Is n bs base T0) i ph):=fun ph h=>Wk.closed (CY Mu Wg Is n bs base T0) i ph h
 refine cG.go (main:=false) a Tryz.func199 rfl Tryz.ntmps199 (by simp) fun A d hd hs=>?_
 have f:=hs 0
 clear hs
 repeat apply aB (a _)
 refine bh a fun K b=>?_
 refine ai.bA (hJ _ rfl) 1 (n:=0) _ rfl rfl ?_;simp only[*,go_sem,-b,-a,-hJ]
 refine ai.nil a (b _ _ _ ?_);clear b K
 repeat apply aB (a _)
 refine bh a fun K b=>?_
 refine ai.bA (hJ _ rfl) 1 (n:=0) _ rfl rfl ?_;simp only[*,go_sem,-b,-a,-hJ]
 refine ai.nil a (b _ _ _ ?_);clear b K
 repeat apply aB (a _)
 refine bh a fun K b=>?_
 refine ai.bA (hJ _ rfl) 1 (n:=0) _ rfl rfl ?_;simp only[*,go_sem,-b,-a,-hJ]
 refine ai.nil a (b _ _ _ ?_);clear b K
 repeat apply aB (a _)
 refine bh a fun K b=>?_
 refine ai.bA (hJ _ rfl) 1 (n:=0) _ rfl rfl ?_;simp only[*,go_sem,-b,-a,-hJ]
 refine ai.nil a (b _ _ _ ?_);clear b K
 repeat apply aB (a _)
 refine bh a fun K b=>?_
 refine ai.bA (hJ _ rfl) 3 (n:=2) _ rfl rfl ?_;simp only[*,go_sem,-b,-a,-hJ]
 refine pg uL o9 ⟨_,rfl,(by first|(simp only[*,go_sem,-b,-a,-hJ];done)|rfl),rfl,rfl⟩ (by rfl) (by simp only[*,go_sem,-b,-a,-hJ]) (fun φ mu ms C S W L m he hi hm=>⟨.want false mu (bM n φ ms),⟨_,_,_,_,m,JE hm hi _ (by rw[he]) rfl⟩,?_⟩)
 have hw:=wd hm.st (by have:C<=3*n:=hm.bound;omega)
 have hC:C<=3*n:=hm.bound
 refine ai.bA (hJ _ rfl) 1 (n:=0) _ rfl rfl ?_;simp only[*,go_sem,-b,-a,-hJ]
 refine ai.nil a (b _ _ _ ?_);clear b K
 refine kQ a (uT Mu st F) ?_ ?_
 .repeat apply aB (a _)
  refine jW a ?_
  refine rE a (uS Mu n st F) (8*bM n φ ms+5) ?_ ?_
  .exact ⟨0,0,mu,false,false,C,S,W,L,bM n φ ms,rfl,(by simp only[*,go_sem,-a,-hJ]),(by simp only[*,go_sem,-a,-hJ]),(by simp only[*,go_sem,-a,-hJ]),(by simp only[*,go_sem,-a,-hJ]),(by simp only[*,go_sem,-a,-hJ]),(by simp only[*,go_sem,-a,-hJ]),(by simp only[*,go_sem,-a,-hJ]),(by simp only[*,go_sem,-a,-hJ]),hw,hC,by omega,by omega,by simp,by simp,by simp,rfl⟩
  .clear hw hC hm hi he d hd f
   rintro m A F' aL ⟨wt,it,old,sv,aw,C,S,W,L,G,rfl,f,k,o,z,D,I,d,hd,hw,hC,fa,fb,V,X,fg,rfl⟩
   have cS:S=0\/S=1:=by have:=hw.st.s;omega
   have a7:L=0\/L=1:=by have:=hw.st.l;omega
   have bd:W=0\/W=1:=by have:=hw.st.w;omega
   repeat apply aB (a _)
   refine jW a ?_
   refine kQ a (rJ Mu st F' wt it old none sv aw G) ?_ ?_
   ·
    by_cases Y:S=0/\L=1
    .obtain ⟨rfl,rfl⟩:=Y
     have b5:dY old 5=1:=hw.a5
     repeat apply aB (a _)
     refine bh a fun K b=>?_
     refine ai.bA (hJ _ rfl) 5 (n:=2) _ rfl rfl ?_;simp only[*,go_sem,-b,-a,-hJ]
     refine KE it Kn ⟨_,_,_,rfl,(by first|(simp only[*,go_sem,-b,-a,-hJ];done)|rfl),rfl,by first|(simp only[*,go_sem,-b,-a,-hJ];done)|(simp only[*,go_sem,-b,-a,-hJ];rfl),rfl⟩ (by simp) fun t ht=>?_
     refine ai.bA (hJ _ rfl) 1 (n:=0) _ rfl rfl ?_;simp only[*,go_sem,-b,-a,-hJ]
     refine ai.nil a (b _ _ _ ?_);clear b K
     cases t
     .repeat apply aB (a _)
      refine cD (a _) (by simp only[*,go_sem,-a,-hJ]) ?_
      apply cH (a _)
      exact eE ⟨rfl,(by simp only[*,go_sem,-a,-hJ]),(by simp only[*,go_sem,-a,-hJ]),(by simp only[*,go_sem,-a,-hJ]),(by simp only[*,go_sem,-a,-hJ]),(by simp only[*,go_sem,-a,-hJ]),(by simp only[*,go_sem,-a,-hJ]),by simp,(by simp only[*,go_sem,-a,-hJ]),(by simp only[*,go_sem,-a,-hJ]),rfl⟩
     .have fi:=ht rfl
      repeat apply aB (a _)
      refine cZ (a _) (by simp only[*,go_sem,-a,-hJ]) ?_
      refine kQ a (KM Mu st F' wt it sv G) ?_ ?_
      .cases aw
       .obtain rfl:sv=false:=by cases sv<;>simp_all
        rcases bd with rfl|rfl
        .have b2:dY old 2=0:=hw.a2
         by_cases dE:C=0
         .have br:((C:Int) != 0)=false:=by simp[dE]
          repeat apply aB (a _)
          refine bh a fun K b=>?_
          refine ai.bA (hJ _ rfl) 9 (n:=12) _ rfl rfl ?_;simp only[*,go_sem,-b,-a,-hJ]
          refine ai.nj old (C:Int) (a _) ⟨_,rfl,(by first|(simp only[*,go_sem,-b,-a,-hJ];done)|rfl),rfl,rfl⟩ (by simp only[*,go_sem,-b,-a,-hJ]) (by simp only[*,go_sem,-b,-a,-hJ]) hw.sh ?_
          refine ai.bA (hJ _ rfl) 11 (n:=0) _ rfl rfl ?_;simp only[*,go_sem,-b,-a,-hJ]
          refine ai.nil a (b _ _ _ ?_);clear b K
          repeat apply aB (a _)
          refine cD (a _) (by simp only[*,go_sem,-a,-hJ]) ?_
          apply cH (a _)
          exact eE ⟨false,old,G,rfl,(by simp only[*,go_sem,-a,-hJ]),(by simp only[*,go_sem,-a,-hJ]),(by simp only[*,go_sem,-a,-hJ]),(by simp only[*,go_sem,-a,-hJ]),(by simp only[*,go_sem,-a,-hJ]),(by simp only[*,go_sem,-a,-hJ]),(by simp only[*,go_sem,-a,-hJ]),by simp,Nat.le_refl _,rfl⟩
         .have br:((C:Int) != 0)=true:=by simp;omega
          have o2:js old 2=old+2:=hw.o2
          repeat apply aB (a _)
          refine bh a fun K b=>?_
          refine ai.bA (hJ _ rfl) 9 (n:=12) _ rfl rfl ?_;simp only[*,go_sem,-b,-a,-hJ]
          refine ai.nj old (C:Int) (a _) ⟨_,rfl,(by first|(simp only[*,go_sem,-b,-a,-hJ];done)|rfl),rfl,rfl⟩ (by simp only[*,go_sem,-b,-a,-hJ]) (by simp only[*,go_sem,-b,-a,-hJ]) hw.sh ?_
          refine ai.bA (hJ _ rfl) 9 (n:=2) _ rfl rfl ?_;simp only[*,go_sem,-b,-a,-hJ]
          refine uO old (old+2) uK aD ⟨_,_,_,rfl,(by first|(simp only[*,go_sem,-b,-a,-hJ];done)|rfl),rfl,by first|(simp only[*,go_sem,-b,-a,-hJ];done)|(simp only[*,go_sem,-b,-a,-hJ];rfl),rfl⟩ (by rfl) (by simp) (fun φ ms bz ao bS Z p he hi hm=>?_) (fun φ mu ms bz ao bS Z p he hi hm df=>?_)
          .obtain ⟨rfl,rfl,rfl,rfl⟩:=hm.st.uniq hw.st
           refine ⟨.want true old G,⟨_,_,_,_,p,JG hm hi _ (by rw[he]) rfl rfl rfl rfl rfl⟩,?_⟩
           refine ai.bA (hJ _ rfl) 1 (n:=0) _ rfl rfl ?_;simp only[*,go_sem,-b,-a,-hJ]
           refine ai.nil a (b _ _ _ ?_);clear b K
           repeat apply aB (a _)
           refine cZ (a _) (by simp only[*,go_sem,-a,-hJ]) ?_
           repeat apply aB (a _)
           refine bh a fun K b=>?_
           refine ai.bA (hJ _ rfl) 1 (n:=0) _ rfl rfl ?_;simp only[*,go_sem,-b,-a,-hJ]
           refine ai.nil a (b _ _ _ ?_);clear b K
           exact eE ⟨true,old,G,rfl,(by simp only[*,go_sem,-a,-hJ]),(by simp only[*,go_sem,-a,-hJ]),(by simp only[*,go_sem,-a,-hJ]),(by simp only[*,go_sem,-a,-hJ]),(by simp only[*,go_sem,-a,-hJ]),(by simp only[*,go_sem,-a,-hJ]),(by simp only[*,go_sem,-a,-hJ]),by simp,Nat.le_refl _,rfl⟩
          .obtain ⟨J,a8,bj⟩:=uB hm hi {mp:=.want false mu (bM n φ ms),gp:=.cnt,stored:=st,deaf:=1} (by rw[he]) rfl
           refine ⟨.want false mu (bM n φ ms),⟨_,_,_,_,p,J⟩,?_⟩
           refine ai.bA (hJ _ rfl) 1 (n:=0) _ rfl rfl ?_;simp only[*,go_sem,-b,-a,-hJ]
           refine ai.nil a (b _ _ _ ?_);clear b K
           repeat apply aB (a _)
           refine cD (a _) (by simp only[*,go_sem,-a,-hJ]) ?_
           apply cH (a _)
           exact eE ⟨false,mu,bM n φ ms,rfl,(by simp only[*,go_sem,-a,-hJ]),(by simp only[*,go_sem,-a,-hJ]),(by simp only[*,go_sem,-a,-hJ]),(by simp only[*,go_sem,-a,-hJ]),(by simp only[*,go_sem,-a,-hJ]),(by simp only[*,go_sem,-a,-hJ]),(by simp only[*,go_sem,-a,-hJ]),by simp,a8,rfl⟩
        .have b2:dY old 2=2:=hw.a2
         repeat apply aB (a _)
         refine bh a fun K b=>?_
         refine ai.bA (hJ _ rfl) 21 (n:=0) _ rfl rfl ?_;simp only[*,go_sem,-b,-a,-hJ]
         refine ai.nil a (b _ _ _ ?_);clear b K
         repeat apply aB (a _)
         refine cD (a _) (by simp only[*,go_sem,-a,-hJ]) ?_
         apply cH (a _)
         exact eE ⟨false,old,G,rfl,(by simp only[*,go_sem,-a,-hJ]),(by simp only[*,go_sem,-a,-hJ]),(by simp only[*,go_sem,-a,-hJ]),(by simp only[*,go_sem,-a,-hJ]),(by simp only[*,go_sem,-a,-hJ]),(by simp only[*,go_sem,-a,-hJ]),(by simp only[*,go_sem,-a,-hJ]),by simp,Nat.le_refl _,rfl⟩
       .repeat apply aB (a _)
        refine bh a fun K b=>?_
        refine ai.bA (hJ _ rfl) 21 (n:=0) _ rfl rfl ?_;simp only[*,go_sem,-b,-a,-hJ]
        refine ai.nil a (b _ _ _ ?_);clear b K
        repeat apply aB (a _)
        refine cD (a _) (by simp only[*,go_sem,-a,-hJ]) ?_
        apply cH (a _)
        exact eE ⟨true,old,G,rfl,(by simp only[*,go_sem,-a,-hJ]),(by simp only[*,go_sem,-a,-hJ]),(by simp only[*,go_sem,-a,-hJ]),(by simp only[*,go_sem,-a,-hJ]),(by simp only[*,go_sem,-a,-hJ]),(by simp only[*,go_sem,-a,-hJ]),(by simp only[*,go_sem,-a,-hJ]),by simp,Nat.le_refl _,rfl⟩
      .clear f k o z D I d hd b5
       rintro A c ab ⟨bk,o2,dT,rfl,f,k,o,z,D,d,hd,ea,fp,rfl⟩
       have fr:IntKind.i64.wrap (it+1)=it+1:=KL (by omega) (by omega)
       repeat apply aB (a _)
       refine bh a fun K b=>?_
       refine ai.entry _ (a _) Ko ⟨_,_,_,rfl,(by first|(simp only[*,go_sem,-b,-a,-hJ];done)|rfl),rfl,by first|(simp only[*,go_sem,-b,-a,-hJ];done)|(simp only[*,go_sem,-b,-a,-hJ];rfl),rfl⟩ ?_
       refine ai.nil a (b _ _ _ ?_);clear b K
       repeat apply aB (a _)
       refine bh a fun K b=>?_
       refine ai.bA (hJ _ rfl) 3 (n:=0) _ rfl rfl ?_;simp only[*,go_sem,-b,-a,-hJ]
       refine ai.nil a (b _ _ _ ?_);clear b K
       repeat apply aB (a _)
       refine bh a fun K b=>?_
       refine ai.bA (hJ _ rfl) 3 (n:=2) _ rfl rfl ?_;simp only[*,go_sem,-b,-a,-hJ]
       refine pg uL o9 ⟨_,rfl,(by first|(simp only[*,go_sem,-b,-a,-hJ];done)|rfl),rfl,rfl⟩ (by rfl) (by simp only[*,go_sem,-b,-a,-hJ]) (fun φ mu ms P al bl b0 b1 he hi hm=>?_)
       obtain ⟨J,a8,bj⟩:=uB hm hi {mp:=.want bk mu (bM n φ ms),gp:=.cnt,stored:=st,deaf:=1} (by rw[he]) rfl
       have ad:=wd hm.st (by have:P<=3*n:=hm.bound;omega)
       have a9:P<=3*n:=hm.bound
       have ca:bM n φ ms<=dT:=a8
       have cb:bk=true->al=0/\bl=1:=fun e=>by subst e;exact C9 hm hi (by rw[he])
       refine ⟨.want bk mu (bM n φ ms),⟨_,_,_,_,b1,J⟩,?_⟩
       refine ai.bA (hJ _ rfl) 1 (n:=0) _ rfl rfl ?_;simp only[*,go_sem,-b,-a,-hJ]
       refine ai.nil a (b _ _ _ ?_);clear b K
       refine o7 ?_
       change ∃p,p<m/\uS Mu n st c p _ _ _
       exact ⟨8*bM n φ ms+(5 - (it+1)).toNat,by omega,wt,it+1,mu,sv,bk,P,al,bl,b0,bM n φ ms,rfl,(by simp only[*,go_sem,-a,-hJ]),(by simp only[*,go_sem,-a,-hJ]),(by simp only[*,go_sem,-a,-hJ]),(by simp only[*,go_sem,-a,-hJ]),(by simp only[*,go_sem,-a,-hJ]),(by simp only[*,go_sem,-a,-hJ]),(by simp only[*,go_sem,-a,-hJ]),(by simp only[*,go_sem,-a,-hJ]),ad,a9,by omega,by omega,ea,cb,Nat.le_refl _,rfl⟩
    .have b5:=hw.a5
     have cd:(((4*S+L:Nat):Int)==1)=false:=by simp;omega
     repeat apply aB (a _)
     refine bh a fun K b=>?_
     refine ai.bA (hJ _ rfl) 7 (n:=0) _ rfl rfl ?_;simp only[*,go_sem,-b,-a,-hJ]
     refine ai.nil a (b _ _ _ ?_);clear b K
     repeat apply aB (a _)
     refine cD (a _) (by simp only[*,go_sem,-a,-hJ]) ?_
     apply cH (a _)
     exact eE ⟨rfl,(by simp only[*,go_sem,-a,-hJ]),(by simp only[*,go_sem,-a,-hJ]),(by simp only[*,go_sem,-a,-hJ]),(by simp only[*,go_sem,-a,-hJ]),(by simp only[*,go_sem,-a,-hJ]),(by simp only[*,go_sem,-a,-hJ]),by simp,(by simp only[*,go_sem,-a,-hJ]),(by simp only[*,go_sem,-a,-hJ]),rfl⟩
   .clear f k o z D I d hd
    rintro A c ab ⟨rfl,f,k,o,z,D,I,q,d,hd,rfl⟩
    clear q
    repeat apply aB (a _)
    refine bh a fun K b=>?_
    refine ai.bA (hJ _ rfl) 2 (n:=0) _ rfl rfl ?_;simp only[*,go_sem,-b,-a,-hJ]
    refine ai.nil a (b _ _ _ ?_);clear b K
    obtain ⟨Q,j,r⟩:∃Q:Int,(S=0->Q=old+1 - L)/\(S=1->Q=old):=⟨if S=0 then old+1 - L else old,fun e=>by simp[e],fun e=>by simp[e]⟩
    refine kQ a (rJ Mu st c wt it old (some Q) sv aw G) ?_ ?_
    .rcases cS with rfl|rfl
     .have b4:dY old 4=0:=hw.a4
      have o1:js old 1=Q:=by rw[j rfl,hw.o1];omega
      clear j r
      repeat apply aB (a _)
      refine bh a fun K b=>?_
      refine ai.bA (hJ _ rfl) 3 (n:=0) _ rfl rfl ?_;simp only[*,go_sem,-b,-a,-hJ]
      refine ai.nil a (b _ _ _ ?_);clear b K
      repeat apply aB (a _)
      refine cZ (a _) (by simp only[*,go_sem,-a,-hJ]) ?_
      repeat apply aB (a _)
      refine bh a fun K b=>?_
      refine ai.bA (hJ _ rfl) 3 (n:=0) _ rfl rfl ?_;simp only[*,go_sem,-b,-a,-hJ]
      refine ai.nil a (b _ _ _ ?_);clear b K
      exact eE ⟨rfl,(by simp only[*,go_sem,-a,-hJ]),(by simp only[*,go_sem,-a,-hJ]),(by simp only[*,go_sem,-a,-hJ]),(by simp only[*,go_sem,-a,-hJ]),(by simp only[*,go_sem,-a,-hJ]),(by simp only[*,go_sem,-a,-hJ]),fun y g=>by cases g;simp only[*,go_sem,-a,-hJ],(by simp only[*,go_sem,-a,-hJ]),(by simp only[*,go_sem,-a,-hJ]),rfl⟩
     .have b4:dY old 4=4:=hw.a4
      obtain rfl:=r rfl
      clear j r
      repeat apply aB (a _)
      refine bh a fun K b=>?_
      refine ai.bA (hJ _ rfl) 3 (n:=0) _ rfl rfl ?_;simp only[*,go_sem,-b,-a,-hJ]
      refine ai.nil a (b _ _ _ ?_);clear b K
      repeat apply aB (a _)
      refine cD (a _) (by simp only[*,go_sem,-a,-hJ]) ?_
      apply cH (a _)
      exact eE ⟨rfl,(by simp only[*,go_sem,-a,-hJ]),(by simp only[*,go_sem,-a,-hJ]),(by simp only[*,go_sem,-a,-hJ]),(by simp only[*,go_sem,-a,-hJ]),(by simp only[*,go_sem,-a,-hJ]),(by simp only[*,go_sem,-a,-hJ]),fun y g=>by cases g;simp only[*,go_sem,-a,-hJ],(by simp only[*,go_sem,-a,-hJ]),(by simp only[*,go_sem,-a,-hJ]),rfl⟩
    clear f k o z D I d hd
    rintro A c ab ⟨rfl,f,k,o,z,D,I,q,d,hd,rfl⟩
    replace q:=q _ rfl
    obtain ⟨R,x,E⟩:∃R:Int,(S=1\/L=1->R=Q+8)/\(S=0->L=0->R=Q):=⟨if S=1\/L=1 then Q+8 else Q,fun e=>by simp[e],fun e cf=>by simp[e,cf]⟩
    refine kQ a (rJ Mu st c wt it old (some R) sv aw G) ?_ ?_
    .by_cases Y:S=1\/L=1
     .have b5:=hw.a5
      have cd:(((4*S+L:Nat):Int) != 0)=true:=by simp;omega
      have fs:IntKind.i32.wrap (Q+8)=R:=by
       have e0:=hw.st.eq
       rw[x Y]
       refine iP ?_ ?_<;>rcases cS with rfl|rfl<;>first|(have:=j rfl;omega)|(have:=r rfl;omega)
      clear j r x E Y
      repeat apply aB (a _)
      refine bh a fun K b=>?_
      refine ai.bA (hJ _ rfl) 3 (n:=0) _ rfl rfl ?_;simp only[*,go_sem,-b,-a,-hJ]
      refine ai.nil a (b _ _ _ ?_);clear b K
      repeat apply aB (a _)
      refine cZ (a _) (by simp only[*,go_sem,-a,-hJ]) ?_
      repeat apply aB (a _)
      refine bh a fun K b=>?_
      refine ai.bA (hJ _ rfl) 3 (n:=0) _ rfl rfl ?_;simp only[*,go_sem,-b,-a,-hJ]
      refine ai.nil a (b _ _ _ ?_);clear b K
      exact eE ⟨rfl,(by simp only[*,go_sem,-a,-hJ]),(by simp only[*,go_sem,-a,-hJ]),(by simp only[*,go_sem,-a,-hJ]),(by simp only[*,go_sem,-a,-hJ]),(by simp only[*,go_sem,-a,-hJ]),(by simp only[*,go_sem,-a,-hJ]),fun y g=>by cases g;simp only[*,go_sem,-a,-hJ],(by simp only[*,go_sem,-a,-hJ]),(by simp only[*,go_sem,-a,-hJ]),rfl⟩
     .obtain rfl:S=0:=by omega
      obtain rfl:L=0:=by omega
      have b5:dY old 5=0:=hw.a5
      obtain rfl:=E rfl rfl
      clear j r x E Y
      repeat apply aB (a _)
      refine bh a fun K b=>?_
      refine ai.bA (hJ _ rfl) 3 (n:=0) _ rfl rfl ?_;simp only[*,go_sem,-b,-a,-hJ]
      refine ai.nil a (b _ _ _ ?_);clear b K
      repeat apply aB (a _)
      refine cD (a _) (by simp only[*,go_sem,-a,-hJ]) ?_
      apply cH (a _)
      exact eE ⟨rfl,(by simp only[*,go_sem,-a,-hJ]),(by simp only[*,go_sem,-a,-hJ]),(by simp only[*,go_sem,-a,-hJ]),(by simp only[*,go_sem,-a,-hJ]),(by simp only[*,go_sem,-a,-hJ]),(by simp only[*,go_sem,-a,-hJ]),fun y g=>by cases g;simp only[*,go_sem,-a,-hJ],(by simp only[*,go_sem,-a,-hJ]),(by simp only[*,go_sem,-a,-hJ]),rfl⟩
    clear f k o z D I q d hd
    rintro A c ab ⟨rfl,f,k,o,z,D,I,q,d,hd,rfl⟩
    replace q:=q _ rfl
    obtain ⟨M,N,u⟩:∃M:Int,(sv=true->L=1->M=R+4)/\(¬(sv=true/\L=1)->M=R):=⟨if sv=true/\L=1 then R+4 else R,fun e cf=>by simp[e,cf],fun e=>by simp[e]⟩
    refine kQ a (rJ Mu st c wt it old (some M) sv aw G) ?_ ?_
    .cases sv
     .obtain rfl:=u (by simp)
      clear j r x E N u
      repeat apply aB (a _)
      refine bh a fun K b=>?_
      refine ai.bA (hJ _ rfl) 6 (n:=0) _ rfl rfl ?_;simp only[*,go_sem,-b,-a,-hJ]
      refine ai.nil a (b _ _ _ ?_);clear b K
      repeat apply aB (a _)
      refine cD (a _) (by simp only[*,go_sem,-a,-hJ]) ?_
      apply cH (a _)
      exact eE ⟨rfl,(by simp only[*,go_sem,-a,-hJ]),(by simp only[*,go_sem,-a,-hJ]),(by simp only[*,go_sem,-a,-hJ]),(by simp only[*,go_sem,-a,-hJ]),(by simp only[*,go_sem,-a,-hJ]),(by simp only[*,go_sem,-a,-hJ]),fun y g=>by cases g;simp only[*,go_sem,-a,-hJ],(by simp only[*,go_sem,-a,-hJ]),(by simp only[*,go_sem,-a,-hJ]),rfl⟩
     .obtain rfl:aw=true:=V rfl
      rcases a7 with rfl|rfl
      .have eb:dY old 1=0:=hw.a1
       obtain rfl:=u (by simp)
       clear j r x E N u
       repeat apply aB (a _)
       refine bh a fun K b=>?_
       refine ai.bA (hJ _ rfl) 6 (n:=0) _ rfl rfl ?_;simp only[*,go_sem,-b,-a,-hJ]
       refine ai.nil a (b _ _ _ ?_);clear b K
       repeat apply aB (a _)
       refine cD (a _) (by simp only[*,go_sem,-a,-hJ]) ?_
       apply cH (a _)
       exact eE ⟨rfl,(by simp only[*,go_sem,-a,-hJ]),(by simp only[*,go_sem,-a,-hJ]),(by simp only[*,go_sem,-a,-hJ]),(by simp only[*,go_sem,-a,-hJ]),(by simp only[*,go_sem,-a,-hJ]),(by simp only[*,go_sem,-a,-hJ]),fun y g=>by cases g;simp only[*,go_sem,-a,-hJ],(by simp only[*,go_sem,-a,-hJ]),(by simp only[*,go_sem,-a,-hJ]),rfl⟩
      .have eb:dY old 1=1:=hw.a1
       have o4:js R 4=M:=by
        have e0:=hw.st.eq
        obtain ⟨rfl,rfl⟩:=X rfl
        have e1:=j rfl
        have e2:=x (.inr rfl)
        rw[N rfl rfl,(wd (C:=C+1) (S:=0) (W:=1) (L:=1) ⟨by omega,by omega,by omega,by omega⟩ (by omega)).o4]
        omega
       clear j r x E N u
       repeat apply aB (a _)
       refine bh a fun K b=>?_
       refine ai.bA (hJ _ rfl) 6 (n:=0) _ rfl rfl ?_;simp only[*,go_sem,-b,-a,-hJ]
       refine ai.nil a (b _ _ _ ?_);clear b K
       repeat apply aB (a _)
       refine cZ (a _) (by simp only[*,go_sem,-a,-hJ]) ?_
       repeat apply aB (a _)
       refine bh a fun K b=>?_
       refine ai.bA (hJ _ rfl) 3 (n:=0) _ rfl rfl ?_;simp only[*,go_sem,-b,-a,-hJ]
       refine ai.nil a (b _ _ _ ?_);clear b K
       exact eE ⟨rfl,(by simp only[*,go_sem,-a,-hJ]),(by simp only[*,go_sem,-a,-hJ]),(by simp only[*,go_sem,-a,-hJ]),(by simp only[*,go_sem,-a,-hJ]),(by simp only[*,go_sem,-a,-hJ]),(by simp only[*,go_sem,-a,-hJ]),fun y g=>by cases g;simp only[*,go_sem,-a,-hJ],(by simp only[*,go_sem,-a,-hJ]),(by simp only[*,go_sem,-a,-hJ]),rfl⟩
    clear f k o z D I q d hd
    rintro A c ab ⟨rfl,f,k,o,z,D,I,q,d,hd,rfl⟩
    replace q:=q _ rfl
    obtain ⟨ae,T,U⟩:∃ae:Int,(aw=true->ae=M - 2)/\(aw=false->ae=M):=⟨if aw then M - 2 else M,fun e=>by simp[e],fun e=>by simp[e]⟩
    refine kQ a (rJ Mu st c wt it old (some ae) sv aw G) ?_ ?_
    .cases aw
     .obtain rfl:=U rfl
      clear j r x E N u T U
      repeat apply aB (a _)
      refine bh a fun K b=>?_
      refine ai.bA (hJ _ rfl) 1 (n:=0) _ rfl rfl ?_;simp only[*,go_sem,-b,-a,-hJ]
      refine ai.nil a (b _ _ _ ?_);clear b K
      repeat apply aB (a _)
      refine cD (a _) (by simp only[*,go_sem,-a,-hJ]) ?_
      apply cH (a _)
      exact eE ⟨rfl,(by simp only[*,go_sem,-a,-hJ]),(by simp only[*,go_sem,-a,-hJ]),(by simp only[*,go_sem,-a,-hJ]),(by simp only[*,go_sem,-a,-hJ]),(by simp only[*,go_sem,-a,-hJ]),(by simp only[*,go_sem,-a,-hJ]),fun y g=>by cases g;simp only[*,go_sem,-a,-hJ],(by simp only[*,go_sem,-a,-hJ]),(by simp only[*,go_sem,-a,-hJ]),rfl⟩
     .obtain ⟨rfl,rfl⟩:=X rfl
      have ad:∃P al,Wd M P al 1 1:=by
       have e0:=hw.st.eq
       have e1:=j rfl
       rcases a7 with rfl|rfl
       .have e2:=E rfl rfl
        have ar:=u (by simp)
        exact ⟨C,0,wd ⟨by omega,by omega,by omega,by omega⟩ (by omega)⟩
       .have e2:=x (.inr rfl)
        cases sv
        .have ar:=u (by simp)
         exact ⟨C+1,0,wd ⟨by omega,by omega,by omega,by omega⟩ (by omega)⟩
        .have ar:=N rfl rfl
         exact ⟨C+1,1,wd ⟨by omega,by omega,by omega,by omega⟩ (by omega)⟩
      obtain ⟨P,al,ad⟩:=ad
      have b2:dY M 2=2:=ad.a2
      have n2:rD M 2=ae:=by rw[T rfl,ad.n2];rfl
      clear j r x E N u T U
      repeat apply aB (a _)
      refine bh a fun K b=>?_
      refine ai.bA (hJ _ rfl) 1 (n:=0) _ rfl rfl ?_;simp only[*,go_sem,-b,-a,-hJ]
      refine ai.nil a (b _ _ _ ?_);clear b K
      repeat apply aB (a _)
      refine cZ (a _) (by simp only[*,go_sem,-a,-hJ]) ?_
      repeat apply aB (a _)
      refine bh a fun K b=>?_
      refine ai.bA (hJ _ rfl) 3 (n:=0) _ rfl rfl ?_;simp only[*,go_sem,-b,-a,-hJ]
      refine ai.nil a (b _ _ _ ?_);clear b K
      repeat apply aB (a _)
      refine cD (a _) (by simp only[*,go_sem,-a,-hJ]) ?_
      apply cH (a _)
      repeat apply aB (a _)
      refine bh a fun K b=>?_
      refine ai.bA (hJ _ rfl) 3 (n:=0) _ rfl rfl ?_;simp only[*,go_sem,-b,-a,-hJ]
      refine ai.nil a (b _ _ _ ?_);clear b K
      exact eE ⟨rfl,(by simp only[*,go_sem,-a,-hJ]),(by simp only[*,go_sem,-a,-hJ]),(by simp only[*,go_sem,-a,-hJ]),(by simp only[*,go_sem,-a,-hJ]),(by simp only[*,go_sem,-a,-hJ]),(by simp only[*,go_sem,-a,-hJ]),fun y g=>by cases g;simp only[*,go_sem,-a,-hJ],(by simp only[*,go_sem,-a,-hJ]),(by simp only[*,go_sem,-a,-hJ]),rfl⟩
    clear f k o z D I q d hd
    rintro A c ab ⟨rfl,f,k,o,z,D,I,q,d,hd,rfl⟩
    replace q:=q _ rfl
    repeat apply aB (a _)
    refine bh a fun K b=>?_
    refine ai.bA (hJ _ rfl) 5 (n:=1) _ rfl rfl ?_;simp only[*,go_sem,-b,-a,-hJ]
    refine uO old ae uK aD ⟨_,_,_,rfl,(by first|(simp only[*,go_sem,-b,-a,-hJ];done)|rfl),rfl,by first|(simp only[*,go_sem,-b,-a,-hJ];done)|(simp only[*,go_sem,-b,-a,-hJ];rfl),rfl⟩ (by rfl) (by simp) (fun φ ms bz ao bS Z p he hi hm=>?_) (fun φ mu ms bz ao bS Z p he hi hm df=>?_)
    .obtain ⟨rfl,rfl,rfl,rfl⟩:=hm.st.uniq hw.st
     by_cases Y:ao=0/\Z=0
     .obtain ⟨rfl,rfl⟩:=Y
      have O:ae=old+1 - (if aw then 2 else 0):=by
       have e1:=j rfl
       have e2:=E rfl rfl
       have ar:=u (by simp)
       cases aw
       .have O:=U rfl
        simp;omega
       .have O:=T rfl
        simp;omega
      have b5:dY old 5=0:=hw.a5
      refine ⟨.held,by rw[O];exact ⟨_,_,_,_,p,JH hm hi _ (by rw[he]) rfl rfl rfl (fun e=>(X e).2)⟩,?_⟩
      clear j r x E N u T U O he hi hm V X cS a7 bd
      refine ai.nil a (b _ _ _ ?_);clear b K
      repeat apply aB (a _)
      refine cZ (a _) (by simp only[*,go_sem,-a,-hJ]) ?_
      repeat apply aB (a _)
      refine bh a fun K b=>?_
      refine ai.bA (hJ _ rfl) 3 (n:=0) _ rfl rfl ?_;simp only[*,go_sem,-b,-a,-hJ]
      refine ai.nil a (b _ _ _ ?_);clear b K
      repeat apply aB (a _)
      refine cZ (a _) (by simp only[*,go_sem,-a,-hJ]) ?_
      refine o7 ?_
      change uT Mu st c _ _ _
      exact ⟨rfl,(by simp only[*,go_sem,-a,-hJ]),(by simp only[*,go_sem,-a,-hJ]),(by simp only[*,go_sem,-a,-hJ]),rfl⟩
     .have cl:ao=1\/Z=1:=by omega
      have O:ae=old+8+(if sv then 4 else 0) - (if aw then 2 else 0):=by
       have e2:=x cl
       rcases cS with rfl|rfl
       .have e1:=j rfl
        obtain rfl:Z=1:=by omega
        cases sv
        .have ar:=u (by simp)
         cases aw
         .have O:=U rfl
          simp;omega
         .have O:=T rfl
          simp;omega
        .obtain rfl:aw=true:=V rfl
         have ar:=N rfl rfl
         have O:=T rfl
         simp;omega
       .have ec:aw=false:=by
         cases aw
         .rfl
         .exact absurd (X rfl).1 (by omega)
        subst ec
        have ed:sv=false:=by
         cases sv
         .rfl
         .exact absurd (V rfl) (by simp)
        subst ed
        have e1:=r rfl
        have ar:=u (by simp)
        have O:=U rfl
        simp;omega
      have dk:sv=true->aw=true/\Z=1:=fun e=>⟨V e,by have:=X (V e);omega⟩
      have dp:bM n φ ms<=G:=(hm.seen i hi (some old) G (by rw[he];rfl)).1
      have b5:=hw.a5
      have cd:(((4*ao+Z:Nat):Int)==0)=false:=by simp;omega
      refine ⟨.iN (bM n φ ms),by rw[O];exact ⟨_,_,_,_,p,JI hm hi _ (by rw[he]) rfl cl dk⟩,?_⟩
      clear j r x E N u T U O he hi hm V X cS a7 bd Y cl dk
      revert dp
      generalize bM n φ ms=B
      intro dp
      refine ai.nil a (b _ _ _ ?_);clear b K
      repeat apply aB (a _)
      refine cZ (a _) (by simp only[*,go_sem,-a,-hJ]) ?_
      repeat apply aB (a _)
      refine bh a fun K b=>?_
      refine ai.bA (hJ _ rfl) 3 (n:=0) _ rfl rfl ?_;simp only[*,go_sem,-b,-a,-hJ]
      refine ai.nil a (b _ _ _ ?_);clear b K
      repeat apply aB (a _)
      refine cD (a _) (by simp only[*,go_sem,-a,-hJ]) ?_
      apply cH (a _)
      repeat apply aB (a _)
      refine bh a fun K b=>?_
      refine ai.bA (hJ _ rfl) 3 (n:=0) _ rfl rfl ?_;simp only[*,go_sem,-b,-a,-hJ]
      refine ai.nil a (b _ _ _ ?_);clear b K
      repeat apply aB (a _)
      refine bh a fun K b=>?_
      refine ai.bA (hJ _ rfl) 2 (n:=0) _ rfl rfl ?_;simp only[*,go_sem,-b,-a,-hJ]
      refine ai.nil a (b _ _ _ ?_);clear b K
      first|refine kQ a (DT Mu st c sv (.iN B)) ?_ ?_|refine uR a (DT Mu st c sv (.iN B)) ?_ ?_
      .cases ft:(wt==0)
       .repeat apply aB (a _)
        refine cD (a _) (by simp only[*,go_sem,-a,-hJ]) ?_
        apply cH (a _)
        exact eE ⟨wt,rfl,(by simp only[*,go_sem,-a,-hJ]),(by simp only[*,go_sem,-a,-hJ]),(by simp only[*,go_sem,-a,-hJ]),(by simp only[*,go_sem,-a,-hJ]),(by simp only[*,go_sem,-a,-hJ]),rfl⟩
       .repeat apply aB (a _)
        refine cZ (a _) (by simp only[*,go_sem,-a,-hJ]) ?_
        repeat apply aB (a _)
        refine bh a fun K b=>?_
        refine DS DD DJ ⟨_,_,_,rfl,(by first|(simp only[*,go_sem,-b,-a,-hJ];done)|rfl),rfl,by first|(simp only[*,go_sem,-b,-a,-hJ];done)|(simp only[*,go_sem,-b,-a,-hJ];rfl),rfl⟩ (by simp) fun t=>?_
        refine ai.bA (hJ _ rfl) 1 (n:=0) _ rfl rfl ?_;simp only[*,go_sem,-b,-a,-hJ]
        refine ai.nil a (b _ _ _ ?_);clear b K
        exact eE ⟨t,rfl,(by simp only[*,go_sem,-a,-hJ]),(by simp only[*,go_sem,-a,-hJ]),(by simp only[*,go_sem,-a,-hJ]),(by simp only[*,go_sem,-a,-hJ]),(by simp only[*,go_sem,-a,-hJ]),rfl⟩
      clear f k o z D I q d hd b5 cd
      rintro A c ab ⟨dq,rfl,f,k,o,d,hd,rfl⟩
      repeat apply aB (a _)
      refine bh a fun K b=>?_
      refine ai.bA (hJ _ rfl) 4 (n:=1) _ rfl rfl ?_;simp only[*,go_sem,-b,-a,-hJ]
      refine KD (slot A 8) (.int .i64 2) Km aD ⟨_,_,_,rfl,(by first|(simp only[*,go_sem,-b,-a,-hJ];done)|rfl),rfl,by first|(simp only[*,go_sem,-b,-a,-hJ];done)|(simp only[*,go_sem,-b,-a,-hJ];rfl),rfl⟩ (by rfl) rfl ?_
      refine ai.nil a (b _ _ _ ?_);clear b K
      first|refine kQ a (DU Mu st c (.jT B)) ?_ ?_|refine uR a (DU Mu st c (.jT B)) ?_ ?_
      .cases sv
       .repeat apply aB (a _)
        refine bh a fun K b=>?_
        refine ai.bA (hJ _ rfl) 2 (n:=6) _ rfl rfl ?_;simp only[*,go_sem,-b,-a,-hJ]
        refine DS DD DJ ⟨_,_,_,rfl,(by first|(simp only[*,go_sem,-b,-a,-hJ];done)|rfl),rfl,by first|(simp only[*,go_sem,-b,-a,-hJ];done)|(simp only[*,go_sem,-b,-a,-hJ];rfl),rfl⟩ (by simp) fun t=>?_
        refine ai.bA (hJ _ rfl) 5 (n:=0) _ rfl rfl ?_;simp only[*,go_sem,-b,-a,-hJ]
        refine ai.nil a (b _ _ _ ?_);clear b K
        exact eE ⟨dq,_,rfl,(by simp only[*,go_sem,-a,-hJ]),(by simp only[*,go_sem,-a,-hJ]),(by simp only[*,go_sem,-a,-hJ];rfl),(by simp only[*,go_sem,-a,-hJ]),(by simp only[*,go_sem,-a,-hJ]),rfl⟩
       .repeat apply aB (a _)
        refine bh a fun K b=>?_
        refine ai.bA (hJ _ rfl) 8 (n:=0) _ rfl rfl ?_;simp only[*,go_sem,-b,-a,-hJ]
        refine ai.nil a (b _ _ _ ?_);clear b K
        exact eE ⟨dq,true,rfl,(by simp only[*,go_sem,-a,-hJ]),(by simp only[*,go_sem,-a,-hJ]),(by simp only[*,go_sem,-a,-hJ]),(by simp only[*,go_sem,-a,-hJ]),(by simp only[*,go_sem,-a,-hJ]),rfl⟩
      clear f k o d hd
      rintro A c ab ⟨eh,ds,rfl,f,k,o,d,hd,rfl⟩
      repeat apply aB (a _)
      refine bh a fun K b=>?_
      refine ai.bA (hJ _ rfl) 3 (n:=2) _ rfl rfl ?_;simp only[*,go_sem,-b,-a,-hJ]
      refine pg uL o9 ⟨_,rfl,(by first|(simp only[*,go_sem,-b,-a,-hJ];done)|rfl),rfl,rfl⟩ (by rfl) (by simp only[*,go_sem,-b,-a,-hJ]) (fun φ mu ms H ba cy c0 bm he hi hm=>?_)
      have dt:H<=3*n:=hm.bound
      have a0:=wd hm.st (by omega)
      rcases (by have:=hm.st.s;omega:ba=0\/ba=1) with rfl|rfl
      .obtain ⟨J,rfl,da⟩:=JK hm hi {mp:=.want true mu (bM n φ ms),gp:=.cnt,stored:=st,deaf:=1} (by rw[he]) rfl rfl
       have fu:bM n φ ms<B:=da
       refine ⟨.want true mu (bM n φ ms),⟨_,_,_,_,bm,J⟩,?_⟩
       have b4:dY mu 4=0:=a0.a4
       clear J da
       refine ai.bA (hJ _ rfl) 1 (n:=0) _ rfl rfl ?_;simp only[*,go_sem,-b,-a,-hJ]
       refine ai.nil a (b _ _ _ ?_);clear b K
       repeat apply aB (a _)
       refine bh a fun K b=>?_
       refine ai.bA (hJ _ rfl) 3 (n:=0) _ rfl rfl ?_;simp only[*,go_sem,-b,-a,-hJ]
       refine ai.nil a (b _ _ _ ?_);clear b K
       repeat apply aB (a _)
       refine cD (a _) (by simp only[*,go_sem,-a,-hJ]) ?_
       apply cH (a _)
       repeat apply aB (a _)
       refine bh a fun K b=>?_
       refine ai.bA (hJ _ rfl) 1 (n:=0) _ rfl rfl ?_;simp only[*,go_sem,-b,-a,-hJ]
       refine ai.nil a (b _ _ _ ?_);clear b K
       repeat apply aB (a _)
       refine bh a fun K b=>?_
       refine ai.bA (hJ _ rfl) 1 (n:=0) _ rfl rfl ?_;simp only[*,go_sem,-b,-a,-hJ]
       refine ai.nil a (b _ _ _ ?_);clear b K
       change ∃p,p<m/\uS Mu n st c p _ _ _
       exact ⟨8*bM n φ ms+5,by omega,eh,0,mu,ds,true,H,0,1,c0,bM n φ ms,rfl,(by simp only[*,go_sem,-a,-hJ]),(by simp only[*,go_sem,-a,-hJ]),(by simp only[*,go_sem,-a,-hJ]),(by simp only[*,go_sem,-a,-hJ]),(by simp only[*,go_sem,-a,-hJ]),(by simp only[*,go_sem,-a,-hJ]),(by simp only[*,go_sem,-a,-hJ]),(by simp only[*,go_sem,-a,-hJ]),a0,dt,by omega,by omega,fun _=>rfl,fun _=>⟨rfl,rfl⟩,by simp,rfl⟩
      .obtain ⟨J,rfl,rfl,et⟩:=JL hm hi {mp:=.kN (decide (2<=H)),gp:=.cnt,stored:=st,deaf:=1} (by rw[he]) rfl rfl
       refine ⟨.kN (decide (2<=H)),⟨_,_,_,_,bm,J⟩,?_⟩
       have b4:dY mu 4=4:=a0.a4
       have b3:dY mu 3=0:=a0.a3
       have br:((H:Int)==0)=false:=by simp;omega
       have db:=a0.sh
       obtain ⟨y,g⟩:∃y,decide (2<=H)=y:=⟨_,rfl⟩
       have a6:((H:Int)==1)=false->y=true:=fun e=>by rw[<-g];simp at e ⊢;omega
       rw[g]
       clear J he hi hm a0 dt et g
       refine ai.bA (hJ _ rfl) 1 (n:=0) _ rfl rfl ?_;simp only[*,go_sem,-b,-a,-hJ]
       refine ai.nil a (b _ _ _ ?_);clear b K
       repeat apply aB (a _)
       refine bh a fun K b=>?_
       refine ai.bA (hJ _ rfl) 3 (n:=0) _ rfl rfl ?_;simp only[*,go_sem,-b,-a,-hJ]
       refine ai.nil a (b _ _ _ ?_);clear b K
       repeat apply aB (a _)
       refine cZ (a _) (by simp only[*,go_sem,-a,-hJ]) ?_
       repeat apply aB (a _)
       refine bh a fun K b=>?_
       refine ai.bA (hJ _ rfl) 5 (n:=3) _ rfl rfl ?_;simp only[*,go_sem,-b,-a,-hJ]
       refine ai.nj mu (H:Int) (a _) ⟨_,rfl,(by first|(simp only[*,go_sem,-b,-a,-hJ];done)|rfl),rfl,rfl⟩ (by simp only[*,go_sem,-b,-a,-hJ]) (by simp only[*,go_sem,-b,-a,-hJ]) db ?_
       refine ai.bA (hJ _ rfl) 2 (n:=0) _ rfl rfl ?_;simp only[*,go_sem,-b,-a,-hJ]
       refine ai.nil a (b _ _ _ ?_);clear b K
       repeat apply aB (a _)
       refine cD (a _) (by simp only[*,go_sem,-a,-hJ]) ?_
       apply cH (a _)
       repeat apply aB (a _)
       refine bh a fun K b=>?_
       refine ai.bA (hJ _ rfl) 1 (n:=0) _ rfl rfl ?_;simp only[*,go_sem,-b,-a,-hJ]
       refine ai.nil a (b _ _ _ ?_);clear b K
       repeat apply aB (a _)
       refine uR a (KN Mu st c y) ?_ ?_
       .cases ds
        .repeat apply aB (a _)
         refine bh a fun K b=>?_
         refine ai.bA (hJ _ rfl) 7 (n:=0) _ rfl rfl ?_;simp only[*,go_sem,-b,-a,-hJ]
         refine ai.nil a (b _ _ _ ?_);clear b K
         exact eE ⟨true,rfl,(by simp only[*,go_sem,-a,-hJ]),(by simp only[*,go_sem,-a,-hJ]),(by simp only[*,go_sem,-a,-hJ]),(by simp only[*,go_sem,-a,-hJ]),(by simp only[*,go_sem,-a,-hJ]),by simp,rfl⟩
        .repeat apply aB (a _)
         refine bh a fun K b=>?_
         refine ai.bA (hJ _ rfl) 4 (n:=3) _ rfl rfl ?_;simp only[*,go_sem,-b,-a,-hJ]
         refine ai.nj mu (H:Int) (a _) ⟨_,rfl,(by first|(simp only[*,go_sem,-b,-a,-hJ];done)|rfl),rfl,rfl⟩ (by simp only[*,go_sem,-b,-a,-hJ]) (by simp only[*,go_sem,-b,-a,-hJ]) db ?_
         refine ai.bA (hJ _ rfl) 2 (n:=0) _ rfl rfl ?_;simp only[*,go_sem,-b,-a,-hJ]
         refine ai.nil a (b _ _ _ ?_);clear b K
         exact eE ⟨(H:Int)==1,rfl,(by simp only[*,go_sem,-a,-hJ]),(by simp only[*,go_sem,-a,-hJ]),(by simp only[*,go_sem,-a,-hJ]),(by simp only[*,go_sem,-a,-hJ]),(by simp only[*,go_sem,-a,-hJ]),a6,rfl⟩
       clear f k o d hd b4 b3 br db a6
       rintro A c ab ⟨e,rfl,f,fv,fw,d,hd,a6,rfl⟩
       cases e
       .obtain rfl:=a6 rfl
        clear a6
        repeat apply aB (a _)
        refine cD (a _) (by simp only[*,go_sem,-a,-hJ]) ?_
        apply cH (a _)
        repeat apply aB (a _)
        refine bh a fun K b=>?_
        refine ai.bA (hJ _ rfl) 4 (n:=1) _ rfl rfl ?_;simp only[*,go_sem,-b,-a,-hJ]
        refine yW (-7) yK aD ⟨_,_,_,rfl,(by first|(simp only[*,go_sem,-b,-a,-hJ];done)|rfl),rfl,by first|(simp only[*,go_sem,-b,-a,-hJ];done)|(simp only[*,go_sem,-b,-a,-hJ];rfl),rfl⟩ (by rfl) (by simp) (fun φ mu ms P al bl b0 b1 he hi hm=>⟨.held,_,?_,⟨_,_,_,_,_,Da hm hi {mp:=.held,gp:=.cnt,stored:=st,deaf:=1} false (by rw[he]) rfl (fun _=>rfl)⟩,?_⟩)
        .have e0:=hm.st.eq
         have a9:P<=3*n:=hm.bound
         have ev:=hm.st.s
         have eQ:=hm.st.w
         have eS:=hm.st.l
         rw[iP (by omega) (by omega)]
         simp;omega
        refine ai.nil a (b _ _ _ ?_);clear b K
        refine o7 ?_
        change uT Mu st c _ _ _
        exact ⟨rfl,(by simp only[*,go_sem,-a,-hJ]),(by simp only[*,go_sem,-a,-hJ]),(by simp only[*,go_sem,-a,-hJ]),rfl⟩
       .clear a6
        repeat apply aB (a _)
        refine cZ (a _) (by simp only[*,go_sem,-a,-hJ]) ?_
        repeat apply aB (a _)
        refine bh a fun K b=>?_
        refine ai.bA (hJ _ rfl) 3 (n:=0) _ rfl rfl ?_;simp only[*,go_sem,-b,-a,-hJ]
        refine ai.nil a (b _ _ _ ?_);clear b K
        repeat apply aB (a _)
        refine bh a fun K b=>?_
        refine ai.bA (hJ _ rfl) 4 (n:=1) _ rfl rfl ?_;simp only[*,go_sem,-b,-a,-hJ]
        refine yW (-11) yK aD ⟨_,_,_,rfl,(by first|(simp only[*,go_sem,-b,-a,-hJ];done)|rfl),rfl,by first|(simp only[*,go_sem,-b,-a,-hJ];done)|(simp only[*,go_sem,-b,-a,-hJ];rfl),rfl⟩ (by rfl) (by simp) (fun φ mu ms P al bl b0 b1 he hi hm=>⟨.held,_,?_,⟨_,_,_,_,_,Da hm hi {mp:=.held,gp:=.cnt,stored:=st,deaf:=1} true (by rw[he]) rfl (by simp)⟩,?_⟩)
        .have e0:=hm.st.eq
         have a9:P<=3*n:=hm.bound
         have ev:=hm.st.s
         have eQ:=hm.st.w
         have eS:=hm.st.l
         rw[iP (by omega) (by omega)]
         simp;omega
        refine ai.nil a (b _ _ _ ?_);clear b K
        refine o7 ?_
        change uT Mu st c _ _ _
        exact ⟨rfl,(by simp only[*,go_sem,-a,-hJ]),(by simp only[*,go_sem,-a,-hJ]),(by simp only[*,go_sem,-a,-hJ]),rfl⟩
    .obtain ⟨J,a8,bj⟩:=uB hm hi {mp:=.want aw mu (bM n φ ms),gp:=.cnt,stored:=st,deaf:=1} (by rw[he]) rfl
     have da:bM n φ ms<G:=bj df
     refine ⟨.want aw mu (bM n φ ms),⟨_,_,_,_,p,J⟩,?_⟩
     clear j r x E N u T U J a8 bj he hi hm X cS a7 bd
     refine ai.nil a (b _ _ _ ?_);clear b K
     repeat apply aB (a _)
     refine cD (a _) (by simp only[*,go_sem,-a,-hJ]) ?_
     repeat apply aB (a _)
     refine bh a fun K b=>?_
     refine ai.bA (hJ _ rfl) 3 (n:=2) _ rfl rfl ?_;simp only[*,go_sem,-b,-a,-hJ]
     refine pg uL o9 ⟨_,rfl,(by first|(simp only[*,go_sem,-b,-a,-hJ];done)|rfl),rfl,rfl⟩ (by rfl) (by simp only[*,go_sem,-b,-a,-hJ]) (fun bb dd bc H ba cy c0 bm du dv bo=>?_)
     obtain ⟨ca,dC,_⟩:=uB bo dv {mp:=.want aw dd (bM n bb bc),gp:=.cnt,stored:=st,deaf:=1} (by rw[du]) rfl
     have fx:bM n bb bc<=bM n φ ms:=dC
     have a9:H<=3*n:=bo.bound
     have ad:=wd bo.st (by omega)
     have cb:aw=true->ba=0/\cy=1:=fun e=>by subst e;exact C9 bo dv (by rw[du])
     refine ⟨.want aw dd (bM n bb bc),⟨_,_,_,_,bm,ca⟩,?_⟩
     clear ca dC
     refine ai.bA (hJ _ rfl) 1 (n:=0) _ rfl rfl ?_;simp only[*,go_sem,-b,-a,-hJ]
     refine ai.nil a (b _ _ _ ?_);clear b K
     change ∃p,p<m/\uS Mu n st c p _ _ _
     exact ⟨8*bM n bb bc+(5 - it).toNat,by omega,wt,it,dd,sv,aw,H,ba,cy,c0,bM n bb bc,rfl,(by simp only[*,go_sem,-a,-hJ]),(by simp only[*,go_sem,-a,-hJ]),(by simp only[*,go_sem,-a,-hJ]),(by simp only[*,go_sem,-a,-hJ]),(by simp only[*,go_sem,-a,-hJ]),(by simp only[*,go_sem,-a,-hJ]),(by simp only[*,go_sem,-a,-hJ]),(by simp only[*,go_sem,-a,-hJ]),ad,a9,by omega,by omega,V,cb,Nat.le_refl _,rfl⟩
 .rintro A F' aL ⟨rfl,f,d,hd,rfl⟩
  repeat apply aB (a _)
  refine cZ (a _) (by simp only[*,go_sem,-a,-hJ]) ?_
  repeat apply aB (a _)
  refine bh a fun K b=>?_
  refine uN lS ⟨_,_,_,rfl,(by first|(simp only[*,go_sem,-b,-a,-hJ];done)|rfl),rfl,by first|(simp only[*,go_sem,-b,-a,-hJ];done)|(simp only[*,go_sem,-b,-a,-hJ];rfl),rfl⟩ (by simp) (by simp) rfl ?_
  refine ai.nil a (b _ _ _ ?_);clear b K
  repeat apply aB (a _)
  refine bh a fun K b=>?_
  refine ai.bA (hJ _ rfl) 1 (n:=2) _ rfl rfl ?_;simp only[*,go_sem,-b,-a,-hJ]
  refine uP ⟨Mu,0,none⟩ yM lT yO ⟨_,rfl,(by first|(simp only[*,go_sem,-b,-a,-hJ];done)|rfl),rfl,rfl⟩ (by simp) (by simp only[*,go_sem,-b,-a,-hJ]) yX ?_
  refine DQ uJ ⟨_,_,_,rfl,(by first|(simp only[*,go_sem,-b,-a,-hJ];done)|rfl),rfl,by first|(simp only[*,go_sem,-b,-a,-hJ];done)|(simp only[*,go_sem,-b,-a,-hJ];rfl),rfl⟩ (by rfl) ?_
  refine ai.nil a (b _ _ _ ?_);clear b K
  exact lQ rfl (by simp only[*,go_sem,-a,-hJ]) ⟨rfl,rfl,rfl⟩
end
end Go.Proofs.YtghbphimkgamkaaGreatDoor
end
section
namespace Go.Proofs.YtghbphimkgamkaaGreatDoor
open Go Go.Sep Go.Proofs Go.Conc
open Go.ConcN (upd upd_same)
open Go.ConcM (muA msA)
open Go.ConcR (stA smA)
set_option maxRecDepth 100000
set_option maxHeartbeats 4000000
attribute [local go_sem] Int.reduceBEq Int.reduceBNe muA msA stA smA
section
variable {Mu Wg Is n base T0 i : Nat} {bs : Nat → Bool} {st : Bool} {F : aa}
theorem KP (aD:Mu≠Wg/\Mu≠Is/\Wg≠Is)(b:n<67108864):
  cG Tryz.prog (WJ (CY Mu Wg Is n bs base T0) i) 146 #[.pointer (some (muA Mu))] F ⟨.idle,.cnt,st,0⟩ (fun v F' aL=>v= .tuple #[]/\F'=F/\aL=⟨.held,.cnt,st,0⟩):=by
 have a:=WJ.ez (CY Mu Wg Is n bs base T0) i
 have hJ:∀ph:Ph,ph.gp= .cnt->Go.Sep.Closed Tryz.prog false (WJ (CY Mu Wg Is n bs base T0) i ph):=fun ph h=>Wk.closed (CY Mu Wg Is n bs base T0) i ph h
 refine cG.go (main:=false) a Tryz.func146 rfl Tryz.ntmps146 (by simp) fun A d hd hs=>?_
 have e:=hs 0
 clear hs
 repeat apply aB (a _)
 refine c5 a ?_
 refine ai.bA (hJ _ rfl) 3 (n:=1) _ rfl rfl ?_;simp only[*,go_sem]
 refine ai.gj (a _) rfl rfl rfl FY (by simp only[*,go_sem,muA]) (KG aD (KO aD b)) fun v F' aL c=>?_
 obtain ⟨rfl,rfl,rfl⟩:=c
 refine ai.nil a ?_
 exact lQ rfl (by simp only[*,go_sem]) ⟨rfl,rfl,rfl⟩
theorem KQ (aD:Mu≠Wg/\Mu≠Is/\Wg≠Is)(b:n<67108864):
  cG Tryz.prog (WJ (CY Mu Wg Is n bs base T0) i) 147 #[.pointer (some (muA Mu))] F ⟨.held,.cnt,st,0⟩ (fun v F' aL=>v= .tuple #[]/\F'=F/\aL=⟨.fin,.cnt,st,0⟩):=by
 have a:=WJ.ez (CY Mu Wg Is n bs base T0) i
 have hJ:∀ph:Ph,ph.gp= .cnt->Go.Sep.Closed Tryz.prog false (WJ (CY Mu Wg Is n bs base T0) i ph):=fun ph h=>Wk.closed (CY Mu Wg Is n bs base T0) i ph h
 refine cG.go (main:=false) a Tryz.func147 rfl Tryz.ntmps147 (by simp) fun A d hd hs=>?_
 have e:=hs 0
 clear hs
 repeat apply aB (a _)
 refine c5 a ?_
 refine ai.bA (hJ _ rfl) 3 (n:=1) _ rfl rfl ?_;simp only[*,go_sem]
 refine ai.gj (a _) rfl rfl rfl FZ (by simp only[*,go_sem,muA]) (KJ aD b) fun v F' aL c=>?_
 obtain ⟨rfl,rfl,rfl⟩:=c
 refine ai.nil a ?_
 exact lQ rfl (by simp only[*,go_sem]) ⟨rfl,rfl,rfl⟩
end
end Go.Proofs.YtghbphimkgamkaaGreatDoor
end
section
namespace Go.Sep
open Go Go.Conc
def uU (op:BinOp)(u v:Value):Option Value:=match op with
 | .shl=>match u,v with
  | .int k a,.int _ b=>if b<0 then none else some (.int k (k.wrap (a*2 ^ min b.toNat k.bits)))
  |_,_=>none
 | .shr=>match u,v with
  | .int k a,.int _ b=>if b<0 then none else some (.int k (a.fdiv (2 ^ min b.toNat k.bits)))
  |_,_=>none
 |_=>nF op u v
def pn (P:Program)(op:Op)(a:Act):Option Value:=match op with
 | .move x| .assign x=>some (ev a x)
 | .nilCheck x=>match ev a x with
  | .pointer (some ad)=>some (.pointer (some ad))
  |_=>none
 | .pick c x y=>match ev a c with
  | .bool b=>some (if b then ev a x else ev a y)
  |_=>none
 | .binOp op t x y _=>uU op (ev a x) (ev a y)
 | .unOp op _ x=>l9 op (ev a x)
 | .convert src dst x=>mc P src dst (ev a x)
 | .fieldAddr s x n=>match ev a x with
  | .pointer (some ad)=>match cN P s n with
   |some k=>some (.pointer (some (ad.add k)))
   |none=>none
  |_=>none
 |_=>none
theorem KR {P:Program}{op:BinOp}{t:TypeId}{x y:Operand}{u v r:Value}(h:uU op u v=some r)(w:World):
  (do eqGuard op t x y u v;pure (.value (<-binOp op t u v)):Sem Next).run P w= .ok (.value r) w/\(do eqGuard op t x y u v;pure (.value (<-binOp op t u v)):Sem Next).events P w #[]=#[]:=by
 unfold uU at h
 split at h
 .split at h
  case h_2=>cases h
  split at h
  .cases h
  .rename_i hb;cases h;simp[eqGuard,binOp,Op.shift,hb]
 .split at h
  case h_2=>cases h
  split at h
  .cases h
  .rename_i hb;cases h;simp[eqGuard,binOp,Op.shift,hb]
 .rename_i n1 n2
  unfold nF at h
  split at h
  case h_2=>cases h
  rename_i k a d b
  split at h
  case isFalse=>cases h
  rename_i c
  subst c
  cases op<;>simp only[binOp,ne_eq,not_true_eq_false,if_false,Op.intArith,Op.intDiv,Op.intCmp,Op.intBits,Op.shift,eqGuard] at h ⊢<;>first
   |(cases h;done)
   |(exact absurd rfl n1)
   |(exact absurd rfl n2)
   |(cases h;simp;done)
   |(split at h
     .cases h
     .rename_i hb;cases h;simp[hb])
theorem DV {P:Program}{o:Oper}{a:Act}{v:Value}(h:pn P o.op a=some v)(w:World):(execOp a.eval o).run P w= .ok (.value v) w/\(execOp a.eval o).events P w #[]=#[]:=by
 obtain ⟨dst,op,type,pos,after,guard⟩:=o;unfold execOp;simp only[eG] at h ⊢;unfold pn at h;cases op<;>simp only[reduceCtorEq] at h ⊢
 case move x=>cases h;simp
 case assign x=>cases h;simp
 case nilCheck x=>
  split at h
  .rename_i ad e;cases h;simp[e]
  .cases h
 case pick c x y=>
  split at h
  .rename_i b hb;cases h;simp[hb,asBool]
  .cases h
 case binOp op t x y r=>have:=KR (P:=P) (t:=t) (x:=x) (y:=y) h w;simpa using this
 case unOp op t x=>
  revert h;cases ev a x<;>cases op<;>simp only[l9,reduceCtorEq,false_implies,Option.some.injEq]<;>intro h<;>subst h<;>simp[Op.unary,Op.intArith]
 case convert src dst x=>
  revert h;cases e:ev a x<;>simp only[mc,reduceCtorEq,false_implies];intro h;split at h
  .rename_i k1 A i j;cases h;simp[convert,run_underlying i,run_underlying j,Conv.intToInt]
  .cases h
 case fieldAddr s x n=>
  split at h
  case h_2=>cases h
  rename_i ad l;split at h
  case h_2=>cases h
  rename_i k d;cases h;unfold cN at d;split at d
  case h_2=>cases d
  rename_i B g;split at d
  case h_2=>cases d
  rename_i f p;split at d
  case h_2=>cases d
  rename_i m hm;cases d;obtain ⟨inf,q,u⟩:=Option.map_eq_some_iff.1 hm;have z:Instr.sureAddr (.pointer (some ad))=(Pure.pure ad:Sem Addr):=rfl;simp[Instr.fieldAt,run_underlying g,g,p,l,z,fieldPlace,Go.sizeOf,typeInfo,q,u,Result.andThen,Result.evThen]
def iT (P:Program)(ops:Array Oper)(K:Act->Prop):List Oper->Act->Prop
 |[],a=>K a
 |o::rest,a=>match cC ops o a with
  |some true=>match pn P o.op a with
   |some v=>iT P ops K rest (bg a o.dst v)
   |none=>False
  |some false=>iT P ops K rest (bg a o.dst undef)
  |none=>False
theorem KS {P:Program}{ops:Array Oper}{K:Act->Prop}{a:Act}:iT P ops K [] a=K a:=(Eq.refl _).trans (Eq.refl _)
theorem KT {P:Program}{ops:Array Oper}{K:Act->Prop}{o:Oper}{rest:List Oper}{a:Act}:iT P ops K (o::rest) a=match cC ops o a with
  |some true=>match pn P o.op a with
   |some v=>iT P ops K rest (bg a o.dst v)
   |none=>False
  |some false=>iT P ops K rest (bg a o.dst undef)
  |none=>False:=(Eq.refl _).trans (Eq.refl _)
attribute [go_sem] KS KT pn uU
section
variable {P : Program} {main : Bool} {S : Type} {JF : S → Goroutine → aa → Prop} {fi : FuncId} {ops : Array Oper} {F : aa} {ph : S} {Q : Act → aa → S → Prop}
theorem yY (d:dZ P main (JF ph)):∀(l:List Oper) (i n:Nat) (a:Act),(∀j o,l[j]?=some o->ops[i+j]?=some o)->iT P ops (fun b=>ai JF fi ops (i+l.length) n Q b F ph) l a->ai JF fi ops i (l.length+n) Q a F ph
 |[],i,n,a,_,h=>by rw[List.length_nil,Nat.zero_add];exact h
 |o::rest,i,n,a,k,h=>by
  have m:ops[i]?=some o:=k 0 o rfl
  have p:∀j x,rest[j]?=some x->ops[i+1+j]?=some x:=fun j x q=>by rw[Nat.add_assoc,Nat.add_comm 1 j];exact k (j+1) x q
  have e:(o::rest).length+n=(rest.length+n)+1:=by rw[List.length_cons];omega
  have e2:∀b,ai JF fi ops (i+(o::rest).length) n Q b F ph->ai JF fi ops (i+1+rest.length) n Q b F ph:=fun b x=>by
   rw[show i+1+rest.length=i+(o::rest).length by rw[List.length_cons];omega];exact x
  rw[e]
  have mono:∀(l:List Oper) (a:Act) {K f:Act->Prop},(∀a,K a->f a)->iT P ops K l a->iT P ops f l a:=by
   intro l
   induction l with
   |nil=>intro a K f g h;exact g a h
   |cons o l ih=>
    intro a K f g h
    unfold iT at h ⊢
    cases hg:cC ops o a with
    |none=>rw[hg] at h;exact h.elim
    |some t=>
     rw[hg] at h
     cases t with
     |false=>exact ih _ g h
     |true=>
      simp only at h ⊢
      cases c:pn P o.op a with
      |none=>rw[c] at h;exact h.elim
      |some v=>rw[c] at h;exact ih _ g h
  unfold iT at h
  split at h
  .rename_i hg
   split at h
   .rename_i v c
    exact ai.plain d v m hg (fun w=>(DV c w).1) (fun w=>(DV c w).2) (yY d rest (i+1) n _ p (mono _ _ e2 h))
   .exact h.elim
  .rename_i hg
   exact ai.skip d m hg (yY d rest (i+1) n _ p (mono _ _ e2 h))
  .exact h.elim
theorem ai.pure (d:dZ P main (JF ph))(m:Nat){i n:Nat}{a:Act}(l:List Oper)(c:(ops.toList.drop i).take m=l)(hm:l.length=m)(h:iT P ops (fun e=>ai JF fi ops (i+m) n Q e F ph) l a):ai JF fi ops i (m+n) Q a F ph:=by
 subst hm;refine yY d l i n a (fun j o b=>?_) h;rw[<-c] at b;have f:j<l.length:=by
  rcases Nat.lt_or_ge j l.length with x|x
  .exact x
  .rw[c,List.getElem?_eq_none x] at b;cases b
 rw[List.getElem?_take,if_pos f,List.getElem?_drop] at b;simpa using b
end
end Go.Sep
end
section
namespace Go.Sep
open Go Go.Conc
open Go.ConcN (sumTo upd upd_ne upd_same)
open Go.ConcM (MuAt muA msA muBlock OsLater)
open Go.ConcR (WgAt wgBlock stA smA)
section
variable {c : Cy} {i : Nat} {ph : Ph} {ops : Array Oper} {j n : Nat} {Q : Act → aa → Ph → Prop} {a : Act} {F : aa} {f fi : FuncId} {d : Option Tmp}
theorem Inv.group {k:Nat}{φ:Nat->Ph}{p0:P0}{s:Sh}(h:Inv c.n c.bs k φ p0 s)(hi:i<c.n)(he:φ i=ph)(a:ph.gp≠ .new)(b:ph.gp≠ .cnt){gp:Gp}(d:gp≠ .new){wg ws:Int}
  (hw:dH c.n (upd φ i {ph with gp:=gp}) p0 wg ws):Inv c.n c.bs k (upd φ i {ph with gp:=gp}) p0 {s with wg:=wg,ws:=ws}:=by
 obtain ⟨C,S,W,L,m,hm⟩:=h.m
 refine h.jV hi he a d ⟨C,S,W,L,m,nc hm hi _ (.inl (by rw[he]))⟩ hw ?_ (fun _=>?_)
 .have:=h.i.all i hi
  rw[he] at this
  exact (yU this).symm
 .have:=h.i.done i hi (by rw[he];exact b) (by rw[he];exact a)
  rw[he] at this
  exact this
theorem KU (m:Entry c.P f (Extern.Atomic.update (Op.intArith .add) .u64 true))(aD:c.Mu≠c.Wg/\c.Mu≠c.Is/\c.Wg≠c.Is)(H:c.n<67108864)(p:At ops j a f [.pointer (some (stA c.Wg)),.int .u64 18446744069414584320] d)
  (e:ph.gp= .rel) (q:0<ph.deaf)
  (h:∀v t:Nat,v<=c.n->t<=1->ai (WJ c i) fi ops (j+1) n Q (bg a d (.int .u64 ((v:Int)*4294967296+t))) F {ph with gp:=if v=0/\t=1 then .ld else .gone}):
  ai (WJ c i) fi ops j (n+1) Q a F ph:=by
 obtain ⟨o,cB,dj,l,hg,r,u,rfl⟩:=p
 obtain ⟨x,y,rfl,z,A⟩:=rG u
 obtain ⟨fn,f1,f2,f3,f4,f5⟩:=m.ex
 refine fG l (by rw[e];simp) fun w s k φ p0 _ hs hi he g=>.inr ?_
 obtain ⟨v,t,e1,ht,B,_⟩:=Dd g.w hi ph (by rw[he];exact e)
 obtain ⟨C,D,E,I,_,hw⟩:=Dd g.w hi {ph with gp:=if v=0/\t=1 then .ld else .gone} (by rw[he];exact e)
 obtain ⟨rfl,rfl⟩:v=C/\t=D:=by simp only[cX] at e1 E;omega
 have e2:IntKind.u64.wrap (s.wg+18446744069414584320)=(v:Int)*4294967296+t:=by
  rw[e1]
  unfold IntKind.wrap
  simp only[IntKind.bits,IntKind.signed,cX]
  simp
  omega
 have G:s.wg - cX=(v:Int)*4294967296+t:=by rw[e1];simp only[cX];omega
 refine ⟨.int .u64 ((v:Int)*4294967296+t),_,_,{s with wg:=(v:Int)*4294967296+t},{ph with gp:=if v=0/\t=1 then .ld else .gone},fun b J cs hb=>by rw[<-e2];exact stepG_add_atomic l (cj hg) hb.kind r f1 f2 f3 f4 .u64 f5 z A hs.wg.1 hs.wg.2,by rw[<-e2];exact hs.uM aD _,.set _ (.inr (.inl rfl)),?_,yS rfl ?_ q (.inl rfl),.inr dL,h v t B ht⟩
 .refine g.group hi he (by rw[e];simp) (by rw[e];simp) (by split<;>simp) ?_
  rw[<-G]
  exact hw rfl
 .simp only[e];split<;>simp
theorem KV (m:Entry c.P f (Extern.Atomic.loadT (.int .u64)))(p:At ops j a f [.pointer (some (stA c.Wg))] d)(e:ph.gp= .ld)(q:0<ph.deaf)
  (h:ai (WJ c i) fi ops (j+1) n Q (bg a d (.int .u64 1)) F {ph with gp:=.st}):ai (WJ c i) fi ops j (n+1) Q a F ph:=by
 obtain ⟨o,cB,dj,g,hg,r,t,rfl⟩:=p
 obtain ⟨x,rfl,u⟩:=jY t
 obtain ⟨fn,f1,f2,f3,f4,f5⟩:=m.ex
 refine fG g (by rw[e];simp) fun w s k φ p0 _ hs hi he l=>.inr ?_
 obtain ⟨e1,hw⟩:=JR l.w hi {ph with gp:=.st} (by rw[he];exact e) rfl
 exact ⟨.int .u64 1,_,_,s,{ph with gp:=.st},fun b v cs hb=>by rw[<-e1];exact stepG_load_atomic g (cj hg) hb.kind r f1 f2 f3 f4 .u64 f5 u hs.wg.1,hs,.refl _ _,l.group hi he (by rw[e];simp) (by rw[e];simp) (by simp) hw,yR false rfl (by simp[e]) q (.inl rfl),.inr dL,h⟩
theorem KW (m:Entry c.P f Extern.Atomic.storeT)(aD:c.Mu≠c.Wg/\c.Mu≠c.Is/\c.Wg≠c.Is)(p:At ops j a f [.pointer (some (stA c.Wg)),.int .u64 0] d)(e:ph.gp= .st)(q:0<ph.deaf)
  (h:ai (WJ c i) fi ops (j+1) n Q (bg a d (.tuple #[])) F {ph with gp:=.sm}):ai (WJ c i) fi ops j (n+1) Q a F ph:=by
 obtain ⟨o,cB,dj,g,hg,r,t,rfl⟩:=p
 obtain ⟨x,y,rfl,u,v⟩:=rG t
 obtain ⟨fn,f1,f2,f3,f4,f5⟩:=m.ex
 refine fG g (by rw[e];simp) fun w s k φ p0 _ hs hi he l=>.inr ?_
 obtain ⟨e1,hw⟩:=JS l.w hi {ph with gp:=.sm} (by rw[he];exact e) rfl
 exact ⟨.tuple #[],_,_,{s with wg:=0},{ph with gp:=.sm},fun b z cs hb=>stepG_store_atomic g (cj hg) hb.kind r f1 f2 f3 f4 f5 u v hs.wg.1 hs.wg.2,hs.uM aD _,.set _ (.inr (.inl rfl)),l.group hi he (by rw[e];simp) (by rw[e];simp) (by simp) hw,yR true rfl (by simp[e]) q (.inl rfl),.inr dL,h⟩
theorem KX (r t:Value)(l:Entry c.P f Extern.Sync.semrelease)(aD:c.Mu≠c.Wg/\c.Mu≠c.Is/\c.Wg≠c.Is)(u:At ops j a f [.pointer (some (smA c.Wg)),r,t] d)(e:ph.gp= .sm)
  (h:ai (WJ c i) fi ops (j+1) n Q (bg a d (.tuple #[])) F {ph with gp:=.gone}):ai (WJ c i) fi ops j (n+1) Q a F ph:=by
 obtain ⟨o,cB,dj,m,hg,p,v,rfl⟩:=u
 obtain ⟨x,y,z,rfl,g,_,_⟩:=rH v
 obtain ⟨fn,f1,f2,f3,f4,f5⟩:=l.ex
 refine fG m (by rw[e];simp) fun w s k φ p0 _ hs hi he q=>.inr ?_
 obtain ⟨e1,hw⟩:=JU q.w hi {ph with gp:=.gone} (by rw[he];exact e) rfl
 have A:IntKind.u32.wrap (s.ws+1)=s.ws+1:=by rw[e1];decide
 refine ⟨.tuple #[],_,_,{s with ws:=s.ws+1},{ph with gp:=.gone},fun b B cs hb=>stepG_semrelease m (cj hg) hb.kind p f1 f2 f3 f4 f5 (by simp[eG,g]) hs.ws.1 hs.ws.2,by rw[A];exact hs.DN aD _,.set _ (.inr (.inl rfl)),
  q.group hi he (by rw[e];simp) (by rw[e];simp) (by simp) hw,yT rfl (by simp[e]) (.inl rfl),.inl ⟨_,p,fun x g=>?_⟩,h⟩
 cases g
 exact ⟨f,rfl,l.Dy⟩
end
end Go.Sep
end
section
namespace Go.Sep
open Go Go.Conc
open Go.ConcN (sumTo upd upd_ne upd_same)
theorem ai.defer {P:Program}{main:Bool}{S:Type}{JF:S->Goroutine->aa->Prop}{fi f:FuncId}{ops:Array Oper}{j n:Nat}{Q:Act->aa->S->Prop}{a:Act}{F:aa}{ph:S}(e:dZ P main (JF ph)){o:Oper}{cB:Array Operand}{dj:Array TypeId}{vals:Array Value}
  (g:ops[j]?=some o) (hg:cC ops o a=some true) (k:o.op= .defer {callee:=.value (.func f),args:=cB,argTypes:=dj}) (hd:o.dst=none) (l:cB.map a.eval=vals)
  (h:∀c:Act,(∀i,slot c i=slot a i)->sz c=sz a->c.defers=dcall f vals::a.defers->ai JF fi ops (j+1) n Q c F ph):ai JF fi ops j (n+1) Q a F ph:=fun b d cs hb m=>by
 rw[List.range'_succ,eJ hb.round]
 refine e.move (fr':=b.at (Act.put ⟨a.tmps,dcall f (cB.map a.eval)::a.defers⟩ o.dst undef) (.inRegion ops (List.range' (j+1) n)::d)) (fun w=>stepG_defer g (cj hg) hb.kind k) ?_
 rw[<-eJ hb.round,hd,l]
 exact h ⟨a.tmps,dcall f vals::a.defers⟩ (fun _=>rfl) rfl rfl b d cs hb m
section
variable {c : Cy} {i : Nat} {ph : Ph} {F : aa} {f : FuncId}
theorem KY (g:Entry c.P f (fun _=>do mark .enable;pure Extern.Race.none_))(hg:ph.gp= .gone){d:Nat}(hd:ph.deaf=d+1){b:Frame}{a:Act}{todo:List Item}{cs:List Frame}{e:List Deferred}(j:a.defers=dcall f #[]::e)
  (h:WJ c i {ph with deaf:=d} (G {b.at ⟨a.tmps,e⟩ todo with mode:=.returning} cs) F):WJ c i ph (G {b.at a todo with mode:=.returning} cs) F:=by
 obtain ⟨F0,r,hle,hW⟩:=h
 obtain ⟨q,_,k⟩:=hW.left hg
 obtain ⟨fn,f1,f2,f3,f4,f5⟩:=g.ex
 refine Wk.gone (q:=q+1) hg (QuitsD.unwind_mark .enable rfl (by simp) j f1 f2 f3 f4 f5 ?_)
 rw[hd]
 exact k
def kR (f:FuncId)(R:Value->aa->Ph->Prop):Ex->Act->aa->Ph->Prop
 | .exit _,_,_,_=>False
 |_,a,F,ph=>a.defers=[dcall f #[]]/\ph.gp= .gone/\∃b,ph.deaf=b+1/\R (.tuple #[]) F {ph with deaf:=b}
theorem cG.KZ {f0:FuncId}(p:Entry c.P f (fun _=>do mark .enable;pure Extern.Race.none_)){fn:Func}{cd:Code}{n:Nat}{args:Array Value}{R:Value->aa->Ph->Prop}(l:c.P.funcs[f0]?=some fn)(hb:fn.body=some cd)(m:fn.results=#[])(o:fn.ntmps=n)(v:args.size<=n)
  (h:∀A:Act,sz A=n->A.defers=[]->(∀i,slot A i=args.getD i undef)->cM (WJ c i) f0 cd (kR f R) A F ph):cG c.P (WJ c i) f0 args F ph R:=by
 intro d cs q
 let b:Frame:={(default:Frame) with fn:=f0,kind:=.normal}
 have r:b.roundOf=none:=rfl
 have s:Frame.enter c.P f0 args .normal=on b {tmps:=args++Array.replicate (fn.ntmps - args.size) undef,defers:=[]} [.code cd]:=by
  simp[Frame.enter,on,l,hb,b]
  rfl
 rw[s]
 have g:=WJ.ez c i
 have leave:∀(a:Act) (todo:List Item) F' (aL:Ph),(a.defers=[dcall f #[]]/\aL.gp= .gone/\∃j,aL.deaf=j+1/\R (.tuple #[]) F' {aL with deaf:=j})->WJ c i aL (G {on b a todo with mode:=.returning} (d::cs)) F':=by
  intro a todo F' aL ⟨hd,hg,j,t,u⟩
  rw[eJ r]
  refine KY p hg t hd ((g _).move (fr':=d.finish (.tuple #[])) (cs':=cs) (fun w=>?_) (q _ F' _ u))
  exact stepG_leave rfl rfl l (results_none m _ c.P w) (events_results_none m _ _)
 refine h _ (by simp[sz,o];omega) rfl (fun i=>?_) b [] (d::cs) ⟨by simp[b],rfl,rfl⟩ fun e a F' aL k=>?_
 .simp only[slot,o,Array.getD_eq_getD_getElem?]
  rcases Nat.lt_or_ge i args.size with hi|hi
  .rw[Array.getElem?_append_left hi]
  .rw[Array.getElem?_append_right hi,Array.getElem?_replicate,Array.getElem?_eq_none hi]
   split<;>rfl
 .cases e with
  |normal=>exact (g aL).move (fun _=>lZ rfl) (leave a _ F' aL k)
  |exit i=>exact k.elim
  |ret=>exact fun x=>(g aL).move (fun _=>stepG_ret' rfl) (leave a _ F' aL k)
def yZ (R:aa->Ph->Prop):Ex->Act->aa->Ph->Prop
 | .exit _,_,_,_=>False
 |_,a,F,ph=>a.defers=[]/\R F ph
theorem K0 {f0:FuncId}{fn:Func}{cd:Code}{n:Nat}{args:Array Value}{R:aa->Ph->Prop}(k:c.P.funcs[f0]?=some fn)(p:(fn.name== "runtime.NumGoroutine")=false)(hb:fn.body=some cd)(l:fn.results=#[])(m:fn.ntmps=n)(t:args.size<=n)
  {b:Frame} {a:Act} {todo:List Item} {cs:List Frame} {f:List Deferred} (q:a.defers=dcall f0 args::f)
  (h:∀A:Act,sz A=n->A.defers=[]->(∀i,slot A i=args.getD i undef)->cM (WJ c i) f0 cd (yZ R) A F ph)
  (r:∀F' aL,R F' aL->WJ c i aL (G {b.at ⟨a.tmps,f⟩ todo with mode:=.returning} cs) F'):WJ c i ph (G {b.at a todo with mode:=.returning} cs) F:=by
 have g:=WJ.ez c i
 refine (g ph).move (fun w=>stepG_unwind_enter q k p hb) ?_
 have leave:∀(d:Act) (o:List Item) F' (aL:Ph),(d.defers=[]/\R F' aL)->WJ c i aL (G {(baseD f0).at d o with mode:=.returning} ({b.at ⟨a.tmps,f⟩ todo with mode:=.returning}::cs)) F':=by
  intro d o F' aL ⟨hd,s⟩
  exact (g _).move (fun w=>stepG_leave_deferred rfl hd k (results_none l _ c.P w) (events_results_none l _ _) rfl) (r F' aL s)
 have:=h {tmps:=args++Array.replicate (fn.ntmps - args.size) undef,defers:=[]} (by simp[sz,m];omega) rfl (fun i=>?_) (baseD f0) [] ({b.at ⟨a.tmps,f⟩ todo with mode:=.returning}::cs) ⟨by simp[baseD],rfl,rfl⟩ fun e d F' aL j=>?_
 .rw[eJ rfl] at this;exact this
 .simp only[slot,m,Array.getD_eq_getD_getElem?]
  rcases Nat.lt_or_ge i args.size with hi|hi
  .rw[Array.getElem?_append_left hi]
  .rw[Array.getElem?_append_right hi,Array.getElem?_replicate,Array.getElem?_eq_none hi]
   split<;>rfl
 .cases e with
  |normal=>exact (g aL).move (fun _=>lZ rfl) (leave d _ F' aL j)
  |exit i=>exact j.elim
  |ret=>exact fun u=>(g aL).move (fun _=>stepG_ret' rfl) (leave d _ F' aL j)
end
attribute [go_sem] kR yZ
end Go.Sep
end
section
namespace Go.Sep
open Go
def kS (x y:Int):Int:=IntKind.u64.wrap ((BitVec.ofInt 64 x&&& BitVec.ofInt 64 y).toNat:Int)
@[go_sem] theorem Td (x y:Int):IntKind.u64.wrap ((@HAnd.hAnd (BitVec 64) (BitVec 64) (BitVec 64) (@instHAndOfAndOp (BitVec IntKind.u64.bits) (@BitVec.instAndOp IntKind.u64.bits)) (BitVec.ofInt 64 x) (BitVec.ofInt 64 y)).toNat:Int)=kS x y:=rfl
theorem y2 (v t:Nat)(a:v<2147483648)(ht:t<=1):kS ((v:Int)*4294967296+(t:Int)) 2147483648=0:=Go.ConcN.st_flag v t a ht
theorem y3 (v t:Nat)(a:v<2147483648)(ht:t<=1):kS ((v:Int)*4294967296+(t:Int)) 2147483647=(t:Int):=Go.ConcN.st_waiters v t a ht
theorem y4 (v t:Nat)(ht:t<=1):((v:Int)*4294967296+(t:Int)).fdiv 4294967296=v:=by
 rw[Int.fdiv_eq_ediv_of_nonneg _ (by decide)];omega
end Go.Sep
namespace Go.Proofs.YtghbphimkgamkaaGreatDoor
open Go Go.Sep Go.Proofs Go.Conc
open Go.ConcN (upd upd_same)
open Go.ConcM (muA msA)
open Go.ConcR (stA smA)
set_option maxRecDepth 100000
set_option maxHeartbeats 4000000
set_option linter.all false
attribute [local go_sem] Int.reduceBEq Int.reduceBNe muA msA stA smA
section
variable {Mu Wg Is n base T0 i : Nat} {bs : Nat → Bool} {st : Bool} {F : aa}
theorem K1 (w:World)(s:Sh)(h:cA (CY Mu Wg Is n bs base T0) w s):∃v,w.cell? ⟨Wg,0,none⟩=some v:=⟨_,h.wg.1⟩
theorem K2 (aD:Mu≠Wg/\Mu≠Is/\Wg≠Is)(b:n<67108864){mp:Mp}:
  cG Tryz.prog (WJ (CY Mu Wg Is n bs base T0) i) 173 #[.pointer (some (stA Wg)),.int .u64 18446744069414584320] F ⟨mp,.rel,st,1⟩
   (fun r F' aL=>F'=F/\∃v t:Nat,v<=n/\t<=1/\r= .int .u64 ((v:Int)*4294967296+(t:Int))/\aL=⟨mp,if v=0/\t=1 then .ld else .gone,st,1⟩):=by
 have a:=WJ.ez (CY Mu Wg Is n bs base T0) i
 refine cG.go (main:=false) a Tryz.func173 rfl Tryz.ntmps173 (by simp) fun A d hd hs=>?_
 have e:=hs 0
 have k1:=hs 1
 clear hs
 repeat apply aB (a _)
 refine c5 a ?_
 refine ai.pure (a _) 1 (n:=0) _ rfl rfl ?_;simp only[*,go_sem]
 refine ai.nil a ?_;try simp only[go_sem]
 repeat apply aB (a _)
 refine c5 a ?_
 refine ai.pure (a _) 4 (n:=2) _ rfl rfl ?_;simp only[*,go_sem]
 refine KU DF aD b ⟨_,_,_,rfl,(by first|rfl|simp only[*,go_sem]),rfl,by first|(simp only[*,go_sem];done)|(simp only[*,go_sem];rfl),rfl⟩ (by rfl) (by simp) fun v t c ht=>?_
 refine ai.pure (a _) 1 (n:=0) _ rfl rfl ?_;simp only[*,go_sem]
 refine ai.nil a ?_;try simp only[go_sem]
 refine fF ?_;try simp only[go_sem]
 exact (lR rfl (by simp only[*,go_sem]) (by simp only[*,go_sem]) ⟨rfl,v,t,c,ht,rfl,rfl⟩).2
theorem K3 {mp:Mp}:
  cG Tryz.prog (WJ (CY Mu Wg Is n bs base T0) i) 175 #[.pointer (some (stA Wg))] F ⟨mp,.ld,st,1⟩
   (fun r F' aL=>F'=F/\r= .int .u64 1/\aL=⟨mp,.st,st,1⟩):=by
 have a:=WJ.ez (CY Mu Wg Is n bs base T0) i
 refine cG.go (main:=false) a Tryz.func175 rfl Tryz.ntmps175 (by simp) fun A b hd hs=>?_
 have c:=hs 0
 clear hs
 repeat apply aB (a _)
 refine c5 a ?_
 refine ai.pure (a _) 1 (n:=0) _ rfl rfl ?_;simp only[*,go_sem]
 refine ai.nil a ?_;try simp only[go_sem]
 repeat apply aB (a _)
 refine c5 a ?_
 refine ai.pure (a _) 3 (n:=2) _ rfl rfl ?_;simp only[*,go_sem]
 refine KV yL ⟨_,_,_,rfl,(by first|rfl|simp only[*,go_sem]),rfl,by first|(simp only[*,go_sem];done)|(simp only[*,go_sem];rfl),rfl⟩ (by rfl) (by simp) ?_
 refine ai.pure (a _) 1 (n:=0) _ rfl rfl ?_;simp only[*,go_sem]
 refine ai.nil a ?_;try simp only[go_sem]
 refine fF ?_;try simp only[go_sem]
 exact (lR rfl (by simp only[*,go_sem]) (by simp only[*,go_sem]) ⟨rfl,rfl,rfl⟩).2
theorem K4 (aD:Mu≠Wg/\Mu≠Is/\Wg≠Is){mp:Mp}:
  cG Tryz.prog (WJ (CY Mu Wg Is n bs base T0) i) 176 #[.pointer (some (stA Wg)),.int .u64 0] F ⟨mp,.st,st,1⟩
   (fun r F' aL=>F'=F/\r= .tuple #[]/\aL=⟨mp,.sm,st,1⟩):=by
 have a:=WJ.ez (CY Mu Wg Is n bs base T0) i
 refine cG.go (main:=false) a Tryz.func176 rfl Tryz.ntmps176 (by simp) fun A b hd hs=>?_
 have c:=hs 0
 have k1:=hs 1
 clear hs
 repeat apply aB (a _)
 refine c5 a ?_
 refine ai.pure (a _) 4 (n:=1) _ rfl rfl ?_;simp only[*,go_sem]
 refine KW Kq aD ⟨_,_,_,rfl,(by first|rfl|simp only[*,go_sem]),rfl,by first|(simp only[*,go_sem];done)|(simp only[*,go_sem];rfl),rfl⟩ (by rfl) (by simp) ?_
 refine ai.nil a ?_;try simp only[go_sem]
 exact lQ rfl (by simp only[*,go_sem]) ⟨rfl,rfl,rfl⟩
end
end Go.Proofs.YtghbphimkgamkaaGreatDoor
end
section
namespace Go.Sep
open Go Go.Conc
open Go.ConcN (sumTo upd upd_ne upd_same)
open Go.ConcM (MuAt muA msA muBlock OsLater)
open Go.ConcR (WgAt wgBlock stA smA)
structure X where
 Mu:Nat
 Wg:Nat
 Is:Nat
 n:Nat
 bs:Nat->Bool
 base:Nat
 T0:Nat
 B0:Nat
inductive Z where
 |free
 |co (x:X) (k:Nat) (p:P0) (d:Nat)
structure PT where
 P:Program
 tM:TypeId
 tW:TypeId
 tI:TypeId
abbrev X.cy (x:X)(T:PT):Cy:=⟨T.P,x.Mu,x.Wg,x.Is,T.tM,T.tW,T.tI,x.n,x.bs,x.base,x.T0⟩
def ZJ (T:PT)(Φ:Goroutine->aa->Prop):Z->Goroutine->aa->Prop
 | .free=>iS T.P Φ
 | .co x k p d=>fun g F=>(p= .reg->k=x.n)/\ey (x.cy T) x.B0 (iS T.P Φ) k p d g F
section
variable {T : PT} {Φ : Goroutine → aa → Prop} {x : X} {k d : Nat} {p : P0} {ops : Array Oper} {j n : Nat} {Q : Act → aa → Z → Prop} {a : Act} {F : aa} {o : Oper} {f fi : FuncId} {dt : Option Tmp}
theorem DW {c:Cy}:Ev0 c d d #[]:=⟨by simp,rfl⟩
theorem K5 {c:Cy}:Ev0 c d (d+1) #[cI .disable]:=⟨fun e he=>by simp at he;exact .inl he,rfl⟩
theorem DX {c:Cy}:Ev0 c (d+1) d #[cI .enable]:=⟨fun e he=>by simp at he;exact .inr (.inl he),rfl⟩
theorem y5 {c:Cy}{ad:Addr}(y:Bool)(h:ad.block=c.Wg):Ev0 c d d #[⟨.cell ad,y,true⟩]:=⟨fun e he=>by simp at he;exact .inr (.inr ⟨ad,h,.inl ⟨y,he⟩⟩),by simp[deafBehind]⟩
theorem DY {c:Cy}{ad:Addr}(h:ad.block=c.Wg):Ev0 c d d #[⟨.cell ad,false,true⟩,⟨.cell ad,true,true⟩]:=
 ⟨fun e he=>by simp at he;rcases he with he|he<;>exact .inr (.inr ⟨ad,h,.inl ⟨_,he⟩⟩),by simp[deafBehind]⟩
theorem K6 {c:Cy}{ad:Addr}(h:ad.block=c.Wg):Ev0 c d d #[cI (.read ad)]:=⟨fun e he=>by simp at he;exact .inr (.inr ⟨ad,h,.inr (.inl he)⟩),by simp[deafBehind,cI]⟩
theorem K7 {c:Cy}{ad:Addr}(h:ad.block=c.Wg):Ev0 c d d #[cI (.write ad)]:=⟨fun e he=>by simp at he;exact .inr (.inr ⟨ad,h,.inr (.inr he)⟩),by simp[deafBehind,cI]⟩
theorem K8 {c:Cy}{ad:Addr}(h:ad.block=c.Wg):Ev0 c d d (semEvents ad):=by
 refine ⟨fun e he=>?_,by simp[deafBehind,semEvents]⟩;simp[semEvents] at he;rcases he with rfl|rfl|rfl|rfl
 .exact .inl rfl
 .exact .inr (.inr ⟨ad,h,.inl ⟨_,rfl⟩⟩)
 .exact .inr (.inr ⟨ad,h,.inl ⟨_,rfl⟩⟩)
 .exact .inr (.inl rfl)
theorem ZJ.ez (T:PT)(Φ:Goroutine->aa->Prop)(z:Z):dZ T.P true (ZJ T Φ z):=by
 cases z with
 |free=>exact Closed.ez (Ds T.P Φ)
 |co x k p d=>
  refine ⟨fun {fr fr' cs cs' F} hs h=>⟨h.1,ey.yG (c:=x.cy T) rfl rfl h.1 fun w s φ e a b=>?_⟩⟩;exact ⟨_,w,#[],s,p,d,hs w,a,.refl _ _,b,DW,.inr dL,h.2⟩
theorem ZJ.closed (T:PT)(Φ:Goroutine->aa->Prop){z:Z}(b:∀x k d,z≠ .co x k .reg d):Closed T.P true (ZJ T Φ z):=by
 cases z with
 |free=>exact Ds T.P Φ
 |co x k p d=>
  have a:p≠ .reg:=fun e=>b x k d (by rw[e]);have hC:=ey.closed (x.cy T) x.B0 (iS T.P Φ) k p d a
  exact ⟨fun hle h=>⟨h.1,hC.mono hle h.2⟩,fun {fr cs F} h=>⟨fun e=>absurd e a,hC.step fun w hw=>by
   obtain ⟨g',w',es,F',k1,c,f,g,i⟩:=h w hw
   exact ⟨g',w',es,F',k1,c,f,g,i.2⟩⟩⟩
theorem kT (A:ops[j]?=some o)(i:p= .reg->k=x.n)
  (h:∀(w:World) (s:Sh) (φ:Nat->Ph),Has F w->cA (x.cy T) w s->Inv x.n x.bs k φ p s->
   ∃(v:Value) (w':World) (es:Array Event) (s':Sh) (f:P0) (g:Nat),(∀(b:Frame) (e:List Item) (cs:List Frame),BF fi b->
    stepG T.P true (G (b.at a (.inRegion ops (j::List.range' (j+1) n)::e)) cs) w= .go (G (b.at (a.put o.dst v) (.inRegion ops (List.range' (j+1) n)::e)) cs) w' es)/\cA (x.cy T) w' s'/\iz (x.cy T) w w'/\Inv x.n x.bs k φ f s'/\Ev0 (x.cy T) d g es/\
    (s'.ms<=s.ms/\s'.ws<=s.ws)/\ai (ZJ T Φ) fi ops (j+1) n Q (a.put o.dst v) F (.co x k f g)):ai (ZJ T Φ) fi ops j (n+1) Q a F (.co x k p d):=fun b e cs hb l=>by
 rw[List.range'_succ,eJ hb.round]
 refine ⟨i,ey.yG (c:=x.cy T) rfl rfl i fun w s φ e1 e2 m=>?_⟩
 obtain ⟨v,w',es,s',f,g,k1,q,r,t,u,y,z⟩:=h w s φ e1 e2 m
 have:=z b e cs hb l
 rw[eJ hb.round] at this
 exact ⟨_,w',es,s',f,g,k1 b e cs hb,q,r,t,u,.inr y,this.2⟩
theorem pq {k:Nat}{φ:Nat->Ph}{p a:P0}{s:Sh}(h:Inv x.n x.bs k φ p s){wg ws:Int}(hw:dH x.n φ a wg ws):Inv x.n x.bs k φ a {s with wg:=wg,ws:=ws}:=⟨h.m,hw,h.i⟩
theorem DZ (i:Entry T.P f (fun _=>do mark .disable;pure Extern.Race.none_)){vals:List Value}(l:At ops j a f vals dt)(m:p= .reg->k=x.n)(c:P0)(q:∀φ wg ws,dH x.n φ p wg ws->dH x.n φ c wg ws)
  (h:ai (ZJ T Φ) fi ops (j+1) n Q (bg a dt (.tuple #[])) F (.co x k c (d+1))):ai (ZJ T Φ) fi ops j (n+1) Q a F (.co x k p d):=by
 obtain ⟨o,cB,dj,e,hg,r,_,rfl⟩:=l
 obtain ⟨fn,f1,f2,f3,f4,f5⟩:=i.ex
 exact kT e m fun w s φ _ hs g=>⟨.tuple #[],w,_,s,c,d+1,fun b t cs hb=>stepG_mark0 .disable (by simp) e (cj hg) hb.kind r f1 f2 f3 f4 f5,hs,.refl _ _,pq g (q _ _ _ g.w),K5,dL,h⟩
theorem D1 (e:Entry T.P f (fun _=>do mark .enable;pure Extern.Race.none_)){vals:List Value}(g:At ops j a f vals dt)(i:p= .reg->k=x.n)
  (h:ai (ZJ T Φ) fi ops (j+1) n Q (bg a dt (.tuple #[])) F (.co x k p d)):ai (ZJ T Φ) fi ops j (n+1) Q a F (.co x k p (d+1)):=by
 obtain ⟨o,cB,dj,c,hg,l,_,rfl⟩:=g
 obtain ⟨fn,f1,f2,f3,f4,f5⟩:=e.ex
 exact kT c i fun w s φ _ hs m=>⟨.tuple #[],w,_,s,p,d,fun b q cs hb=>stepG_mark0 .enable (by simp) c (cj hg) hb.kind l f1 f2 f3 f4 f5,hs,.refl _ _,m,DX,dL,h⟩
theorem K9 (e:Entry T.P f (Extern.Race.marked .read))(g:At ops j a f [.pointer (some (smA x.Wg))] dt)(i:p= .reg->k=x.n)
  (h:ai (ZJ T Φ) fi ops (j+1) n Q (bg a dt (.tuple #[])) F (.co x k p d)):ai (ZJ T Φ) fi ops j (n+1) Q a F (.co x k p d):=by
 obtain ⟨o,cB,dj,c,hg,l,m,rfl⟩:=g
 obtain ⟨y,rfl,q⟩:=jY m
 obtain ⟨fn,f1,f2,f3,f4,f5⟩:=e.ex
 exact kT c i fun w s φ _ hs r=>⟨.tuple #[],w,_,s,p,d,fun b t cs hb=>stepG_markAt .read (by simp) c (cj hg) hb.kind l f1 f2 f3 f4 f5 (by simp[eG,q]),hs,.refl _ _,r,K6 (ad:=smA x.Wg) rfl,dL,h⟩
theorem La (e:Entry T.P f (Extern.Race.marked .write))(g:At ops j a f [.pointer (some (smA x.Wg))] dt)(i:p= .reg->k=x.n)
  (h:ai (ZJ T Φ) fi ops (j+1) n Q (bg a dt (.tuple #[])) F (.co x k p d)):ai (ZJ T Φ) fi ops j (n+1) Q a F (.co x k p d):=by
 obtain ⟨o,cB,dj,c,hg,l,m,rfl⟩:=g
 obtain ⟨y,rfl,q⟩:=jY m
 obtain ⟨fn,f1,f2,f3,f4,f5⟩:=e.ex
 exact kT c i fun w s φ _ hs r=>⟨.tuple #[],w,_,s,p,d,fun b t cs hb=>stepG_markAt .write (by simp) c (cj hg) hb.kind l f1 f2 f3 f4 f5 (by simp[eG,q]),hs,.refl _ _,r,K7 (ad:=smA x.Wg) rfl,dL,h⟩
theorem uV (ad:Addr){src dst t:TypeId}(hs:T.P.underlying src=some (.pointer t))(hd:T.P.underlying dst=some .unsafePointer)(c:(T.P.info? t).map (fun i=>decide (i.size=0))=some false){y:Operand}
  (l:nh ops j a (.convert src dst y) dt) (m:p= .reg->k=x.n) (q:ev a y= .pointer (some ad)) (r:∀w s,cA (x.cy T) w s->∃v,w.cell? ad=some v) (h:ai (ZJ T Φ) fi ops (j+1) n Q (bg a dt (.pointer (some ad))) F (.co x k p d)):ai (ZJ T Φ) fi ops j (n+1) Q a F (.co x k p d):=by
 obtain ⟨o,e,hg,u,rfl⟩:=l
 refine kT e m fun w s φ _ f z=>⟨_,w,#[],s,p,d,fun b C cs hb=>?_,f,.refl _ _,z,DW,dL,h⟩
 obtain ⟨v,g⟩:=r w s f
 have e1:execOp a.eval o=(do pure (.value (<-convert src dst (.pointer (some ad)))):Sem Next):=by
  unfold execOp
  simp only[u,eG,q]
 have A:(execOp a.eval o).run T.P w= .ok (.value (.pointer (some ad))) w:=by
  rw[e1];simp[run_convert_to_unsafe hs hd c g]
 have B:(execOp a.eval o).events T.P w #[]=#[]:=by
  rw[e1];simp[events_convert_to_unsafe hs hd c g]
 rw[stepG_value e (cj hg) hb.kind A]
 unfold listed
 rw[B,seen_none]
theorem Lb (i:Entry T.P f (Extern.Atomic.update (Op.intArith .add) .u64 true))(aD:x.Mu≠x.Wg/\x.Mu≠x.Is/\x.Wg≠x.Is)(A:x.n<67108864)(l:At ops j a f [.pointer (some (stA x.Wg)),.int .u64 4294967296] dt)
  (h:∀v:Nat,v<=x.n->ai (ZJ T Φ) fi ops (j+1) n Q (bg a dt (.int .u64 (((v+1:Nat):Int)*4294967296+((0:Nat):Int)))) F (.co x k (.opn 1) d)):ai (ZJ T Φ) fi ops j (n+1) Q a F (.co x k (.opn 0) d):=by
 obtain ⟨o,cB,dj,c,hg,m,p,rfl⟩:=l
 obtain ⟨y,z,rfl,q,r⟩:=rG p
 obtain ⟨fn,f1,f2,f3,f4,f5⟩:=i.ex
 refine kT c (fun e=>by cases e) fun w s φ _ hs g=>?_
 obtain ⟨v,e1,t,hw⟩:=JV g.w
 have e2:IntKind.u64.wrap (s.wg+4294967296)=((v+1:Nat):Int)*4294967296+((0:Nat):Int):=by
  rw[e1]
  unfold IntKind.wrap
  simp only[IntKind.bits,IntKind.signed,cX]
  simp
  omega
 have u:s.wg+cX=((v+1:Nat):Int)*4294967296+((0:Nat):Int):=by rw[e1];simp only[cX];omega
 rw[u] at hw
 exact ⟨_,_,_,{s with wg:=((v+1:Nat):Int)*4294967296+((0:Nat):Int)},.opn 1,d,fun b B cs hb=>by rw[<-e2];exact stepG_add_atomic c (cj hg) hb.kind m f1 f2 f3 f4 .u64 f5 q r hs.wg.1 hs.wg.2,by rw[<-e2];exact hs.uM aD _,.set _ (.inr (.inl rfl)),pq g hw,DY rfl,dL,h v t⟩
theorem Lc (i:Entry T.P f (Extern.Atomic.loadT (.int .u64)))(l:At ops j a f [.pointer (some (stA x.Wg))] dt){u:Nat}
  (h:∀v:Nat,v<=u->ai (ZJ T Φ) fi ops (j+1) n Q (bg a dt (.int .u64 ((v:Int)*4294967296+((0:Nat):Int)))) F (.co x k (if v=0 then .eY else .look v) d)):ai (ZJ T Φ) fi ops j (n+1) Q a F (.co x k (.look u) d):=by
 obtain ⟨o,cB,dj,c,hg,m,p,rfl⟩:=l
 obtain ⟨y,rfl,q⟩:=jY p
 obtain ⟨fn,f1,f2,f3,f4,f5⟩:=i.ex
 refine kT c (fun e=>by cases e) fun w s φ _ hs g=>?_
 obtain ⟨v,e1,r,hw⟩:=JY g.w
 have e2:s.wg=(v:Int)*4294967296+((0:Nat):Int):=by rw[e1];simp only[cX];omega
 exact ⟨_,_,_,s,_,d,fun b t cs hb=>by rw[<-e2];exact stepG_load_atomic c (cj hg) hb.kind m f1 f2 f3 f4 .u64 f5 q hs.wg.1,hs,.refl _ _,pq g hw,y5 false rfl,dL,h v r⟩
theorem Ld (i:Entry T.P f (Extern.Atomic.loadT (.int .u64)))(l:At ops j a f [.pointer (some (stA x.Wg))] dt)
  (h:ai (ZJ T Φ) fi ops (j+1) n Q (bg a dt (.int .u64 0)) F (.co x k .eY d)):ai (ZJ T Φ) fi ops j (n+1) Q a F (.co x k .eY d):=by
 obtain ⟨o,cB,dj,c,hg,m,p,rfl⟩:=l
 obtain ⟨y,rfl,q⟩:=jY p
 obtain ⟨fn,f1,f2,f3,f4,f5⟩:=i.ex
 refine kT c (fun e=>by cases e) fun w s φ _ hs g=>?_
 have e2:s.wg=0:=(De g.w).1
 exact ⟨_,_,_,s,_,d,fun b r cs hb=>by rw[<-e2];exact stepG_load_atomic c (cj hg) hb.kind m f1 f2 f3 f4 .u64 f5 q hs.wg.1,hs,.refl _ _,g,y5 false rfl,dL,h⟩
theorem Lf (q:Entry T.P f (Extern.Atomic.casT (.int .u64)))(aD:x.Mu≠x.Wg/\x.Mu≠x.Is/\x.Wg≠x.Is){v:Nat}(r:0<v)(G:k=x.n)(t:At ops j a f [.pointer (some (stA x.Wg)),.int .u64 ((v:Int)*4294967296+((0:Nat):Int)),.int .u64 ((v:Int)*4294967296+((0:Nat):Int)+1)] dt)
  (u:ai (ZJ T Φ) fi ops (j+1) n Q (bg a dt (.bool true)) F (.co x k .reg d)) (A:ai (ZJ T Φ) fi ops (j+1) n Q (bg a dt (.bool false)) F (.co x k (.look (v - 1)) d)):ai (ZJ T Φ) fi ops j (n+1) Q a F (.co x k (.look v) d):=by
 obtain ⟨o,cB,dj,g,hg,h,B,rfl⟩:=t
 obtain ⟨y,z,H,rfl,i,l,m⟩:=rH B
 obtain ⟨fn,f1,f2,f3,f4,f5⟩:=q.ex
 refine kT g (fun e=>by cases e) fun w s φ _ hs c=>?_
 by_cases e:s.wg=(v:Int)*4294967296+((0:Nat):Int)
 .have e1:s.wg=(v:Int)*cX:=by rw[e];simp only[cX];omega
  have hw:=c.w
  rw[e1] at hw
  have p:=JZ hw r
  have C:(v:Int)*cX+1=(v:Int)*4294967296+((0:Nat):Int)+1:=by simp only[cX];omega
  rw[C] at p
  exact ⟨.bool true,_,_,{s with wg:=(v:Int)*4294967296+((0:Nat):Int)+1},.reg,d,fun b D cs hb=>stepG_cas_hit g (cj hg) hb.kind h f1 f2 f3 f4 .u64 f5 i l m (by rw[<-e];exact hs.wg.1) hs.wg.2,hs.uM aD _,.set _ (.inr (.inl rfl)),pq c p,DY rfl,dL,u⟩
 .have e1:s.wg≠(v:Int)*cX:=fun E=>e (by rw[E];simp only[cX];omega)
  exact ⟨.bool false,_,_,s,.look (v - 1),d,fun b D cs hb=>stepG_cas_miss g (cj hg) hb.kind h f1 f2 f3 f4 .u64 f5 i l m hs.wg.1 hs.wg.2 e,hs,.refl _ _,pq c (J0 c.w e1).2,y5 false rfl,dL,A⟩
theorem Lg (q:Value)(r:Entry T.P f Extern.Sync.semacquire)(aD:x.Mu≠x.Wg/\x.Mu≠x.Is/\x.Wg≠x.Is)(g:k=x.n)(t:At ops j a f [.pointer (some (smA x.Wg)),q] dt)
  (h:ai (ZJ T Φ) fi ops (j+1) n Q (bg a dt (.tuple #[])) F (.co x k .eY d)):ai (ZJ T Φ) fi ops j (n+1) Q a F (.co x k .reg d):=fun b u cs hb v=>by
 obtain ⟨o,cB,dj,i,hg,l,A,rfl⟩:=t
 obtain ⟨y,z,rfl,m,_⟩:=rG A
 obtain ⟨fn,f1,f2,f3,f4,f5⟩:=r.ex
 rw[List.range'_succ,eJ hb.round]
 refine ⟨fun _=>g,ey.act (c:=x.cy T) rfl rfl (fun _=>⟨g,fun w s hs e=>?_⟩) fun w s φ e1 hs p B=>?_⟩
 .exact stepG_semacquire_wait i (cj hg) l f1 f2 f3 f4 f5 (ad:=smA x.Wg) (by simp[eG,m]) (by rw[hs.ws.1,e])
 .have e:=B rfl
  obtain ⟨C,D,hw⟩:=J1 p.w e
  have:=h b u cs hb v
  rw[eJ hb.round] at this
  exact ⟨_,_,_,{s with ws:=s.ws - 1},.eY,d,stepG_semacquire i (cj hg) hb.kind l f1 f2 f3 f4 f5 (by simp[eG,m]) hs.ws.1 e hs.ws.2,hs.DN aD _,.set _ (.inr (.inl rfl)),pq p hw,K8 rfl,.inr ⟨Int.le_refl _,by simp only;omega⟩,this.2⟩
theorem D2 (d:Entry T.P f (Extern.Race.marked .acquire))(e:k=x.n)(g:At ops j a f [.pointer (some (stA x.Wg))] dt)
  (h:ai (ZJ T Φ) fi ops (j+1) n Q (bg a dt (.tuple #[])) ⟨F.ro,(x.Is,(x.cy T).fin)::F.own⟩ .free):ai (ZJ T Φ) fi ops j (n+1) Q a F (.co x k .eY 0):=fun b i cs hb l=>by
 obtain ⟨o,cB,dj,m,hg,p,q,rfl⟩:=g
 obtain ⟨y,rfl,r⟩:=jY q
 obtain ⟨fn,f1,f2,f3,f4,f5⟩:=d.ex
 rw[List.range'_succ,eJ hb.round]
 subst e
 have:=h b i cs hb l
 rw[eJ hb.round] at this
 exact ⟨fun _=>rfl,ey.join (c:=x.cy T) rfl rfl fun w hw=>⟨_,stepG_markAt .acquire (by simp) m (cj hg) hb.kind p f1 f2 f3 f4 f5 (by simp[eG,r]),rfl,this⟩⟩
theorem Lh (i:k<x.n){d:Deferred}{fv:Operand}{g:Fn}{caps:Array Value}(l:ops[j]?=some o)(hg:cC ops o a=some true)(f:∀w,(execOp a.eval o).run T.P w= .ok (.spawn d) w/\(execOp a.eval o).events T.P w #[]=#[])(hd:d.target= .fn g caps)
  (hW:Wk (x.cy T) k ⟨.idle,.cnt,false,0⟩ (born T.P d) ⟨F.ro,[]⟩) (h:ai (ZJ T Φ) fi ops (j+1) n Q (bg a o.dst undef) F (.co x (k+1) (.opn 0) 0)):ai (ZJ T Φ) fi ops j (n+1) Q a F (.co x k (.opn 1) 0):=fun b m cs hb p=>by
 rw[List.range'_succ,eJ hb.round]
 have:=h b m cs hb p
 rw[eJ hb.round] at this
 refine ⟨fun e=>(by cases e),ey.spawn (c:=x.cy T) rfl rfl i fun w hw=>⟨_,_,?_,hW,rfl,rfl,this.2⟩⟩
 rw[stepG_spawn l (cj hg) hb.kind (f w).1 hd]
 unfold listed
 rw[(f w).2,seen_none]
 rfl
end
section
variable {T : PT} {Φ : Goroutine → aa → Prop} {fi f : FuncId}
theorem Li {cd:Code}{Q:Ex->Act->aa->Z->Prop}{a:Act}{F:aa}(c:aa)(Mu Wg Is n:Nat)(bs:Nat->Bool)
  (hle:Le ⟨c.ro,(Mu,muBlock T.tM 0 0)::(Wg,wgBlock T.tW 0 0)::(Is,.cells (List.replicate n (Value.bool false)).toArray T.tI)::c.own⟩ F)
  (h:∀base B0 T0,0<base->(Mu≠Wg/\Mu≠Is/\Wg≠Is)->cM (ZJ T Φ) fi cd Q a c (.co ⟨Mu,Wg,Is,n,bs,base,T0,B0⟩ 0 (.opn 0) 0)):cM (ZJ T Φ) fi cd Q a F .free:=fun b k cs hb d=>
 iS.found bs rfl rfl hle fun base B0 T0 e aD=>(h base B0 T0 e aD b k cs hb d).2
theorem Lj (l:Entry T.P f (fun _=>do mark .enable;pure Extern.Race.none_)){x:X}{k d:Nat}{p:P0}{F:aa}(e:p= .reg->k=x.n){b:Frame}{a:Act}{todo:List Item}{cs:List Frame}{i:List Deferred}(m:a.defers=dcall f #[]::i)
  (h:ZJ T Φ (.co x k p d) (G {b.at ⟨a.tmps,i⟩ todo with mode:=.returning} cs) F):ZJ T Φ (.co x k p (d+1)) (G {b.at a todo with mode:=.returning} cs) F:=by
 obtain ⟨fn,f1,f2,f3,f4,f5⟩:=l.ex
 refine ⟨e,ey.yG (c:=x.cy T) rfl rfl e fun w s φ e1 hs o=>⟨_,w,#[cI .enable],s,p,d,?_,hs,.refl _ _,o,DX,.inr dL,h.2⟩⟩
 exact stepG_unwind_entry (v:=.tuple #[]) m f1 f2 f3 f4 f5 (by simp[Extern.Race.none_]) (by simp[cI]) (by
  intro y j
  simp[cI] at j
  subst j
  exact ⟨rfl,fun g h=>by cases h⟩)
def y6 (f:FuncId)(R:Value->aa->Z->Prop):Ex->Act->aa->Z->Prop
 | .exit _,_,_,_=>False
 |_,a,F,z=>a.defers=[dcall f #[]]/\∃x k p d,(p= .reg->k=x.n)/\z= .co x k p (d+1)/\R (.tuple #[]) F (.co x k p d)
theorem cG.Ll {f0:FuncId}(r:Entry T.P f (fun _=>do mark .enable;pure Extern.Race.none_)){fn:Func}{cd:Code}{n:Nat}{args:Array Value}{R:Value->aa->Z->Prop}{F:aa}{z:Z}(m:T.P.funcs[f0]?=some fn)(hb:fn.body=some cd)(o:fn.results=#[])(q:fn.ntmps=n)(C:args.size<=n)
  (h:∀A:Act,sz A=n->A.defers=[]->(∀i,slot A i=args.getD i undef)->cM (ZJ T Φ) f0 cd (y6 f R) A F z):cG T.P (ZJ T Φ) f0 args F z R:=by
 intro g cs s
 let b:Frame:={(default:Frame) with fn:=f0,kind:=.normal}
 have t:b.roundOf=none:=rfl
 have u:Frame.enter T.P f0 args .normal=on b {tmps:=args++Array.replicate (fn.ntmps - args.size) undef,defers:=[]} [.code cd]:=by
  simp[Frame.enter,on,m,hb,b]
  rfl
 rw[u]
 have j:=ZJ.ez T Φ
 have leave:∀(c:Act) (todo:List Item) F' (a:Z),(c.defers=[dcall f #[]]/\∃x k p d,(p= .reg->k=x.n)/\a= .co x k p (d+1)/\R (.tuple #[]) F' (.co x k p d))->ZJ T Φ a (G {on b c todo with mode:=.returning} (g::cs)) F':=by
  intro c todo F' a ⟨hd,x,k,p,d,v,y,B⟩
  subst y
  rw[eJ t]
  refine Lj r v hd ((j _).move (fr':=g.finish (.tuple #[])) (cs':=cs) (fun w=>?_) (s _ F' _ B))
  exact stepG_leave rfl rfl m (results_none o _ T.P w) (events_results_none o _ _)
 refine h _ (by simp[sz,q];omega) rfl (fun i=>?_) b [] (g::cs) ⟨by simp[b],rfl,rfl⟩ fun e c F' a l=>?_
 .simp only[slot,q,Array.getD_eq_getD_getElem?]
  rcases Nat.lt_or_ge i args.size with hi|hi
  .rw[Array.getElem?_append_left hi]
  .rw[Array.getElem?_append_right hi,Array.getElem?_replicate,Array.getElem?_eq_none hi]
   split<;>rfl
 .cases e with
  |normal=>exact (j a).move (fun _=>lZ rfl) (leave c _ F' a l)
  |exit i=>exact l.elim
  |ret=>exact fun D=>(j a).move (fun _=>stepG_ret' rfl) (leave c _ F' a l)
theorem fO.Lm {args:Array Value}{ro:Addr->Option Value}{R:Value->aa->Prop}(h:∀Φ,cG T.P (ZJ T Φ) f args ⟨ro,[]⟩ .free (fun v F' z=>z= .free/\R v F')):fO T.P f args ⟨ro,[]⟩ R:=
 fO.Kl fun Φ c cs a=>h Φ c cs fun v F' z ⟨b,d⟩=>by subst b;exact a v F' d
end
end Go.Sep
end
section
namespace Go.Proofs.YtghbphimkgamkaaGreatDoor
open Go Go.Sep Go.Proofs Go.Conc
open Go.ConcN (upd upd_same)
open Go.ConcM (muA msA)
open Go.ConcR (stA smA)
set_option maxRecDepth 100000
set_option maxHeartbeats 4000000
attribute [local go_sem] Int.reduceBEq Int.reduceBNe muA msA stA smA
noncomputable abbrev TT:PT:=⟨Tryz.prog,189,196,4⟩
theorem Ln {f:FuncId}{R:Value->aa->Z->Prop}{a:Act}{F:aa}{x:X}{k d:Nat}{p:P0}(hd:a.defers=[dcall f #[]])(b:p= .reg->k=x.n)(c:R (.tuple #[]) F (.co x k p d)):y6 f R .ret a F (.co x k p (d+1)):=⟨hd,x,k,p,d,b,rfl,c⟩
section
variable {Φ : Goroutine → aa → Prop} {x : X} {F : aa} {k : Nat}
theorem D3 (w:World)(s:Sh)(h:cA (x.cy TT) w s):∃v,w.cell? ⟨x.Wg,0,none⟩=some v:=⟨_,h.wg.1⟩
theorem D4 (w:World)(s:Sh)(h:cA (x.cy TT) w s):∃v,w.cell? ⟨x.Wg,1,none⟩=some v:=⟨_,h.ws.1⟩
theorem Lo (aD:x.Mu≠x.Wg/\x.Mu≠x.Is/\x.Wg≠x.Is)(c:x.n<67108864):
  cG Tryz.prog (ZJ TT Φ) 173 #[.pointer (some (stA x.Wg)),.int .u64 4294967296] F (.co x k (.opn 0) 1)
   (fun r F' d=>F'=F/\∃v:Nat,v<=x.n/\r= .int .u64 (((v+1:Nat):Int)*4294967296+((0:Nat):Int))/\d= .co x k (.opn 1) 1):=by
 have a:=ZJ.ez TT Φ
 have hJ:True:=trivial
 refine cG.go (main:=true) a Tryz.func173 rfl Tryz.ntmps173 (by simp) fun A f hd hs=>?_
 have g:=hs 0
 have k1:=hs 1
 clear hs
 repeat apply aB (a _)
 refine bh a fun K b=>?_
 refine ai.pure (a _) 1 (n:=0) _ rfl rfl ?_;simp only[*,go_sem,-b,-a]
 refine ai.nil a (b _ _ _ ?_);clear b K
 repeat apply aB (a _)
 refine bh a fun K b=>?_
 refine ai.pure (a _) 4 (n:=2) _ rfl rfl ?_;simp only[*,go_sem,-b,-a]
 refine Lb DF aD c ⟨_,_,_,rfl,(by first|(simp only[*,go_sem,-b,-a,-hJ];done)|rfl),rfl,by first|(simp only[*,go_sem,-b,-a,-hJ];done)|(simp only[*,go_sem,-b,-a,-hJ];rfl),rfl⟩ fun v e=>?_
 refine ai.pure (a _) 1 (n:=0) _ rfl rfl ?_;simp only[*,go_sem,-b,-a]
 refine ai.nil a (b _ _ _ ?_);clear b K
 exact fF (lR rfl (by simp only[*,go_sem,-a,-hJ]) (by simp only[*,go_sem,-a,-hJ]) ⟨rfl,v,e,rfl,rfl⟩).2
theorem Lp {u:Nat}:
  cG Tryz.prog (ZJ TT Φ) 175 #[.pointer (some (stA x.Wg))] F (.co x k (.look u) 1)
   (fun r F' c=>F'=F/\∃v:Nat,v<=u/\r= .int .u64 ((v:Int)*4294967296+((0:Nat):Int))/\c= .co x k (if v=0 then .eY else .look v) 1):=by
 have a:=ZJ.ez TT Φ
 have hJ:True:=trivial
 refine cG.go (main:=true) a Tryz.func175 rfl Tryz.ntmps175 (by simp) fun A e hd hs=>?_
 have f:=hs 0
 clear hs
 repeat apply aB (a _)
 refine bh a fun K b=>?_
 refine ai.pure (a _) 1 (n:=0) _ rfl rfl ?_;simp only[*,go_sem,-b,-a]
 refine ai.nil a (b _ _ _ ?_);clear b K
 repeat apply aB (a _)
 refine bh a fun K b=>?_
 refine ai.pure (a _) 3 (n:=2) _ rfl rfl ?_;simp only[*,go_sem,-b,-a]
 refine Lc yL ⟨_,_,_,rfl,(by first|(simp only[*,go_sem,-b,-a,-hJ];done)|rfl),rfl,by first|(simp only[*,go_sem,-b,-a,-hJ];done)|(simp only[*,go_sem,-b,-a,-hJ];rfl),rfl⟩ fun v d=>?_
 refine ai.pure (a _) 1 (n:=0) _ rfl rfl ?_;simp only[*,go_sem,-b,-a]
 refine ai.nil a (b _ _ _ ?_);clear b K
 exact fF (lR rfl (by simp only[*,go_sem,-a,-hJ]) (by simp only[*,go_sem,-a,-hJ]) ⟨rfl,v,d,rfl,rfl⟩).2
theorem Lq:
  cG Tryz.prog (ZJ TT Φ) 175 #[.pointer (some (stA x.Wg))] F (.co x k .eY 1)
   (fun r F' c=>F'=F/\r= .int .u64 0/\c= .co x k .eY 1):=by
 have a:=ZJ.ez TT Φ
 have hJ:True:=trivial
 refine cG.go (main:=true) a Tryz.func175 rfl Tryz.ntmps175 (by simp) fun A d hd hs=>?_
 have e:=hs 0
 clear hs
 repeat apply aB (a _)
 refine bh a fun K b=>?_
 refine ai.pure (a _) 1 (n:=0) _ rfl rfl ?_;simp only[*,go_sem,-b,-a]
 refine ai.nil a (b _ _ _ ?_);clear b K
 repeat apply aB (a _)
 refine bh a fun K b=>?_
 refine ai.pure (a _) 3 (n:=2) _ rfl rfl ?_;simp only[*,go_sem,-b,-a]
 refine Ld yL ⟨_,_,_,rfl,(by first|(simp only[*,go_sem,-b,-a,-hJ];done)|rfl),rfl,by first|(simp only[*,go_sem,-b,-a,-hJ];done)|(simp only[*,go_sem,-b,-a,-hJ];rfl),rfl⟩ ?_
 refine ai.pure (a _) 1 (n:=0) _ rfl rfl ?_;simp only[*,go_sem,-b,-a]
 refine ai.nil a (b _ _ _ ?_);clear b K
 exact fF (lR rfl (by simp only[*,go_sem,-a,-hJ]) (by simp only[*,go_sem,-a,-hJ]) ⟨rfl,rfl,rfl⟩).2
theorem Lr (aD:x.Mu≠x.Wg/\x.Mu≠x.Is/\x.Wg≠x.Is){v:Nat}(d:0<v):
  cG Tryz.prog (ZJ TT Φ) 184 #[.pointer (some (stA x.Wg)),.int .u64 ((v:Int)*4294967296+((0:Nat):Int)),.int .u64 ((v:Int)*4294967296+((0:Nat):Int)+1)] F (.co x x.n (.look v) 1)
   (fun r F' c=>F'=F/\((r= .bool true/\c= .co x x.n .reg 1)\/(r= .bool false/\c= .co x x.n (.look (v - 1)) 1))):=by
 have a:=ZJ.ez TT Φ
 have hJ:True:=trivial
 refine cG.go (main:=true) a Tryz.func184 rfl Tryz.ntmps184 (by simp) fun A e hd hs=>?_
 have f:=hs 0
 have k1:=hs 1
 have g:=hs 2
 clear hs
 repeat apply aB (a _)
 refine bh a fun K b=>?_
 refine ai.pure (a _) 1 (n:=0) _ rfl rfl ?_;simp only[*,go_sem,-b,-a]
 refine ai.nil a (b _ _ _ ?_);clear b K
 repeat apply aB (a _)
 refine bh a fun K b=>?_
 refine ai.pure (a _) 5 (n:=2) _ rfl rfl ?_;simp only[*,go_sem,-b,-a]
 refine Lf Kp aD d rfl ⟨_,_,_,rfl,(by first|(simp only[*,go_sem,-b,-a,-hJ];done)|rfl),rfl,by first|(simp only[*,go_sem,-b,-a,-hJ];done)|(simp only[*,go_sem,-b,-a,-hJ];rfl),rfl⟩ ?_ ?_
 .refine ai.pure (a _) 1 (n:=0) _ rfl rfl ?_;simp only[*,go_sem,-b,-a]
  refine ai.nil a (b _ _ _ ?_);clear b K
  exact fF (lR rfl (by simp only[*,go_sem,-a,-hJ]) (by simp only[*,go_sem,-a,-hJ]) ⟨rfl,.inl ⟨rfl,rfl⟩⟩).2
 .refine ai.pure (a _) 1 (n:=0) _ rfl rfl ?_;simp only[*,go_sem,-b,-a]
  refine ai.nil a (b _ _ _ ?_);clear b K
  exact fF (lR rfl (by simp only[*,go_sem,-a,-hJ]) (by simp only[*,go_sem,-a,-hJ]) ⟨rfl,.inr ⟨rfl,rfl⟩⟩).2
end
attribute [local go_sem] Int.reduceBEq Int.reduceBNe muA msA stA smA
def Ls (Wg:Nat)(F:aa)(z:Z)(v:Int)(a:Act)(F':aa)(b:Z):Prop:=
 F'=F/\slot a 1= .int .i64 1/\slot a 7= .int .i32 v/\slot a 8= .int .u32 0/\sz a=117/\a.defers=[dcall 168 #[]]/\b=z
section
variable {Φ : Goroutine → aa → Prop} {x : X} {F : aa} {k : Nat}
theorem Lt (aD:x.Mu≠x.Wg/\x.Mu≠x.Is/\x.Wg≠x.Is)(o:x.n<67108864):
  cG Tryz.prog (ZJ TT Φ) 141 #[.pointer (some (stA x.Wg)),.int .i64 1] F (.co x k (.opn 0) 0)
   (fun r F' g=>r= .tuple #[]/\F'=F/\g= .co x k (.opn 1) 0):=by
 have a:=ZJ.ez TT Φ
 have hJ:True:=trivial
 refine cG.Ll lS Tryz.func141 rfl rfl Tryz.ntmps141 (by simp) fun A i hd hs=>?_
 have p:=hs 0
 have k1:=hs 1
 clear hs
 have c1:decide ((1:Int)<0)=false:=by decide
 have c2:decide ((1:Int)>0)=true:=by decide
 repeat apply aB (a _)
 refine cZ (a _) (by simp only[*,go_sem,-a,-hJ]) ?_
 repeat apply aB (a _)
 refine bh a fun K b=>?_
 refine ai.pure (a _) 2 (n:=0) _ rfl rfl ?_;simp only[*,go_sem,-b,-a]
 refine ai.nil a (b _ _ _ ?_);clear b K
 repeat apply aB (a _)
 refine cD (a _) (by simp only[*,go_sem,-a,-hJ]) ?_
 apply cH (a _)
 repeat apply aB (a _)
 refine bh a fun K b=>?_
 refine DZ rF ⟨_,_,_,rfl,(by first|(simp only[*,go_sem,-b,-a,-hJ];done)|rfl),rfl,by first|(simp only[*,go_sem,-b,-a,-hJ];done)|(simp only[*,go_sem,-b,-a,-hJ];rfl),rfl⟩ (fun e=>by cases e) (.opn 0) (fun _ _ _ h=>h) ?_
 refine ai.nil a (b _ _ _ ?_);clear b K
 repeat apply aB (a _)
 refine bh a fun K b=>?_
 refine ai.defer (a _) rfl (by first|(simp only[*,go_sem,-b,-a,-hJ];done)|rfl) rfl rfl (by simp;rfl) fun d e1 e2 j=>?_
 have l0:slot d 0= .pointer (some ⟨x.Wg,0,none⟩):=(e1 0).trans (by simp only[*,go_sem,-a,-hJ])
 have l:slot d 1= .int .i64 1:=(e1 1).trans (by simp only[*,go_sem,-a,-hJ])
 replace i:sz d=117:=e2.trans (by simp only[*,go_sem,-a,-hJ])
 replace hd:d.defers=[dcall 168 #[]]:=j.trans (by simp only[*,go_sem,-a,-hJ])
 clear e1 e2 j p k1
 refine ai.nil a (b _ _ _ ?_);clear b K
 repeat apply aB (a _)
 refine bh a fun K b=>?_
 refine ai.pure (a _) 1 (n:=0) _ rfl rfl ?_;simp only[*,go_sem,-b,-a]
 refine ai.nil a (b _ _ _ ?_);clear b K
 repeat apply aB (a _)
 refine bh a fun K b=>?_
 refine ai.entry (.bool false) (a _) DG ⟨_,_,_,rfl,(by first|(simp only[*,go_sem,-b,-a,-hJ];done)|rfl),rfl,by first|(simp only[*,go_sem,-b,-a,-hJ];done)|(simp only[*,go_sem,-b,-a,-hJ];rfl),rfl⟩ ?_
 refine ai.nil a (b _ _ _ ?_);clear b K
 repeat apply aB (a _)
 refine cD (a _) (by simp only[*,go_sem,-a,-hJ]) ?_
 apply cH (a _)
 have w1:IntKind.u64.wrap 1=1:=by decide
 have w2:IntKind.u64.wrap (1*2 ^ min 32 64)=4294967296:=by decide
 repeat apply aB (a _)
 refine bh a fun K b=>?_
 refine ai.pure (a _) 6 (n:=2) _ rfl rfl ?_;simp only[*,go_sem,-b,-a]
 refine ai.gj (a _) rfl (by first|(simp only[*,go_sem,-b,-a,-hJ];done)|rfl) rfl AH (by simp only[*,go_sem,-b,-a,-hJ]) (Lo aD o) fun r F' aL q=>?_
 obtain ⟨rfl,v,s,rfl,rfl⟩:=q
 obtain ⟨y,c⟩:∃y:Int,y=((v+1:Nat):Int)*4294967296+((0:Nat):Int):=⟨_,rfl⟩
 rw[<-c]
 have a1:iD y 2147483648=0:=by show kS y 2147483648=0;rw[c];exact y2 (v+1) 0 (by omega) (by omega)
 have a2:iD y 2147483647=0:=by show kS y 2147483647=0;rw[c];exact y3 (v+1) 0 (by omega) (by omega)
 obtain ⟨V,m⟩:∃V:Int,V=((v+1:Nat):Int):=⟨_,rfl⟩
 have a3:y.fdiv (2 ^ min 32 64)=V:=by rw[c,m];exact y4 (v+1) 0 (by omega)
 have a4:IntKind.i32.wrap V=V:=iP (by omega) (by omega)
 have a5:IntKind.u32.wrap 0=0:=by decide
 have w:IntKind.i32.wrap 1=1:=by decide
 have c3:decide (V<0)=false:=by simp;omega
 have c4:decide (V>0)=true:=by simp;omega
 have f:(V==1)=true\/(V==1)=false:=by cases (V==1)<;>simp
 clear c m s
 refine ai.pure (a _) 1 (n:=0) _ rfl rfl ?_;simp only[*,go_sem,-b,-a]
 refine ai.nil a (b _ _ _ ?_);clear b K
 repeat apply aB (a _)
 refine bh a fun K b=>?_
 refine ai.pure (a _) 7 (n:=0) _ rfl rfl ?_;simp only[*,go_sem,-b,-a]
 refine ai.nil a (b _ _ _ ?_);clear b K
 repeat apply aB (a _)
 refine cD (a _) (by simp only[*,go_sem,-a,-hJ]) ?_
 apply cH (a _)
 repeat apply aB (a _)
 refine bh a fun K b=>?_
 refine ai.pure (a _) 4 (n:=0) _ rfl rfl ?_;simp only[*,go_sem,-b,-a]
 refine ai.nil a (b _ _ _ ?_);clear b K
 repeat apply aB (a _)
 refine bh a fun K b=>?_
 refine ai.pure (a _) 4 (n:=0) _ rfl rfl ?_;simp only[*,go_sem,-b,-a]
 refine ai.nil a (b _ _ _ ?_);clear b K
 repeat apply aB (a _)
 refine bh a fun K b=>?_
 refine ai.pure (a _) 10 (n:=0) _ rfl rfl ?_;simp only[*,go_sem,-b,-a]
 refine ai.nil a (b _ _ _ ?_);clear b K
 repeat apply aB (a _)
 refine uR a (Ls x.Wg F' (.co x k (.opn 1) 1) V) ?_ ?_
 .rcases f with f|f
  .repeat apply aB (a _)
   refine cZ (a _) (by simp only[*,go_sem,-a,-hJ]) ?_
   repeat apply aB (a _)
   refine bh a fun K b=>?_
   refine ai.pure (a _) 3 (n:=2) _ rfl rfl ?_;simp only[*,go_sem,-b,-a]
   refine uV ⟨x.Wg,1,none⟩ DH lT DI ⟨_,rfl,(by first|(simp only[*,go_sem,-b,-a,-hJ];done)|rfl),rfl,rfl⟩ (fun e=>by cases e) (by simp only[*,go_sem,-b,-a,-hJ]) D4 ?_
   refine K9 Kr ⟨_,_,_,rfl,(by first|(simp only[*,go_sem,-b,-a,-hJ];done)|rfl),rfl,by first|(simp only[*,go_sem,-b,-a,-hJ];done)|(simp only[*,go_sem,-b,-a,-hJ];rfl),rfl⟩ (fun e=>by cases e) ?_
   refine ai.nil a (b _ _ _ ?_);clear b K
   exact eE ⟨rfl,(by simp only[*,go_sem,-a,-hJ]),(by simp only[*,go_sem,-a,-hJ]),(by simp only[*,go_sem,-a,-hJ]),(by simp only[*,go_sem,-a,-hJ]),(by simp only[*,go_sem,-a,-hJ]),rfl⟩
  .repeat apply aB (a _)
   refine cD (a _) (by simp only[*,go_sem,-a,-hJ]) ?_
   apply cH (a _)
   exact eE ⟨rfl,(by simp only[*,go_sem,-a,-hJ]),(by simp only[*,go_sem,-a,-hJ]),(by simp only[*,go_sem,-a,-hJ]),(by simp only[*,go_sem,-a,-hJ]),(by simp only[*,go_sem,-a,-hJ]),rfl⟩
 clear f l0 l i hd a1 a2 a3
 rintro A t z ⟨rfl,l,B,C,i,hd,rfl⟩
 repeat apply aB (a _)
 refine bh a fun K b=>?_
 refine ai.pure (a _) 2 (n:=0) _ rfl rfl ?_;simp only[*,go_sem,-b,-a]
 refine ai.nil a (b _ _ _ ?_);clear b K
 repeat apply aB (a _)
 refine cD (a _) (by simp only[*,go_sem,-a,-hJ]) ?_
 apply cH (a _)
 repeat apply aB (a _)
 refine bh a fun K b=>?_
 refine ai.pure (a _) 12 (n:=0) _ rfl rfl ?_;simp only[*,go_sem,-b,-a]
 refine ai.nil a (b _ _ _ ?_);clear b K
 repeat apply aB (a _)
 refine cD (a _) (by simp only[*,go_sem,-a,-hJ]) ?_
 apply cH (a _)
 repeat apply aB (a _)
 refine bh a fun K b=>?_
 refine ai.pure (a _) 6 (n:=0) _ rfl rfl ?_;simp only[*,go_sem,-b,-a]
 refine ai.nil a (b _ _ _ ?_);clear b K
 repeat apply aB (a _)
 refine cZ (a _) (by simp only[*,go_sem,-a,-hJ]) ?_
 exact fF (show y6 168 (fun r u g=>r= .tuple #[]/\u=t/\g= .co x k (.opn 1) 0) .ret _ _ _ from Ln (by simp only[*,go_sem,-a,-hJ]) (fun e=>by cases e) ⟨rfl,rfl,rfl⟩)
end
attribute [local go_sem] Int.reduceBEq Int.reduceBNe muA msA stA smA
def D5 (x:X)(F:aa)(m:Nat)(a:Act)(F':aa)(z:Z):Prop:=
 ∃u:Nat,u<=m/\u<=x.n/\F'=F/\slot a 0= .pointer (some ⟨x.Wg,0,none⟩)/\sz a=84/\a.defers=[]/\z= .co x x.n (.look u) 1
section
variable {Φ : Goroutine → aa → Prop} {x : X} {F : aa} {k : Nat}
theorem Lu (aD:x.Mu≠x.Wg/\x.Mu≠x.Is/\x.Wg≠x.Is)(z:x.n<67108864):
  cG Tryz.prog (ZJ TT Φ) 148 #[.pointer (some (stA x.Wg))] F (.co x x.n (.opn 0) 0)
   (fun r F' d=>r= .tuple #[]/\F'=⟨F.ro,(x.Is,(x.cy TT).fin)::F.own⟩/\d= .free):=by
 have a:=ZJ.ez TT Φ
 have hJ:True:=trivial
 refine cG.go (main:=true) a Tryz.func148 rfl Tryz.ntmps148 (by simp) fun A o hd hs=>?_
 have p:=hs 0
 clear hs
 repeat apply aB (a _)
 refine cZ (a _) (by simp only[*,go_sem,-a,-hJ]) ?_
 repeat apply aB (a _)
 refine bh a fun K b=>?_
 refine DZ rF ⟨_,_,_,rfl,(by first|(simp only[*,go_sem,-b,-a,-hJ];done)|rfl),rfl,by first|(simp only[*,go_sem,-b,-a,-hJ];done)|(simp only[*,go_sem,-b,-a,-hJ];rfl),rfl⟩ (fun e=>by cases e) (.look x.n) (fun _ _ _ h=>JX h) ?_
 refine ai.nil a (b _ _ _ ?_);clear b K
 repeat apply aB (a _)
 refine jW a ?_
 refine rE a (D5 x F) x.n ?_ ?_
 .exact ⟨x.n,Nat.le_refl _,Nat.le_refl _,rfl,(by simp only[*,go_sem,-a,-hJ]),(by simp only[*,go_sem,-a,-hJ]),(by simp only[*,go_sem,-a,-hJ]),rfl⟩
 .clear o hd p
  rintro m A F' d ⟨u,B,C,rfl,p,o,hd,rfl⟩
  repeat apply aB (a _)
  refine jW a ?_
  repeat apply aB (a _)
  refine bh a fun K b=>?_
  refine ai.pure (a _) 3 (n:=2) _ rfl rfl ?_;simp only[*,go_sem,-b,-a]
  refine ai.gj (a _) rfl (by first|(simp only[*,go_sem,-b,-a,-hJ];done)|rfl) rfl vX (by simp only[*,go_sem,-b,-a,-hJ]) Lp fun r k D f=>?_
  obtain ⟨rfl,v,t,rfl,rfl⟩:=f
  obtain ⟨y,c⟩:∃y:Int,y=(v:Int)*4294967296+((0:Nat):Int):=⟨_,rfl⟩
  rw[<-c]
  have a1:iD y 2147483648=0:=by show kS y 2147483648=0;rw[c];exact y2 v 0 (by omega) (by omega)
  have a2:iD y 2147483647=0:=by show kS y 2147483647=0;rw[c];exact y3 v 0 (by omega) (by omega)
  obtain ⟨V,i⟩:∃V:Int,V=(v:Int):=⟨_,rfl⟩
  have a3:y.fdiv (2 ^ min 32 64)=V:=by rw[c,i];exact y4 v 0 (by omega)
  have a4:IntKind.i32.wrap V=V:=iP (by omega) (by omega)
  have a5:IntKind.u32.wrap 0=0:=by decide
  have E:IntKind.u64.wrap (y+1)=y+1:=by
   unfold IntKind.wrap
   simp only[IntKind.bits,IntKind.signed]
   simp
   omega
  by_cases j:v=0
  ·
   have c1:(V==0)=true:=by rw[i,j];rfl
   have g:(if v=0 then P0.eY else .look v)= .eY:=if_pos j
   rw[g]
   clear g c i t j
   refine ai.pure (a _) 1 (n:=0) _ rfl rfl ?_;simp only[*,go_sem,-b,-a]
   refine ai.nil a (b _ _ _ ?_);clear b K
   repeat apply aB (a _)
   refine bh a fun K b=>?_
   refine ai.pure (a _) 4 (n:=0) _ rfl rfl ?_;simp only[*,go_sem,-b,-a]
   refine ai.nil a (b _ _ _ ?_);clear b K
   repeat apply aB (a _)
   refine bh a fun K b=>?_
   refine ai.pure (a _) 4 (n:=0) _ rfl rfl ?_;simp only[*,go_sem,-b,-a]
   refine ai.nil a (b _ _ _ ?_);clear b K
   repeat apply aB (a _)
   refine bh a fun K b=>?_
   refine ai.pure (a _) 2 (n:=0) _ rfl rfl ?_;simp only[*,go_sem,-b,-a]
   refine ai.nil a (b _ _ _ ?_);clear b K
   repeat apply aB (a _)
   refine cZ (a _) (by simp only[*,go_sem,-a,-hJ]) ?_
   repeat apply aB (a _)
   refine cZ (a _) (by simp only[*,go_sem,-a,-hJ]) ?_
   repeat apply aB (a _)
   refine bh a fun K b=>?_
   refine D1 lS ⟨_,_,_,rfl,(by first|(simp only[*,go_sem,-b,-a,-hJ];done)|rfl),rfl,by first|(simp only[*,go_sem,-b,-a,-hJ];done)|(simp only[*,go_sem,-b,-a,-hJ];rfl),rfl⟩ (fun e=>by cases e) ?_
   refine ai.nil a (b _ _ _ ?_);clear b K
   repeat apply aB (a _)
   refine bh a fun K b=>?_
   refine ai.pure (a _) 1 (n:=2) _ rfl rfl ?_;simp only[*,go_sem,-b,-a]
   refine uV ⟨x.Wg,0,none⟩ yN lT yP ⟨_,rfl,(by first|(simp only[*,go_sem,-b,-a,-hJ];done)|rfl),rfl,rfl⟩ (fun e=>by cases e) (by simp only[*,go_sem,-b,-a,-hJ]) D3 ?_
   refine D2 uJ rfl ⟨_,_,_,rfl,(by first|(simp only[*,go_sem,-b,-a,-hJ];done)|rfl),rfl,by first|(simp only[*,go_sem,-b,-a,-hJ];done)|(simp only[*,go_sem,-b,-a,-hJ];rfl),rfl⟩ ?_
   refine ai.nil a (b _ _ _ ?_);clear b K
   repeat apply aB (a _)
   refine bh a fun K b=>?_
   refine ai.pure (a _) 11 (n:=0) _ rfl rfl ?_;simp only[*,go_sem,-b,-a]
   refine ai.nil a (b _ _ _ ?_);clear b K
   repeat apply aB (a _)
   refine cD (a _) (by simp only[*,go_sem,-a,-hJ]) ?_
   apply cH (a _)
   exact fF (show jX Tryz.prog Tryz.f148 (fun (r:Value) (F':aa) (d:Z)=>r= .tuple #[]/\F'=⟨k.ro,(x.Is,(x.cy TT).fin)::k.own⟩/\d=Z.free) .ret _ _ _ from o8 rfl (by simp only[*,go_sem,-a,-hJ]) ⟨rfl,rfl,rfl⟩)
  .have c1:(V==0)=false:=by simp;omega
   have g:(if v=0 then P0.eY else .look v)= .look v:=if_neg j
   rw[g]
   have l:=Lr (Φ:=Φ) (F:=k) aD (v:=v) (by omega)
   rw[<-c] at l
   clear g c i
   refine ai.pure (a _) 1 (n:=0) _ rfl rfl ?_;simp only[*,go_sem,-b,-a]
   refine ai.nil a (b _ _ _ ?_);clear b K
   repeat apply aB (a _)
   refine bh a fun K b=>?_
   refine ai.pure (a _) 4 (n:=0) _ rfl rfl ?_;simp only[*,go_sem,-b,-a]
   refine ai.nil a (b _ _ _ ?_);clear b K
   repeat apply aB (a _)
   refine bh a fun K b=>?_
   refine ai.pure (a _) 4 (n:=0) _ rfl rfl ?_;simp only[*,go_sem,-b,-a]
   refine ai.nil a (b _ _ _ ?_);clear b K
   repeat apply aB (a _)
   refine bh a fun K b=>?_
   refine ai.pure (a _) 2 (n:=0) _ rfl rfl ?_;simp only[*,go_sem,-b,-a]
   refine ai.nil a (b _ _ _ ?_);clear b K
   repeat apply aB (a _)
   refine cD (a _) (by simp only[*,go_sem,-a,-hJ]) ?_
   apply cH (a _)
   repeat apply aB (a _)
   refine bh a fun K b=>?_
   refine ai.pure (a _) 6 (n:=1) _ rfl rfl ?_;simp only[*,go_sem,-b,-a]
   refine ai.gj (a _) rfl (by first|(simp only[*,go_sem,-b,-a,-hJ];done)|rfl) rfl F1 (by simp only[*,go_sem,-b,-a,-hJ]) l fun r w G f=>?_
   clear l
   obtain ⟨rfl,⟨rfl,rfl⟩|⟨rfl,rfl⟩⟩:=f
   ·
    refine ai.nil a (b _ _ _ ?_);clear b K
    repeat apply aB (a _)
    refine cZ (a _) (by simp only[*,go_sem,-a,-hJ]) ?_
    repeat apply aB (a _)
    refine bh a fun K b=>?_
    refine ai.pure (a _) 4 (n:=0) _ rfl rfl ?_;simp only[*,go_sem,-b,-a]
    refine ai.nil a (b _ _ _ ?_);clear b K
    repeat apply aB (a _)
    refine cZ (a _) (by simp only[*,go_sem,-a,-hJ]) ?_
    repeat apply aB (a _)
    refine bh a fun K b=>?_
    refine ai.pure (a _) 3 (n:=2) _ rfl rfl ?_;simp only[*,go_sem,-b,-a]
    refine uV ⟨x.Wg,1,none⟩ DH lT DI ⟨_,rfl,(by first|(simp only[*,go_sem,-b,-a,-hJ];done)|rfl),rfl,rfl⟩ (fun _=>rfl) (by simp only[*,go_sem,-b,-a,-hJ]) D4 ?_
    refine La Ks ⟨_,_,_,rfl,(by first|(simp only[*,go_sem,-b,-a,-hJ];done)|rfl),rfl,by first|(simp only[*,go_sem,-b,-a,-hJ];done)|(simp only[*,go_sem,-b,-a,-hJ];rfl),rfl⟩ (fun _=>rfl) ?_
    refine ai.nil a (b _ _ _ ?_);clear b K
    repeat apply aB (a _)
    refine bh a fun K b=>?_
    refine ai.pure (a _) 1 (n:=0) _ rfl rfl ?_;simp only[*,go_sem,-b,-a]
    refine ai.nil a (b _ _ _ ?_);clear b K
    repeat apply aB (a _)
    refine bh a fun K b=>?_
    refine ai.pure (a _) 6 (n:=0) _ rfl rfl ?_;simp only[*,go_sem,-b,-a]
    refine ai.nil a (b _ _ _ ?_);clear b K
    repeat apply aB (a _)
    refine cD (a _) (by simp only[*,go_sem,-a,-hJ]) ?_
    apply cH (a _)
    repeat apply aB (a _)
    refine bh a fun K b=>?_
    refine ai.pure (a _) 4 (n:=1) _ rfl rfl ?_;simp only[*,go_sem,-b,-a]
    refine Lg (.bool false) Kt aD rfl ⟨_,_,_,rfl,(by first|(simp only[*,go_sem,-b,-a,-hJ];done)|rfl),rfl,by first|(simp only[*,go_sem,-b,-a,-hJ];done)|(simp only[*,go_sem,-b,-a,-hJ];rfl),rfl⟩ ?_
    refine ai.nil a (b _ _ _ ?_);clear b K
    repeat apply aB (a _)
    refine bh a fun K b=>?_
    refine ai.pure (a _) 3 (n:=3) _ rfl rfl ?_;simp only[*,go_sem,-b,-a]
    refine ai.gj (a _) rfl (by first|(simp only[*,go_sem,-b,-a,-hJ];done)|rfl) rfl vX (by simp only[*,go_sem,-b,-a,-hJ]) Lq fun r q H f=>?_
    obtain ⟨rfl,rfl,rfl⟩:=f
    refine ai.pure (a _) 2 (n:=0) _ rfl rfl ?_;simp only[*,go_sem,-b,-a]
    refine ai.nil a (b _ _ _ ?_);clear b K
    repeat apply aB (a _)
    refine cZ (a _) (by simp only[*,go_sem,-a,-hJ]) ?_
    repeat apply aB (a _)
    refine bh a fun K b=>?_
    refine D1 lS ⟨_,_,_,rfl,(by first|(simp only[*,go_sem,-b,-a,-hJ];done)|rfl),rfl,by first|(simp only[*,go_sem,-b,-a,-hJ];done)|(simp only[*,go_sem,-b,-a,-hJ];rfl),rfl⟩ (fun e=>by cases e) ?_
    refine ai.nil a (b _ _ _ ?_);clear b K
    repeat apply aB (a _)
    refine bh a fun K b=>?_
    refine ai.pure (a _) 1 (n:=2) _ rfl rfl ?_;simp only[*,go_sem,-b,-a]
    refine uV ⟨x.Wg,0,none⟩ yN lT yP ⟨_,rfl,(by first|(simp only[*,go_sem,-b,-a,-hJ];done)|rfl),rfl,rfl⟩ (fun e=>by cases e) (by simp only[*,go_sem,-b,-a,-hJ]) D3 ?_
    refine D2 uJ rfl ⟨_,_,_,rfl,(by first|(simp only[*,go_sem,-b,-a,-hJ];done)|rfl),rfl,by first|(simp only[*,go_sem,-b,-a,-hJ];done)|(simp only[*,go_sem,-b,-a,-hJ];rfl),rfl⟩ ?_
    refine ai.nil a (b _ _ _ ?_);clear b K
    repeat apply aB (a _)
    refine bh a fun K b=>?_
    refine ai.pure (a _) 1 (n:=0) _ rfl rfl ?_;simp only[*,go_sem,-b,-a]
    refine ai.nil a (b _ _ _ ?_);clear b K
    repeat apply aB (a _)
    refine cD (a _) (by simp only[*,go_sem,-a,-hJ]) ?_
    apply cH (a _)
    exact fF (show jX Tryz.prog Tryz.f148 (fun (r:Value) (F':aa) (d:Z)=>r= .tuple #[]/\F'=⟨q.ro,(x.Is,(x.cy TT).fin)::q.own⟩/\d=Z.free) .ret _ _ _ from o8 rfl (by simp only[*,go_sem,-a,-hJ]) ⟨rfl,rfl,rfl⟩)
   ·
    refine ai.nil a (b _ _ _ ?_);clear b K
    repeat apply aB (a _)
    refine cD (a _) (by simp only[*,go_sem,-a,-hJ]) ?_
    apply cH (a _)
    change ∃s,s<m/\D5 x w s _ _ _
    exact ⟨v - 1,by omega,v - 1,Nat.le_refl _,by omega,rfl,(by simp only[*,go_sem,-a,-hJ]),(by simp only[*,go_sem,-a,-hJ]),(by simp only[*,go_sem,-a,-hJ]),rfl⟩
end
end Go.Proofs.YtghbphimkgamkaaGreatDoor
end
section
namespace Go.Sep
open Go Go.Conc
variable {P : Program}
theorem Lv {t e:TypeId}{i:TypeInfo}{n:Nat}{R:Value->aa->Prop}{F:aa}(hu:P.underlying t=some (.slice e))(hi:P.info? e=some i)(hb:i.bytes=1)(hs:bY P e=some 1)(d:zeroOf P e=some (.bool false))(g:n<1048576)
  (h:∀b,dV F b->R (.slice (some ⟨b,0,none⟩) n n) (F.push b (.cells (List.replicate n (Value.bool false)).toArray e))):e5 P (Instr.makeSlice t (.int .i64 n) (.int .i64 n)) R F:=by
 unfold e5
 have hw:IntKind.i64.wrap (n:Int)=(n:Int):=by
  unfold IntKind.wrap
  simp[IntKind.bits,IntKind.signed]
  omega
 have e1:¬((n:Int)<0\/(1:Int)*(n:Int)>2 ^ 48):=by
  have:((2:Int) ^ 48)=281474976710656:=by decide
  omega
 simp only[Instr.makeSlice,bu,dy,hu,z3,pQ,hi,hb,hw]
 have e2:(((n:Int)<0||decide (((1:Nat):Int)*(n:Int)>2 ^ 48))||decide ((n:Int)<0)||decide ((n:Int)>(n:Int)))=false:=by
  have:((2:Int) ^ 48)=281474976710656:=by decide
  simp only[Bool.or_eq_false_iff,decide_eq_false_iff_not]
  omega
 rw[if_neg (by rw[e2];simp)]
 simp only[bu]
 refine vE _ ?_
 simp only[bu,eR,hs,Int.toNat_natCast,Nat.mul_one]
 have fin:∀zero:Array Value,(n≠0->zero=#[.bool false])->aX P (newRow e ((Array.range n).map (fun j=>zero[j % zero.size]!))) (fun a G=>aX P (Pure.pure (Value.slice (some a) n n)) R G) F:=fun zero hzero=>by
  simp only[newRow,bu,pP,bG]
  have f:((Array.range n).map (fun j=>zero[j % zero.size]!))=(List.replicate n (Value.bool false)).toArray:=by
   rcases Nat.eq_zero_or_pos n with rfl|k
   .simp
   .rw[hzero (by omega)]
    rw[<-Array.toList_inj]
    simp only[Array.toList_map,Array.toList_range]
    apply List.ext_getElem
    .simp
    .intro i l m
     simp[Nat.mod_one]
  rw[f]
  exact ⟨rfl,h⟩
 by_cases c:n=0
 .rw[if_pos c]
  exact fin #[] (fun x=>absurd c x)
 .rw[if_neg c]
  rw[bu,l6,d]
  exact fin #[.bool false] (fun _=>rfl)
section
variable {T : PT} {Φ : Goroutine → aa → Prop} {fi : FuncId}
def y7:Z->Bool| .co _ _ .reg _=>false|_=>true
theorem ZJ.Lx (T:PT)(Φ:Goroutine->aa->Prop)(z:Z)(h:y7 z=true):Closed T.P true (ZJ T Φ z):=ZJ.closed T Φ fun x k d e=>by subst e;simp[y7] at h
theorem D6 {P:Program}{main:Bool}{S:Type}{JF:S->Goroutine->aa->Prop}{ph:S}(hJ:Closed P main (JF ph)){c:Code}{Q:Ex->Act->aa->S->Prop}{a:Act}{F F':aa}(hle:Le F F')(h:cM JF fi c Q a F ph):cM JF fi c Q a F' ph:=
 fun b k cs hb d=>hJ.mono hle (h b k cs hb d)
theorem y8 {P:Program}{main:Bool}{S:Type}{JF:S->Goroutine->aa->Prop}{ph:S}(hJ:Closed P main (JF ph)){c:Code}{Q:Ex->Act->aa->S->Prop}{a:Act}{F:aa}(h:aR (keys F.own)->aF F.ro F.own->cM JF fi c Q a F ph):cM JF fi c Q a F ph:=by
 intro b k cs hb d;by_cases hw:∃w,Has F w
 .obtain ⟨w,hw⟩:=hw;refine h ⟨hw.nodup⟩ (fun b hb off sp=>?_) b k cs hb d;cases e:F.ro ⟨b,off,sp⟩ with
  |none=>rfl
  |some v=>exact absurd hb (hw.apart _ v e)
 .exact hJ.step fun w f=>absurd ⟨w,f⟩ hw
end
theorem nk {ro:Addr->Option Value}{b a off:Nat}{sp:Option Nat}{o:Obj}(h:ro ⟨a,off,sp⟩=none)(aD:a≠b):bR ro b o ⟨a,off,sp⟩=none:=by simp[bR,h,aD]
theorem Ly {ro:Addr->Option Value}{b3 b4 b a I M W:Nat}{i o4 g c d e f:Obj}(p:aR (keys [(W,f),(M,e),(a,c),(I,d),(b,g),(b4,o4),(b3,i)]))(l:aF ro [(W,f),(M,e),(a,c),(I,d),(b,g),(b4,o4),(b3,i)]):
  ∃j,Ext ro j/\Le ⟨j,[(M,e),(W,f),(I,d)]⟩ ⟨ro,[(W,f),(M,e),(a,c),(I,d),(b,g),(b4,o4),(b3,i)]⟩/\
   (∀off v,cellOf i off=some v->j ⟨b3,off,none⟩=some v)/\(∀off v,cellOf o4 off=some v->j ⟨b4,off,none⟩=some v)/\(∀off v,cellOf g off=some v->j ⟨b,off,none⟩=some v)/\(∀off v,cellOf c off=some v->j ⟨a,off,none⟩=some v):=by
 have hd:=p.1
 simp only[keys,List.map_cons,List.map_nil,List.nodup_cons,List.mem_cons,List.not_mem_nil,not_or] at hd
 obtain ⟨⟨-,a1,-,a2,a3,a4,-⟩,⟨G,-,H,J,K,-⟩,⟨c1,c2,c3,c4,-⟩,⟨i1,i2,i3,-⟩,⟨e1,e2,-⟩,⟨r,-⟩,-⟩:=hd
 have r3:∀off sp,ro ⟨b3,off,sp⟩=none:=l b3 (by simp[keys])
 have s:∀off sp,ro ⟨b4,off,sp⟩=none:=l b4 (by simp[keys])
 have t:∀off sp,ro ⟨b,off,sp⟩=none:=l b (by simp[keys])
 have u:∀off sp,ro ⟨a,off,sp⟩=none:=l a (by simp[keys])
 clear l p
 have w:b4≠b3:=r
 have x:b≠b3:=e2
 have y:b≠b4:=e1
 have z:a≠b3:=c4
 have A:a≠b4:=c3
 have B:a≠b:=c2
 let s1:=bR ro b3 i
 let s2:=bR s1 b4 o4
 let k:=bR s2 b g
 let n:=bR k a c
 have C:Ext ro s1:=gm _ _ _
 have q:Ext s1 s2:=gm _ _ _
 have o:Ext s2 k:=gm _ _ _
 have m:Ext k n:=gm _ _ _
 have t4:∀off sp,s1 ⟨b4,off,sp⟩=none:=fun off sp=>nk (s off sp) w
 have t7:∀off sp,s2 ⟨b,off,sp⟩=none:=fun off sp=>nk (nk (t off sp) x) y
 have t8:∀off sp,k ⟨a,off,sp⟩=none:=fun off sp=>nk (nk (nk (u off sp) z) A) B
 have k1:Le ⟨s1,[(W,f),(M,e),(a,c),(I,d),(b,g),(b4,o4)]⟩ ⟨ro,[(W,f),(M,e),(a,c),(I,d),(b,g),(b4,o4),(b3,i)]⟩:=
  j7 (by simp[lk, *]) (by simp) (by simp[av,Ne.symm, *])
 have D:Le ⟨s2,[(W,f),(M,e),(a,c),(I,d),(b,g)]⟩ ⟨s1,[(W,f),(M,e),(a,c),(I,d),(b,g),(b4,o4)]⟩:=
  j7 (by simp[lk, *]) (by simp) (by simp[av,Ne.symm, *])
 have E:Le ⟨k,[(W,f),(M,e),(a,c),(I,d)]⟩ ⟨s2,[(W,f),(M,e),(a,c),(I,d),(b,g)]⟩:=
  j7 (by simp[lk, *]) (by simp) (by simp[av,Ne.symm, *])
 have F:Le ⟨n,[(W,f),(M,e),(I,d)]⟩ ⟨k,[(W,f),(M,e),(a,c),(I,d)]⟩:=
  j7 (by simp[lk, *]) (by simp) (by simp[av,Ne.symm, *])
 refine ⟨n,((C.trans q).trans o).trans m,AJ.trans (((F.trans E).trans D).trans k1),fun off v h=>?_,fun off v h=>?_,fun off v h=>?_,fun off v h=>?_⟩
 .exact m _ _ (o _ _ (q _ _ ((jc r3).trans h)))
 .exact m _ _ (o _ _ ((jc t4).trans h))
 .exact m _ _ ((jc t7).trans h)
 .exact (jc t8).trans h
theorem Lz {ro:Addr->Option Value}{a b2:Nat}{o1 o2:Obj}(d:aR (keys [(b2,o2),(a,o1)]))(c:aF ro [(b2,o2),(a,o1)]):
  ∃b,Ext ro b/\Le ⟨b,[]⟩ ⟨ro,[(b2,o2),(a,o1)]⟩/\(∀off v,cellOf o1 off=some v->b ⟨a,off,none⟩=some v)/\(∀off v,cellOf o2 off=some v->b ⟨b2,off,none⟩=some v):=by
 have hd:=d.1
 simp only[keys,List.map_cons,List.map_nil,List.nodup_cons,List.mem_cons,List.not_mem_nil,not_or] at hd
 have r1:∀off sp,ro ⟨a,off,sp⟩=none:=c a (by simp[keys])
 have r2:∀off sp,ro ⟨b2,off,sp⟩=none:=c b2 (by simp[keys])
 have e:b2≠a:=by obtain ⟨⟨z,-⟩,-⟩:=hd;exact z
 have t2:∀off sp,bR ro a o1 ⟨b2,off,sp⟩=none:=fun off sp=>nk (r2 off sp) e
 have k1:Le ⟨bR ro a o1,[(b2,o2)]⟩ ⟨ro,[(b2,o2),(a,o1)]⟩:=j7 (by simp[lk, *]) (by simp) (by simp[av,Ne.symm, *])
 have f:Le ⟨bR (bR ro a o1) b2 o2,[]⟩ ⟨bR ro a o1,[(b2,o2)]⟩:=j7 (by simp only[lk];simp) (by simp) trivial
 exact ⟨_,(gm _ _ _).trans (gm _ _ _),f.trans k1,fun off v h=>gm _ _ _ _ _ ((jc r1).trans h),fun off v h=>(jc t2).trans h⟩
theorem LA {T:PT}{Φ:Goroutine->aa->Prop}{x:X}{k:Nat}{ops:Array Oper}{j n:Nat}{Q:Act->aa->Z->Prop}{a:Act}{F:aa}{fi:FuncId}(b:k<x.n){y:Operand}{f0:FuncId}{dj:Array TypeId}{caps:Array Value}(c:nh ops j a (.go {callee:=.value y,args:=#[],argTypes:=dj}) none)(d:ev a y= .func (.func f0) #[] caps)
  (hW:Wk (x.cy T) k ⟨.idle,.cnt,false,0⟩ (born T.P {target:=.fn (.func f0) caps,args:=#[]}) ⟨F.ro,[]⟩) (h:ai (ZJ T Φ) fi ops (j+1) n Q (bg a none undef) F (.co x (k+1) (.opn 0) 0)):ai (ZJ T Φ) fi ops j (n+1) Q a F (.co x k (.opn 1) 0):=by
 obtain ⟨o,e,hg,f,hd⟩:=c
 have e1:execOp a.eval o=(pure (.spawn {target:=.fn (.func f0) caps,args:=#[]}):Sem Next):=by
  unfold execOp
  have e0:(#[]:Array Value)++Array.map (ev a) #[]=#[]:=by simp
  simp only[f,resolve,eG,d,Deferred.ofValue,e0]
  rfl
 refine Lh (fv:=y) b e hg (fun w=>?_) rfl hW (by rw[hd];exact h)
 rw[e1]
 exact ⟨rfl,rfl⟩
end Go.Sep
end
section
namespace Go.Proofs.YtghbphimkgamkaaGreatDoor
open Go Go.Sep Go.Proofs Go.Conc
open Go.ConcN (upd upd_same)
open Go.ConcM (muA msA)
open Go.ConcR (stA smA)
set_option maxRecDepth 100000
set_option maxHeartbeats 4000000
attribute [local go_sem] Int.reduceBEq Int.reduceBNe muA msA stA smA
def LB (Wg:Nat)(st:Bool)(F:aa)(m:Nat)(a:Act)(F':aa)(ph:Ph):Prop:=
 ∃t8:Int,F'=F/\slot a 0= .pointer (some ⟨Wg,0,none⟩)/\slot a 8= .int .u32 t8/\sz a=117/\a.defers=[dcall 168 #[]]/\((m=1/\t8=1/\ph=⟨.fin,.sm,st,1⟩)\/(m=0/\t8=0/\ph=⟨.fin,.gone,st,1⟩))
theorem LC {f:FuncId}{R:Value->aa->Ph->Prop}{a:Act}{F:aa}{ph:Ph}{b:Nat}(hd:a.defers=[dcall f #[]])(hg:ph.gp= .gone)(h:ph.deaf=b+1)(c:R (.tuple #[]) F {ph with deaf:=b}):kR f R .normal a F ph:=⟨hd,hg,b,h,c⟩
theorem uW {f:FuncId}{R:Value->aa->Ph->Prop}{a:Act}{F:aa}{ph:Ph}{b:Nat}(hd:a.defers=[dcall f #[]])(hg:ph.gp= .gone)(h:ph.deaf=b+1)(c:R (.tuple #[]) F {ph with deaf:=b}):kR f R .ret a F ph:=⟨hd,hg,b,h,c⟩
section
variable {Mu Wg Is n base T0 i : Nat} {bs : Nat → Bool} {st : Bool} {F : aa}
theorem LD (aD:Mu≠Wg/\Mu≠Is/\Wg≠Is)(s:n<67108864){mp:Mp}(u:mp= .idle\/mp= .fin)(w:st=bs i):
  cG Tryz.prog (WJ (CY Mu Wg Is n bs base T0) i) 141 #[.pointer (some (stA Wg)),.int .i64 (-1)] F ⟨mp,.cnt,st,0⟩
   (fun r F' aL=>r= .tuple #[]/\F'=F/\aL=⟨.fin,.gone,st,0⟩):=by
 have a:=WJ.ez (CY Mu Wg Is n bs base T0) i
 refine cG.KZ lS Tryz.func141 rfl rfl Tryz.ntmps141 (by simp) fun A h hd hs=>?_
 have hJ:True:=trivial
 have y:=hs 0
 have k1:=hs 1
 clear hs
 subst w
 have c1:decide ((-1:Int)<0)=true:=by decide
 have c2:decide ((-1:Int)>0)=false:=by decide
 repeat apply aB (a _)
 refine cZ (a _) (by simp only[*,go_sem,-a,-hJ]) ?_
 repeat apply aB (a _)
 refine bh a fun K b=>?_
 refine ai.pure (a _) 2 (n:=0) _ rfl rfl ?_;simp only[*,go_sem,-b,-a]
 refine ai.nil a (b _ _ _ ?_);clear b K
 repeat apply aB (a _)
 refine cZ (a _) (by simp only[*,go_sem,-a,-hJ]) ?_
 repeat apply aB (a _)
 refine bh a fun K b=>?_
 refine ai.pure (a _) 1 (n:=2) _ rfl rfl ?_;simp only[*,go_sem,-b,-a]
 refine uP ⟨Wg,0,none⟩ yN lT yP ⟨_,rfl,(by first|(simp only[*,go_sem,-b,-a,-hJ];done)|rfl),rfl,rfl⟩ (by simp) (by simp only[*,go_sem,-b,-a,-hJ]) K1 ?_
 refine KC Dz ⟨_,_,_,rfl,(by first|(simp only[*,go_sem,-b,-a,-hJ];done)|rfl),rfl,by first|(simp only[*,go_sem,-b,-a,-hJ];done)|(simp only[*,go_sem,-b,-a,-hJ];rfl),rfl⟩ rfl rfl u rfl ?_
 refine ai.nil a (b _ _ _ ?_);clear b K
 repeat apply aB (a _)
 refine bh a fun K b=>?_
 refine yV rF ⟨_,_,_,rfl,(by first|(simp only[*,go_sem,-b,-a,-hJ];done)|rfl),rfl,by first|(simp only[*,go_sem,-b,-a,-hJ];done)|(simp only[*,go_sem,-b,-a,-hJ];rfl),rfl⟩ (by simp) (by simp) ?_
 refine ai.nil a (b _ _ _ ?_);clear b K
 repeat apply aB (a _)
 refine bh a fun K b=>?_
 refine ai.defer (a _) rfl (by first|(simp only[*,go_sem,-b,-a,-hJ];done)|rfl) rfl rfl (by simp;rfl) fun g e1 e2 l=>?_
 have l0:slot g 0= .pointer (some ⟨Wg,0,none⟩):=(e1 0).trans (by simp only[*,go_sem,-a,-hJ])
 have z:slot g 1= .int .i64 (-1):=(e1 1).trans (by simp only[*,go_sem,-a,-hJ])
 replace h:sz g=117:=e2.trans (by simp only[*,go_sem,-a,-hJ])
 replace hd:g.defers=[dcall 168 #[]]:=l.trans (by simp only[*,go_sem,-a,-hJ])
 clear e1 e2 l y k1
 refine ai.nil a (b _ _ _ ?_);clear b K
 repeat apply aB (a _)
 refine bh a fun K b=>?_
 refine ai.pure (a _) 1 (n:=0) _ rfl rfl ?_;simp only[*,go_sem,-b,-a]
 refine ai.nil a (b _ _ _ ?_);clear b K
 repeat apply aB (a _)
 refine bh a fun K b=>?_
 refine ai.entry (.bool false) (a _) DG ⟨_,_,_,rfl,(by first|(simp only[*,go_sem,-b,-a,-hJ];done)|rfl),rfl,by first|(simp only[*,go_sem,-b,-a,-hJ];done)|(simp only[*,go_sem,-b,-a,-hJ];rfl),rfl⟩ ?_
 refine ai.nil a (b _ _ _ ?_);clear b K
 repeat apply aB (a _)
 refine cD (a _) (by simp only[*,go_sem,-a,-hJ]) ?_
 apply cH (a _)
 have w1:IntKind.u64.wrap (-1)=18446744073709551615:=by decide
 have w2:IntKind.u64.wrap (18446744073709551615*2 ^ min 32 64)=18446744069414584320:=by decide
 repeat apply aB (a _)
 refine bh a fun K b=>?_
 refine ai.pure (a _) 6 (n:=2) _ rfl rfl ?_;simp only[*,go_sem,-b,-a]
 refine ai.gj (a _) rfl (by first|(simp only[*,go_sem,-b,-a,-hJ];done)|rfl) rfl AH (by simp only[*,go_sem,-b,-a,-hJ]) (K2 aD s) fun r F' aL f=>?_
 obtain ⟨rfl,v,t,o,ht,rfl,rfl⟩:=f
 obtain ⟨x,d⟩:∃x:Int,x=(v:Int)*4294967296+(t:Int):=⟨_,rfl⟩
 rw[<-d]
 have a1:iD x 2147483648=0:=by show kS x 2147483648=0;rw[d];exact y2 v t (by omega) ht
 have a2:iD x 2147483647=(t:Int):=by show kS x 2147483647=(t:Int);rw[d];exact y3 v t (by omega) ht
 have a3:x.fdiv (2 ^ min 32 64)=(v:Int):=by rw[d];exact y4 v t ht
 have a4:IntKind.i32.wrap (v:Int)=(v:Int):=iP (by omega) (by omega)
 have a5:IntKind.u32.wrap (t:Int)=(t:Int):=by
  unfold IntKind.wrap
  simp[IntKind.bits,IntKind.signed]
  omega
 have j:v=0->t=1->((1:Int) != x)=false:=fun e B=>by rw[d,e,B];rfl
 clear d
 refine ai.pure (a _) 1 (n:=0) _ rfl rfl ?_;simp only[*,go_sem,-b,-a]
 refine ai.nil a (b _ _ _ ?_);clear b K
 repeat apply aB (a _)
 refine bh a fun K b=>?_
 refine ai.pure (a _) 7 (n:=0) _ rfl rfl ?_;simp only[*,go_sem,-b,-a]
 refine ai.nil a (b _ _ _ ?_);clear b K
 repeat apply aB (a _)
 refine cD (a _) (by simp only[*,go_sem,-a,-hJ]) ?_
 apply cH (a _)
 repeat apply aB (a _)
 refine bh a fun K b=>?_
 refine ai.pure (a _) 4 (n:=0) _ rfl rfl ?_;simp only[*,go_sem,-b,-a]
 refine ai.nil a (b _ _ _ ?_);clear b K
 repeat apply aB (a _)
 refine bh a fun K b=>?_
 refine ai.pure (a _) 4 (n:=0) _ rfl rfl ?_;simp only[*,go_sem,-b,-a]
 refine ai.nil a (b _ _ _ ?_);clear b K
 repeat apply aB (a _)
 refine bh a fun K b=>?_
 refine ai.pure (a _) 10 (n:=0) _ rfl rfl ?_;simp only[*,go_sem,-b,-a]
 refine ai.nil a (b _ _ _ ?_);clear b K
 repeat apply aB (a _)
 refine cD (a _) (by simp only[*,go_sem,-a,-hJ]) ?_
 apply cH (a _)
 have c3:decide ((v:Int)<0)=false:=by simp
 repeat apply aB (a _)
 refine bh a fun K b=>?_
 refine ai.pure (a _) 2 (n:=0) _ rfl rfl ?_;simp only[*,go_sem,-b,-a]
 refine ai.nil a (b _ _ _ ?_);clear b K
 repeat apply aB (a _)
 refine cD (a _) (by simp only[*,go_sem,-a,-hJ]) ?_
 apply cH (a _)
 have p:t=0\/t=1:=by omega
 by_cases hC:v=0/\t=1
 ·
  obtain ⟨rfl,rfl⟩:=hC
  have C:((1:Int) != x)=false:=j rfl rfl
  have hg:(if (0:Nat)=0/\(1:Nat)=1 then Gp.ld else Gp.gone)= .ld:=rfl
  rw[hg]
  have D:((1:Nat):Int)=1:=rfl
  clear hg j p o ht
  repeat apply aB (a _)
  refine bh a fun K b=>?_
  refine ai.pure (a _) 12 (n:=0) _ rfl rfl ?_;simp only[*,go_sem,-b,-a]
  refine ai.nil a (b _ _ _ ?_);clear b K
  repeat apply aB (a _)
  refine cD (a _) (by simp only[*,go_sem,-a,-hJ]) ?_
  apply cH (a _)
  repeat apply aB (a _)
  refine bh a fun K b=>?_
  refine ai.pure (a _) 6 (n:=0) _ rfl rfl ?_;simp only[*,go_sem,-b,-a]
  refine ai.nil a (b _ _ _ ?_);clear b K
  repeat apply aB (a _)
  refine cD (a _) (by simp only[*,go_sem,-a,-hJ]) ?_
  apply cH (a _)
  repeat apply aB (a _)
  refine bh a fun K b=>?_
  refine ai.pure (a _) 3 (n:=3) _ rfl rfl ?_;simp only[*,go_sem,-b,-a]
  refine ai.gj (a _) rfl (by first|(simp only[*,go_sem,-b,-a,-hJ];done)|rfl) rfl vX (by simp only[*,go_sem,-b,-a,-hJ]) K3 fun r F' aL f=>?_
  obtain ⟨rfl,rfl,rfl⟩:=f
  refine ai.pure (a _) 2 (n:=0) _ rfl rfl ?_;simp only[*,go_sem,-b,-a]
  refine ai.nil a (b _ _ _ ?_);clear b K
  repeat apply aB (a _)
  refine cD (a _) (by simp only[*,go_sem,-a,-hJ]) ?_
  apply cH (a _)
  repeat apply aB (a _)
  refine bh a fun K b=>?_
  refine ai.pure (a _) 3 (n:=1) _ rfl rfl ?_;simp only[*,go_sem,-b,-a]
  refine ai.gj (a _) rfl (by first|(simp only[*,go_sem,-b,-a,-hJ];done)|rfl) rfl FX (by simp only[*,go_sem,-b,-a,-hJ]) (K4 aD) fun r F' aL f=>?_
  obtain ⟨rfl,rfl,rfl⟩:=f
  refine ai.nil a (b _ _ _ ?_);clear b K
  repeat apply aB (a _)
  refine bh a fun K b=>?_
  refine ai.pure (a _) 1 (n:=0) _ rfl rfl ?_;simp only[*,go_sem,-b,-a]
  refine ai.nil a (b _ _ _ ?_);clear b K
  repeat apply aB (a _)
  refine cD (a _) (by simp only[*,go_sem,-a,-hJ]) ?_
  apply cH (a _)
  repeat apply aB (a _)
  refine jW a ?_
  refine rE a (LB Wg (bs i) F') 1 ?_ ?_
  .exact ⟨1,rfl,(by simp only[*,go_sem,-a,-hJ]),(by simp only[*,go_sem,-a,-hJ]),(by simp only[*,go_sem,-a,-hJ]),(by simp only[*,go_sem,-a,-hJ]),.inl ⟨rfl,rfl,rfl⟩⟩
  .clear l0 z h hd c1 c2 c3 C a1 a2 a3 a4 a5 w1 w2 D
   rintro m A E H ⟨t8,rfl,l0,I,h,hd,⟨rfl,rfl,rfl⟩|⟨rfl,rfl,rfl⟩⟩
   .have G:((1:Int) != 0)=true:=rfl
    have w3:IntKind.u32.wrap (1 - 1)=0:=by decide
    repeat apply aB (a _)
    refine bh a fun K b=>?_
    refine ai.pure (a _) 2 (n:=0) _ rfl rfl ?_;simp only[*,go_sem,-b,-a]
    refine ai.nil a (b _ _ _ ?_);clear b K
    repeat apply aB (a _)
    refine cZ (a _) (by simp only[*,go_sem,-a,-hJ]) ?_
    apply cH (a _)
    repeat apply aB (a _)
    refine jW a ?_
    repeat apply aB (a _)
    refine bh a fun K b=>?_
    refine ai.pure (a _) 3 (n:=1) _ rfl rfl ?_;simp only[*,go_sem,-b,-a]
    refine KX (.bool false) (.int .i64 0) Ku aD ⟨_,_,_,rfl,(by first|(simp only[*,go_sem,-b,-a,-hJ];done)|rfl),rfl,by first|(simp only[*,go_sem,-b,-a,-hJ];done)|(simp only[*,go_sem,-b,-a,-hJ];rfl),rfl⟩ (by rfl) ?_
    refine ai.nil a (b _ _ _ ?_);clear b K
    repeat apply aB (a _)
    refine bh a fun K b=>?_
    refine ai.pure (a _) 3 (n:=0) _ rfl rfl ?_;simp only[*,go_sem,-b,-a]
    refine ai.nil a (b _ _ _ ?_);clear b K
    exact ⟨0,by omega,0,rfl,(by simp only[*,go_sem,-a,-hJ]),(by simp only[*,go_sem,-a,-hJ]),(by simp only[*,go_sem,-a,-hJ]),(by simp only[*,go_sem,-a,-hJ]),.inr ⟨rfl,rfl,rfl⟩⟩
   .have G:((0:Int) != 0)=false:=rfl
    repeat apply aB (a _)
    refine bh a fun K b=>?_
    refine ai.pure (a _) 2 (n:=0) _ rfl rfl ?_;simp only[*,go_sem,-b,-a]
    refine ai.nil a (b _ _ _ ?_);clear b K
    repeat apply aB (a _)
    refine cD (a _) (by simp only[*,go_sem,-a,-hJ]) ?_
    exact o7 (show kR 168 (fun r c aL=>r= .tuple #[]/\c=E/\aL=⟨.fin,.gone,bs i,0⟩) .normal _ _ _ from LC (by simp only[*,go_sem,-a,-hJ]) rfl rfl ⟨rfl,rfl,rfl⟩)
 ·
  rw[if_neg hC]
  have q:(0<v/\decide ((v:Int)>0)=true)\/(v=0/\decide ((v:Int)>0)=false/\((t:Int)==0)=true):=by
   rcases Nat.eq_zero_or_pos v with e|e
   .refine .inr ⟨e,by simp[e],?_⟩
    obtain rfl:t=0:=by omega
    rfl
   .exact .inl ⟨e,by simp;omega⟩
  have a7:((t:Int) != 0)=false\/((t:Int) != 0)=true:=by cases ((t:Int) != 0)<;>simp
  clear j hC o ht p
  rcases a7 with a7|a7
  .repeat apply aB (a _)
   refine bh a fun K b=>?_
   refine ai.pure (a _) 12 (n:=0) _ rfl rfl ?_;simp only[*,go_sem,-b,-a]
   refine ai.nil a (b _ _ _ ?_);clear b K
   repeat apply aB (a _)
   refine cD (a _) (by simp only[*,go_sem,-a,-hJ]) ?_
   apply cH (a _)
   rcases q with ⟨_,k⟩|⟨_,k,b2⟩
   .repeat apply aB (a _)
    refine bh a fun K b=>?_
    refine ai.pure (a _) 6 (n:=0) _ rfl rfl ?_;simp only[*,go_sem,-b,-a]
    refine ai.nil a (b _ _ _ ?_);clear b K
    repeat apply aB (a _)
    refine cZ (a _) (by simp only[*,go_sem,-a,-hJ]) ?_
    exact fF (show kR 168 (fun r c aL=>r= .tuple #[]/\c=F'/\aL=⟨.fin,.gone,bs i,0⟩) .ret _ _ _ from uW (by simp only[*,go_sem,-a,-hJ]) rfl rfl ⟨rfl,rfl,rfl⟩)
   .repeat apply aB (a _)
    refine bh a fun K b=>?_
    refine ai.pure (a _) 6 (n:=0) _ rfl rfl ?_;simp only[*,go_sem,-b,-a]
    refine ai.nil a (b _ _ _ ?_);clear b K
    repeat apply aB (a _)
    refine cZ (a _) (by simp only[*,go_sem,-a,-hJ]) ?_
    exact fF (show kR 168 (fun r c aL=>r= .tuple #[]/\c=F'/\aL=⟨.fin,.gone,bs i,0⟩) .ret _ _ _ from uW (by simp only[*,go_sem,-a,-hJ]) rfl rfl ⟨rfl,rfl,rfl⟩)
  .repeat apply aB (a _)
   refine bh a fun K b=>?_
   refine ai.pure (a _) 12 (n:=0) _ rfl rfl ?_;simp only[*,go_sem,-b,-a]
   refine ai.nil a (b _ _ _ ?_);clear b K
   repeat apply aB (a _)
   refine cD (a _) (by simp only[*,go_sem,-a,-hJ]) ?_
   apply cH (a _)
   rcases q with ⟨_,k⟩|⟨_,k,b2⟩
   .repeat apply aB (a _)
    refine bh a fun K b=>?_
    refine ai.pure (a _) 6 (n:=0) _ rfl rfl ?_;simp only[*,go_sem,-b,-a]
    refine ai.nil a (b _ _ _ ?_);clear b K
    repeat apply aB (a _)
    refine cZ (a _) (by simp only[*,go_sem,-a,-hJ]) ?_
    exact fF (show kR 168 (fun r c aL=>r= .tuple #[]/\c=F'/\aL=⟨.fin,.gone,bs i,0⟩) .ret _ _ _ from uW (by simp only[*,go_sem,-a,-hJ]) rfl rfl ⟨rfl,rfl,rfl⟩)
   .repeat apply aB (a _)
    refine bh a fun K b=>?_
    refine ai.pure (a _) 6 (n:=0) _ rfl rfl ?_;simp only[*,go_sem,-b,-a]
    refine ai.nil a (b _ _ _ ?_);clear b K
    repeat apply aB (a _)
    refine cZ (a _) (by simp only[*,go_sem,-a,-hJ]) ?_
    exact fF (show kR 168 (fun r c aL=>r= .tuple #[]/\c=F'/\aL=⟨.fin,.gone,bs i,0⟩) .ret _ _ _ from uW (by simp only[*,go_sem,-a,-hJ]) rfl rfl ⟨rfl,rfl,rfl⟩)
end
end Go.Proofs.YtghbphimkgamkaaGreatDoor
end
section
namespace Go.Sep
open Go Go.Conc
open Go.ConcN (sumTo upd upd_ne upd_same)
def jz (P:Program):Frame:={(default:Frame) with fn:=P.funcs.size,defers:=[],mode:=.panicking [goexitEntry]}
section
variable {P : Program} {f : FuncId} {fn : Func} {cd : Code} {w : World} {caps args : Array Value}
theorem LF (a:P.funcs[f]?=some fn)(b:(fn.name== "runtime.NumGoroutine")=false)(hb:fn.body=some cd):
  stepG P false (born P {target:=.fn (.func f) caps,args:=args}) w= .go (G ((baseD f).at {tmps:=args++caps++Array.replicate (fn.ntmps - (args++caps).size) undef,defers:=[]} [.code cd]) [jz P]) w #[]:=by
 have c:¬fn.name= "runtime.NumGoroutine":=by simpa using b
 rw[<-enter_atD (args++caps) a hb]
 simp[born,G,stepG,unwind,callDeferred,invoke,callFunc,a,c,hb,GStep.after,seen_none,jz]
theorem LG {b:Frame}{a:Act}{todo:List Item}(d:b.kind= .deferred)(hd:a.defers=[])(e:P.funcs[b.fn]?=some fn)(c:fn.results=#[]):
  stepG P false (G {b.at a todo with mode:=.returning} [jz P]) w= .go (G (jz P) []) w #[]:=by
 have he:(results fn a.tmps).events P w #[]=#[]:=events_results_none c _ _
 have f:(results fn a.tmps).run P w= .ok (.tuple #[]) w:=results_none c _ P w
 simp[G,stepG,unwind,doReturn,Frame.at,d,hd,e,f,he,jz,goexitEntry,seen_none,GStep.after]
theorem LH:stepG P false (G (jz P) []) w= .go {frame:=jz P,callers:=[],status:=.finished,dying:=none} w #[]:=by
 have e:(default:Frame).todo=[]:=rfl;simp[G,stepG,unwind,jz,goexitEntry,Frame.catches,e]
end
section
variable {c : Cy} {i : Nat} {F : aa} {f fd : FuncId}
def y9 (c:Cy)(i:Nat)(fd:FuncId)(v:Value):Ex->Act->aa->Ph->Prop
 | .exit _,_,_,_=>False
 |_,a,_,ph=>a.defers=[dcall fd #[v]]/\(ph.mp= .idle\/ph.mp= .fin)/\ph.gp= .cnt/\ph.stored=c.bs i/\ph.deaf=0
theorem worker {fn b:Func}{cd l:Code}{n nd:Nat}{v:Value}(m:c.P.funcs[f]?=some fn)(z:(fn.name== "runtime.NumGoroutine")=false)(hb:fn.body=some cd)(B:fn.results=#[])(o:fn.ntmps=n){caps:Array Value}(R:caps.size<=n)
  (C:c.P.funcs[fd]?=some b) (D:(b.name== "runtime.NumGoroutine")=false) (E:b.body=some l) (H:b.results=#[]) (I:b.ntmps=nd) (J:1<=nd)
  (hd:∀(mp:Mp) (F:aa),mp= .idle\/mp= .fin->∀A:Act,sz A=nd->A.defers=[]->(∀j,slot A j=(#[v]:Array Value).getD j undef)->cM (WJ c i) fd l (yZ fun F' aL=>aL=⟨.fin,.gone,c.bs i,0⟩) A F ⟨mp,.cnt,c.bs i,0⟩)
  (h:∀A:Act,sz A=n->A.defers=[]->(∀j,slot A j=caps.getD j undef)->cM (WJ c i) f cd (y9 c i fd v) A F ⟨.idle,.cnt,false,0⟩):
  Wk c i ⟨.idle,.cnt,false,0⟩ (born c.P {target:=.fn (.func f) caps,args:=#[]}) F:=by
 have p:=WJ.ez c i
 have e0:∀w,stepG c.P false (born c.P {target:=.fn (.func f) caps,args:=#[]}) w= .go (G ((baseD f).at {tmps:=caps++Array.replicate (fn.ntmps - caps.size) undef,defers:=[]} [.code cd]) [jz c.P]) w #[]:=fun w=>by
  have:=LF (P:=c.P) (w:=w) (caps:=caps) (args:=#[]) m z hb
  simpa using this
 refine Wk.act (c:=c) (i:=i) rfl rfl (by simp) fun w s k φ p0 e1 e2 S K L=>.inr ⟨_,w,#[],s,⟨.idle,.cnt,false,0⟩,e0 w,e2,.refl _ _,?_,ni rfl Iff.rfl,.inr dL,?_⟩
 .rw[<-K,yQ];exact L
 have out:∀(a:Act) (r:List Item) F' (aL:Ph),(a.defers=[dcall fd #[v]]/\(aL.mp= .idle\/aL.mp= .fin)/\aL.gp= .cnt/\aL.stored=c.bs i/\aL.deaf=0)->WJ c i aL (G {(baseD f).at a r with mode:=.returning} [jz c.P]) F':=by
  intro a r F' aL ⟨k1,t,u,x,y⟩
  obtain ⟨mp,gp,st,T⟩:=aL
  simp only at t u x y
  subst u x y
  refine K0 C D E H I (by simpa using J) k1 (fun A M N O=>hd mp F' t A M N O) fun U V Q=>?_
  subst Q
  refine Wk.gone (q:=2) rfl (QuitsD.ctl rfl (fun w=>LG rfl rfl m B) (QuitsD.ctl rfl (fun w=>LH) ⟨rfl,rfl⟩))
 have:=h {tmps:=caps++Array.replicate (fn.ntmps - caps.size) undef,defers:=[]} (by simp[sz,o];omega) rfl (fun j=>?_) (baseD f) [] [jz c.P] ⟨by simp[baseD],rfl,rfl⟩ fun e a F' aL g=>?_
 .rw[eJ rfl] at this;exact this
 .simp only[slot,o,Array.getD_eq_getD_getElem?]
  rcases Nat.lt_or_ge j caps.size with d|d
  .rw[Array.getElem?_append_left d]
  .rw[Array.getElem?_append_right d,Array.getElem?_replicate,Array.getElem?_eq_none d]
   split<;>rfl
 .cases e with
  |normal=>exact (p aL).move (fun _=>lZ rfl) (out a _ F' aL g)
  |exit i=>exact g.elim
  |ret=>exact fun W=>(p aL).move (fun _=>stepG_ret' rfl) (out a _ F' aL g)
end
attribute [go_sem] y9
end Go.Sep
end
section
namespace Go.Proofs.YtghbphimkgamkaaGreatDoor
open Go Go.Sep Go.Proofs Go.Conc
open Go.ConcN (upd upd_same)
open Go.ConcM (muA msA)
open Go.ConcR (stA smA)
set_option maxRecDepth 100000
set_option maxHeartbeats 4000000
attribute [local go_sem] Int.reduceBEq Int.reduceBNe muA msA stA smA
theorem LI:(Tryz.prog.funcs[142]?).any (·.norace)=false:=by kernel_rfl
section
variable {Mu Wg Is n base T0 i : Nat} {bs : Nat → Bool}
theorem LJ (aD:Mu≠Wg/\Mu≠Is/\Wg≠Is)(x:n<67108864)(a5:i<n){ro:Addr->Option Value}(u0:cO){s1:Value}(o:az fj ro s1 u0.book.an){K:Value}(q:az eI ro K u0.book.props){L:Value}(r:az e8 ro L u0.book.aG){M:Value}(s:az di ro M u0.book.told)
  (z:Int) (B:List Int) {N:Value} (u:az rI ro N B) (C:List aU) {O:Value} (g:az jg ro O C) {f b2 b3 b4 P Q:Nat}
  (g0:ro ⟨f,0,none⟩=some (.int .i64 u0.book.bH)) (R:ro ⟨f,1,none⟩=some (.int .i64 u0.book.bP)) (S:ro ⟨f,2,none⟩=some (.int .i64 u0.book.bf.num)) (T:ro ⟨f,3,none⟩=some (.int .i64 u0.book.bf.den)) (U:ro ⟨f,4,none⟩=some s1) (V:ro ⟨f,5,none⟩=some K) (W:ro ⟨f,6,none⟩=some L) (X:ro ⟨f,7,none⟩=some M)
  (Y:ro ⟨b2,0,none⟩=some (.int .i64 z)) (Z:ro ⟨b3,0,none⟩=some N) (ab:ro ⟨b4,0,none⟩=some O) (D:ro ⟨P,0,none⟩=some (.slice (some ⟨Is,0,none⟩) n n)) (E:ro ⟨Q,0,none⟩=some (.int .i64 i))
  (h:ag (oq u0.book z B) (fun b=>og b C)=some (bs i)):
  Wk (CY Mu Wg Is n bs base T0) i ⟨.idle,.cnt,false,0⟩ (born Tryz.prog {target:=.fn (.func 142) #[.pointer (some ⟨Wg,0,none⟩),.pointer (some ⟨f,0,none⟩),.pointer (some ⟨b2,0,none⟩),.pointer (some ⟨b3,0,none⟩),.pointer (some ⟨b4,0,none⟩),.pointer (some ⟨Mu,0,none⟩),.pointer (some ⟨P,0,none⟩),.pointer (some ⟨Q,0,none⟩)],args:=#[]}) ⟨ro,[]⟩:=by
 have d:=WJ.ez (CY Mu Wg Is n bs base T0) i
 have hJ:∀ph:Ph,ph.gp= .cnt->Go.Sep.Closed Tryz.prog false (WJ (CY Mu Wg Is n bs base T0) i ph):=fun ph h=>Wk.closed (CY Mu Wg Is n bs base T0) i ph h
 refine worker (c:=CY Mu Wg Is n bs base T0) (i:=i) (fd:=143) (v:=.pointer (some ⟨Wg,0,none⟩)) Tryz.func142 rfl rfl rfl Tryz.ntmps142 (by simp) Tryz.func143 rfl rfl rfl Tryz.ntmps143 (by simp) ?_ ?_
 .intro mp F a6 A G hd hs
  have w:=hs 0
  clear hs h g0 R S T U V W X Y Z ab D E o q r s u g hJ a5
  repeat apply aB (d _)
  refine c5 d ?_
  refine ai.pure (d _) 1 (n:=1) _ rfl rfl ?_;simp only[*,go_sem]
  refine ai.gj (d _) rfl rfl rfl AG (by simp only[*,go_sem,stA]) (LD aD x a6 rfl) fun v F' aL j=>?_
  obtain ⟨rfl,rfl,rfl⟩:=j
  refine ai.nil d ?_
  exact ⟨(by simp only[*,go_sem]),rfl⟩
 .intro ad G hd hs
  have w:=hs 0
  have k1:=hs 1
  have ae:=hs 2
  have al:=hs 3
  have ao:=hs 4
  have ar:=hs 5
  have a0:=hs 6
  have a2:=hs 7
  clear hs
  repeat apply aB (d _)
  refine c5 d ?_
  refine ai.defer (d _) (vals:=#[.pointer (some ⟨Wg,0,none⟩)]) rfl (by rfl) rfl rfl (by simp only[List.map_toArray,List.map_cons,List.map_nil];rw[show ad.eval (.tmp 0)=slot ad 0 from rfl,w];rfl) fun A e1 e2 H=>?_
  replace w:=(e1 0).trans w
  replace k1:=(e1 1).trans k1
  replace ae:=(e1 2).trans ae
  replace al:=(e1 3).trans al
  replace ao:=(e1 4).trans ao
  replace ar:=(e1 5).trans ar
  replace a0:=(e1 6).trans a0
  replace a2:=(e1 7).trans a2
  replace G:sz A=20:=e2.trans G
  rw[hd] at H
  replace hd:=H
  clear e1 e2 H
  refine ai.nil d ?_;try simp only[go_sem]
  obtain ⟨d3,c4,rfl,a7,a8,a9⟩:=id o
  obtain ⟨d10,dp,rfl,ba,bb,bc⟩:=id q
  obtain ⟨d17,dq,rfl,bd,bj,bk⟩:=id r
  obtain ⟨d24,ds,rfl,bl,bm,bo⟩:=id s
  obtain ⟨d38,dt,rfl,br,bz,bS⟩:=id u
  obtain ⟨d45,du,rfl,b0,b1,I⟩:=id g
  repeat apply aB (d _)
  have l:=hJ ⟨.idle,.cnt,false,0⟩ rfl
  refine cM.of l ?_
  refine F5 l mixed [0,1,2,3,5] [4,6] ⟨ro,[]⟩ (by simp only[*,go_sem,-h]) (by kernel_rfl) ?_
  have h':=fV h;clear h;obtain ⟨b5,a3,h⟩:=h'
  simp only[*,go_sem,-h,-hJ,-d]
  refine vP l _ (HC u0.book ⟨o,q,r,s⟩ z B u a3) fun v dv m ca j=>?_
  obtain ⟨dC,dE,dT,ea,rfl,k⟩:=j
  replace g:=g.mono m;clear I;obtain ⟨_,_,I⟩:=g.op
  obtain ⟨d63,eb,rfl,cb,cd,cf⟩:=id k.e
  obtain ⟨d68,ec,rfl,cl,cy,cS⟩:=id k.p
  obtain ⟨d73,ed,rfl,c0,da,db⟩:=id k.y
  obtain ⟨d78,eh,rfl,dd,df,dk⟩:=id k.t
  replace D:=m _ _ D
  replace E:=m _ _ E
  clear g0 R S T U V W X Y Z ab
  refine ⟨⟨m,fun a J=>by simp[keys] at J,trivial⟩,k3 ?_⟩
  simp only[*,go_sem,-h,-hJ,-d]
  refine bn l _ (Hq b5 (k.mono aP) C (g.mono aP) h) ?_
  refine ⟨⟨m,fun a J=>by simp[keys] at J,trivial⟩,?_⟩
  clear o q r s u g k a9 bc bk bo bS I cf cS db dk h a3 a7 ba bd bl br b0 cb cl c0 dd a8 bb bj bm bz b1 cd cy da df l ca
  have i0:(0:Int)<=(i:Int):=by omega
  have i1:(i:Int)<(n:Int):=by omega
  cases a4:bs i
  .repeat apply aB (d _)
   refine cD (d _) (by simp only[*,go_sem]) ?_
   apply cH (d _)
   exact ⟨(by simp only[*,go_sem]),.inl rfl,rfl,a4.symm,rfl⟩
  .repeat apply aB (d _)
   refine cZ (d _) (by simp only[*,go_sem]) ?_
   repeat apply aB (d _)
   refine c5 d ?_
   refine ai.gj (d _) rfl (by rfl) rfl FU (by simp only[*,go_sem]) (KP aD x) fun v F' aL j=>?_
   obtain ⟨rfl,rfl,rfl⟩:=j
   refine ai.nil d ?_;try simp only[go_sem]
   repeat apply aB (d _)
   refine c5 d ?_
   refine ai.bA (hJ _ rfl) 3 (n:=1) _ rfl rfl ?_;simp only[*,go_sem]
   refine KF Kv Ax LI aD ⟨_,rfl,(by first|rfl|simp only[*,go_sem]),rfl,rfl⟩ (by rfl) (by simp only[*,go_sem]) (by simp only[*,go_sem]) ?_
   refine ai.nil d ?_;try simp only[go_sem]
   repeat apply aB (d _)
   refine c5 d ?_
   refine ai.gj (d _) rfl (by rfl) rfl FV (by simp only[*,go_sem]) (KQ aD x) fun v F' aL j=>?_
   obtain ⟨rfl,rfl,rfl⟩:=j
   refine ai.nil d ?_
   exact (show y9 _ _ _ _ .normal _ _ _ from ⟨(by simp only[*,go_sem]),.inr rfl,rfl,a4.symm,rfl⟩)
end
end Go.Proofs.YtghbphimkgamkaaGreatDoor
end
section
namespace Go.Proofs.YtghbphimkgamkaaGreatDoor
open Go Go.Sep Go.Proofs Go.Conc
open Go.ConcN (upd upd_same)
open Go.ConcM (muA msA muBlock)
open Go.ConcR (stA smA wgBlock)
set_option maxRecDepth 100000
set_option maxHeartbeats 4000000
attribute [local go_sem] Int.reduceBEq Int.reduceBNe muA msA stA smA
def uX (u0:cO)(a:Int)(c:List aU)(d:List Int):Option Bool:=ag (oq u0.book a d) fun b=>og b c
def nq (f:List Int->Option Bool):List (List Int)->Option (List Bool)
 |[]=>some []
 |x::l=>ag (f x) fun b=>ag (nq f l) fun r=>some (b::r)
def rK (a:List Bool)(i23:Nat)(b:List Int)(st:List (List Int)):Option (Fl (List (List Int)) (List (List Int))):=
 ag (aT a (i23:Int)) fun c=>cond (c) (ag (cL st ([b])) fun d=>some (.nx d)) (some (.nx st))
def nt (u0:cO)(b:Int)(a:List (List Int)):Option (List (List Int)):=
 cond (decide (a.length<1048576)) (ag (oz u0) fun c=>ag (nq (uX u0 b c) a) fun bl=>ag (bD (rK bl) 0 a ([]:List (List Int))) fun o=>ay o (fun d=>some d) (fun _ _=>none) (fun r=>some r)) none
theorem D7 {f:List Int->Option Bool}:∀{l:List (List Int)} {bl:List Bool},nq f l=some bl->bl.length=l.length/\∀(i:Nat) (a:List Int),l[i]?=some a->f a=some (bl[i]?.getD false)
 |[],bl,h=>by
  simp[nq] at h;subst h
  exact ⟨rfl,fun i a hi=>by simp at hi⟩
 |x::l,bl,h=>by
  unfold nq at h
  obtain ⟨b,hb,h⟩:=fV h
  obtain ⟨r,c,h⟩:=fV h
  have h:=Option.some.inj h
  subst h
  obtain ⟨e1,e2⟩:=D7 c
  refine ⟨by simp[e1],fun i a hi=>?_⟩
  cases i with
  |zero=>simp at hi;subst hi;simpa using hb
  |succ i=>simp at hi;simpa using e2 i a hi
def D8 (x:X)(d:Addr->Option Value)(b3 b4 e f:Nat)(b:Value)(m:Nat)(a:Act)(F:aa)(z:Z):Prop:=
 ∃(i:Nat) (c:Addr->Option Value),m=x.n - i/\i<=x.n/\F=⟨c,[]⟩/\Ext d c/\slot a 2=b/\slot a 3= .pointer (some ⟨b3,0,none⟩)/\slot a 4= .pointer (some ⟨b4,0,none⟩)/\slot a 6= .slice none 0 0/\slot a 7= .pointer (some ⟨e,0,none⟩)/\slot a 8= .pointer (some ⟨f,0,none⟩)/\slot a 9= .pointer (some ⟨x.Mu,0,none⟩)/\slot a 10= .pointer (some ⟨x.Wg,0,none⟩)/\slot a 21=b/\slot a 22= .int .i64 x.n/\slot a 23= .int .i64 i/\sz a=49/\a.defers=[]/\z= .co x i (.opn 0) 0
theorem LK (l:List Bool):(l.map fun b=>[Value.bool b]).flatten=l.map Value.bool:=by
 induction l with
 |nil=>rfl
 |cons b l ih=>simp only[List.map_cons,List.flatten_cons,ih];rfl
theorem LL:Tryz.prog.underlying 182=some (.slice 4):=by kernel_rfl
theorem LM:Tryz.prog.info? 4=some ((Tryz.prog.info? 4).getD default):=by kernel_rfl
theorem D9 {ro:Addr->Option Value}(u0:cO){s1:Value}(p:az fj ro s1 u0.book.an){bm:Value}(q:az eI ro bm u0.book.props){bo:Value}(s:az e8 ro bo u0.book.aG){br:Value}(u:az di ro br u0.book.told){bs:Value}(a3:az ia ro bs u0.all)(ad:Int)(d:List (List Int)){bz:Value}(k:az (rL rI) ro bz d){r:List (List Int)}(h:nt u0 ad d=some r):
  qd Tryz.prog 85 #[.agg #[.int .i64 u0.book.bH,.int .i64 u0.book.bP,.int .i64 u0.book.bf.num,.int .i64 u0.book.bf.den,s1,bm,bo,br,bs],.int .i64 ad,bz] ro (fun v aM=>∃bS,v=bS/\az (rL rI) aM bS r):=by
 refine fO.Lm (T:=TT) fun Φ=>?_
 obtain ⟨d3,c4,rfl,fw,fx,fz⟩:=id p
 obtain ⟨d10,gg,rfl,gl,gn,Q⟩:=id q
 obtain ⟨d17,H,rfl,gp,gB,gC⟩:=id s
 obtain ⟨d24,gM,rfl,gN,gT,gV⟩:=id u
 obtain ⟨d31,im,rfl,g0,g1,g2⟩:=id a3
 obtain ⟨d38,b0,rfl,iv,b1,B⟩:=id k
 unfold nt at h
 have hlen:d.length<1048576:=by
  rcases Nat.lt_or_ge d.length 1048576 with y|y
  .exact y
  .rw[show decide (d.length<1048576)=false by simp;omega] at h;cases h
 rw[show decide (d.length<1048576)=true by simp;omega] at h
 simp only[cond_true] at h
 obtain ⟨b2,b5,h⟩:=fV h
 obtain ⟨bl,ca,h⟩:=fV h
 obtain ⟨cb,cd⟩:=D7 ca
 have a:=ZJ.ez TT Φ
 have hJ:=fun (z:Z) (R:y7 z=true)=>ZJ.Lx TT Φ z R
 refine cG.go (main:=true) a Tryz.func85 rfl Tryz.ntmps85 (by simp) fun A R hd hs=>?_
 have g3:=hs 0
 have k1:=hs 1
 have cf:=hs 2
 clear hs ca
 repeat apply aB (a _)
 refine bh a fun K c=>?_
 refine ai.bA (hJ _ rfl) 3 (n:=0) _ rfl rfl ?_;simp only[*,go_sem,-c,-a,-hJ]
 intro b3 f3;have r3:=eK f3;have n3:=fL f3
 try simp only[av] at n3
 intro b4 f4;have g4:=eK f4;have cl:=fL f4
 try simp only[av] at cl
 try simp only[*,go_sem,-c,-a,-hJ,-h]
 refine ai.nil a (c _ _ _ ?_);clear c K
 have o:=hJ .free rfl
 repeat apply aB (a _)
 refine bh a fun K c=>?_
 refine ai.bA (hJ _ rfl) 4 (n:=0) _ rfl rfl ?_;simp only[*,go_sem,-c,-a,-hJ]
 refine vP o _ (BB u0 ⟨p,q,s,u⟩ a3 b5) fun v ix I ha S=>?_
 obtain ⟨jC,rfl,J⟩:=S
 replace p:=p.mono I
 replace q:=q.mono I
 replace s:=s.mono I
 replace u:=u.mono I
 replace k:=k.mono I
 obtain ⟨d45,hc,rfl,hf,hg,hh⟩:=id J
 clear fz Q gC gV g2 B hh r3 g4
 apply aK
 try simp only[*,go_sem,-c,-a,-hJ,-h,-o]
 intro a4 f7;have hj:=eK f7;have cS:=fL f7
 try simp only[av] at cS
 try simp only[*,go_sem,-c,-a,-hJ,-h,-o]
 refine ai.nil a (c _ _ _ ?_);clear c K
 repeat apply aB (a _)
 refine bh a fun K c=>?_
 refine ai.bA (hJ _ rfl) 5 (n:=0) _ rfl rfl ?_;simp only[*,go_sem,-c,-a,-hJ]
 refine Lv LL LM rfl Ax FF hlen fun g a5=>?_
 have rI:=eK a5;have nI:=fL a5
 try simp only[av] at nI
 apply aK
 try simp only[*,go_sem,-c,-a,-hJ,-h,-o]
 intro U f8;have hk:=eK f8;have c0:=fL f8
 try simp only[av] at c0
 try simp only[*,go_sem,-c,-a,-hJ,-h,-o]
 refine ai.nil a (c _ _ _ ?_);clear c K
 repeat apply aB (a _)
 refine bh a fun K c=>?_
 refine ai.bA (hJ _ rfl) 1 (n:=0) _ rfl rfl ?_;simp only[*,go_sem,-c,-a,-hJ]
 intro L f9;have hl:=eK f9;have da:=fL f9
 try simp only[av] at da
 try simp only[*,go_sem,-c,-a,-hJ,-h,-o]
 refine ai.nil a (c _ _ _ ?_);clear c K
 repeat apply aB (a _)
 refine bh a fun K c=>?_
 refine ai.bA (hJ _ rfl) 1 (n:=0) _ rfl rfl ?_;simp only[*,go_sem,-c,-a,-hJ]
 intro M f10;have hn:=eK f10;have db:=fL f10
 try simp only[av] at db
 try simp only[*,go_sem,-c,-a,-hJ,-h,-o]
 refine ai.nil a (c _ _ _ ?_);clear c K
 repeat apply aB (a _)
 refine bh a fun K c=>?_
 refine ai.bA (hJ _ rfl) 3 (n:=0) _ rfl rfl ?_;simp only[*,go_sem,-c,-a,-hJ]
 refine ai.nil a (c _ _ _ ?_);clear c K
 refine y8 o fun nd no=>?_
 obtain ⟨ae,C,hle,w,dd,df,dk⟩:=Ly nd no
 clear nd no
 refine Li (T:=TT) (Φ:=Φ) ⟨ae,[]⟩ L M g d.length (fun i=>bl[i]?.getD false) hle ?_
 intro base B0 T0 ho aD
 clear hle
 have al:d.length<67108864:=by omega
 replace p:=p.mono C
 replace q:=q.mono C
 replace s:=s.mono C
 replace u:=u.mono C
 replace k:=k.mono C
 replace J:=J.mono C
 have dp:=w 0 (.int .i64 u0.book.bH) rfl
 have dq:=w 1 (.int .i64 u0.book.bP) rfl
 have ds:=w 2 (.int .i64 u0.book.bf.num) rfl
 have dt:=w 3 (.int .i64 u0.book.bf.den) rfl
 have du:=w 4 (.slice d3 u0.book.an.length c4) rfl
 have dv:=w 5 (.slice d10 u0.book.props.length gg) rfl
 have dC:=w 6 (.slice d17 u0.book.aG.length H) rfl
 have dE:=w 7 (.slice d24 u0.book.told.length gM) rfl
 have dT:=dd 0 (.int .i64 ad) rfl
 have ea:=df 0 (.slice d45 b2.length hc) rfl
 have a6:=dk 0 (.slice (some ⟨g,0,none⟩) d.length d.length) rfl
 clear w dd df dk f3 f4 f7 f8 f9 f10 a5 n3 cl cS c0 da db nI hj hk hl hn rI ha
 repeat apply aB (a _)
 refine jW a ?_
 refine rE a (D8 (⟨L,M,g,d.length,(fun i=>bl[i]?.getD false),base,T0,B0⟩:X) ae b3 b4 a4 U (.slice d38 d.length b0)) d.length ?_ ?_
 .exact ⟨0,ae,rfl,Nat.zero_le _,rfl,Ext.refl _,(by simp only[*,go_sem,-a,-hJ]),(by simp only[*,go_sem,-a,-hJ]),(by simp only[*,go_sem,-a,-hJ]),(by simp only[*,go_sem,-a,-hJ]),(by simp only[*,go_sem,-a,-hJ]),(by simp only[*,go_sem,-a,-hJ]),(by simp only[*,go_sem,-a,-hJ]),(by simp only[*,go_sem,-a,-hJ]),(by simp only[*,go_sem,-a,-hJ]),(by simp only[*,go_sem,-a,-hJ]),(by simp only[*,go_sem,-a,-hJ]),(by simp only[*,go_sem,-a,-hJ]),(by simp only[*,go_sem,-a,-hJ]),rfl⟩
 clear g3 k1 cf R hd
 rintro m A F' eb ⟨i,O,rfl,hi,rfl,e,cf,hp,hq,j1,hr,j2,ht,hv,hx,hy,hz,R,hd,rfl⟩
 have hi:i<=d.length:=hi
 replace p:=p.mono e
 replace q:=q.mono e
 replace s:=s.mono e
 replace u:=u.mono e
 replace k:=k.mono e
 replace J:=J.mono e
 rcases Nat.lt_or_ge i d.length with ao|hA
 .have c1:decide ((i:Int)<(d.length:Int))=true:=by simp;omega
  have i0:(0:Int)<=(i:Int):=by omega
  have i1:(i:Int)<(d.length:Int):=by omega
  obtain ⟨a7,ec⟩:∃x,d[i]?=some x:=⟨_,List.getElem?_eq_getElem ao⟩
  obtain ⟨_,_,B⟩:=k.op
  obtain ⟨hB,ed,a8,a9,V⟩:=B _ _ ec
  obtain ⟨hD,rfl,W⟩:=a9
  obtain ⟨d32,Y,rfl,hE,hF,-⟩:=id W
  cases a8
  have hG:=V 0 _ rfl
  simp only[go_sem] at hG
  clear V B
  have eh:=cw (n:=i) (by omega)
  repeat apply aB (a _)
  refine bh a fun K c=>?_
  refine ai.bA (hJ _ rfl) 1 (n:=0) _ rfl rfl ?_;simp only[*,go_sem,-c,-a,-hJ]
  refine ai.nil a (c _ _ _ ?_);clear c K
  repeat apply aB (a _)
  refine cZ (a _) (by simp only[*,go_sem,-a,-hJ]) ?_
  apply cH (a _)
  repeat apply aB (a _)
  refine jW a ?_
  repeat apply aB (a _)
  refine bh a fun K c=>?_
  refine ai.bA (hJ _ rfl) 7 (n:=0) _ rfl rfl ?_;simp only[*,go_sem,-c,-a,-hJ]
  intro hI f11;have hK:=eK f11;have et:=fL f11
  try simp only[av] at et
  try simp only[*,go_sem,-c,-a,-hJ,-h,-o]
  intro hL f12;have hM:=eK f12;have ev:=fL f12
  try simp only[av] at ev
  try simp only[*,go_sem,-c,-a,-hJ,-h,-o]
  refine ai.nil a (c _ _ _ ?_);clear c K
  refine y8 (hJ _ rfl) fun nd no=>?_
  obtain ⟨hN,f,hle,eQ,eS⟩:=Lz nd no
  clear nd no f11 f12 hK hM et ev
  refine D6 (hJ _ rfl) hle ?_
  clear hle
  have hP:=eQ 0 (.int .i64 i) rfl
  have hQ:=eS 0 (.slice d32 a7.length Y) rfl
  clear eQ eS
  repeat apply aB (a _)
  refine bh a fun K c=>?_
  refine ai.gj (a _) rfl (by first|(simp only[*,go_sem,-c,-a,-hJ];done)|rfl) rfl AG (by simp only[*,go_sem,-c,-a,-hJ]) (Lt aD al) fun v F' eb S=>?_
  obtain ⟨rfl,rfl,rfl⟩:=S
  refine ai.nil a (c _ _ _ ?_);clear c K
  repeat apply aB (a _)
  refine bh a fun K c=>?_
  refine ai.bA (hJ _ rfl) 1 (n:=1) _ rfl rfl ?_;simp only[*,go_sem,-c,-a,-hJ]
  refine LA (caps:=#[.pointer (some ⟨M,0,none⟩),.pointer (some ⟨b3,0,none⟩),.pointer (some ⟨b4,0,none⟩),.pointer (some ⟨hL,0,none⟩),.pointer (some ⟨a4,0,none⟩),.pointer (some ⟨L,0,none⟩),.pointer (some ⟨U,0,none⟩),.pointer (some ⟨hI,0,none⟩)]) (f0:=142) ao ⟨_,rfl,(by first|(simp only[*,go_sem,-c,-a,-hJ];done)|rfl),rfl,rfl⟩ (by simp only[*,go_sem,-c,-a,-hJ]) ?_ ?_
  .exact LJ aD al ao u0 (p.mono f) (q.mono f) (s.mono f) (u.mono f) ad a7 (W.mono f) b2 (J.mono f) (f _ _ (e _ _ dp)) (f _ _ (e _ _ dq)) (f _ _ (e _ _ ds)) (f _ _ (e _ _ dt)) (f _ _ (e _ _ du)) (f _ _ (e _ _ dv)) (f _ _ (e _ _ dC)) (f _ _ (e _ _ dE)) (f _ _ (e _ _ dT)) hQ (f _ _ (e _ _ ea)) (f _ _ (e _ _ a6)) hP (cd i a7 ec)
  refine ai.nil a (c _ _ _ ?_);clear c K
  repeat apply aB (a _)
  refine bh a fun K c=>?_
  refine ai.bA (hJ _ rfl) 2 (n:=0) _ rfl rfl ?_;simp only[*,go_sem,-c,-a,-hJ]
  refine ai.nil a (c _ _ _ ?_);clear c K
  change ∃e0,e0<d.length - i/\D8 _ ae b3 b4 a4 U _ e0 _ _ _
  exact ⟨d.length - (i+1),by omega,i+1,hN,rfl,ao,rfl,e.trans f,(by simp only[*,go_sem,-a,-hJ]),(by simp only[*,go_sem,-a,-hJ]),(by simp only[*,go_sem,-a,-hJ]),(by simp only[*,go_sem,-a,-hJ]),(by simp only[*,go_sem,-a,-hJ]),(by simp only[*,go_sem,-a,-hJ]),(by simp only[*,go_sem,-a,-hJ]),(by simp only[*,go_sem,-a,-hJ]),(by simp only[*,go_sem,-a,-hJ]),(by simp only[*,go_sem,-a,-hJ]),(by simp only[*,go_sem,-a,-hJ]),(by simp only[*,go_sem,-a,-hJ]),(by simp only[*,go_sem,-a,-hJ]),rfl⟩
 .have c1:decide ((i:Int)<(d.length:Int))=false:=by simp;omega
  obtain rfl:i=d.length:=by omega
  repeat apply aB (a _)
  refine bh a fun K c=>?_
  refine ai.bA (hJ _ rfl) 1 (n:=0) _ rfl rfl ?_;simp only[*,go_sem,-c,-a,-hJ]
  refine ai.nil a (c _ _ _ ?_);clear c K
  repeat apply aB (a _)
  refine cD (a _) (by simp only[*,go_sem,-a,-hJ]) ?_
  refine o7 ?_
  simp only[go_sem]
  repeat apply aB (a _)
  refine bh a fun K c=>?_
  refine ai.gj (a _) rfl (by first|(simp only[*,go_sem,-c,-a,-hJ];done)|rfl) rfl FW (by simp only[*,go_sem,-c,-a,-hJ]) (Lu aD al) fun v F' eb S=>?_
  obtain ⟨rfl,rfl,rfl⟩:=S
  refine ai.nil a (c _ _ _ ?_);clear c K
  refine y8 o fun nd no=>?_
  have rI:∀off sp,O ⟨g,off,sp⟩=none:=fun off sp=>no g (by simp[keys]) off sp
  have hle:Le ⟨bR O g (X.cy (⟨L,M,g,d.length,(fun i=>bl[i]?.getD false),base,T0,B0⟩:X) TT).fin,[]⟩ ⟨O,[(g,(X.cy (⟨L,M,g,d.length,(fun i=>bl[i]?.getD false),base,T0,B0⟩:X) TT).fin)]⟩:=j7 (by simp[lk]) (by simp) trivial
  have ab:az rB (bR O g (X.cy (⟨L,M,g,d.length,(fun i=>bl[i]?.getD false),base,T0,B0⟩:X) TT).fin) (.slice (some ⟨g,0,none⟩) bl.length bl.length) bl:=az.flat (fun b=>[.bool b]) bl (fun _=>rfl) rI (by
   show (((List.range d.length).map fun i=>Value.bool (bl[i]?.getD false)).toArray).toList=_
   rw[<-cb]
   apply List.ext_getElem?
   intro j
   rw[LK bl]
   simp only[List.getElem?_map]
   rcases Nat.lt_or_ge j bl.length with y|y
   .simp[y]
   .simp[y]) (by omega)
  obtain ⟨D,ba⟩:∃D,D=bR O g (X.cy (⟨L,M,g,d.length,(fun i=>bl[i]?.getD false),base,T0,B0⟩:X) TT).fin:=⟨_,rfl⟩
  have ar:Ext O D:=by rw[ba];exact gm _ _ _
  have hR:Ext ro D:=I.trans (C.trans (e.trans ar))
  rw[<-ba] at hle ab
  refine D6 o hle ?_
  replace k:=k.mono ar
  have a6:D ⟨U,0,none⟩=some (.slice (some ⟨g,0,none⟩) bl.length bl.length):=by rw[cb];exact ar _ _ (e _ _ a6)
  clear hle nd no ba rI dp dq ds dt du dv dC dE dT ea a hJ aD al ho p q s u J b5 cd c1 hlen hA hi ar I C e hp hq hr ht hv hx hy hz fw fx gl gn gp gB gN gT a3 g0 g1 hf hg
  obtain ⟨_,_,B⟩:=k.op
  obtain ⟨_,_,Q⟩:=ab.op
  have hJ:=o
  clear o
  refine cM.of hJ ?_
  repeat apply af hJ
  apply aj hJ
  simp only[*,go_sem,-h]
  repeat apply af hJ
  apply aj hJ
  simp only[*,go_sem,-h]
  repeat apply af hJ
  apply aN hJ
  have h':=fV h;clear h;obtain ⟨hS,E,hT⟩:=h';have h:=True.intro
  refine bQ hJ [13,14,15,34,35,36,37,38,39,40,41,42,43,44,45,46,47] (fun m e1 F'=>∃(i23:Nat) (d17:Option Addr) (H:Nat) (a0:List (Nat×Obj)) (G:(List (List Int))),m=d.length - i23/\i23<=d.length/\bD (rK bl) i23 (d.drop i23) G=some hS/\F'=⟨D,a0⟩/\aO (rL rI) D 35 (.slice d17 G.length H) G a0/\G.length<=H/\slot e1 34= .int .i64 (i23:Int)/\slot e1 13= .slice d17 G.length H) d.length ?_ ?_
  .refine ⟨0,none,0,[],([]:List (List Int)),(Nat.sub_zero _).symm,Nat.zero_le _,E,rfl,aO.nil _ _ _,Nat.le_refl _,?_⟩
   simp only[*,go_sem,-h]
  .rintro kh P F' N ⟨i23,d17,H,a0,G,rfl,kj,E,rfl,bb,hV,kk,kl⟩
   have h:=True.intro
   have km:sz P=49:=by rw[N.size];simp only[*,go_sem,-h]
   have kn:P.defers=[]:=by rw[N.defers];simp only[*,go_sem,-h]
   have kp:slot P 6= .slice none 0 0:=by rw[N.dz 6 (by decide)];simp only[*,go_sem,-h]
   have ks:slot P 8= .pointer (some ⟨U,0,none⟩):=by rw[N.dz 8 (by decide)];simp only[*,go_sem,-h]
   have kt:slot P 32= .slice d38 d.length b0:=by rw[N.dz 32 (by decide)];simp only[*,go_sem,-h]
   have kv:slot P 33= .int .i64 (d.length:Int):=by rw[N.dz 33 (by decide)];simp only[*,go_sem,-h]
   clear N R hd
   repeat apply af hJ
   apply aj hJ
   simp only[*,go_sem,-h]
   repeat apply af hJ
   rcases Nat.lt_or_ge i23 d.length with hX|e3
   .refine dW hJ (by simp only[*,go_sem,-h]) ?_
    apply aI hJ
    obtain ⟨a2,bc⟩:∃x,d[i23]?=some x:=⟨_,List.getElem?_eq_getElem hX⟩
    rw[dh bc] at E
    have h':=fV E;clear E h;obtain ⟨kx,h,fa⟩:=h'
    unfold rK at h
    try dsimp only at h
    obtain ⟨ky,k0,hY,hZ,fb⟩:=B _ _ bc
    obtain ⟨hD,rfl,W⟩:=hZ;obtain ⟨d32,Y,rfl,hE,hF,k2⟩:=id W
    cases hY
    have h0:=fb 0 _ rfl;simp only[go_sem] at h0
    clear fb bc
    repeat apply af hJ
    apply aN hJ
    repeat apply af hJ
    refine ax hJ fun lb=>?_
    apply aj hJ
    simp only[*,go_sem,-h]
    repeat apply af hJ
    refine ax hJ fun lh=>?_
    apply aj hJ
    have h':=fV h;clear h;obtain ⟨h1,h2,h⟩:=h'
    obtain ⟨lj,ll,fg⟩:=cq h2
    obtain ⟨hB,ed,a8,a9,V⟩:=Q _ _ fg
    obtain rfl:ed=[.bool h1]:=a9
    cases a8
    have h3:=V 0 _ rfl;simp only[go_sem] at h3
    clear V fg
    try simp only[*,go_sem,-h]
    have h':=jd h;clear h;rcases h' with ⟨bd,h⟩|⟨bd,h⟩
    .try simp only[Int.ofNat_lt] at bd
     refine dW hJ (by simp only[*,go_sem,-h]) ?_
     refine ax hJ fun h4=>?_
     apply aj hJ
     have h':=fV h;clear h;obtain ⟨h5,h6,h⟩:=h'
     obtain ⟨h7,fi⟩:=c9 h6
     simp only[*,go_sem,-h]
     intro fp f45;have h8:=eK f45;have fr:=fL f45
     have h9:=aR.cons fr h4
     try simp only[av] at fr
     try simp only[*,go_sem,-h]
     refine AX (r:=(rL rI)) (l:=G) (x:=a2) (cs:=#[.slice d32 a2.length Y]) (e2:=35) [(fp,.cells #[.slice d32 a2.length Y] 35)] [] (by first|rfl|simp only[aV]|(simp only[aV];rfl)) bb h9 h7 ⟨_,rfl,W⟩ (by simp only[*,go_sem,-h]) h8 rfl rfl k7 k7 su sx rfl sw (by decide) (by decide) (fun ln fs bj ib ic lo=>?_)
     simp only[aV] at ic
     subst ib
     rw[<-fi] at bj;clear fi
     obtain ⟨d53,ih,rfl,ik⟩:=bj.len
     refine ⟨⟨D,(fp,.cells #[.slice d32 a2.length Y] 35)::fs⟩,Le.refl _,?_⟩
     apply aK
     try simp only[*,go_sem,-h]
     have h':=Option.some.inj h;clear h;subst h'
     have h:=True.intro
     have eh:=cw (n:=i23) (by have:=b1;omega)
     apply aj hJ
     simp only[*,go_sem,-h]
     refine ⟨d.length - (i23+1),by omega,_,Le.sub (List.Sublist.cons _ (List.Sublist.refl _)),i23+1,d53,ih,fs,h5,rfl,by omega,fa,rfl,bj,ik,?_⟩
     simp only[*,go_sem,-h]
    .try simp only[Int.ofNat_lt] at bd
     refine dO hJ (by simp only[*,go_sem,-h]) ?_
     apply aI hJ
     have h':=Option.some.inj h;clear h;subst h'
     have h:=True.intro
     have eh:=cw (n:=i23) (by have:=b1;omega)
     apply aj hJ
     simp only[*,go_sem,-h]
     refine ⟨d.length - (i23+1),by omega,_,Le.sub (List.Sublist.refl _),i23+1,d17,H,a0,G,rfl,by omega,fa,rfl,bb,hV,?_⟩
     simp only[*,go_sem,-h]
   .have lr:=Nat.not_lt.2 e3
    refine dO hJ (by simp only[*,go_sem,-h]) ?_
    rw[List.drop_eq_nil_of_le e3] at E
    have h':=Option.some.inj E;clear E h;subst h'
    have h:=hT
    dsimp only[ay] at h
    apply bJ
    simp only[go_sem]
    repeat apply af hJ
    refine ax hJ fun lv=>?_
    apply aj hJ
    simp only[*,go_sem,-h]
    have h':=Option.some.inj h;clear h;subst h'
    refine ax hJ fun ft=>?_
    obtain ⟨fu,bk,lx,fv,il⟩:=bb.k9 (([]:List (Nat×Obj))) [] [] (by first|rfl|simp only[aV]|(simp only[aV];rfl)) (by first|rfl|simp only[aV]|(simp only[aV];rfl)) ft (aF.nil _)
    clear ft
    refine cr (F:=⟨fu,([]:List (Nat×Obj))⟩) hJ il ?_
    obtain ⟨ly,lL,l1⟩:=fv.op
    replace k:=k.mono bk;clear B;obtain ⟨_,_,B⟩:=k.op
    replace ab:=ab.mono bk;clear Q;obtain ⟨_,_,Q⟩:=ab.op
    apply aA
    exact (lR (t:=6) rfl (by simp only[*,go_sem]) (by simp only[*,go_sem]) ⟨rfl,fu,hR.trans bk,Le.refl _,_,rfl,fv⟩).2
end Go.Proofs.YtghbphimkgamkaaGreatDoor
end
section
namespace Go.Proofs.YtghbphimkgamkaaGreatDoor
open Go Go.Sep Go.Proofs
set_option maxRecDepth 100000
set_option maxHeartbeats 4000000
def za (u0:ak)(b:Int):Option ((List Int)×Int):=
 ag (gS u0 ([(gu b),ov])) fun a=>cond ((a.2 != 0)) (some (([]:(List Int)),a.2)) (ag (mN a.1.book ([([]:(List Int))])) fun c=>ag (nt a.1 b c) fun d=>ag (xC d) fun e=>some (e,0))
theorem LN {ro:Addr->Option Value}(L:c6 ro)(u0:ak){s1 g i j:Value}(D:bL ro u0 s1 g i j)(a:Int){r:((List Int)×Int)}(h:za u0 a=some r):qd Tryz.prog 13 #[bv u0 s1 g i j,.int .i64 a] ro (fun v aM=>∃W,v= .tuple #[W,.int .i64 r.2]/\az rI aM W r.1):=by
 unfold za at h;have ba:=D.oc;simp only[bF] at ba;refine fO.go Tryz.func13 rfl Tryz.ntmps13 Tryz.results13 (by simp) fun Φ hJ A b5 hd hs=>?_;have ca:=hs 0;have k1:=hs 1;clear hs;apply ah hJ;simp only[*,go_sem];refine aC fun w c bb=>?_;try simp only[av] at bb
 apply af hJ;refine ax hJ fun bc=>?_;apply aj hJ;revert h;refine bS fun n bd h=>?_;simp only[*,go_sem];refine aC fun z X Y=>?_;have Z:=aR.cons Y bc;try simp only[av] at Y
 obtain ⟨B,M,ab⟩:=fX (b:=z) (o:=(.cells #[.func (.func 82) #[.int .i64 a] #[],.func (.func 83) #[] #[]] 133)) [] ((w,bk u0 s1 g i j)::[]) Z X (aF.cons c (aF.nil _));have ad:az (dc) (bR ro z (.cells #[.func (.func 82) #[.int .i64 a] #[],.func (.func 83) #[] #[]] 133)) (.slice (some ⟨z,0,none⟩) 2 2) [(gu a),ov]:=(az.two (r:=(dc)) (e:=133) (v:=.func (.func 82) #[.int .i64 a] #[]) (u:=.func (.func 83) #[] #[]) (x:=(gu a)) (y:=ov) (own:=[(z,.cells #[.func (.func 82) #[.int .i64 a] #[],.func (.func 83) #[] #[]] 133)]) X (by simp[lk]) rfl ⟨82,#[.int .i64 a],#[],rfl,⟨by simp only[go_sem],fun bj bl N _ _ _ _ _ O P Q R h=>by simp only[go_sem];exact wB a N ⟨O,P,Q,R⟩ h⟩⟩ ⟨83,#[],#[],rfl,⟨by simp only[go_sem],fun bj bl N _ _ _ _ _ O P Q R h=>by simp only[go_sem];exact H6 N ⟨O,P,Q,R⟩ h⟩⟩)
 generalize bR ro z (.cells #[.func (.func 82) #[.int .i64 a] #[],.func (.func 83) #[] #[]] 133)=cb at ad M B ab;refine hU hJ ab ?_;replace D:=D.mono B;replace c:=M.hd;replace L:=L.mono B;simp only[bt] at M;have bm:=aR.tl Z;refine b8 hJ _ (jO L u0 D ([(gu a),ov]) ad bd) fun v ae al ao k=>?_;obtain ⟨E,F,G,H,I,rfl,d,q⟩:=k;have bo:=d.oc;simp only[bF] at bo;have br:=q.oc;simp only[bF] at br;replace c:=ao.hd;simp only[bt] at ao;apply aK;simp only[*,go_sem];refine aC fun J f ar=>?_;have cd:=aR.cons ar bm;try simp only[av] at ar
 refine af hJ (ah hJ ?_);simp only[*,go_sem];revert h;refine aS hJ (fun bs h=>?_) fun bs h=>?_
 .cases h;apply ah hJ;simp only[*,go_sem];apply aA;simp only[*,go_sem];exact ⟨_,(B).trans al,Le.sub (List.nil_sublist _),_,rfl,az.nil _ _⟩
 refine aI hJ (af hJ ?_);refine ax hJ fun bz=>?_;refine cE hJ mixed 4 2 (by simp only[*,go_sem]) (by kernel_rfl) ?_;revert h;refine bS fun b0 b1 h=>?_;simp only[*,go_sem];refine aC fun C a0 a2=>?_;have a3:=aR.cons a2 bz;try simp only[av] at a2
 simp only[*,go_sem];obtain ⟨m,K,a4⟩:=fX (b:=C) (o:=(.cells #[.slice none 0 0] 35)) [] ((J,kn n.1 E F G H I)::(w,bk u0 s1 g i j)::[]) a3 a0 (aF.cons f (aF.cons c (aF.nil _)));have a5:az (rL rI) (bR ae C (.cells #[.slice none 0 0] 35)) (.slice (some ⟨C,0,none⟩) 1 1) [([]:(List Int))]:=(az.one (r:=(rL rI)) (e:=35) (cs:=#[.slice none 0 0]) (x:=([]:(List Int))) (own:=[(C,.cells #[.slice none 0 0] 35)]) a0 (by simp[lk]) ⟨_,rfl,az.nil _ _⟩)
 generalize bR ae C (.cells #[.slice none 0 0] 35)=cf at a5 K m a4;refine hU hJ a4 ?_;replace d:=d.mono m;replace q:=q.mono m;replace f:=K.hd;replace c:=K.tl.hd;simp only[bt] at K;have cl:=aR.tl a3;refine b8 hJ _ (Bt n.1.book d ([([]:(List Int))]) a5 b1) fun v cy s S k=>?_;obtain ⟨cS,rfl,a6⟩:=k;replace d:=d.mono s;replace q:=q.mono s;replace f:=S.hd;replace c:=S.tl.hd;simp only[bt] at S;obtain ⟨d92,c0,rfl,da,db,-⟩:=id a6;have dd:=e7 (l:=[(J,kn n.1 E F G H I),(w,bk u0 s1 g i j)]) (m.trans s) (aF.cons f (aF.cons c (aF.nil _)));refine ⟨by simp only[*,go_sem],?_⟩;refine k3 ?_;revert h;refine bS fun b2 b3 h=>?_;simp only[*,go_sem];refine nZ _ (D9 n.1 d.e d.p d.y d.t q a b0 a6 b3) fun v df T U k=>?_;obtain ⟨dk,rfl,a7⟩:=k;replace f:=U.hd;replace c:=U.tl.hd;simp only[bt] at U;obtain ⟨d111,dp,rfl,dq,ds,-⟩:=id a7;have dt:=e7 (l:=[(J,kn n.1 E F G H I),(w,bk u0 s1 g i j)]) ((m.trans s).trans T) (aF.cons f (aF.cons c (aF.nil _)));refine ⟨by simp only[*,go_sem],?_⟩;refine k3 ?_;revert h;refine bS fun du b4 h=>?_;cases h;simp only[*,go_sem];refine b8 hJ _ (H8 b2 a7 b4) fun v dv a8 V k=>?_;obtain ⟨dC,rfl,a9⟩:=k;replace f:=V.hd;replace c:=V.tl.hd;simp only[bt] at V;obtain ⟨d124,dE,rfl,dT,ea,-⟩:=id a9;have eb:=e7 (l:=[(J,kn n.1 E F G H I),(w,bk u0 s1 g i j)]) (((m.trans s).trans T).trans a8) (aF.cons f (aF.cons c (aF.nil _)));refine ⟨by simp only[*,go_sem],?_⟩;refine k3 ?_;simp only[*,go_sem];apply aA;simp only[*,go_sem];exact ⟨_,(((((B).trans al).trans m).trans s).trans T).trans a8,Le.sub (List.nil_sublist _),_,rfl,a9⟩
def pz (u0:ak)(c:Int)(a:(cO×Int))(st:(Bool×Int×(List (List Int))×Int)):Option (Fl (Bool×Int×(List (List Int))×Int) ((List Int)×Bool×Int)):=
 cond (decide (st.2.2.2<(IntKind.i64.wrap ((IntKind.i64.wrap (3 - (u0.props.length:Int)))+1)))) (ag (nt a.1 c st.2.2.1) fun b=>cond (decide (0<(b.length:Int))) (ag (aT b 0) fun d=>some (.rt (d,true,0))) (ag (mN a.1.book st.2.2.1) fun e=>some (.nx (st.1,st.2.1,e,(IntKind.i64.wrap (st.2.2.2+1)))))) (some (.bk (st.1,st.2.1,st.2.2.1,st.2.2.2)))
def nu (u0:ak)(b:Int):Option ((List Int)×Bool×Int):=
 ag (gS u0 ([(gu b)])) fun a=>cond ((a.2 != 0)) (some (([]:(List Int)),false,a.2)) (ag (aQ (pz u0 b a) fu (false,a.2,([([]:(List Int))]),0)) fun o=>ay o (fun c=>some (([]:(List Int)),false,0)) (fun _ _=>none) (fun r=>some r))
theorem zb {ro:Addr->Option Value}(K:c6 ro)(u0:ak){s1 S k l:Value}(n:bL ro u0 s1 S k l)(a:Int){r:((List Int)×Bool×Int)}(h:nu u0 a=some r):qd Tryz.prog 16 #[bv u0 s1 S k l,.int .i64 a] ro (fun v aM=>∃T,v= .tuple #[T,.bool r.2.1,.int .i64 r.2.2]/\az rI aM T r.1):=by
 obtain ⟨d10,L,rfl,ed,eh,-⟩:=id n.p;unfold nu at h;have bm:=n.oc;simp only[bF] at bm;refine fO.go Tryz.func16 rfl Tryz.ntmps16 Tryz.results16 (by simp) fun Φ hJ A bo hd hs=>?_;have br:=hs 0;have k1:=hs 1;clear hs;apply ah hJ;simp only[*,go_sem];refine aC fun M C bs=>?_;try simp only[av] at bs
 apply af hJ;refine ax hJ fun bz=>?_;apply aj hJ;revert h;refine bS fun f b0 h=>?_;simp only[*,go_sem];refine aC fun q U V=>?_;have W:=aR.cons V bz;try simp only[av] at V
 obtain ⟨g,N,X⟩:=fX (b:=q) (o:=(.cells #[.func (.func 82) #[.int .i64 a] #[]] 133)) [] ((M,bk u0 s1 (sl d10 u0.props L) k l)::[]) W U (aF.cons C (aF.nil _));have Y:az (dc) (bR ro q (.cells #[.func (.func 82) #[.int .i64 a] #[]] 133)) (.slice (some ⟨q,0,none⟩) 1 1) [(gu a)]:=(az.one (r:=(dc)) (e:=133) (cs:=#[.func (.func 82) #[.int .i64 a] #[]]) (x:=(gu a)) (own:=[(q,.cells #[.func (.func 82) #[.int .i64 a] #[]] 133)]) U (by simp[lk]) ⟨82,#[.int .i64 a],#[],rfl,⟨by simp only[go_sem],fun et ev b1 _ _ _ _ _ b2 b3 b4 b5 h=>by simp only[go_sem];exact wB a b1 ⟨b2,b3,b4,b5⟩ h⟩⟩)
 generalize bR ro q (.cells #[.func (.func 82) #[.int .i64 a] #[]] 133)=eQ at Y N g X;refine hU hJ X ?_;replace n:=n.mono g;replace C:=N.hd;replace K:=K.mono g;simp only[bt] at N;have ca:=aR.tl W;refine b8 hJ _ (jO K u0 n ([(gu a)]) Y b0) fun v Z O ab s=>?_;obtain ⟨ad,ae,al,ao,ar,rfl,c,i⟩:=s;have cb:=c.oc;simp only[bF] at cb;have cd:=i.oc;simp only[bF] at cd;replace C:=ab.hd;simp only[bt] at ab;apply aK;simp only[*,go_sem];refine aC fun a0 cf a2=>?_;have eS:=aR.cons a2 ca;try simp only[av] at a2
 refine af hJ (ah hJ ?_);simp only[*,go_sem];revert h;refine aS hJ (fun cl h=>?_) fun cl h=>?_
 .cases h;apply ah hJ;simp only[*,go_sem];apply aA;simp only[*,go_sem];exact ⟨_,(g).trans O,Le.sub (List.nil_sublist _),_,rfl,az.nil _ _⟩
 refine aI hJ (af hJ ?_);refine ax hJ fun cy=>?_;apply aj hJ;simp only[*,go_sem];refine aC fun j a3 a4=>?_;have e0:=aR.cons a4 cy;try simp only[av] at a4
 refine af hJ (ah hJ ?_);simp only[*,go_sem];refine ax hJ fun a5=>?_;obtain ⟨u,a6,a7⟩:=fX (b:=j) (o:=(.cells #[.slice none 0 0] 35)) [] ((a0,kn f.1 ad ae al ao ar)::(M,bk u0 s1 (sl d10 u0.props L) k l)::[]) a5 a3 (aF.cons cf (aF.cons C (aF.nil _)));clear a5;have P:az (rL rI) (bR Z j (.cells #[.slice none 0 0] 35)) (.slice (some ⟨j,0,none⟩) 1 1) [([]:(List Int))]:=(az.one (r:=(rL rI)) (e:=35) (cs:=#[.slice none 0 0]) (x:=([]:(List Int))) (own:=[(j,.cells #[.slice none 0 0] 35)]) a3 (by simp[lk]) ⟨_,rfl,az.nil _ _⟩)
 generalize bR Z j (.cells #[.slice none 0 0] 35)=a8 at u a6 a7 P;refine cr hJ a7 ?_;obtain ⟨e1,e2,-⟩:=P.op;replace c:=c.mono u;replace i:=i.mono u;simp only[bt] at a6;apply aN hJ;revert h;refine bS fun cS D a9=>?_;refine bQ hJ (rg 27 17 [4,5,6,8,9]) (fun m E F'=>∃(F:Addr->Option Value) (d98:Option Addr) (Q:Nat) (G:Bool) (H:Int) (d:(List (List Int))) (I:Int),aQ (pz u0 a f) m (G,H,d,I)=some cS/\F'=⟨F,(a0,kn f.1 ad ae al ao ar)::(M,bk u0 s1 (sl d10 u0.props L) k l)::[]⟩/\Ext a8 F/\az (rL rI) F (.slice d98 d.length Q) d/\slot E 5= .bool G/\slot E 6= .int .i64 H/\slot E 8= .slice d98 d.length Q/\slot E 27= .int .i64 I) fu ?_ ?_
 .refine ⟨a8,(some ⟨j,0,none⟩),1,false,f.2,([([]:(List Int))]),0,D,rfl,Ext.refl _,P,?_⟩;simp only[*,go_sem]
 rintro R e3 F' ba ⟨F,d98,Q,G,H,d,I,D,rfl,w,z,fa,fb,fg,fi⟩;refine e6 hJ fun _ c0=>?_;replace c:=c.mono w;replace i:=i.mono w;simp only[bt] at c0;obtain ⟨fp,fr,-⟩:=z.op;obtain ⟨da,db,dd⟩:=ba.pick [1,7,26] (by decide);simp only[*,go_sem] at da db dd;clear ba bo hd br k1;obtain _|R:=R
 .exact absurd D (by simp only[aQ,reduceCtorEq,not_false_eq_true])
 revert D;refine bS fun fs h B=>?_;unfold pz at h;try dsimp only at h
 apply ah hJ;simp only[*,go_sem];apply af hJ;revert h;refine aS hJ (fun df h=>?_) fun df h=>?_
 .refine aI hJ (af hJ ?_);refine aN hJ (af hJ ?_);apply ah hJ;revert h;refine bS fun ft dk h=>?_;simp only[*,go_sem];refine nZ _ (D9 f.1 c.e c.p c.y c.t i a d z dk) fun v fv J dp s=>?_;obtain ⟨fw,rfl,bb⟩:=s;replace z:=z.mono J;replace c:=c.mono J;simp only[bt] at dp;obtain ⟨d121,fx,rfl,fz,gg,-⟩:=id bb;apply aK;simp only[*,go_sem];apply ah hJ;simp only[*,go_sem];revert h;refine aS hJ (fun dq h=>?_) fun dq h=>?_
  .apply ah hJ;revert h;refine bS fun gl ds h=>?_;cases h;obtain ⟨gn,gp,bc⟩:=cq ds;obtain ⟨gB,gC,dt,du,bd⟩:=bb.el _ _ bc;obtain ⟨gM,rfl,bj⟩:=du;obtain ⟨d130,gN,rfl,gT,gV,g0⟩:=id bj;cases dt;have dv:=bd 0 _ rfl;simp only[go_sem] at dv;clear bd bc;simp only[*,go_sem];obtain rfl:=sI B;clear B;have h:=a9;dsimp only[ay] at h;cases h;apply aA;simp only[*,go_sem];exact ⟨_,((((g).trans O).trans u).trans w).trans J,Le.sub (List.nil_sublist _),_,rfl,bj⟩
  refine aI hJ (aj hJ ?_);revert h;refine bS fun dC dE h=>?_;cases h;simp only[*,go_sem];refine b8 hJ _ (Bt f.1.book c d z dE) fun v dT ea eb s=>?_;obtain ⟨g1,rfl,bl⟩:=s;simp only[bt] at eb;obtain ⟨d144,ec,rfl,g2,g3,-⟩:=id bl;apply aK;simp only[*,go_sem];apply aj hJ;simp only[*,go_sem];refine ⟨R,Nat.lt_succ_self _,_,Le.sub (List.Sublist.refl _),dT,d144,ec,G,H,dC,(IntKind.i64.wrap (I+1)),B,rfl,(w.trans (J.trans ea)),bl,?_⟩;simp only[*,go_sem]
 cases h;apply bJ;simp only[go_sem];obtain rfl:=sI B;clear B;have h:=a9;dsimp only[ay] at h;cases h;apply ah hJ;simp only[*,go_sem];apply aA;simp only[*,go_sem];exact ⟨_,(((g).trans O).trans u).trans w,Le.sub (List.nil_sublist _),_,rfl,az.nil _ _⟩
end Go.Proofs.YtghbphimkgamkaaGreatDoor
end

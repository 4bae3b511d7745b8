/- A part of the proof: QX9. -/
import Derived.Test.YtdgblangfefjmaaGreatDoorQX8
import Derived.Conc.AtomicLaws2
import Derived.Conc.WgArith
set_option linter.all false
section
namespace Go.Sep
open Go Go.Conc
open Go.ConcN (sumTo upd upd_ne upd_same)
open Go.ConcM (MuAt muA msA muBlock OsLater)
open Go.ConcR (WgAt wgBlock stA smA)
section
variable {c:Cy}{i:Nat}{ph:Ph}{ops:Array Oper}{j n:Nat}{Q:Act->af->Ph->Prop}{a:Act}{F:af}{f fi:FuncId}{d:Option Tmp}
theorem dZ {s:Sh}:s.ms<=s.ms/\s.ws<=s.ws:=⟨Int.le_refl _,Int.le_refl _⟩
theorem xG (g:Entry c.P f (fun _=>do mark .disable;pure Extern.Race.none_)){vals:List Value}(l:At ops j a f vals d)(m:ph.gp≠ .gone)(p:ph.gp≠ .new)
  (h:ak (WJ c i) fi ops (j+1) n Q (bq a d (.tuple #[])) F {ph with deaf:=ph.deaf+1}):ak (WJ c i) fi ops j (n+1) Q a F ph:=by
 obtain ⟨o,cI,dG,e,hg,q,_,rfl⟩:=l
 refine fN e m fun w s k φ p0 _ hs r he t=>.inr ⟨.tuple #[],w,_,s,_,fun b u cs hb=>?_,hs,.refl _ _,t.BA r he p _,HY,.inr dZ,h⟩
 obtain ⟨fn,f1,f2,f3,f4,f5⟩:=g.ex
 exact stepG_mark0 .disable av e (cv hg) hb.kind q f1 f2 f3 f4 f5
theorem sQ (l:Entry c.P f (fun _=>do mark .enable;pure Extern.Race.none_)){vals:List Value}(m:At ops j a f vals d)(p:ph.gp≠ .gone)(q:ph.gp≠ .new){e:Nat}(hd:ph.deaf=e+1)
  (h:ak (WJ c i) fi ops (j+1) n Q (bq a d (.tuple #[])) F {ph with deaf:=e}):ak (WJ c i) fi ops j (n+1) Q a F ph:=by
 obtain ⟨o,cI,dG,g,hg,r,_,rfl⟩:=m
 refine fN g p fun w s k φ p0 _ hs t he u=>.inr ⟨.tuple #[],w,_,s,_,fun b v cs hb=>?_,hs,.refl _ _,u.BA t he q _,HZ hd,.inr dZ,h⟩
 obtain ⟨fn,f1,f2,f3,f4,f5⟩:=l.ex
 exact stepG_mark0 .enable av g (cv hg) hb.kind r f1 f2 f3 f4 f5
theorem od {k:Nat}{φ:Nat->Ph}{p0:P0}{s:Sh}(he:φ i=ph)(a:Inv c.n c.bs k φ p0 s):Inv c.n c.bs k (upd φ i ph) p0 s:=by rw[<-he,xB];exact a
theorem BB (l:Entry c.P f (Extern.Race.marked .acquire))(m:At ops j a f [.pointer (some (muA c.Mu))] d)(e:ph.gp= .cnt)
  (h:ak (WJ c i) fi ops (j+1) n Q (bq a d (.tuple #[])) F ph):ak (WJ c i) fi ops j (n+1) Q a F ph:=by
 obtain ⟨o,cI,dG,g,hg,p,q,rfl⟩:=m
 obtain ⟨x,rfl,r⟩:=jQ q
 refine fN g (by rw[e];simp) fun w s k φ p0 _ hs u he t=>.inr ⟨.tuple #[],w,_,s,ph,fun b v cs hb=>?_,hs,.refl _ _,od he t,.word (.acquire (muA c.Mu)) rfl (.inl rfl) rfl ⟨e,e⟩,.inr dZ,h⟩
 obtain ⟨fn,f1,f2,f3,f4,f5⟩:=l.ex
 exact stepG_markAt .acquire av g (cv hg) hb.kind p f1 f2 f3 f4 f5 (by simp[eR,r])
theorem H6 (l:Entry c.P f (Extern.Race.marked .releaseMerge))(m:At ops j a f [.pointer (some (muA c.Mu))] d)(e:ph.gp= .cnt)
  (h:ak (WJ c i) fi ops (j+1) n Q (bq a d (.tuple #[])) F ph):ak (WJ c i) fi ops j (n+1) Q a F ph:=by
 obtain ⟨o,cI,dG,g,hg,p,q,rfl⟩:=m
 obtain ⟨x,rfl,r⟩:=jQ q
 refine fN g (by rw[e];simp) fun w s k φ p0 _ hs u he t=>.inr ⟨.tuple #[],w,_,s,ph,fun b v cs hb=>?_,hs,.refl _ _,od he t,.word (.releaseMerge (muA c.Mu)) rfl (.inr rfl) rfl ⟨e,e⟩,.inr dZ,h⟩
 obtain ⟨fn,f1,f2,f3,f4,f5⟩:=l.ex
 exact stepG_markAt .releaseMerge av g (cv hg) hb.kind p f1 f2 f3 f4 f5 (by simp[eR,r])
theorem H7 (r:Entry c.P f (Extern.Race.marked .releaseMerge))(t:At ops j a f [.pointer (some (stA c.Wg))] d)(g:ph.gp= .cnt)
  (hd:ph.deaf=0) (u:ph.mp= .idle\/ph.mp= .fin) (v:ph.stored=c.bs i)
  (h:ak (WJ c i) fi ops (j+1) n Q (bq a d (.tuple #[])) F {mp:=.fin,gp:=.rel,stored:=ph.stored,deaf:=0}):ak (WJ c i) fi ops j (n+1) Q a F ph:=by
 obtain ⟨o,cI,dG,q,hg,y,z,rfl⟩:=t
 obtain ⟨x,rfl,A⟩:=jQ z
 refine fN q (by rw[g];simp) fun w s k φ p0 _ hs l he p=>.inr ⟨.tuple #[],w,_,s,{mp:=.fin,gp:=.rel,stored:=ph.stored,deaf:=0},fun b B cs hb=>?_,hs,.refl _ _,?_,.rel rfl ⟨hd,rfl⟩ g,.inr dZ,h⟩
 .obtain ⟨fn,f1,f2,f3,f4,f5⟩:=r.ex
  exact stepG_markAt .releaseMerge av q (cv hg) hb.kind y f1 f2 f3 f4 f5 (by simp[eR,A])
 .obtain ⟨C,S,W,L,m,hm⟩:=p.m
  refine p.jN l he (by rw[g];simp) av ⟨C,S,W,L,m,mG hm l _ ?_⟩ (sF p.w l _ (.inr ⟨by rw[he];exact g,rfl⟩)) ?_ (fun _=>⟨v,rfl⟩)
  .rw[he];rcases u with e|e
   .exact .inr ⟨e,rfl⟩
   .exact .inl e.symm
  .have:=p.i.all i l
   rw[he] at this
   exact (xF this).symm
theorem sR (old nw:Int)(J:Entry c.P f (Extern.Atomic.casT (.int .i32)))(K:c.Mu≠c.Wg/\c.Mu≠c.Is/\c.Wg≠c.Is)(M:At ops j a f [.pointer (some (muA c.Mu)),.int .i32 old,.int .i32 nw] d)
  (e:ph.gp= .cnt) (D:0<ph.deaf)
  (N:∀φ ms C S W L m,φ i=ph->i<c.n->cF c.n φ old ms C S W L m->∃mp,(∃h l p q r,cF c.n (upd φ i {ph with mp:=mp}) nw ms h l p q r)/\ak (WJ c i) fi ops (j+1) n Q (bq a d (.bool true)) F {ph with mp:=mp})
  (O:∀φ mu ms C S W L m,φ i=ph->i<c.n->cF c.n φ mu ms C S W L m->mu≠old->∃mp,(∃h l p q r,cF c.n (upd φ i {ph with mp:=mp}) mu ms h l p q r)/\ak (WJ c i) fi ops (j+1) n Q (bq a d (.bool false)) F {ph with mp:=mp}):ak (WJ c i) fi ops j (n+1) Q a F ph:=by
 obtain ⟨o,cI,dG,t,hg,E,R,rfl⟩:=M
 obtain ⟨x,y,z,rfl,G,H,I⟩:=p8 R
 obtain ⟨fn,f1,f2,f3,f4,f5⟩:=J.ex
 refine fN t (by rw[e];simp) fun w s k φ p0 _ hs g he u=>.inr ?_
 obtain ⟨C,S,W,L,m,hm⟩:=u.m
 by_cases v:s.mu=old
 .subst v
  obtain ⟨mp,A,B⟩:=N φ s.ms C S W L m he g hm
  exact ⟨.bool true,_,_,{s with mu:=nw},{ph with mp:=mp},fun b T cs hb=>stepG_cas_hit t (cv hg) hb.kind E f1 f2 f3 f4 .i32 f5 G H I hs.mu.1 hs.mu.2,hs.Bx K nw,.set _ (.inl rfl),u.mutex g he e A,xD rfl Iff.rfl D (.inr ⟨rfl,e⟩),.inr dZ,B⟩
 .obtain ⟨mp,A,B⟩:=O φ s.mu s.ms C S W L m he g hm v
  exact ⟨.bool false,_,_,{s with mu:=s.mu},{ph with mp:=mp},fun b T cs hb=>stepG_cas_miss t (cv hg) hb.kind E f1 f2 f3 f4 .i32 f5 G H I hs.mu.1 hs.mu.2 v,hs,.refl _ _,u.mutex g he e A,xC false rfl Iff.rfl D (.inr ⟨rfl,e⟩),.inr dZ,B⟩
theorem xH (dl:Int)(r:Entry c.P f (Extern.Atomic.update (Op.intArith .add) .i32 true))(t:c.Mu≠c.Wg/\c.Mu≠c.Is/\c.Wg≠c.Is)(u:At ops j a f [.pointer (some (muA c.Mu)),.int .i32 dl] d)
  (g:ph.gp= .cnt) (v:0<ph.deaf)
  (h:∀φ mu ms C S W L m,φ i=ph->i<c.n->cF c.n φ mu ms C S W L m->∃mp nw,IntKind.i32.wrap (mu+dl)=nw/\(∃z A B D E,cF c.n (upd φ i {ph with mp:=mp}) nw ms z A B D E)/\ak (WJ c i) fi ops (j+1) n Q (bq a d (.int .i32 nw)) F {ph with mp:=mp}):
  ak (WJ c i) fi ops j (n+1) Q a F ph:=by
 obtain ⟨o,cI,dG,l,hg,G,H,rfl⟩:=u
 obtain ⟨x,y,rfl,I,J⟩:=p7 H
 obtain ⟨fn,f1,f2,f3,f4,f5⟩:=r.ex
 refine fN l (by rw[g];simp) fun w s k φ p0 _ hs p he q=>.inr ?_
 obtain ⟨C,S,W,L,m,hm⟩:=q.m
 obtain ⟨mp,nw,e,K,M⟩:=h φ s.mu s.ms C S W L m he p hm
 exact ⟨.int .i32 nw,_,_,{s with mu:=nw},{ph with mp:=mp},fun b N cs hb=>by rw[<-e];exact stepG_add_atomic l (cv hg) hb.kind G f1 f2 f3 f4 .i32 f5 I J hs.mu.1 hs.mu.2,by rw[<-e];exact hs.Bx t _,.set _ (.inl rfl),q.mutex p he g K,xD rfl Iff.rfl v (.inr ⟨rfl,g⟩),.inr dZ,M⟩
theorem oe {ty:TypeId}(q:(c.P.funcs[fi]?).any (·.norace)=true)(e:c.P.underlying ty=some (.int .i32)){x:Operand}(r:mI ops j a (.load ty x) d)(f:ph.gp= .cnt)(t:ev a x= .pointer (some (muA c.Mu)))
  (h:∀φ mu ms C S W L m,φ i=ph->i<c.n->cF c.n φ mu ms C S W L m->∃mp,(∃u v y z A,cF c.n (upd φ i {ph with mp:=mp}) mu ms u v y z A)/\ak (WJ c i) fi ops (j+1) n Q (bq a d (.int .i32 mu)) F {ph with mp:=mp}):
  ak (WJ c i) fi ops j (n+1) Q a F ph:=by
 obtain ⟨o,g,hg,B,rfl⟩:=r
 refine fN g (by rw[f];simp) fun w s k φ p0 _ hs l he p=>.inr ?_
 obtain ⟨C,S,W,L,m,hm⟩:=p.m
 obtain ⟨mp,D,E⟩:=h φ s.mu s.ms C S W L m he l hm
 have e1:execOp a.eval o=(do pure (.value (<-loadVar ty (muA c.Mu))):Sem Next):=by
  unfold execOp
  simp only[B,eR,t]
  rfl
 have G:(execOp a.eval o).run c.P w= .ok (.value (.int .i32 s.mu)) w:=by
  rw[e1]
  have:=hs.mu.1
  simp[loadVar,isAgg,run_underlying e,this]
 have H:(execOp a.eval o).events c.P w #[]=#[⟨.cell (muA c.Mu),false,false⟩]:=by
  rw[e1]
  have:=hs.mu.1
  simp[loadVar,isAgg,run_underlying e,events_load,this]
 have I:seen c.P fi #[⟨.cell (muA c.Mu),false,false⟩]=#[]:=by rw[seen_def];simp[seenStep,q]
 refine ⟨.int .i32 s.mu,w,#[],{s with mu:=s.mu},{ph with mp:=mp},fun b J cs hb=>?_,hs,.refl _ _,p.mutex l he f D,mJ rfl Iff.rfl,.inr dZ,E⟩
 rw[stepG_value g (cv hg) hb.kind G]
 unfold listed
 rw[H,hb.fn,I]
end
section
variable {c:Cy}{i:Nat}{ph:Ph}{ops:Array Oper}{j n:Nat}{Q:Act->af->Ph->Prop}{a:Act}{F:af}{f fi:FuncId}{d:Option Tmp}
theorem H8 (u v:Value)(A:Entry c.P f Extern.Sync.semacquire)(B:c.Mu≠c.Wg/\c.Mu≠c.Is/\c.Wg≠c.Is)(D:At ops j a f [.pointer (some (msA c.Mu)),u,v] d)
  (e:ph.gp= .cnt) {G:Nat} (hm:ph.mp= .iH G) (h:ak (WJ c i) fi ops (j+1) n Q (bq a d (.tuple #[])) F {ph with mp:=.jL G}):ak (WJ c i) fi ops j (n+1) Q a F ph:=by
 obtain ⟨o,cI,dG,g,hg,p,E,rfl⟩:=D
 obtain ⟨x,y,z,rfl,q,_,_⟩:=p8 E
 obtain ⟨fn,f1,f2,f3,f4,f5⟩:=A.ex
 refine fN g (by rw[e];simp) fun w s k φ p0 _ hs r he t=>?_
 by_cases l:s.ms=0
 .refine .inl ⟨by rw[hm];rfl,l,fun b H cs=>stepG_semacquire_wait g (cv hg) p f1 f2 f3 f4 f5 (ad:=msA c.Mu) (by simp[eR,q]) (by rw[hs.ms.1,l])⟩
 .obtain ⟨C,S,W,L,m,hM⟩:=t.m
  have I:=hM.cnt
  refine .inr ⟨.tuple #[],_,_,{s with ms:=s.ms - 1},{ph with mp:=.jL G},fun b H cs hb=>stepG_semacquire g (cv hg) hb.kind p f1 f2 f3 f4 f5 (by simp[eR,q]) hs.ms.1 l hs.ms.2,hs.By B _,.set _ (.inl rfl),
   t.mutex r he e ⟨C,S,W,L,m - 1,G3 hM r _ (by rw[he];exact hm) rfl aa⟩,xE rfl Iff.rfl (.inr ⟨rfl,e⟩),.inr ⟨by simp only;omega,Int.le_refl _⟩,h⟩
theorem BC (u v:Value)(l:Entry c.P f Extern.Sync.semrelease)(A:c.Mu≠c.Wg/\c.Mu≠c.Is/\c.Wg≠c.Is)(B:At ops j a f [.pointer (some (msA c.Mu)),u,v] d)
  (e:ph.gp= .cnt) (hm:ph.mp= .nW\/ph.mp= .nZ) (h:ak (WJ c i) fi ops (j+1) n Q (bq a d (.tuple #[])) F {ph with mp:=.fin}):ak (WJ c i) fi ops j (n+1) Q a F ph:=by
 obtain ⟨o,cI,dG,p,hg,q,D,rfl⟩:=B
 obtain ⟨x,y,z,rfl,g,_,_⟩:=p8 D
 obtain ⟨fn,f1,f2,f3,f4,f5⟩:=l.ex
 refine fN p (by rw[e];simp) fun w s k φ p0 _ hs r he t=>.inr ?_
 obtain ⟨C,S,W,L,m,hM⟩:=t.m
 have G:=hM.cnt
 have hb:=hM.st.w
 have H:=hM.st.s
 have I:m<=1:=by
  rcases Nat.lt_or_ge S 1 with y|y
  .have:=hM.norm aa;omega
  .have:=hM.gh aa;omega
 have E:IntKind.u32.wrap (s.ms+1)=s.ms+1:=by
  unfold IntKind.wrap
  simp[IntKind.bits,IntKind.signed]
  omega
 refine ⟨.tuple #[],_,_,{s with ms:=s.ms+1},{ph with mp:=.fin},fun b J cs hb=>stepG_semrelease p (cv hg) hb.kind q f1 f2 f3 f4 f5 (by simp[eR,g]) hs.ms.1 hs.ms.2,by rw[E];exact hs.By A _,.set _ (.inl rfl),
  t.mutex r he e ⟨C,S,W,L,m+1,G9 hM r _ (by rw[he];exact hm) rfl⟩,xE rfl Iff.rfl (.inr ⟨rfl,e⟩),.inl ⟨_,q,fun x g=>?_⟩,h⟩
 cases g
 exact ⟨f,rfl,l.Bo⟩
theorem BD (l:Entry c.P f Extern.OsHooks.nano)(e:(c.P.funcs[f]?).any (·.norace)=true){vals:List Value}(m:At ops j a f vals d)
  (p:ph.gp≠ .gone) (h:∀x:Int,ak (WJ c i) fi ops (j+1) n Q (bq a d (.int .i64 x)) F ph):ak (WJ c i) fi ops j (n+1) Q a F ph:=by
 obtain ⟨o,cI,dG,g,hg,q,_,rfl⟩:=m
 obtain ⟨fn,f1,f2,f3,f4,f5⟩:=l.ex
 refine fN g p fun w s k φ p0 _ hs t he r=>.inr ⟨_,w.later,#[],s,ph,fun b u cs hb=>stepG_nanotime g (cv hg) hb.kind q f1 f2 f3 f4 f5 (by rw[f1] at e;simpa using e),hs,⟨rfl,rfl,rfl,⟨w.tick,rfl⟩,fun _ _=>rfl⟩,od he r,mJ rfl Iff.rfl,.inr dZ,h _⟩
theorem H9 (it:Int)(m:Entry c.P f Extern.Sync.canSpin)(p:At ops j a f [.int .i64 it] d)
  (q:ph.gp≠ .gone) (h:∀t:Bool,(t=true->it<4)->ak (WJ c i) fi ops (j+1) n Q (bq a d (.bool t)) F ph):ak (WJ c i) fi ops j (n+1) Q a F ph:=by
 obtain ⟨o,cI,dG,e,hg,g,r,rfl⟩:=p
 obtain ⟨x,rfl,u⟩:=jQ r
 obtain ⟨fn,f1,f2,f3,f4,f5⟩:=m.ex
 have hm:(#[x]:Array Operand).map a.eval=#[.int .i64 it]:=by simp[eR,u]
 refine fN e q fun w s k φ p0 _ hs z he l=>.inr ?_
 by_cases v:4<=it
 .exact ⟨_,w,#[],s,ph,fun b y cs hb=>stepG_canSpin_no e (cv hg) hb.kind g f1 f2 f3 f4 f5 hm v,hs,.refl _ _,od he l,mJ rfl Iff.rfl,.inr dZ,h false av⟩
 .exact ⟨_,w.asked,#[],s,ph,fun b y cs hb=>stepG_canSpin_ask e (cv hg) hb.kind g f1 f2 f3 f4 f5 hm aa,hs,⟨rfl,rfl,rfl,.refl _,fun _ _=>rfl⟩,od he l,mJ rfl Iff.rfl,.inr dZ,h _ (fun _=>aa)⟩
end
theorem ak.entry {P:Program}{main:Bool}{S:Type}{JF:S->Goroutine->af->Prop}{fi f:FuncId}{ops:Array Oper}{j n:Nat}{Q:Act->af->S->Prop}{a:Act}{F:af}{ph:S}{d:Option Tmp}(v:Value)(hM:eD P main (JF ph))(e:Entry P f (fun _=>pure v))
  {vals:List Value} (g:At ops j a f vals d) (h:ak JF fi ops (j+1) n Q (bq a d v) F ph):ak JF fi ops j (n+1) Q a F ph:=fun b c cs hb i=>by
 obtain ⟨fn,f1,f2,f3,f4,f5⟩:=e.ex
 obtain ⟨o,cI,dG,k,hg,l,_,rfl⟩:=g
 rw[List.range'_succ,eX hb.round]
 refine hM.move (fr':=b.at (a.put o.dst v) (.inRegion ops (List.range' (j+1) n)::c)) (fun w=>stepG_entry_pure v k (cv hg) hb.kind l f1 f2 f3 f4 f5) (by rw[<-eX hb.round];exact h b c cs hb i)
section
variable {c:Cy}{i:Nat}{ph:Ph}{ops:Array Oper}{j n:Nat}{Q:Act->af->Ph->Prop}{a:Act}{F:af}{f fi:FuncId}{d:Option Tmp}
theorem sS (ad:Addr){src dst t:TypeId}(hs:c.P.underlying src=some (.pointer t))(hd:c.P.underlying dst=some .unsafePointer)(e:(c.P.info? t).map (fun i=>decide (i.size=0))=some false){x:Operand}
  (m:mI ops j a (.convert src dst x) d) (p:ph.gp≠ .gone) (q:ev a x= .pointer (some ad)) (r:∀w s,cH c w s->∃v,w.cell? ad=some v) (h:ak (WJ c i) fi ops (j+1) n Q (bq a d (.pointer (some ad))) F ph):ak (WJ c i) fi ops j (n+1) Q a F ph:=by
 obtain ⟨o,f,hg,u,rfl⟩:=m
 refine fN f p fun w s k φ p0 _ g B he y=>.inr ⟨_,w,#[],s,ph,fun b C cs hb=>?_,g,.refl _ _,od he y,mJ rfl Iff.rfl,.inr dZ,h⟩
 obtain ⟨v,l⟩:=r w s g
 have e1:execOp a.eval o=(do pure (.value (<-convert src dst (.pointer (some ad)))):Sem Next):=by
  unfold execOp
  simp only[u,eR,q]
 have z:(execOp a.eval o).run c.P w= .ok (.value (.pointer (some ad))) w:=by
  rw[e1];simp[run_convert_to_unsafe hs hd e l]
 have A:(execOp a.eval o).events c.P w #[]=#[]:=by
  rw[e1];simp[events_convert_to_unsafe hs hd e l]
 rw[stepG_value f (cv hg) hb.kind z]
 unfold listed
 rw[A,seen_none]
theorem Ia {ty:TypeId}(M:c.P.underlying ty=some .bool)(A:bZ c.P ty=some 1)(B:(c.P.funcs[fi]?).any (·.norace)=false)(D:c.Mu≠c.Wg/\c.Mu≠c.Is/\c.Wg≠c.Is){x y:Operand}
  (E:mI ops j a (.store ty x y) d) (e:ph.gp= .cnt) (l:ev a x= .pointer (some ⟨c.Is,i,none⟩)) (p:ev a y= .bool true) (h:ak (WJ c i) fi ops (j+1) n Q (bq a d undef) F {ph with stored:=true}):ak (WJ c i) fi ops j (n+1) Q a F ph:=by
 obtain ⟨o,q,hg,r,rfl⟩:=E
 refine fN q (by rw[e];simp) fun w s k φ p0 _ hs f he g=>.inr ?_
 have hlen:=g.i.len
 have t:w.cell? ⟨c.Is,i,none⟩=some (.bool (s.is[i]'aa)):=by
  have:=hs.2.2
  simp[World.cell?,this,hlen,f]
 have u:w.frozen? ⟨c.Is,i,none⟩=false:=by
  have:=hs.2.2
  simp[World.frozen?,this]
 have v:(sizeOf ty).run c.P w= .ok 1 w:=by
  obtain ⟨inf,e,G⟩:=Option.map_eq_some_iff.1 A
  simp[Go.sizeOf,typeInfo,e,G]
 have z:Instr.sureAddr (.pointer (some ⟨c.Is,i,none⟩))=(Pure.pure ⟨c.Is,i,none⟩:Sem Addr):=rfl
 have H:(execOp a.eval o).run c.P w= .ok .skip (w.setCell ⟨c.Is,i,none⟩ (.bool true)):=by
  unfold execOp
  simp only[r,eR,l,p]
  simp[Instr.storeAt,z,storeVar,v,Value.cells,storeCells,Addr.add,t,u,run_store c.P w ⟨c.Is,i,none⟩ (.bool true) .plain rfl,Result.andThen]
 have I:(execOp a.eval o).events c.P w #[]=#[⟨.cell ⟨c.Is,i,none⟩,true,false⟩]:=by
  unfold execOp
  simp only[r,eR,l,p]
  simp[Instr.storeAt,z,storeVar,v,Value.cells,storeCells,Addr.add,t,u,events_store c.P w _ ⟨c.Is,i,none⟩ (.bool true) .plain rfl,run_store c.P w ⟨c.Is,i,none⟩ (.bool true) .plain rfl,Result.evThen]
 have J:seen c.P fi #[⟨.cell ⟨c.Is,i,none⟩,true,false⟩]=#[⟨.cell ⟨c.Is,i,none⟩,true,false⟩]:=by rw[seen_def];simp[seenStep,B]
 obtain ⟨C,S,W,L,m,hm⟩:=g.m
 refine ⟨undef,_,_,{s with is:=s.is.set i true},{ph with stored:=true},fun b N cs hb=>?_,hs.HX D i true,.set _ (.inr (.inr rfl)),?_,.store rfl rfl ⟨e,e⟩,.inr dZ,h⟩
 .rw[stepG_none q (cv hg) hb.kind H]
  unfold listed
  rw[I,hb.fn,J]
 .exact g.jN f he (by rw[e];simp) (by simp[e]) ⟨C,S,W,L,m,mG hm f _ (.inl (by rw[he]))⟩ (sF g.w f _ (.inl (by rw[he]))) rfl (fun K=>absurd e K)
end
theorem ak.shr {P:Program}{main:Bool}{S:Type}{JF:S->Goroutine->af->Prop}{fi:FuncId}{ops:Array Oper}{j n:Nat}{Q:Act->af->S->Prop}{a:Act}{F:af}{ph:S}{d:Option Tmp}{t f:TypeId}{k b:IntKind}{u m:Int}(v:Int)(hM:eD P main (JF ph)){x y:Operand}
  (g:mI ops j a (.binOp .shr t x y f) d) (i:ev a x= .int k u) (l:ev a y= .int b m) (hm:0<=m) (c:u.fdiv (2 ^ min m.toNat k.bits)=v) (h:ak JF fi ops (j+1) n Q (bq a d (.int k v)) F ph):ak JF fi ops j (n+1) Q a F ph:=by
 obtain ⟨o,p,hg,q,rfl⟩:=g
 have e:¬m<0:=aa
 have e1:execOp a.eval o=(do eqGuard .shr t x y (.int k u) (.int b m);pure (.value (<-binOp .shr t (.int k u) (.int b m))):Sem Next):=by
  unfold execOp
  simp only[q,eR,i,l]
  simp
 refine ak.plain hM (.int k v) p hg (fun w=>?_) (fun w=>?_) h
 .rw[e1];subst c;simp[eqGuard,binOp,Op.shift,e]
 .rw[e1];subst c;simp[eqGuard,binOp,Op.shift,e]
theorem ak.mK {P:Program}{main:Bool}{S:Type}{JF:S->Goroutine->af->Prop}{fi:FuncId}{ops:Array Oper}{j n:Nat}{Q:Act->af->S->Prop}{a:Act}{F:af}{ph:S}{d:Option Tmp}{t b:TypeId}(u v:Int)(hM:eD P main (JF ph)){x y:Operand}
  (c:mI ops j a (.binOp .shr t x y b) d) (e:ev a x= .int .i32 u) (f:ev a y= .int .u64 3) (g:u.fdiv 8=v) (h:ak JF fi ops (j+1) n Q (bq a d (.int .i32 v)) F ph):ak JF fi ops j (n+1) Q a F ph:=
 ak.shr v hM c e f aO g h
end Go.Sep
end
section
namespace Go.Proofs.YtdgblangfefjmaaGreatDoor
open Go Go.Sep Go.Proofs Go.Conc
open Go.ConcN (upd upd_same)
open Go.ConcM (muA msA)
open Go.ConcR (stA smA)
set_option maxRecDepth 100000
set_option maxHeartbeats 4000000
attribute [local go_sem] Int.reduceBEq Int.reduceBNe muA msA stA smA
section
variable {Mu Wg Is n base T0 i:Nat}{bs:Nat->Bool}{st:Bool}{F:af}
theorem xI (w:World)(s:Sh)(h:cH (CY Mu Wg Is n bs base T0) w s):∃v,w.cell? ⟨Mu,0,none⟩=some v:=⟨_,h.mu.1⟩
theorem Ib (b:Mu≠Wg/\Mu≠Is/\Wg≠Is)
  (c:cO Tryz.prog (WJ (CY Mu Wg Is n bs base T0) i) 213 #[.pointer (some (muA Mu))] F ⟨.idle,.cnt,st,1⟩ (fun v F' aV=>v= .tuple #[]/\F'=F/\aV=⟨.held,.cnt,st,0⟩)):
  cO Tryz.prog (WJ (CY Mu Wg Is n bs base T0) i) 185 #[.pointer (some (muA Mu))] F ⟨.idle,.cnt,st,0⟩ (fun v F' aV=>v= .tuple #[]/\F'=F/\aV=⟨.held,.cnt,st,0⟩):=by
 have hM:=WJ.eL (CY Mu Wg Is n bs base T0) i
 have hJ:∀ph:Ph,ph.gp= .cnt->Go.Sep.Closed Tryz.prog false (WJ (CY Mu Wg Is n bs base T0) i ph):=fun ph h=>Wk.closed (CY Mu Wg Is n bs base T0) i ph h
 refine cO.go (main:=false) hM Tryz.func185 rfl Tryz.ntmps185 av fun A e hd hs=>?_
 have f:=hs 0
 clear hs
 repeat apply aH (hM _)
 refine dn hM ?_
 refine xG p6 ⟨_,_,_,rfl,(by first|rfl|simp only[*,go_sem]),rfl,by first|(simp only[*,go_sem];done)|(simp only[*,go_sem];rfl),rfl⟩ av av ?_
 refine ak.nil hM ?_;try simp only[go_sem]
 repeat apply aH (hM _)
 refine dn hM ?_
 refine ak.bK (hJ _ rfl) 3 (n:=1) _ rfl rfl ?_;apply ag _
 refine sR 0 1 sN b ⟨_,_,_,rfl,(by first|rfl|simp only[*,go_sem]),rfl,by first|(simp only[*,go_sem];done)|(simp only[*,go_sem];rfl),rfl⟩ (by rfl) av (fun φ ms C S W L m he a hm=>⟨.held,⟨0,0,0,1,m,GY hm a _ (by rw[he]) rfl rfl⟩,?_⟩) (fun φ mu ms C S W L m he a hm g=>⟨.idle,⟨C,S,W,L,m,mG hm a _ (.inl (by rw[he]))⟩,?_⟩)
 .refine ak.nil hM ?_;try simp only[go_sem]
  repeat apply aH (hM _)
  refine dm (hM _) aI ?_
  repeat apply aH (hM _)
  refine dm (hM _) aI ?_
  repeat apply aH (hM _)
  refine dn hM ?_
  refine sQ lD ⟨_,_,_,rfl,(by first|rfl|simp only[*,go_sem]),rfl,by first|(simp only[*,go_sem];done)|(simp only[*,go_sem];rfl),rfl⟩ av av rfl ?_
  refine ak.nil hM ?_;try simp only[go_sem]
  repeat apply aH (hM _)
  refine dn hM ?_
  refine ak.bK (hJ _ rfl) 1 (n:=2) _ rfl rfl ?_;apply ag _
  refine sS ⟨Mu,0,none⟩ xx lE xz ⟨_,rfl,(by first|rfl|simp only[*,go_sem]),rfl,rfl⟩ av aI xI ?_
  refine BB sM ⟨_,_,_,rfl,(by first|rfl|simp only[*,go_sem]),rfl,by first|(simp only[*,go_sem];done)|(simp only[*,go_sem];rfl),rfl⟩ (by rfl) ?_
  refine ak.nil hM ?_;try simp only[go_sem]
  refine fM ?_;try simp only[go_sem]
  exact oa rfl aI ⟨rfl,rfl,rfl⟩
 .refine ak.nil hM ?_;try simp only[go_sem]
  repeat apply aH (hM _)
  refine cK (hM _) aI ?_
  apply cP (hM _);try simp only[go_sem]
  repeat apply aH (hM _)
  refine dn hM ?_
  refine ak.bK (hJ _ rfl) 1 (n:=1) _ rfl rfl ?_;apply ag _
  refine ak.gk (hM _) rfl rfl rfl Ds (by simp only[*,go_sem,muA]) c fun v F' aV d=>?_
  obtain ⟨rfl,rfl,rfl⟩:=d
  refine ak.nil hM ?_
  exact lB rfl aI ⟨rfl,rfl,rfl⟩
def jl (C S W:Nat)(nw:Int)(G:Nat):Mp:=if S=1 then .nZ else if 0<C/\W=0 then .gz nw G else .fin
def Ic (Mu n:Nat)(st:Bool)(F:af)(m:Nat)(a:Act)(F':af)(aV:Ph):Prop:=
 ∃(old:Int) (C S W L G:Nat),F'=F/\slot a 0= .pointer (some ⟨Mu,0,none⟩)/\slot a 4= .int .i32 old/\sz a=43/\a.defers=[]/\Wd old C S W L/\C<=3*n/\G<=m/\
   ((S=0/\L=0/\W=0/\0<C/\aV=⟨.gz old G,.cnt,st,1⟩)\/(¬(S=0/\L=0/\W=0/\0<C)/\aV=⟨.fin,.cnt,st,1⟩))
theorem Ie (g:Mu≠Wg/\Mu≠Is/\Wg≠Is)(ad:n<67108864){nw:Int}{C S W G:Nat}(hw:Wd nw C S W 0)(hC:C<=3*n):
  cO Tryz.prog (WJ (CY Mu Wg Is n bs base T0) i) 215 #[.pointer (some (muA Mu)),.int .i32 nw] F ⟨jl C S W nw G,.cnt,st,1⟩ (fun v F' aV=>v= .tuple #[]/\F'=F/\aV=⟨.fin,.cnt,st,1⟩):=by
 have hM:=WJ.eL (CY Mu Wg Is n bs base T0) i
 have hJ:∀ph:Ph,ph.gp= .cnt->Go.Sep.Closed Tryz.prog false (WJ (CY Mu Wg Is n bs base T0) i ph):=fun ph h=>Wk.closed (CY Mu Wg Is n bs base T0) i ph h
 refine cO.go (main:=false) hM Tryz.func215 rfl Tryz.ntmps215 av fun A y hd hs=>?_
 have z:=hs 0
 have k1:=hs 1
 clear hs
 have B:=hw.st.s
 have hW:=hw.st.w
 have w1:IntKind.i32.wrap (nw+1)=nw+1:=by have e0:=hw.st.eq;exact iJ aa aa
 have D:Wd (nw+1) C S W 1:=by have e0:=hw.st.eq;exact wd ⟨aa,aa,hW,B⟩ aa
 have M:eC (nw+1) 1=1:=D.a1
 repeat apply aH (hM _)
 refine dn hM ?_
 refine ak.bK (hJ _ rfl) 4 (n:=0) _ rfl rfl ?_;apply ag _
 refine ak.nil hM ?_;try simp only[go_sem]
 repeat apply aH (hM _)
 refine cK (hM _) aI ?_
 apply cP (hM _);try simp only[go_sem]
 rcases (by omega:S=1\/S=0) with rfl|rfl
 ·
  have b4:eC nw 4=4:=hw.a4
  repeat apply aH (hM _)
  refine dn hM ?_
  refine ak.bK (hJ _ rfl) 3 (n:=0) _ rfl rfl ?_;apply ag _
  refine ak.nil hM ?_;try simp only[go_sem]
  repeat apply aH (hM _)
  refine cK (hM _) aI ?_
  repeat apply aH (hM _)
  refine dn hM ?_
  refine ak.bK (hJ _ rfl) 3 (n:=1) _ rfl rfl ?_;apply ag _
  refine BC (.bool true) (.int .i64 2) Bq g ⟨_,_,_,rfl,(by first|rfl|simp only[*,go_sem]),rfl,by first|(simp only[*,go_sem];done)|(simp only[*,go_sem];rfl),rfl⟩ (by rfl) (by simp[jl]) ?_
  refine ak.nil hM ?_;try simp only[go_sem]
  exact lB rfl aI ⟨rfl,rfl,rfl⟩
 .have b4:eC nw 4=0:=hw.a4
  repeat apply aH (hM _)
  refine dn hM ?_
  refine ak.bK (hJ _ rfl) 3 (n:=0) _ rfl rfl ?_;apply ag _
  refine ak.nil hM ?_;try simp only[go_sem]
  repeat apply aH (hM _)
  refine dm (hM _) aI ?_
  repeat apply aH (hM _)
  refine dn hM ?_
  refine ak.bK (hJ _ rfl) 2 (n:=0) _ rfl rfl ?_;apply ag _
  refine ak.nil hM ?_;try simp only[go_sem]
  repeat apply aH (hM _)
  refine jO hM ?_
  refine p5 hM (fun m N F' aV=>Ic Mu n st F m N F' aV) G ?_ ?_
  .refine ⟨nw,C,0,W,0,G,rfl,by simp only[*,go_sem,muA],aI,aI,aI,hw,hC,Nat.le_refl _,?_⟩
   by_cases e:0<C/\W=0
   .exact .inl ⟨rfl,rfl,e.2,e.1,by simp[jl,e]⟩
   .exact .inr ⟨fun x=>e ⟨x.2.2.2,x.2.2.1⟩,by simp[jl,e]⟩
  .clear hw hC b4 M D w1 B hW z k1 y hd
   rintro m A F' aV ⟨old,C,S,W,L,G,rfl,z,ae,y,hd,hw,hC,al,O⟩
   repeat apply aH (hM _)
   refine jO hM ?_
   have sh:old.fdiv 8=(C:Int):=hw.sh
   rcases O with ⟨rfl,rfl,rfl,j,rfl⟩|⟨ao,rfl⟩
   ·
    have P:eC old 7=0:=hw.a7
    have E:((C:Int)==0)=false:=by simp;omega
    repeat apply aH (hM _)
    refine dn hM ?_
    refine ak.bK (hJ _ rfl) 1 (n:=7) _ rfl rfl ?_;apply ag _
    refine ak.mK old (C:Int) (hM _) ⟨_,rfl,(by first|rfl|simp only[*,go_sem]),rfl,rfl⟩ aI aI hw.sh ?_
    refine ak.bK (hJ _ rfl) 6 (n:=0) _ rfl rfl ?_;apply ag _
    refine ak.nil hM ?_;try simp only[go_sem]
    repeat apply aH (hM _)
    refine cK (hM _) aI ?_
    apply cP (hM _);try simp only[go_sem]
    have ar:IntKind.i32.wrap (old - 8)=old - 8:=by have e0:=hw.st.eq;exact iJ aa aa
    have Q:Wd (old - 8) (C - 1) 0 0 0:=by have e0:=hw.st.eq;exact wd ⟨aa,aa,aa,aa⟩ aa
    have o2:jg (old - 8) 2=old - 8+2:=Q.o2
    repeat apply aH (hM _)
    refine dn hM ?_
    refine ak.bK (hJ _ rfl) 4 (n:=0) _ rfl rfl ?_;apply ag _
    refine ak.nil hM ?_;try simp only[go_sem]
    repeat apply aH (hM _)
    refine dn hM ?_
    refine ak.bK (hJ _ rfl) 5 (n:=1) _ rfl rfl ?_;apply ag _
    refine sR old (old - 8+2) sN g ⟨_,_,_,rfl,(by first|rfl|simp only[*,go_sem]),rfl,by first|(simp only[*,go_sem];done)|(simp only[*,go_sem];rfl),rfl⟩ (by rfl) av (fun φ ms R T U V k he l hm=>?_) (fun φ mu ms R T U V k he l hm X=>?_)
    .obtain ⟨rfl,rfl,rfl,rfl⟩:=hm.st.uniq hw.st
     refine ⟨.nW,⟨_,_,_,_,k,G7 hm l _ (by rw[he]) rfl rfl rfl rfl j⟩,?_⟩
     refine ak.nil hM ?_;try simp only[go_sem]
     repeat apply aH (hM _)
     refine dm (hM _) aI ?_
     repeat apply aH (hM _)
     refine dn hM ?_
     refine ak.bK (hJ _ rfl) 3 (n:=1) _ rfl rfl ?_;apply ag _
     refine BC (.bool false) (.int .i64 2) Bq g ⟨_,_,_,rfl,(by first|rfl|simp only[*,go_sem]),rfl,by first|(simp only[*,go_sem];done)|(simp only[*,go_sem];rfl),rfl⟩ (by rfl) av ?_
     refine ak.nil hM ?_;try simp only[go_sem]
     refine fM ?_;try simp only[go_sem]
     exact oa rfl aI ⟨rfl,rfl,rfl⟩
    .obtain ⟨Y,a0,Z⟩:=G8 hm l {mp:=.gz mu (bU n φ ms),gp:=.cnt,stored:=st,deaf:=1} (by rw[he]) rfl
     have a2:bU n φ ms<G:=Z X
     refine ⟨.gz mu (bU n φ ms),⟨_,_,_,_,k,Y⟩,?_⟩
     refine ak.nil hM ?_;try simp only[go_sem]
     repeat apply aH (hM _)
     refine cK (hM _) aI ?_
     apply cP (hM _);try simp only[go_sem]
     repeat apply aH (hM _)
     refine dn hM ?_
     refine ak.bK (hJ _ rfl) 3 (n:=2) _ rfl rfl ?_;apply ag _
     refine oe HW ob ⟨_,rfl,(by first|rfl|simp only[*,go_sem]),rfl,rfl⟩ (by rfl) aI (fun b f c o p q r H I J d=>?_)
     have K:=wd d.st (by have:=d.bound;simp only[CY] at this;omega)
     by_cases a:p=0/\r=0/\q=0/\0<o
     .obtain ⟨t,u,_⟩:=A2 d J {mp:=.gz f (bU n b c),gp:=.cnt,stored:=st,deaf:=1} (by rw[I]) (.inl ⟨a.1,a.2.1,a.2.2.1,a.2.2.2,rfl⟩)
      have ab:bU n b c<=bU n φ ms:=u
      refine ⟨.gz f (bU n b c),⟨_,_,_,_,H,t⟩,?_⟩
      refine ak.bK (hJ _ rfl) 1 (n:=0) _ rfl rfl ?_;apply ag _
      refine ak.nil hM ?_;try simp only[go_sem]
      exact ⟨bU n b c,aa,f,o,p,q,r,bU n b c,rfl,aI,aI,aI,aI,K,d.bound,Nat.le_refl _,.inl ⟨a.1,a.2.1,a.2.2.1,a.2.2.2,rfl⟩⟩
     .obtain ⟨t,u,_⟩:=A2 d J {mp:=.fin,gp:=.cnt,stored:=st,deaf:=1} (by rw[I]) (.inr ⟨a,rfl⟩)
      have ab:bU n b c<=bU n φ ms:=u
      refine ⟨.fin,⟨_,_,_,_,H,t⟩,?_⟩
      refine ak.bK (hJ _ rfl) 1 (n:=0) _ rfl rfl ?_;apply ag _
      refine ak.nil hM ?_;try simp only[go_sem]
      exact ⟨bU n b c,aa,f,o,p,q,r,bU n b c,rfl,aI,aI,aI,aI,K,d.bound,Nat.le_refl _,.inr ⟨a,rfl⟩⟩
   ·
    by_cases j:C=0
    .have E:((C:Int)==0)=true:=by simp[j]
     repeat apply aH (hM _)
     refine dn hM ?_
     refine ak.bK (hJ _ rfl) 1 (n:=7) _ rfl rfl ?_;apply ag _
     refine ak.mK old (C:Int) (hM _) ⟨_,rfl,(by first|rfl|simp only[*,go_sem]),rfl,rfl⟩ aI aI hw.sh ?_
     refine ak.bK (hJ _ rfl) 6 (n:=0) _ rfl rfl ?_;apply ag _
     refine ak.nil hM ?_;try simp only[go_sem]
     repeat apply aH (hM _)
     refine dm (hM _) aI ?_
     refine fM ?_;try simp only[go_sem]
     exact oa rfl aI ⟨rfl,rfl,rfl⟩
    .have E:((C:Int)==0)=false:=by simp;omega
     have P:=hw.a7
     have a3:(((4*S+(2*W+L):Nat):Int) != 0)=true:=by simp;omega
     repeat apply aH (hM _)
     refine dn hM ?_
     refine ak.bK (hJ _ rfl) 1 (n:=7) _ rfl rfl ?_;apply ag _
     refine ak.mK old (C:Int) (hM _) ⟨_,rfl,(by first|rfl|simp only[*,go_sem]),rfl,rfl⟩ aI aI hw.sh ?_
     refine ak.bK (hJ _ rfl) 6 (n:=0) _ rfl rfl ?_;apply ag _
     refine ak.nil hM ?_;try simp only[go_sem]
     repeat apply aH (hM _)
     refine dm (hM _) aI ?_
     refine fM ?_;try simp only[go_sem]
     exact oa rfl aI ⟨rfl,rfl,rfl⟩
theorem Ig (f:Mu≠Wg/\Mu≠Is/\Wg≠Is)(k:n<67108864):
  cO Tryz.prog (WJ (CY Mu Wg Is n bs base T0) i) 186 #[.pointer (some (muA Mu))] F ⟨.held,.cnt,st,0⟩ (fun v F' aV=>v= .tuple #[]/\F'=F/\aV=⟨.fin,.cnt,st,0⟩):=by
 have hM:=WJ.eL (CY Mu Wg Is n bs base T0) i
 have hJ:∀ph:Ph,ph.gp= .cnt->Go.Sep.Closed Tryz.prog false (WJ (CY Mu Wg Is n bs base T0) i ph):=fun ph h=>Wk.closed (CY Mu Wg Is n bs base T0) i ph h
 refine cO.go (main:=false) hM Tryz.func186 rfl Tryz.ntmps186 av fun A y hd hs=>?_
 have z:=hs 0
 clear hs
 repeat apply aH (hM _)
 refine dm (hM _) aI ?_
 repeat apply aH (hM _)
 refine dn hM ?_
 refine ak.bK (hJ _ rfl) 3 (n:=1) _ rfl rfl ?_;apply ag _
 refine oe HV ob ⟨_,rfl,(by first|rfl|simp only[*,go_sem]),rfl,rfl⟩ (by rfl) aI (fun B D E G H I J l o p q=>⟨.held,⟨_,_,_,_,l,mG q p _ (.inl (by rw[o]))⟩,?_⟩)
 refine ak.nil hM ?_;try simp only[go_sem]
 repeat apply aH (hM _)
 refine dn hM ?_
 refine ak.bK (hJ _ rfl) 1 (n:=2) _ rfl rfl ?_;apply ag _
 refine sS ⟨Mu,0,none⟩ xx lE xz ⟨_,rfl,(by first|rfl|simp only[*,go_sem]),rfl,rfl⟩ av aI xI ?_
 refine H6 Bp ⟨_,_,_,rfl,(by first|rfl|simp only[*,go_sem]),rfl,by first|(simp only[*,go_sem];done)|(simp only[*,go_sem];rfl),rfl⟩ (by rfl) ?_
 refine ak.nil hM ?_;try simp only[go_sem]
 repeat apply aH (hM _)
 refine dn hM ?_
 refine xG p6 ⟨_,_,_,rfl,(by first|rfl|simp only[*,go_sem]),rfl,by first|(simp only[*,go_sem];done)|(simp only[*,go_sem];rfl),rfl⟩ av av ?_
 refine ak.nil hM ?_;try simp only[go_sem]
 repeat apply aH (hM _)
 refine dn hM ?_
 refine ak.bK (hJ _ rfl) 3 (n:=2) _ rfl rfl ?_;apply ag _
 refine xH (-1) xu f ⟨_,_,_,rfl,(by first|rfl|simp only[*,go_sem]),rfl,by first|(simp only[*,go_sem];done)|(simp only[*,go_sem];rfl),rfl⟩ (by rfl) av (fun φ mu ms C S W L m he g hm=>?_)
 have r:=A1 hm g (by rw[he])
 subst r
 have hb:C<=3*n:=hm.bound
 have t:=hm.st.s
 have hW:=hm.st.w
 have c:IntKind.i32.wrap (mu+ -1)=mu - 1:=by have e0:=hm.st.eq;exact iJ aa aa
 have j:St (mu - 1) C S W 0:=⟨by have e0:=hm.st.eq;omega,aa,hW,t⟩
 have hw:Wd (mu - 1) C S W 0:=wd j aa
 have d:cF n (upd φ i ⟨jl C S W (mu - 1) (sm n φ Mp.wt+2*m),.cnt,st,1⟩) (mu - 1) ms C S W 0 m:=by
  refine G6 hm g _ (by rw[he]) ?_
  by_cases a:S=1
  .exact .inl ⟨a,by simp[jl,a]⟩
  .by_cases b:0<C/\W=0
   .exact .inr (.inl ⟨aa,b.1,b.2,by simp[jl,a,b]⟩)
   .exact .inr (.inr ⟨aa,aa,by simp[jl,a,b]⟩)
 refine ⟨jl C S W (mu - 1) (sm n φ Mp.wt+2*m),mu - 1,c,⟨_,_,_,_,m,d⟩,?_⟩
 refine ak.bK (hJ _ rfl) 1 (n:=0) _ rfl rfl ?_;apply ag _
 refine ak.nil hM ?_;try simp only[go_sem]
 by_cases e:mu - 1=0
 .have e0:=j.eq
  have u:jl C S W (mu - 1) (sm n φ Mp.wt+2*m)= .fin:=by
   have:C=0:=aa
   have:S=0:=aa
   simp[jl, *]
  clear hw d c e0
  rw[u]
  rw[e]
  repeat apply aH (hM _)
  refine dn hM ?_
  refine ak.bK (hJ _ rfl) 2 (n:=0) _ rfl rfl ?_;apply ag _
  refine ak.nil hM ?_;try simp only[go_sem]
  repeat apply aH (hM _)
  refine cK (hM _) aI ?_
  apply cP (hM _);try simp only[go_sem]
  repeat apply aH (hM _)
  refine dn hM ?_
  refine sQ lD ⟨_,_,_,rfl,(by first|rfl|simp only[*,go_sem]),rfl,by first|(simp only[*,go_sem];done)|(simp only[*,go_sem];rfl),rfl⟩ av av rfl ?_
  refine ak.nil hM ?_;try simp only[go_sem]
  exact lB rfl aI ⟨rfl,rfl,rfl⟩
 .have K:(mu - 1 != 0)=true:=by simpa using e
  clear d c e
  repeat apply aH (hM _)
  refine dn hM ?_
  refine ak.bK (hJ _ rfl) 2 (n:=0) _ rfl rfl ?_;apply ag _
  refine ak.nil hM ?_;try simp only[go_sem]
  repeat apply aH (hM _)
  refine dm (hM _) aI ?_
  repeat apply aH (hM _)
  refine dn hM ?_
  refine ak.bK (hJ _ rfl) 2 (n:=1) _ rfl rfl ?_;apply ag _
  refine ak.gk (hM _) rfl rfl rfl Dt (by simp only[*,go_sem,muA]) (Ie f k hw hb) fun v F' aV x=>?_
  obtain ⟨rfl,rfl,rfl⟩:=x
  refine ak.nil hM ?_;try simp only[go_sem]
  repeat apply aH (hM _)
  refine dn hM ?_
  refine sQ lD ⟨_,_,_,rfl,(by first|rfl|simp only[*,go_sem]),rfl,by first|(simp only[*,go_sem];done)|(simp only[*,go_sem];rfl),rfl⟩ av av rfl ?_
  refine ak.nil hM ?_;try simp only[go_sem]
  exact lB rfl aI ⟨rfl,rfl,rfl⟩
end
end Go.Proofs.YtdgblangfefjmaaGreatDoor
end
section
namespace Go.Sep
open Go Go.Conc
def sU {S:Type}(b:Act->af->S->Prop)(Q:Ex->Act->af->S->Prop):Ex->Act->af->S->Prop
 | .normal,a,F,ph=>b a F ph
 |e,a,F,ph=>Q e a F ph
attribute [go_sem] sU
theorem kC {P:Program}{main:Bool}{S:Type}{JF:S->Goroutine->af->Prop}{fi:FuncId}{Q:Ex->Act->af->S->Prop}{a:Act}{F:af}{ph:S}(hM:∀ph,eD P main (JF ph)){x y:Code}(b:Act->af->S->Prop)
  (c:cX JF fi x (sU b Q) a F ph) (d:∀a F ph,b a F ph->cX JF fi y Q a F ph):cX JF fi (.seq x y) Q a F ph:=
 aH (hM _) (c.mono fun e a F ph h=>by
  cases e with
  |normal=>exact d a F ph h
  |exit i=>exact h
  |ret=>exact h)
theorem sV {P:Program}{main:Bool}{S:Type}{JF:S->Goroutine->af->Prop}{fi:FuncId}{Q:Ex->Act->af->S->Prop}{a:Act}{F:af}{ph:S}(hM:∀ph,eD P main (JF ph)){x:Code}(b:Act->af->S->Prop)
  (c:cX JF fi x (sU b Q) a F ph) (d:∀a F ph,b a F ph->Q .normal a F ph):cX JF fi x Q a F ph:=
 c.mono fun e a F ph h=>by
  cases e with
  |normal=>exact d a F ph h
  |exit i=>exact h
  |ret=>exact h
theorem bt {P:Program}{main:Bool}{S:Type}{JF:S->Goroutine->af->Prop}{fi:FuncId}{Q:Ex->Act->af->S->Prop}{a:Act}{F:af}{ph:S}(hM:∀ph,eD P main (JF ph)){id:Nat}{ops:Array Oper}
  (h:∀K:Act->af->S->Prop,(∀a F ph,Q .normal a F ph->K a F ph)->ak JF fi ops 0 ops.size K a F ph):cX JF fi (.region id ops false) Q a F ph:=dn hM (h _ fun _ _ _ h=>h)
theorem eP {S:Type}{b:Act->af->S->Prop}{Q:Ex->Act->af->S->Prop}{a:Act}{F:af}{ph:S}(h:b a F ph):sU b Q .normal a F ph:=h
theorem k4 {S:Type}{I:Nat->Act->af->S->Prop}{n:Nat}{Q:Ex->Act->af->S->Prop}{a:Act}{F:af}{ph:S}(h:∃m,m<n/\I m a F ph):xp I n Q .normal a F ph:=h
theorem Ih {x:Int}(a: -9223372036854775808<=x)(b:x<9223372036854775808):IntKind.i64.wrap x=x:=by
 unfold IntKind.wrap;simp[IntKind.bits,IntKind.signed];omega
end Go.Sep
namespace Go.Proofs.YtdgblangfefjmaaGreatDoor
open Go Go.Sep Go.Proofs Go.Conc
open Go.ConcN (upd upd_same)
open Go.ConcM (muA msA)
open Go.ConcR (stA smA)
set_option maxRecDepth 100000
set_option maxHeartbeats 8000000
set_option linter.all false
attribute [local go_sem] Int.reduceBEq Int.reduceBNe muA msA stA smA
def sW (Mu n:Nat)(st:Bool)(F:af)(m:Nat)(a:Act)(F':af)(ph:Ph):Prop:=
 ∃(wt it old:Int) (sv aw:Bool) (C S W L G:Nat),F'=F/\slot a 0= .pointer (some ⟨Mu,0,none⟩)/\slot a 2= .int .i64 wt/\slot a 3= .bool sv/\slot a 4= .bool aw/\slot a 5= .int .i64 it/\slot a 6= .int .i32 old/\sz a=139/\a.defers=[]/\
  Wd old C S W L/\C<=3*n/\0<=it/\it<=4/\(sv=true->aw=true)/\(aw=true->S=0/\W=1)/\8*G+(5 - it).toNat<=m/\ph=⟨.want aw old G,.cnt,st,1⟩
def sX (Mu:Nat)(st:Bool)(F:af)(a:Act)(F':af)(ph:Ph):Prop:=F'=F/\slot a 0= .pointer (some ⟨Mu,0,none⟩)/\sz a=139/\a.defers=[]/\ph=⟨.held,.cnt,st,1⟩
def Ii (Mu:Nat)(st:Bool)(F:af)(wt it:Int)(sv:Bool)(G:Nat)(a:Act)(F':af)(ph:Ph):Prop:=
 ∃(aw:Bool) (o:Int) (b:Nat),F'=F/\slot a 0= .pointer (some ⟨Mu,0,none⟩)/\slot a 2= .int .i64 wt/\slot a 3= .bool sv/\slot a 4= .bool aw/\slot a 5= .int .i64 it/\sz a=139/\a.defers=[]/\(sv=true->aw=true)/\b<=G/\ph=⟨.want aw o b,.cnt,st,1⟩
def p9 (Mu:Nat)(st:Bool)(F:af)(wt it old:Int)(x:Option Int)(sv aw:Bool)(G:Nat)(a:Act)(F':af)(ph:Ph):Prop:=
 F'=F/\slot a 0= .pointer (some ⟨Mu,0,none⟩)/\slot a 2= .int .i64 wt/\slot a 3= .bool sv/\slot a 4= .bool aw/\slot a 5= .int .i64 it/\slot a 6= .int .i32 old/\(∀y,x=some y->slot a 7= .int .i32 y)/\sz a=139/\a.defers=[]/\ph=⟨.want aw old G,.cnt,st,1⟩
def BE (Mu:Nat)(st:Bool)(F:af)(sv:Bool)(mp:Mp)(a:Act)(F':af)(ph:Ph):Prop:=
 ∃wt:Int,F'=F/\slot a 0= .pointer (some ⟨Mu,0,none⟩)/\slot a 2= .int .i64 wt/\slot a 3= .bool sv/\sz a=139/\a.defers=[]/\ph=⟨mp,.cnt,st,1⟩
def BG (Mu:Nat)(st:Bool)(F:af)(mp:Mp)(a:Act)(F':af)(ph:Ph):Prop:=
 ∃(wt:Int) (sv:Bool),F'=F/\slot a 0= .pointer (some ⟨Mu,0,none⟩)/\slot a 2= .int .i64 wt/\slot a 3= .bool sv/\sz a=139/\a.defers=[]/\ph=⟨mp,.cnt,st,1⟩
def Ij (Mu:Nat)(st:Bool)(F:af)(y:Bool)(a:Act)(F':af)(ph:Ph):Prop:=
 ∃e:Bool,F'=F/\slot a 0= .pointer (some ⟨Mu,0,none⟩)/\slot a 9= .int .i32 (-7)/\slot a 123= .bool e/\sz a=139/\a.defers=[]/\(e=false->y=true)/\ph=⟨.kz y,.cnt,st,1⟩
section
variable {Mu Wg Is n base T0 i:Nat}{bs:Nat->Bool}{st:Bool}{F:af}
theorem Ik (a6:Mu≠Wg/\Mu≠Is/\Wg≠Is)(e3:n<67108864):
  cO Tryz.prog (WJ (CY Mu Wg Is n bs base T0) i) 213 #[.pointer (some (muA Mu))] F ⟨.idle,.cnt,st,1⟩ (fun v F' aV=>v= .tuple #[]/\F'=F/\aV=⟨.held,.cnt,st,0⟩):=by
 have hM:=WJ.eL (CY Mu Wg Is n bs base T0) i
 have hJ:∀ph:Ph,ph.gp= .cnt->Go.Sep.Closed Tryz.prog false (WJ (CY Mu Wg Is n bs base T0) i ph):=fun ph h=>Wk.closed (CY Mu Wg Is n bs base T0) i ph h
 refine cO.go (main:=false) hM Tryz.func213 rfl Tryz.ntmps213 av fun A c hd hs=>?_
 have d:=hs 0
 clear hs
 repeat apply aH (hM _)
 refine bt hM fun K hK=>?_
 refine ak.bK (hJ _ rfl) 1 (n:=0) _ rfl rfl ?_;apply bX _
 refine ak.nil hM (hK _ _ _ ?_);clear hK K
 repeat apply aH (hM _)
 refine bt hM fun K hK=>?_
 refine ak.bK (hJ _ rfl) 1 (n:=0) _ rfl rfl ?_;apply bX _
 refine ak.nil hM (hK _ _ _ ?_);clear hK K
 repeat apply aH (hM _)
 refine bt hM fun K hK=>?_
 refine ak.bK (hJ _ rfl) 1 (n:=0) _ rfl rfl ?_;apply bX _
 refine ak.nil hM (hK _ _ _ ?_);clear hK K
 repeat apply aH (hM _)
 refine bt hM fun K hK=>?_
 refine ak.bK (hJ _ rfl) 1 (n:=0) _ rfl rfl ?_;apply bX _
 refine ak.nil hM (hK _ _ _ ?_);clear hK K
 repeat apply aH (hM _)
 refine bt hM fun K hK=>?_
 refine ak.bK (hJ _ rfl) 3 (n:=2) _ rfl rfl ?_;apply bX _
 refine oe sO ob ⟨_,rfl,cC,rfl,rfl⟩ (by rfl) er (fun φ mu ms C S W L m he a hm=>⟨.want false mu (bU n φ ms),⟨_,_,_,_,m,GZ hm a _ (by rw[he]) rfl⟩,?_⟩)
 have hw:=wd hm.st (by have:C<=3*n:=hm.bound;omega)
 have hC:C<=3*n:=hm.bound
 refine ak.bK (hJ _ rfl) 1 (n:=0) _ rfl rfl ?_;apply bX _
 refine ak.nil hM (hK _ _ _ ?_);clear hK K
 refine kC hM (sX Mu st F) ?_ ?_
 .repeat apply aH (hM _)
  refine jO hM ?_
  refine p5 hM (sW Mu n st F) (8*bU n φ ms+5) ?_ ?_
  .exact ⟨0,0,mu,false,false,C,S,W,L,bU n φ ms,rfl,ax,ax,ax,ax,ax,ax,ax,ax,hw,hC,aa,aa,av,av,av,rfl⟩
  .clear hw hC hm a he c hd d
   rintro m A F' aV ⟨wt,it,old,sv,aw,C,S,W,L,G,rfl,d,j,k,x,z,H,c,hd,hw,hC,fa,fb,U,V,fg,rfl⟩
   have cS:S=0\/S=1:=by have:=hw.st.s;omega
   have a7:L=0\/L=1:=by have:=hw.st.l;omega
   have bd:W=0\/W=1:=by have:=hw.st.w;omega
   repeat apply aH (hM _)
   refine jO hM ?_
   refine kC hM (p9 Mu st F' wt it old none sv aw G) ?_ ?_
   ·
    by_cases X:S=0/\L=1
    .obtain ⟨rfl,rfl⟩:=X
     have b5:eC old 5=1:=hw.a5
     repeat apply aH (hM _)
     refine bt hM fun K hK=>?_
     refine ak.bK (hJ _ rfl) 5 (n:=2) _ rfl rfl ?_;apply bX _
     refine H9 it HM ⟨_,_,_,rfl,cC,rfl,ee,rfl⟩ av fun t ht=>?_
     refine ak.bK (hJ _ rfl) 1 (n:=0) _ rfl rfl ?_;apply bX _
     refine ak.nil hM (hK _ _ _ ?_);clear hK K
     cases t
     .repeat apply aH (hM _)
      refine cK (hM _) ax ?_
      apply cP (hM _)
      exact eP ⟨rfl,ax,ax,ax,ax,ax,ax,av,ax,ax,rfl⟩
     .have fi:=ht rfl
      repeat apply aH (hM _)
      refine dm (hM _) ax ?_
      refine kC hM (Ii Mu st F' wt it sv G) ?_ ?_
      .cases aw
       .obtain rfl:sv=false:=by cases sv<;>simp_all
        rcases bd with rfl|rfl
        .have b2:eC old 2=0:=hw.a2
         by_cases dE:C=0
         .have br:((C:Int) != 0)=false:=by simp[dE]
          repeat apply aH (hM _)
          refine bt hM fun K hK=>?_
          refine ak.bK (hJ _ rfl) 9 (n:=12) _ rfl rfl ?_;apply bX _
          refine ak.mK old (C:Int) (hM _) ⟨_,rfl,cC,rfl,rfl⟩ er er hw.sh ?_
          refine ak.bK (hJ _ rfl) 11 (n:=0) _ rfl rfl ?_;apply bX _
          refine ak.nil hM (hK _ _ _ ?_);clear hK K
          repeat apply aH (hM _)
          refine cK (hM _) ax ?_
          apply cP (hM _)
          exact eP ⟨false,old,G,rfl,ax,ax,ax,ax,ax,ax,ax,av,Nat.le_refl _,rfl⟩
         .have br:((C:Int) != 0)=true:=by simp;omega
          have o2:jg old 2=old+2:=hw.o2
          repeat apply aH (hM _)
          refine bt hM fun K hK=>?_
          refine ak.bK (hJ _ rfl) 9 (n:=12) _ rfl rfl ?_;apply bX _
          refine ak.mK old (C:Int) (hM _) ⟨_,rfl,cC,rfl,rfl⟩ er er hw.sh ?_
          refine ak.bK (hJ _ rfl) 9 (n:=2) _ rfl rfl ?_;apply bX _
          refine sR old (old+2) sN a6 ⟨_,_,_,rfl,cC,rfl,ee,rfl⟩ (by rfl) av (fun φ ms bz al bS Y o he a hm=>?_) (fun φ mu ms bz al bS Y o he a hm df=>?_)
          .obtain ⟨rfl,rfl,rfl,rfl⟩:=hm.st.uniq hw.st
           refine ⟨.want true old G,⟨_,_,_,_,o,G0 hm a _ (by rw[he]) rfl rfl rfl rfl rfl⟩,?_⟩
           refine ak.bK (hJ _ rfl) 1 (n:=0) _ rfl rfl ?_;apply bX _
           refine ak.nil hM (hK _ _ _ ?_);clear hK K
           repeat apply aH (hM _)
           refine dm (hM _) ax ?_
           repeat apply aH (hM _)
           refine bt hM fun K hK=>?_
           refine ak.bK (hJ _ rfl) 1 (n:=0) _ rfl rfl ?_;apply bX _
           refine ak.nil hM (hK _ _ _ ?_);clear hK K
           exact eP ⟨true,old,G,rfl,ax,ax,ax,ax,ax,ax,ax,av,Nat.le_refl _,rfl⟩
          .obtain ⟨I,a8,bj⟩:=sD hm a {mp:=.want false mu (bU n φ ms),gp:=.cnt,stored:=st,deaf:=1} (by rw[he]) rfl
           refine ⟨.want false mu (bU n φ ms),⟨_,_,_,_,o,I⟩,?_⟩
           refine ak.bK (hJ _ rfl) 1 (n:=0) _ rfl rfl ?_;apply bX _
           refine ak.nil hM (hK _ _ _ ?_);clear hK K
           repeat apply aH (hM _)
           refine cK (hM _) ax ?_
           apply cP (hM _)
           exact eP ⟨false,mu,bU n φ ms,rfl,ax,ax,ax,ax,ax,ax,ax,av,a8,rfl⟩
        .have b2:eC old 2=2:=hw.a2
         repeat apply aH (hM _)
         refine bt hM fun K hK=>?_
         refine ak.bK (hJ _ rfl) 21 (n:=0) _ rfl rfl ?_;apply bX _
         refine ak.nil hM (hK _ _ _ ?_);clear hK K
         repeat apply aH (hM _)
         refine cK (hM _) ax ?_
         apply cP (hM _)
         exact eP ⟨false,old,G,rfl,ax,ax,ax,ax,ax,ax,ax,av,Nat.le_refl _,rfl⟩
       .repeat apply aH (hM _)
        refine bt hM fun K hK=>?_
        refine ak.bK (hJ _ rfl) 21 (n:=0) _ rfl rfl ?_;apply bX _
        refine ak.nil hM (hK _ _ _ ?_);clear hK K
        repeat apply aH (hM _)
        refine cK (hM _) ax ?_
        apply cP (hM _)
        exact eP ⟨true,old,G,rfl,ax,ax,ax,ax,ax,ax,ax,av,Nat.le_refl _,rfl⟩
      .clear d j k x z H c hd b5
       rintro A b Z ⟨bk,o2,dT,rfl,d,j,k,x,z,c,hd,ea,fp,rfl⟩
       have fr:IntKind.i64.wrap (it+1)=it+1:=Ih aa aa
       repeat apply aH (hM _)
       refine bt hM fun K hK=>?_
       refine ak.entry _ (hM _) HN ⟨_,_,_,rfl,cC,rfl,ee,rfl⟩ ?_
       refine ak.nil hM (hK _ _ _ ?_);clear hK K
       repeat apply aH (hM _)
       refine bt hM fun K hK=>?_
       refine ak.bK (hJ _ rfl) 3 (n:=0) _ rfl rfl ?_;apply bX _
       refine ak.nil hM (hK _ _ _ ?_);clear hK K
       repeat apply aH (hM _)
       refine bt hM fun K hK=>?_
       refine ak.bK (hJ _ rfl) 3 (n:=2) _ rfl rfl ?_;apply bX _
       refine oe sO ob ⟨_,rfl,cC,rfl,rfl⟩ (by rfl) er (fun φ mu ms O ae bl b0 b1 he a hm=>?_)
       obtain ⟨I,a8,bj⟩:=sD hm a {mp:=.want bk mu (bU n φ ms),gp:=.cnt,stored:=st,deaf:=1} (by rw[he]) rfl
       have ab:=wd hm.st (by have:O<=3*n:=hm.bound;omega)
       have a9:O<=3*n:=hm.bound
       have ca:bU n φ ms<=dT:=a8
       have cb:bk=true->ae=0/\bl=1:=fun e=>by subst e;exact AZ hm a (by rw[he])
       refine ⟨.want bk mu (bU n φ ms),⟨_,_,_,_,b1,I⟩,?_⟩
       refine ak.bK (hJ _ rfl) 1 (n:=0) _ rfl rfl ?_;apply bX _
       refine ak.nil hM (hK _ _ _ ?_);clear hK K
       refine n9 ?_
       change ∃o,o<m/\sW Mu n st b o _ _ _
       exact ⟨8*bU n φ ms+(5 - (it+1)).toNat,aa,wt,it+1,mu,sv,bk,O,ae,bl,b0,bU n φ ms,rfl,ax,ax,ax,ax,ax,ax,ax,ax,ab,a9,aa,aa,ea,cb,Nat.le_refl _,rfl⟩
    .have b5:=hw.a5
     have cd:(((4*S+L:Nat):Int)==1)=false:=by simp;omega
     repeat apply aH (hM _)
     refine bt hM fun K hK=>?_
     refine ak.bK (hJ _ rfl) 7 (n:=0) _ rfl rfl ?_;apply bX _
     refine ak.nil hM (hK _ _ _ ?_);clear hK K
     repeat apply aH (hM _)
     refine cK (hM _) ax ?_
     apply cP (hM _)
     exact eP ⟨rfl,ax,ax,ax,ax,ax,ax,av,ax,ax,rfl⟩
   .clear d j k x z H c hd
    rintro A b Z ⟨rfl,d,j,k,x,z,H,p,c,hd,rfl⟩
    clear p
    repeat apply aH (hM _)
    refine bt hM fun K hK=>?_
    refine ak.bK (hJ _ rfl) 2 (n:=0) _ rfl rfl ?_;apply bX _
    refine ak.nil hM (hK _ _ _ ?_);clear hK K
    obtain ⟨P,g,q⟩:∃P:Int,(S=0->P=old+1 - L)/\(S=1->P=old):=⟨if S=0 then old+1 - L else old,fun e=>by simp[e],fun e=>by simp[e]⟩
    refine kC hM (p9 Mu st b wt it old (some P) sv aw G) ?_ ?_
    .rcases cS with rfl|rfl
     .have b4:eC old 4=0:=hw.a4
      have o1:jg old 1=P:=by rw[g rfl,hw.o1];omega
      clear g q
      repeat apply aH (hM _)
      refine bt hM fun K hK=>?_
      refine ak.bK (hJ _ rfl) 3 (n:=0) _ rfl rfl ?_;apply bX _
      refine ak.nil hM (hK _ _ _ ?_);clear hK K
      repeat apply aH (hM _)
      refine dm (hM _) ax ?_
      repeat apply aH (hM _)
      refine bt hM fun K hK=>?_
      refine ak.bK (hJ _ rfl) 3 (n:=0) _ rfl rfl ?_;apply bX _
      refine ak.nil hM (hK _ _ _ ?_);clear hK K
      exact eP ⟨rfl,ax,ax,ax,ax,ax,ax,fun y f=>by cases f;simp only[*,go_sem,-hM,-hJ],ax,ax,rfl⟩
     .have b4:eC old 4=4:=hw.a4
      obtain rfl:=q rfl
      clear g q
      repeat apply aH (hM _)
      refine bt hM fun K hK=>?_
      refine ak.bK (hJ _ rfl) 3 (n:=0) _ rfl rfl ?_;apply bX _
      refine ak.nil hM (hK _ _ _ ?_);clear hK K
      repeat apply aH (hM _)
      refine cK (hM _) ax ?_
      apply cP (hM _)
      exact eP ⟨rfl,ax,ax,ax,ax,ax,ax,fun y f=>by cases f;simp only[*,go_sem,-hM,-hJ],ax,ax,rfl⟩
    clear d j k x z H c hd
    rintro A b Z ⟨rfl,d,j,k,x,z,H,p,c,hd,rfl⟩
    replace p:=p _ rfl
    obtain ⟨Q,u,D⟩:∃Q:Int,(S=1\/L=1->Q=P+8)/\(S=0->L=0->Q=P):=⟨if S=1\/L=1 then P+8 else P,fun e=>by simp[e],fun e cf=>by simp[e,cf]⟩
    refine kC hM (p9 Mu st b wt it old (some Q) sv aw G) ?_ ?_
    .by_cases X:S=1\/L=1
     .have b5:=hw.a5
      have cd:(((4*S+L:Nat):Int) != 0)=true:=by simp;omega
      have fs:IntKind.i32.wrap (P+8)=Q:=by
       have e0:=hw.st.eq
       rw[u X]
       refine iJ ?_ ?_<;>rcases cS with rfl|rfl<;>first|(have:=g rfl;omega)|(have:=q rfl;omega)
      clear g q u D X
      repeat apply aH (hM _)
      refine bt hM fun K hK=>?_
      refine ak.bK (hJ _ rfl) 3 (n:=0) _ rfl rfl ?_;apply bX _
      refine ak.nil hM (hK _ _ _ ?_);clear hK K
      repeat apply aH (hM _)
      refine dm (hM _) ax ?_
      repeat apply aH (hM _)
      refine bt hM fun K hK=>?_
      refine ak.bK (hJ _ rfl) 3 (n:=0) _ rfl rfl ?_;apply bX _
      refine ak.nil hM (hK _ _ _ ?_);clear hK K
      exact eP ⟨rfl,ax,ax,ax,ax,ax,ax,fun y f=>by cases f;simp only[*,go_sem,-hM,-hJ],ax,ax,rfl⟩
     .obtain rfl:S=0:=aa
      obtain rfl:L=0:=aa
      have b5:eC old 5=0:=hw.a5
      obtain rfl:=D rfl rfl
      clear g q u D X
      repeat apply aH (hM _)
      refine bt hM fun K hK=>?_
      refine ak.bK (hJ _ rfl) 3 (n:=0) _ rfl rfl ?_;apply bX _
      refine ak.nil hM (hK _ _ _ ?_);clear hK K
      repeat apply aH (hM _)
      refine cK (hM _) ax ?_
      apply cP (hM _)
      exact eP ⟨rfl,ax,ax,ax,ax,ax,ax,fun y f=>by cases f;simp only[*,go_sem,-hM,-hJ],ax,ax,rfl⟩
    clear d j k x z H p c hd
    rintro A b Z ⟨rfl,d,j,k,x,z,H,p,c,hd,rfl⟩
    replace p:=p _ rfl
    obtain ⟨J,M,r⟩:∃J:Int,(sv=true->L=1->J=Q+4)/\(¬(sv=true/\L=1)->J=Q):=⟨if sv=true/\L=1 then Q+4 else Q,fun e cf=>by simp[e,cf],fun e=>by simp[e]⟩
    refine kC hM (p9 Mu st b wt it old (some J) sv aw G) ?_ ?_
    .cases sv
     .obtain rfl:=r av
      clear g q u D M r
      repeat apply aH (hM _)
      refine bt hM fun K hK=>?_
      refine ak.bK (hJ _ rfl) 6 (n:=0) _ rfl rfl ?_;apply bX _
      refine ak.nil hM (hK _ _ _ ?_);clear hK K
      repeat apply aH (hM _)
      refine cK (hM _) ax ?_
      apply cP (hM _)
      exact eP ⟨rfl,ax,ax,ax,ax,ax,ax,fun y f=>by cases f;simp only[*,go_sem,-hM,-hJ],ax,ax,rfl⟩
     .obtain rfl:aw=true:=U rfl
      rcases a7 with rfl|rfl
      .have eb:eC old 1=0:=hw.a1
       obtain rfl:=r av
       clear g q u D M r
       repeat apply aH (hM _)
       refine bt hM fun K hK=>?_
       refine ak.bK (hJ _ rfl) 6 (n:=0) _ rfl rfl ?_;apply bX _
       refine ak.nil hM (hK _ _ _ ?_);clear hK K
       repeat apply aH (hM _)
       refine cK (hM _) ax ?_
       apply cP (hM _)
       exact eP ⟨rfl,ax,ax,ax,ax,ax,ax,fun y f=>by cases f;simp only[*,go_sem,-hM,-hJ],ax,ax,rfl⟩
      .have eb:eC old 1=1:=hw.a1
       have o4:jg Q 4=J:=by
        have e0:=hw.st.eq
        obtain ⟨rfl,rfl⟩:=V rfl
        have e1:=g rfl
        have e2:=u (.inr rfl)
        rw[M rfl rfl,(wd (C:=C+1) (S:=0) (W:=1) (L:=1) ⟨aa,aa,aa,aa⟩ aa).o4]
        omega
       clear g q u D M r
       repeat apply aH (hM _)
       refine bt hM fun K hK=>?_
       refine ak.bK (hJ _ rfl) 6 (n:=0) _ rfl rfl ?_;apply bX _
       refine ak.nil hM (hK _ _ _ ?_);clear hK K
       repeat apply aH (hM _)
       refine dm (hM _) ax ?_
       repeat apply aH (hM _)
       refine bt hM fun K hK=>?_
       refine ak.bK (hJ _ rfl) 3 (n:=0) _ rfl rfl ?_;apply bX _
       refine ak.nil hM (hK _ _ _ ?_);clear hK K
       exact eP ⟨rfl,ax,ax,ax,ax,ax,ax,fun y f=>by cases f;simp only[*,go_sem,-hM,-hJ],ax,ax,rfl⟩
    clear d j k x z H p c hd
    rintro A b Z ⟨rfl,d,j,k,x,z,H,p,c,hd,rfl⟩
    replace p:=p _ rfl
    obtain ⟨ad,R,T⟩:∃ad:Int,(aw=true->ad=J - 2)/\(aw=false->ad=J):=⟨if aw then J - 2 else J,fun e=>by simp[e],fun e=>by simp[e]⟩
    refine kC hM (p9 Mu st b wt it old (some ad) sv aw G) ?_ ?_
    .cases aw
     .obtain rfl:=T rfl
      clear g q u D M r R T
      repeat apply aH (hM _)
      refine bt hM fun K hK=>?_
      refine ak.bK (hJ _ rfl) 1 (n:=0) _ rfl rfl ?_;apply bX _
      refine ak.nil hM (hK _ _ _ ?_);clear hK K
      repeat apply aH (hM _)
      refine cK (hM _) ax ?_
      apply cP (hM _)
      exact eP ⟨rfl,ax,ax,ax,ax,ax,ax,fun y f=>by cases f;simp only[*,go_sem,-hM,-hJ],ax,ax,rfl⟩
     .obtain ⟨rfl,rfl⟩:=V rfl
      have ab:∃O ae,Wd J O ae 1 1:=by
       have e0:=hw.st.eq
       have e1:=g rfl
       rcases a7 with rfl|rfl
       .have e2:=D rfl rfl
        have ao:=r av
        exact ⟨C,0,wd ⟨aa,aa,aa,aa⟩ aa⟩
       .have e2:=u (.inr rfl)
        cases sv
        .have ao:=r av
         exact ⟨C+1,0,wd ⟨aa,aa,aa,aa⟩ aa⟩
        .have ao:=M rfl rfl
         exact ⟨C+1,1,wd ⟨aa,aa,aa,aa⟩ aa⟩
      obtain ⟨O,ae,ab⟩:=ab
      have b2:eC J 2=2:=ab.a2
      have n2:pZ J 2=ad:=by rw[R rfl,ab.n2];rfl
      clear g q u D M r R T
      repeat apply aH (hM _)
      refine bt hM fun K hK=>?_
      refine ak.bK (hJ _ rfl) 1 (n:=0) _ rfl rfl ?_;apply bX _
      refine ak.nil hM (hK _ _ _ ?_);clear hK K
      repeat apply aH (hM _)
      refine dm (hM _) ax ?_
      repeat apply aH (hM _)
      refine bt hM fun K hK=>?_
      refine ak.bK (hJ _ rfl) 3 (n:=0) _ rfl rfl ?_;apply bX _
      refine ak.nil hM (hK _ _ _ ?_);clear hK K
      repeat apply aH (hM _)
      refine cK (hM _) ax ?_
      apply cP (hM _)
      repeat apply aH (hM _)
      refine bt hM fun K hK=>?_
      refine ak.bK (hJ _ rfl) 3 (n:=0) _ rfl rfl ?_;apply bX _
      refine ak.nil hM (hK _ _ _ ?_);clear hK K
      exact eP ⟨rfl,ax,ax,ax,ax,ax,ax,fun y f=>by cases f;simp only[*,go_sem,-hM,-hJ],ax,ax,rfl⟩
    clear d j k x z H p c hd
    rintro A b Z ⟨rfl,d,j,k,x,z,H,p,c,hd,rfl⟩
    replace p:=p _ rfl
    repeat apply aH (hM _)
    refine bt hM fun K hK=>?_
    refine ak.bK (hJ _ rfl) 5 (n:=1) _ rfl rfl ?_;apply bX _
    refine sR old ad sN a6 ⟨_,_,_,rfl,cC,rfl,ee,rfl⟩ (by rfl) av (fun φ ms bz al bS Y o he a hm=>?_) (fun φ mu ms bz al bS Y o he a hm df=>?_)
    .obtain ⟨rfl,rfl,rfl,rfl⟩:=hm.st.uniq hw.st
     by_cases X:al=0/\Y=0
     .obtain ⟨rfl,rfl⟩:=X
      have N:ad=old+1 - (if aw then 2 else 0):=by
       have e1:=g rfl
       have e2:=D rfl rfl
       have ao:=r av
       cases aw
       .have N:=T rfl
        simp;omega
       .have N:=R rfl
        simp;omega
      have b5:eC old 5=0:=hw.a5
      refine ⟨.held,by rw[N];exact ⟨_,_,_,_,o,G1 hm a _ (by rw[he]) rfl rfl rfl (fun e=>(V e).2)⟩,?_⟩
      clear g q u D M r R T N he a hm U V cS a7 bd
      refine ak.nil hM (hK _ _ _ ?_);clear hK K
      repeat apply aH (hM _)
      refine dm (hM _) ax ?_
      repeat apply aH (hM _)
      refine bt hM fun K hK=>?_
      refine ak.bK (hJ _ rfl) 3 (n:=0) _ rfl rfl ?_;apply bX _
      refine ak.nil hM (hK _ _ _ ?_);clear hK K
      repeat apply aH (hM _)
      refine dm (hM _) ax ?_
      refine n9 ?_
      change sX Mu st b _ _ _
      exact ⟨rfl,ax,ax,ax,rfl⟩
     .have cl:al=1\/Y=1:=aa
      have N:ad=old+8+(if sv then 4 else 0) - (if aw then 2 else 0):=by
       have e2:=u cl
       rcases cS with rfl|rfl
       .have e1:=g rfl
        obtain rfl:Y=1:=aa
        cases sv
        .have ao:=r av
         cases aw
         .have N:=T rfl
          simp;omega
         .have N:=R rfl
          simp;omega
        .obtain rfl:aw=true:=U rfl
         have ao:=M rfl rfl
         have N:=R rfl
         simp;omega
       .have ec:aw=false:=by
         cases aw
         .rfl
         .exact absurd (V rfl).1 aa
        subst ec
        have ed:sv=false:=by
         cases sv
         .rfl
         .exact absurd (U rfl) av
        subst ed
        have e1:=q rfl
        have ao:=r av
        have N:=T rfl
        simp;omega
      have dk:sv=true->aw=true/\Y=1:=fun e=>⟨U e,by have:=V (U e);omega⟩
      have dp:bU n φ ms<=G:=(hm.seen i a (some old) G (by rw[he];rfl)).1
      have b5:=hw.a5
      have cd:(((4*al+Y:Nat):Int)==0)=false:=by simp;omega
      refine ⟨.iH (bU n φ ms),by rw[N];exact ⟨_,_,_,_,o,G2 hm a _ (by rw[he]) rfl cl dk⟩,?_⟩
      clear g q u D M r R T N he a hm U V cS a7 bd X cl dk
      revert dp
      generalize bU n φ ms=B
      intro dp
      refine ak.nil hM (hK _ _ _ ?_);clear hK K
      repeat apply aH (hM _)
      refine dm (hM _) ax ?_
      repeat apply aH (hM _)
      refine bt hM fun K hK=>?_
      refine ak.bK (hJ _ rfl) 3 (n:=0) _ rfl rfl ?_;apply bX _
      refine ak.nil hM (hK _ _ _ ?_);clear hK K
      repeat apply aH (hM _)
      refine cK (hM _) ax ?_
      apply cP (hM _)
      repeat apply aH (hM _)
      refine bt hM fun K hK=>?_
      refine ak.bK (hJ _ rfl) 3 (n:=0) _ rfl rfl ?_;apply bX _
      refine ak.nil hM (hK _ _ _ ?_);clear hK K
      repeat apply aH (hM _)
      refine bt hM fun K hK=>?_
      refine ak.bK (hJ _ rfl) 2 (n:=0) _ rfl rfl ?_;apply bX _
      refine ak.nil hM (hK _ _ _ ?_);clear hK K
      first|refine kC hM (BE Mu st b sv (.iH B)) ?_ ?_|refine sV hM (BE Mu st b sv (.iH B)) ?_ ?_
      .cases ft:(wt==0)
       .repeat apply aH (hM _)
        refine cK (hM _) ax ?_
        apply cP (hM _)
        exact eP ⟨wt,rfl,ax,ax,ax,ax,ax,rfl⟩
       .repeat apply aH (hM _)
        refine dm (hM _) ax ?_
        repeat apply aH (hM _)
        refine bt hM fun K hK=>?_
        refine BD Br Bw ⟨_,_,_,rfl,cC,rfl,ee,rfl⟩ av fun t=>?_
        refine ak.bK (hJ _ rfl) 1 (n:=0) _ rfl rfl ?_;apply bX _
        refine ak.nil hM (hK _ _ _ ?_);clear hK K
        exact eP ⟨t,rfl,ax,ax,ax,ax,ax,rfl⟩
      clear d j k x z H p c hd b5 cd
      rintro A b Z ⟨dq,rfl,d,j,k,c,hd,rfl⟩
      repeat apply aH (hM _)
      refine bt hM fun K hK=>?_
      refine ak.bK (hJ _ rfl) 4 (n:=1) _ rfl rfl ?_;apply bX _
      refine H8 (slot A 8) (.int .i64 2) HL a6 ⟨_,_,_,rfl,cC,rfl,ee,rfl⟩ (by rfl) rfl ?_
      refine ak.nil hM (hK _ _ _ ?_);clear hK K
      first|refine kC hM (BG Mu st b (.jL B)) ?_ ?_|refine sV hM (BG Mu st b (.jL B)) ?_ ?_
      .cases sv
       .repeat apply aH (hM _)
        refine bt hM fun K hK=>?_
        refine ak.bK (hJ _ rfl) 2 (n:=6) _ rfl rfl ?_;apply bX _
        refine BD Br Bw ⟨_,_,_,rfl,cC,rfl,ee,rfl⟩ av fun t=>?_
        refine ak.bK (hJ _ rfl) 5 (n:=0) _ rfl rfl ?_;apply bX _
        refine ak.nil hM (hK _ _ _ ?_);clear hK K
        exact eP ⟨dq,_,rfl,ax,ax,(by simp only[*,go_sem,-hM,-hJ];rfl),ax,ax,rfl⟩
       .repeat apply aH (hM _)
        refine bt hM fun K hK=>?_
        refine ak.bK (hJ _ rfl) 8 (n:=0) _ rfl rfl ?_;apply bX _
        refine ak.nil hM (hK _ _ _ ?_);clear hK K
        exact eP ⟨dq,true,rfl,ax,ax,ax,ax,ax,rfl⟩
      clear d j k c hd
      rintro A b Z ⟨eh,ds,rfl,d,j,k,c,hd,rfl⟩
      repeat apply aH (hM _)
      refine bt hM fun K hK=>?_
      refine ak.bK (hJ _ rfl) 3 (n:=2) _ rfl rfl ?_;apply bX _
      refine oe sO ob ⟨_,rfl,cC,rfl,rfl⟩ (by rfl) er (fun φ mu ms E ba cy c0 bm he a hm=>?_)
      have dt:E<=3*n:=hm.bound
      have ar:=wd hm.st aa
      rcases (by have:=hm.st.s;omega:ba=0\/ba=1) with rfl|rfl
      .obtain ⟨I,rfl,da⟩:=G4 hm a {mp:=.want true mu (bU n φ ms),gp:=.cnt,stored:=st,deaf:=1} (by rw[he]) rfl rfl
       have fu:bU n φ ms<B:=da
       refine ⟨.want true mu (bU n φ ms),⟨_,_,_,_,bm,I⟩,?_⟩
       have b4:eC mu 4=0:=ar.a4
       clear I da
       refine ak.bK (hJ _ rfl) 1 (n:=0) _ rfl rfl ?_;apply bX _
       refine ak.nil hM (hK _ _ _ ?_);clear hK K
       repeat apply aH (hM _)
       refine bt hM fun K hK=>?_
       refine ak.bK (hJ _ rfl) 3 (n:=0) _ rfl rfl ?_;apply bX _
       refine ak.nil hM (hK _ _ _ ?_);clear hK K
       repeat apply aH (hM _)
       refine cK (hM _) ax ?_
       apply cP (hM _)
       repeat apply aH (hM _)
       refine bt hM fun K hK=>?_
       refine ak.bK (hJ _ rfl) 1 (n:=0) _ rfl rfl ?_;apply bX _
       refine ak.nil hM (hK _ _ _ ?_);clear hK K
       repeat apply aH (hM _)
       refine bt hM fun K hK=>?_
       refine ak.bK (hJ _ rfl) 1 (n:=0) _ rfl rfl ?_;apply bX _
       refine ak.nil hM (hK _ _ _ ?_);clear hK K
       change ∃o,o<m/\sW Mu n st b o _ _ _
       exact ⟨8*bU n φ ms+5,aa,eh,0,mu,ds,true,E,0,1,c0,bU n φ ms,rfl,ax,ax,ax,ax,ax,ax,ax,ax,ar,dt,aa,aa,fun _=>rfl,fun _=>⟨rfl,rfl⟩,av,rfl⟩
      .obtain ⟨I,rfl,rfl,et⟩:=G5 hm a {mp:=.kz (decide (2<=E)),gp:=.cnt,stored:=st,deaf:=1} (by rw[he]) rfl rfl
       refine ⟨.kz (decide (2<=E)),⟨_,_,_,_,bm,I⟩,?_⟩
       have b4:eC mu 4=4:=ar.a4
       have b3:eC mu 3=0:=ar.a3
       have br:((E:Int)==0)=false:=by simp;omega
       have db:=ar.sh
       obtain ⟨y,f⟩:∃y,decide (2<=E)=y:=⟨_,rfl⟩
       have a0:((E:Int)==1)=false->y=true:=fun e=>by rw[<-f];simp at e ⊢;omega
       rw[f]
       clear I he a hm ar dt et f
       refine ak.bK (hJ _ rfl) 1 (n:=0) _ rfl rfl ?_;apply bX _
       refine ak.nil hM (hK _ _ _ ?_);clear hK K
       repeat apply aH (hM _)
       refine bt hM fun K hK=>?_
       refine ak.bK (hJ _ rfl) 3 (n:=0) _ rfl rfl ?_;apply bX _
       refine ak.nil hM (hK _ _ _ ?_);clear hK K
       repeat apply aH (hM _)
       refine dm (hM _) ax ?_
       repeat apply aH (hM _)
       refine bt hM fun K hK=>?_
       refine ak.bK (hJ _ rfl) 5 (n:=3) _ rfl rfl ?_;apply bX _
       refine ak.mK mu (E:Int) (hM _) ⟨_,rfl,cC,rfl,rfl⟩ er er db ?_
       refine ak.bK (hJ _ rfl) 2 (n:=0) _ rfl rfl ?_;apply bX _
       refine ak.nil hM (hK _ _ _ ?_);clear hK K
       repeat apply aH (hM _)
       refine cK (hM _) ax ?_
       apply cP (hM _)
       repeat apply aH (hM _)
       refine bt hM fun K hK=>?_
       refine ak.bK (hJ _ rfl) 1 (n:=0) _ rfl rfl ?_;apply bX _
       refine ak.nil hM (hK _ _ _ ?_);clear hK K
       repeat apply aH (hM _)
       refine sV hM (Ij Mu st b y) ?_ ?_
       .cases ds
        .repeat apply aH (hM _)
         refine bt hM fun K hK=>?_
         refine ak.bK (hJ _ rfl) 7 (n:=0) _ rfl rfl ?_;apply bX _
         refine ak.nil hM (hK _ _ _ ?_);clear hK K
         exact eP ⟨true,rfl,ax,ax,ax,ax,ax,av,rfl⟩
        .repeat apply aH (hM _)
         refine bt hM fun K hK=>?_
         refine ak.bK (hJ _ rfl) 4 (n:=3) _ rfl rfl ?_;apply bX _
         refine ak.mK mu (E:Int) (hM _) ⟨_,rfl,cC,rfl,rfl⟩ er er db ?_
         refine ak.bK (hJ _ rfl) 2 (n:=0) _ rfl rfl ?_;apply bX _
         refine ak.nil hM (hK _ _ _ ?_);clear hK K
         exact eP ⟨(E:Int)==1,rfl,ax,ax,ax,ax,ax,a0,rfl⟩
       clear d j k c hd b4 b3 br db a0
       rintro A b Z ⟨e,rfl,d,fv,fw,c,hd,a0,rfl⟩
       cases e
       .obtain rfl:=a0 rfl
        clear a0
        repeat apply aH (hM _)
        refine cK (hM _) ax ?_
        apply cP (hM _)
        repeat apply aH (hM _)
        refine bt hM fun K hK=>?_
        refine ak.bK (hJ _ rfl) 4 (n:=1) _ rfl rfl ?_;apply bX _
        refine xH (-7) xu a6 ⟨_,_,_,rfl,cC,rfl,ee,rfl⟩ (by rfl) av (fun φ mu ms O ae bl b0 b1 he a hm=>⟨.held,_,?_,⟨_,_,_,_,_,A0 hm a {mp:=.held,gp:=.cnt,stored:=st,deaf:=1} false (by rw[he]) rfl (fun _=>rfl)⟩,?_⟩)
        .have e0:=hm.st.eq
         have a9:O<=3*n:=hm.bound
         have ev:=hm.st.s
         have eQ:=hm.st.w
         have eS:=hm.st.l
         rw[iJ aa aa]
         simp;omega
        refine ak.nil hM (hK _ _ _ ?_);clear hK K
        refine n9 ?_
        change sX Mu st b _ _ _
        exact ⟨rfl,ax,ax,ax,rfl⟩
       .clear a0
        repeat apply aH (hM _)
        refine dm (hM _) ax ?_
        repeat apply aH (hM _)
        refine bt hM fun K hK=>?_
        refine ak.bK (hJ _ rfl) 3 (n:=0) _ rfl rfl ?_;apply bX _
        refine ak.nil hM (hK _ _ _ ?_);clear hK K
        repeat apply aH (hM _)
        refine bt hM fun K hK=>?_
        refine ak.bK (hJ _ rfl) 4 (n:=1) _ rfl rfl ?_;apply bX _
        refine xH (-11) xu a6 ⟨_,_,_,rfl,cC,rfl,ee,rfl⟩ (by rfl) av (fun φ mu ms O ae bl b0 b1 he a hm=>⟨.held,_,?_,⟨_,_,_,_,_,A0 hm a {mp:=.held,gp:=.cnt,stored:=st,deaf:=1} true (by rw[he]) rfl av⟩,?_⟩)
        .have e0:=hm.st.eq
         have a9:O<=3*n:=hm.bound
         have ev:=hm.st.s
         have eQ:=hm.st.w
         have eS:=hm.st.l
         rw[iJ aa aa]
         simp;omega
        refine ak.nil hM (hK _ _ _ ?_);clear hK K
        refine n9 ?_
        change sX Mu st b _ _ _
        exact ⟨rfl,ax,ax,ax,rfl⟩
    .obtain ⟨I,a8,bj⟩:=sD hm a {mp:=.want aw mu (bU n φ ms),gp:=.cnt,stored:=st,deaf:=1} (by rw[he]) rfl
     have da:bU n φ ms<G:=bj df
     refine ⟨.want aw mu (bU n φ ms),⟨_,_,_,_,o,I⟩,?_⟩
     clear g q u D M r R T I a8 bj he a hm V cS a7 bd
     refine ak.nil hM (hK _ _ _ ?_);clear hK K
     repeat apply aH (hM _)
     refine cK (hM _) ax ?_
     repeat apply aH (hM _)
     refine bt hM fun K hK=>?_
     refine ak.bK (hJ _ rfl) 3 (n:=2) _ rfl rfl ?_;apply bX _
     refine oe sO ob ⟨_,rfl,cC,rfl,rfl⟩ (by rfl) er (fun bb dd bc E ba cy c0 bm du dv bo=>?_)
     obtain ⟨ca,dC,_⟩:=sD bo dv {mp:=.want aw dd (bU n bb bc),gp:=.cnt,stored:=st,deaf:=1} (by rw[du]) rfl
     have fx:bU n bb bc<=bU n φ ms:=dC
     have a9:E<=3*n:=bo.bound
     have ab:=wd bo.st aa
     have cb:aw=true->ba=0/\cy=1:=fun e=>by subst e;exact AZ bo dv (by rw[du])
     refine ⟨.want aw dd (bU n bb bc),⟨_,_,_,_,bm,ca⟩,?_⟩
     clear ca dC
     refine ak.bK (hJ _ rfl) 1 (n:=0) _ rfl rfl ?_;apply bX _
     refine ak.nil hM (hK _ _ _ ?_);clear hK K
     change ∃o,o<m/\sW Mu n st b o _ _ _
     exact ⟨8*bU n bb bc+(5 - it).toNat,aa,wt,it,dd,sv,aw,E,ba,cy,c0,bU n bb bc,rfl,ax,ax,ax,ax,ax,ax,ax,ax,ab,a9,aa,aa,U,cb,Nat.le_refl _,rfl⟩
 .rintro A F' aV ⟨rfl,d,c,hd,rfl⟩
  repeat apply aH (hM _)
  refine dm (hM _) ax ?_
  repeat apply aH (hM _)
  refine bt hM fun K hK=>?_
  refine sQ lD ⟨_,_,_,rfl,cC,rfl,ee,rfl⟩ av av rfl ?_
  refine ak.nil hM (hK _ _ _ ?_);clear hK K
  repeat apply aH (hM _)
  refine bt hM fun K hK=>?_
  refine ak.bK (hJ _ rfl) 1 (n:=2) _ rfl rfl ?_;apply bX _
  refine sS ⟨Mu,0,none⟩ xx lE xz ⟨_,rfl,cC,rfl,rfl⟩ av er xI ?_
  refine BB sM ⟨_,_,_,rfl,cC,rfl,ee,rfl⟩ (by rfl) ?_
  refine ak.nil hM (hK _ _ _ ?_);clear hK K
  exact lB rfl ax ⟨rfl,rfl,rfl⟩
end
end Go.Proofs.YtdgblangfefjmaaGreatDoor
end
section
namespace Go.Proofs.YtdgblangfefjmaaGreatDoor
open Go Go.Sep Go.Proofs Go.Conc
open Go.ConcN (upd upd_same)
open Go.ConcM (muA msA)
open Go.ConcR (stA smA)
set_option maxRecDepth 100000
set_option maxHeartbeats 4000000
attribute [local go_sem] Int.reduceBEq Int.reduceBNe muA msA stA smA
section
variable {Mu Wg Is n base T0 i:Nat}{bs:Nat->Bool}{st:Bool}{F:af}
theorem Il (a:Mu≠Wg/\Mu≠Is/\Wg≠Is)(b:n<67108864):
  cO Tryz.prog (WJ (CY Mu Wg Is n bs base T0) i) 149 #[.pointer (some (muA Mu))] F ⟨.idle,.cnt,st,0⟩ (fun v F' aV=>v= .tuple #[]/\F'=F/\aV=⟨.held,.cnt,st,0⟩):=by
 have hM:=WJ.eL (CY Mu Wg Is n bs base T0) i
 have hJ:∀ph:Ph,ph.gp= .cnt->Go.Sep.Closed Tryz.prog false (WJ (CY Mu Wg Is n bs base T0) i ph):=fun ph h=>Wk.closed (CY Mu Wg Is n bs base T0) i ph h
 refine cO.go (main:=false) hM Tryz.func149 rfl Tryz.ntmps149 av fun A d hd hs=>?_
 have e:=hs 0
 clear hs
 repeat apply aH (hM _)
 refine dn hM ?_
 refine ak.bK (hJ _ rfl) 3 (n:=1) _ rfl rfl ?_;apply ag _
 refine ak.gk (hM _) rfl rfl rfl Dp (by simp only[*,go_sem,muA]) (Ib a (Ik a b)) fun v F' aV c=>?_
 obtain ⟨rfl,rfl,rfl⟩:=c
 refine ak.nil hM ?_
 exact lB rfl aI ⟨rfl,rfl,rfl⟩
theorem Im (a:Mu≠Wg/\Mu≠Is/\Wg≠Is)(b:n<67108864):
  cO Tryz.prog (WJ (CY Mu Wg Is n bs base T0) i) 150 #[.pointer (some (muA Mu))] F ⟨.held,.cnt,st,0⟩ (fun v F' aV=>v= .tuple #[]/\F'=F/\aV=⟨.fin,.cnt,st,0⟩):=by
 have hM:=WJ.eL (CY Mu Wg Is n bs base T0) i
 have hJ:∀ph:Ph,ph.gp= .cnt->Go.Sep.Closed Tryz.prog false (WJ (CY Mu Wg Is n bs base T0) i ph):=fun ph h=>Wk.closed (CY Mu Wg Is n bs base T0) i ph h
 refine cO.go (main:=false) hM Tryz.func150 rfl Tryz.ntmps150 av fun A d hd hs=>?_
 have e:=hs 0
 clear hs
 repeat apply aH (hM _)
 refine dn hM ?_
 refine ak.bK (hJ _ rfl) 3 (n:=1) _ rfl rfl ?_;apply ag _
 refine ak.gk (hM _) rfl rfl rfl Dq (by simp only[*,go_sem,muA]) (Ig a b) fun v F' aV c=>?_
 obtain ⟨rfl,rfl,rfl⟩:=c
 refine ak.nil hM ?_
 exact lB rfl aI ⟨rfl,rfl,rfl⟩
end
end Go.Proofs.YtdgblangfefjmaaGreatDoor
end
section
namespace Go.Sep
open Go Go.Conc
def sY (op:BinOp)(u v:Value):Option Value:=match op with
 | .shl=>match u,v with
  | .int k a,.int _ b=>if b<0 then none else some (.int k (k.wrap (a*2 ^ min b.toNat k.bits)))
  |_,_=>none
 | .shr=>match u,v with
  | .int k a,.int _ b=>if b<0 then none else some (.int k (a.fdiv (2 ^ min b.toNat k.bits)))
  |_,_=>none
 |_=>mP op u v
def og (P:Program)(op:Op)(a:Act):Option Value:=match op with
 | .move x| .assign x=>some (ev a x)
 | .nilCheck x=>match ev a x with
  | .pointer (some ad)=>some (.pointer (some ad))
  |_=>none
 | .pick c x y=>match ev a c with
  | .bool b=>some (if b then ev a x else ev a y)
  |_=>none
 | .binOp op t x y _=>sY op (ev a x) (ev a y)
 | .unOp op _ x=>lO op (ev a x)
 | .convert src dst x=>lS P src dst (ev a x)
 | .fieldAddr s x n=>match ev a x with
  | .pointer (some ad)=>match cu P s n with
   |some k=>some (.pointer (some (ad.add k)))
   |none=>none
  |_=>none
 |_=>none
theorem Io {P:Program}{op:BinOp}{t:TypeId}{x y:Operand}{u v r:Value}(h:sY op u v=some r)(w:World):
  (do eqGuard op t x y u v;pure (.value (<-binOp op t u v)):Sem Next).run P w= .ok (.value r) w/\(do eqGuard op t x y u v;pure (.value (<-binOp op t u v)):Sem Next).events P w #[]=#[]:=by
 unfold sY at h
 split at h
 .split at h
  case h_2=>cases h
  split at h
  .cases h
  .rename_i hb;cases h;simp[eqGuard,binOp,Op.shift,hb]
 .split at h
  case h_2=>cases h
  split at h
  .cases h
  .rename_i hb;cases h;simp[eqGuard,binOp,Op.shift,hb]
 .rename_i n1 n2
  unfold mP at h
  split at h
  case h_2=>cases h
  rename_i k a d b
  split at h
  case isFalse=>cases h
  rename_i c
  subst c
  cases op<;>simp only[binOp,ne_eq,not_true_eq_false,if_false,Op.intArith,Op.intDiv,Op.intCmp,Op.intBits,Op.shift,eqGuard] at h ⊢<;>first
   |(cases h;done)
   |(exact absurd rfl n1)
   |(exact absurd rfl n2)
   |(cases h;simp;done)
   |(split at h
     .cases h
     .rename_i hb;cases h;simp[hb])
theorem BH {P:Program}{o:Oper}{a:Act}{v:Value}(h:og P o.op a=some v)(w:World):(execOp a.eval o).run P w= .ok (.value v) w/\(execOp a.eval o).events P w #[]=#[]:=by
 obtain ⟨dst,op,type,pos,after,guard⟩:=o;unfold execOp;simp only[eR] at h ⊢;unfold og at h;cases op<;>simp only[reduceCtorEq] at h ⊢
 case move x=>cases h;simp
 case assign x=>cases h;simp
 case nilCheck x=>
  split at h
  .rename_i ad e;cases h;simp[e]
  .cases h
 case pick c x y=>
  split at h
  .rename_i b hb;cases h;simp[hb,asBool]
  .cases h
 case binOp op t x y r=>have:=Io (P:=P) (t:=t) (x:=x) (y:=y) h w;simpa using this
 case unOp op t x=>
  revert h;cases ev a x<;>cases op<;>simp only[lO,reduceCtorEq,false_implies,Option.some.injEq]<;>intro h<;>subst h<;>simp[Op.unary,Op.intArith]
 case convert src dst x=>
  revert h;cases e:ev a x<;>simp only[lS,reduceCtorEq,false_implies];intro h;split at h
  .rename_i k1 A i j;cases h;simp[convert,run_underlying i,run_underlying j,Conv.intToInt]
  .cases h
 case fieldAddr s x n=>
  split at h
  case h_2=>cases h
  rename_i ad l;split at h
  case h_2=>cases h
  rename_i k d;cases h;unfold cu at d;split at d
  case h_2=>cases d
  rename_i B g;split at d
  case h_2=>cases d
  rename_i f p;split at d
  case h_2=>cases d
  rename_i m hm;cases d;obtain ⟨inf,q,u⟩:=Option.map_eq_some_iff.1 hm;have z:Instr.sureAddr (.pointer (some ad))=(Pure.pure ad:Sem Addr):=rfl;simp[Instr.fieldAt,run_underlying g,g,p,l,z,fieldPlace,Go.sizeOf,typeInfo,q,u,Result.andThen,Result.evThen]
def iN (P:Program)(ops:Array Oper)(K:Act->Prop):List Oper->Act->Prop
 |[],a=>K a
 |o::rest,a=>match cJ ops o a with
  |some true=>match og P o.op a with
   |some v=>iN P ops K rest (bq a o.dst v)
   |none=>False
  |some false=>iN P ops K rest (bq a o.dst undef)
  |none=>False
theorem Ip {P:Program}{ops:Array Oper}{K:Act->Prop}{a:Act}:iN P ops K [] a=K a:=(Eq.refl _).trans (Eq.refl _)
theorem Iq {P:Program}{ops:Array Oper}{K:Act->Prop}{o:Oper}{rest:List Oper}{a:Act}:iN P ops K (o::rest) a=match cJ ops o a with
  |some true=>match og P o.op a with
   |some v=>iN P ops K rest (bq a o.dst v)
   |none=>False
  |some false=>iN P ops K rest (bq a o.dst undef)
  |none=>False:=(Eq.refl _).trans (Eq.refl _)
attribute [go_sem] Ip Iq og sY
section
variable {P:Program}{main:Bool}{S:Type}{JF:S->Goroutine->af->Prop}{fi:FuncId}{ops:Array Oper}{F:af}{ph:S}{Q:Act->af->S->Prop}
theorem xJ (hM:eD P main (JF ph)):∀(l:List Oper) (i n:Nat) (a:Act),(∀j o,l[j]?=some o->ops[i+j]?=some o)->iN P ops (fun b=>ak JF fi ops (i+l.length) n Q b F ph) l a->ak JF fi ops i (l.length+n) Q a F ph
 |[],i,n,a,_,h=>by rw[List.length_nil,Nat.zero_add];exact h
 |o::rest,i,n,a,g,h=>by
  have k:ops[i]?=some o:=g 0 o rfl
  have m:∀j x,rest[j]?=some x->ops[i+1+j]?=some x:=fun j x p=>by rw[Nat.add_assoc,Nat.add_comm 1 j];exact g (j+1) x p
  have e:(o::rest).length+n=(rest.length+n)+1:=by rw[List.length_cons];omega
  have e2:∀b,ak JF fi ops (i+(o::rest).length) n Q b F ph->ak JF fi ops (i+1+rest.length) n Q b F ph:=fun b x=>by
   rw[show i+1+rest.length=i+(o::rest).length by rw[List.length_cons];omega];exact x
  rw[e]
  have mono:∀(l:List Oper) (a:Act) {K d:Act->Prop},(∀a,K a->d a)->iN P ops K l a->iN P ops d l a:=by
   intro l
   induction l with
   |nil=>intro a K d f h;exact f a h
   |cons o l ih=>
    intro a K d f h
    unfold iN at h ⊢
    cases hg:cJ ops o a with
    |none=>rw[hg] at h;exact h.elim
    |some t=>
     rw[hg] at h
     cases t with
     |false=>exact ih _ f h
     |true=>
      simp only at h ⊢
      cases c:og P o.op a with
      |none=>rw[c] at h;exact h.elim
      |some v=>rw[c] at h;exact ih _ f h
  unfold iN at h
  split at h
  .rename_i hg
   split at h
   .rename_i v c
    exact ak.plain hM v k hg (fun w=>(BH c w).1) (fun w=>(BH c w).2) (xJ hM rest (i+1) n _ m (mono _ _ e2 h))
   .exact h.elim
  .rename_i hg
   exact ak.skip hM k hg (xJ hM rest (i+1) n _ m (mono _ _ e2 h))
  .exact h.elim
theorem ak.pure (hM:eD P main (JF ph))(m:Nat){i n:Nat}{a:Act}(l:List Oper)(c:(ops.toList.drop i).take m=l)(hm:l.length=m)(h:iN P ops (fun d=>ak JF fi ops (i+m) n Q d F ph) l a):ak JF fi ops i (m+n) Q a F ph:=by
 subst hm;refine xJ hM l i n a (fun j o b=>?_) h;rw[<-c] at b;have e:j<l.length:=by
  rcases Nat.lt_or_ge j l.length with x|x
  .exact x
  .rw[c,List.getElem?_eq_none x] at b;cases b
 rw[List.getElem?_take,if_pos e,List.getElem?_drop] at b;simpa using b
end
end Go.Sep
end
section
namespace Go.Sep
open Go Go.Conc
open Go.ConcN (sumTo upd upd_ne upd_same)
open Go.ConcM (MuAt muA msA muBlock OsLater)
open Go.ConcR (WgAt wgBlock stA smA)
section
variable {c:Cy}{i:Nat}{ph:Ph}{ops:Array Oper}{j n:Nat}{Q:Act->af->Ph->Prop}{a:Act}{F:af}{f fi:FuncId}{d:Option Tmp}
theorem Inv.group {k:Nat}{φ:Nat->Ph}{p0:P0}{s:Sh}(h:Inv c.n c.bs k φ p0 s)(a:i<c.n)(he:φ i=ph)(b:ph.gp≠ .new)(d:ph.gp≠ .cnt){gp:Gp}(e:gp≠ .new){wg ws:Int}
  (hw:dW c.n (upd φ i {ph with gp:=gp}) p0 wg ws):Inv c.n c.bs k (upd φ i {ph with gp:=gp}) p0 {s with wg:=wg,ws:=ws}:=by
 obtain ⟨C,S,W,L,m,hm⟩:=h.m
 refine h.jN a he b e ⟨C,S,W,L,m,mG hm a _ (.inl (by rw[he]))⟩ hw ?_ (fun _=>?_)
 .have:=h.i.all i a
  rw[he] at this
  exact (xF this).symm
 .have:=h.i.done i a (by rw[he];exact d) (by rw[he];exact b)
  rw[he] at this
  exact this
theorem Ir (p:Entry c.P f (Extern.Atomic.update (Op.intArith .add) .u64 true))(q:c.Mu≠c.Wg/\c.Mu≠c.Is/\c.Wg≠c.Is)(J:c.n<67108864)(r:At ops j a f [.pointer (some (stA c.Wg)),.int .u64 18446744069414584320] d)
  (e:ph.gp= .rel) (u:0<ph.deaf)
  (h:∀v t:Nat,v<=c.n->t<=1->ak (WJ c i) fi ops (j+1) n Q (bq a d (.int .u64 ((v:Int)*4294967296+t))) F {ph with gp:=if v=0/\t=1 then .ld else .gone}):
  ak (WJ c i) fi ops j (n+1) Q a F ph:=by
 obtain ⟨o,cI,dG,m,hg,z,A,rfl⟩:=r
 obtain ⟨x,y,rfl,B,C⟩:=p7 A
 obtain ⟨fn,f1,f2,f3,f4,f5⟩:=p.ex
 refine fN m (by rw[e];simp) fun w s k φ p0 _ hs g he l=>.inr ?_
 obtain ⟨v,t,e1,ht,D,_⟩:=A3 l.w g ph (by rw[he];exact e)
 obtain ⟨E,G,H,K,_,hw⟩:=A3 l.w g {ph with gp:=if v=0/\t=1 then .ld else .gone} (by rw[he];exact e)
 obtain ⟨rfl,rfl⟩:v=E/\t=G:=by simp only[di] at e1 H;omega
 have e2:IntKind.u64.wrap (s.wg+18446744069414584320)=(v:Int)*4294967296+t:=by
  rw[e1]
  unfold IntKind.wrap
  simp only[IntKind.bits,IntKind.signed,di]
  simp
  omega
 have I:s.wg - di=(v:Int)*4294967296+t:=by rw[e1];simp only[di];omega
 refine ⟨.int .u64 ((v:Int)*4294967296+t),_,_,{s with wg:=(v:Int)*4294967296+t},{ph with gp:=if v=0/\t=1 then .ld else .gone},fun b L cs hb=>by rw[<-e2];exact stepG_add_atomic m (cv hg) hb.kind z f1 f2 f3 f4 .u64 f5 B C hs.wg.1 hs.wg.2,by rw[<-e2];exact hs.sP q _,.set _ (.inr (.inl rfl)),?_,xD rfl ?_ u (.inl rfl),.inr dZ,h v t D ht⟩
 .refine l.group g he (by rw[e];simp) (by rw[e];simp) (by split<;>simp) ?_
  rw[<-I]
  exact hw rfl
 .simp only[e];split<;>simp
theorem It (p:Entry c.P f (Extern.Atomic.loadT (.int .u64)))(q:At ops j a f [.pointer (some (stA c.Wg))] d)(e:ph.gp= .ld)(r:0<ph.deaf)
  (h:ak (WJ c i) fi ops (j+1) n Q (bq a d (.int .u64 1)) F {ph with gp:=.st}):ak (WJ c i) fi ops j (n+1) Q a F ph:=by
 obtain ⟨o,cI,dG,g,hg,t,u,rfl⟩:=q
 obtain ⟨x,rfl,v⟩:=jQ u
 obtain ⟨fn,f1,f2,f3,f4,f5⟩:=p.ex
 refine fN g (by rw[e];simp) fun w s k φ p0 _ hs l he m=>.inr ?_
 obtain ⟨e1,hw⟩:=Hf m.w l {ph with gp:=.st} (by rw[he];exact e) rfl
 exact ⟨.int .u64 1,_,_,s,{ph with gp:=.st},fun b y cs hb=>by rw[<-e1];exact stepG_load_atomic g (cv hg) hb.kind t f1 f2 f3 f4 .u64 f5 v hs.wg.1,hs,.refl _ _,m.group l he (by rw[e];simp) (by rw[e];simp) av hw,xC false rfl (by simp[e]) r (.inl rfl),.inr dZ,h⟩
theorem Iu (p:Entry c.P f Extern.Atomic.storeT)(q:c.Mu≠c.Wg/\c.Mu≠c.Is/\c.Wg≠c.Is)(r:At ops j a f [.pointer (some (stA c.Wg)),.int .u64 0] d)(e:ph.gp= .st)(t:0<ph.deaf)
  (h:ak (WJ c i) fi ops (j+1) n Q (bq a d (.tuple #[])) F {ph with gp:=.sm}):ak (WJ c i) fi ops j (n+1) Q a F ph:=by
 obtain ⟨o,cI,dG,g,hg,u,v,rfl⟩:=r
 obtain ⟨x,y,rfl,z,A⟩:=p7 v
 obtain ⟨fn,f1,f2,f3,f4,f5⟩:=p.ex
 refine fN g (by rw[e];simp) fun w s k φ p0 _ hs l he m=>.inr ?_
 obtain ⟨e1,hw⟩:=Hg m.w l {ph with gp:=.sm} (by rw[he];exact e) rfl
 exact ⟨.tuple #[],_,_,{s with wg:=0},{ph with gp:=.sm},fun b B cs hb=>stepG_store_atomic g (cv hg) hb.kind u f1 f2 f3 f4 f5 z A hs.wg.1 hs.wg.2,hs.sP q _,.set _ (.inr (.inl rfl)),m.group l he (by rw[e];simp) (by rw[e];simp) av hw,xC true rfl (by simp[e]) t (.inl rfl),.inr dZ,h⟩
theorem Iv (t u:Value)(l:Entry c.P f Extern.Sync.semrelease)(v:c.Mu≠c.Wg/\c.Mu≠c.Is/\c.Wg≠c.Is)(A:At ops j a f [.pointer (some (smA c.Wg)),t,u] d)(e:ph.gp= .sm)
  (h:ak (WJ c i) fi ops (j+1) n Q (bq a d (.tuple #[])) F {ph with gp:=.gone}):ak (WJ c i) fi ops j (n+1) Q a F ph:=by
 obtain ⟨o,cI,dG,m,hg,p,B,rfl⟩:=A
 obtain ⟨x,y,z,rfl,g,_,_⟩:=p8 B
 obtain ⟨fn,f1,f2,f3,f4,f5⟩:=l.ex
 refine fN m (by rw[e];simp) fun w s k φ p0 _ hs q he r=>.inr ?_
 obtain ⟨e1,hw⟩:=Hh r.w q {ph with gp:=.gone} (by rw[he];exact e) rfl
 have C:IntKind.u32.wrap (s.ws+1)=s.ws+1:=by rw[e1];decide
 refine ⟨.tuple #[],_,_,{s with ws:=s.ws+1},{ph with gp:=.gone},fun b D cs hb=>stepG_semrelease m (cv hg) hb.kind p f1 f2 f3 f4 f5 (by simp[eR,g]) hs.ws.1 hs.ws.2,by rw[C];exact hs.Bz v _,.set _ (.inr (.inl rfl)),
  r.group q he (by rw[e];simp) (by rw[e];simp) av hw,xE rfl (by simp[e]) (.inl rfl),.inl ⟨_,p,fun x g=>?_⟩,h⟩
 cases g
 exact ⟨f,rfl,l.Bo⟩
end
end Go.Sep
end
section
namespace Go.Sep
open Go Go.Conc
open Go.ConcN (sumTo upd upd_ne upd_same)
theorem ak.defer {P:Program}{main:Bool}{S:Type}{JF:S->Goroutine->af->Prop}{fi f:FuncId}{ops:Array Oper}{j n:Nat}{Q:Act->af->S->Prop}{a:Act}{F:af}{ph:S}(hM:eD P main (JF ph)){o:Oper}{cI:Array Operand}{dG:Array TypeId}{vals:Array Value}
  (e:ops[j]?=some o) (hg:cJ ops o a=some true) (g:o.op= .defer {callee:=.value (.func f),args:=cI,argTypes:=dG}) (hd:o.dst=none) (k:cI.map a.eval=vals)
  (h:∀c:Act,(∀i,slot c i=slot a i)->sz c=sz a->c.defers=dcall f vals::a.defers->ak JF fi ops (j+1) n Q c F ph):ak JF fi ops j (n+1) Q a F ph:=fun b d cs hb l=>by
 rw[List.range'_succ,eX hb.round]
 refine hM.move (fr':=b.at (Act.put ⟨a.tmps,dcall f (cI.map a.eval)::a.defers⟩ o.dst undef) (.inRegion ops (List.range' (j+1) n)::d)) (fun w=>stepG_defer e (cv hg) hb.kind g) ?_
 rw[<-eX hb.round,hd,k]
 exact h ⟨a.tmps,dcall f vals::a.defers⟩ (fun _=>rfl) rfl rfl b d cs hb l
section
variable {c:Cy}{i:Nat}{ph:Ph}{F:af}{f:FuncId}
theorem Iw (g:Entry c.P f (fun _=>do mark .enable;pure Extern.Race.none_))(hg:ph.gp= .gone){d:Nat}(hd:ph.deaf=d+1){b:Frame}{a:Act}{todo:List Item}{cs:List Frame}{e:List Deferred}(j:a.defers=dcall f #[]::e)
  (h:WJ c i {ph with deaf:=d} (G {b.at ⟨a.tmps,e⟩ todo with mode:=.returning} cs) F):WJ c i ph (G {b.at a todo with mode:=.returning} cs) F:=by
 obtain ⟨F0,r,hle,hW⟩:=h
 obtain ⟨q,_,k⟩:=hW.left hg
 obtain ⟨fn,f1,f2,f3,f4,f5⟩:=g.ex
 refine Wk.gone (q:=q+1) hg (QuitsD.unwind_mark .enable rfl av j f1 f2 f3 f4 f5 ?_)
 rw[hd]
 exact k
def kD (f:FuncId)(R:Value->af->Ph->Prop):Ex->Act->af->Ph->Prop
 | .exit _,_,_,_=>False
 |_,a,F,ph=>a.defers=[dcall f #[]]/\ph.gp= .gone/\∃b,ph.deaf=b+1/\R (.tuple #[]) F {ph with deaf:=b}
theorem cO.Ix {f0:FuncId}(p:Entry c.P f (fun _=>do mark .enable;pure Extern.Race.none_)){fn:Func}{cd:Code}{n:Nat}{args:Array Value}{R:Value->af->Ph->Prop}(l:c.P.funcs[f0]?=some fn)(hb:fn.body=some cd)(m:fn.results=#[])(o:fn.ntmps=n)(v:args.size<=n)
  (h:∀A:Act,sz A=n->A.defers=[]->(∀i,slot A i=args.getD i undef)->cX (WJ c i) f0 cd (kD f R) A F ph):cO c.P (WJ c i) f0 args F ph R:=by
 intro g cs q
 let b:Frame:={(default:Frame) with fn:=f0,kind:=.normal}
 have r:b.roundOf=none:=rfl
 have s:Frame.enter c.P f0 args .normal=on b {tmps:=args++Array.replicate (fn.ntmps - args.size) undef,defers:=[]} [.code cd]:=by
  simp[Frame.enter,on,l,hb,b]
  rfl
 rw[s]
 have hM:=WJ.eL c i
 have leave:∀(a:Act) (todo:List Item) F' (aV:Ph),(a.defers=[dcall f #[]]/\aV.gp= .gone/\∃j,aV.deaf=j+1/\R (.tuple #[]) F' {aV with deaf:=j})->WJ c i aV (G {on b a todo with mode:=.returning} (g::cs)) F':=by
  intro a todo F' aV ⟨hd,hg,j,t,u⟩
  rw[eX r]
  refine Iw p hg t hd ((hM _).move (fr':=g.finish (.tuple #[])) (cs':=cs) (fun w=>?_) (q _ F' _ u))
  exact stepG_leave rfl rfl l (results_none m _ c.P w) (events_results_none m _ _)
 refine h _ (by simp[sz,o];omega) rfl (fun i=>?_) b [] (g::cs) ⟨by simp[b],rfl,rfl⟩ fun e a F' aV k=>?_
 .simp only[slot,o,Array.getD_eq_getD_getElem?]
  rcases Nat.lt_or_ge i args.size with d|d
  .rw[Array.getElem?_append_left d]
  .rw[Array.getElem?_append_right d,Array.getElem?_replicate,Array.getElem?_eq_none d]
   split<;>rfl
 .cases e with
  |normal=>exact (hM aV).move (fun _=>lI rfl) (leave a _ F' aV k)
  |exit i=>exact k.elim
  |ret=>exact fun x=>(hM aV).move (fun _=>stepG_ret' rfl) (leave a _ F' aV k)
def xK (R:af->Ph->Prop):Ex->Act->af->Ph->Prop
 | .exit _,_,_,_=>False
 |_,a,F,ph=>a.defers=[]/\R F ph
theorem Iy {f0:FuncId}{fn:Func}{cd:Code}{n:Nat}{args:Array Value}{R:af->Ph->Prop}(k:c.P.funcs[f0]?=some fn)(p:(fn.name== "runtime.NumGoroutine")=false)(hb:fn.body=some cd)(l:fn.results=#[])(m:fn.ntmps=n)(t:args.size<=n)
  {b:Frame} {a:Act} {todo:List Item} {cs:List Frame} {f:List Deferred} (q:a.defers=dcall f0 args::f)
  (h:∀A:Act,sz A=n->A.defers=[]->(∀i,slot A i=args.getD i undef)->cX (WJ c i) f0 cd (xK R) A F ph)
  (r:∀F' aV,R F' aV->WJ c i aV (G {b.at ⟨a.tmps,f⟩ todo with mode:=.returning} cs) F'):WJ c i ph (G {b.at a todo with mode:=.returning} cs) F:=by
 have hM:=WJ.eL c i
 refine (hM ph).move (fun w=>stepG_unwind_enter q k p hb) ?_
 have leave:∀(d:Act) (o:List Item) F' (aV:Ph),(d.defers=[]/\R F' aV)->WJ c i aV (G {(baseD f0).at d o with mode:=.returning} ({b.at ⟨a.tmps,f⟩ todo with mode:=.returning}::cs)) F':=by
  intro d o F' aV ⟨hd,s⟩
  exact (hM _).move (fun w=>stepG_leave_deferred rfl hd k (results_none l _ c.P w) (events_results_none l _ _) rfl) (r F' aV s)
 have:=h {tmps:=args++Array.replicate (fn.ntmps - args.size) undef,defers:=[]} (by simp[sz,m];omega) rfl (fun i=>?_) (baseD f0) [] ({b.at ⟨a.tmps,f⟩ todo with mode:=.returning}::cs) ⟨by simp[baseD],rfl,rfl⟩ fun e d F' aV j=>?_
 .rw[eX rfl] at this;exact this
 .simp only[slot,m,Array.getD_eq_getD_getElem?]
  rcases Nat.lt_or_ge i args.size with g|g
  .rw[Array.getElem?_append_left g]
  .rw[Array.getElem?_append_right g,Array.getElem?_replicate,Array.getElem?_eq_none g]
   split<;>rfl
 .cases e with
  |normal=>exact (hM aV).move (fun _=>lI rfl) (leave d _ F' aV j)
  |exit i=>exact j.elim
  |ret=>exact fun u=>(hM aV).move (fun _=>stepG_ret' rfl) (leave d _ F' aV j)
end
attribute [go_sem] kD xK
end Go.Sep
end
section
namespace Go.Sep
open Go
def kE (x y:Int):Int:=IntKind.u64.wrap ((BitVec.ofInt 64 x&&& BitVec.ofInt 64 y).toNat:Int)
@[go_sem] theorem Q0 (x y:Int):IntKind.u64.wrap ((@HAnd.hAnd (BitVec 64) (BitVec 64) (BitVec 64) (@instHAndOfAndOp (BitVec IntKind.u64.bits) (@BitVec.instAndOp IntKind.u64.bits)) (BitVec.ofInt 64 x) (BitVec.ofInt 64 y)).toNat:Int)=kE x y:=rfl
theorem xL (v t:Nat)(a:v<2147483648)(ht:t<=1):kE ((v:Int)*4294967296+(t:Int)) 2147483648=0:=Go.ConcN.st_flag v t a ht
theorem xM (v t:Nat)(a:v<2147483648)(ht:t<=1):kE ((v:Int)*4294967296+(t:Int)) 2147483647=(t:Int):=Go.ConcN.st_waiters v t a ht
theorem xN (v t:Nat)(ht:t<=1):((v:Int)*4294967296+(t:Int)).fdiv 4294967296=v:=by
 rw[Int.fdiv_eq_ediv_of_nonneg _ aO];omega
end Go.Sep
namespace Go.Proofs.YtdgblangfefjmaaGreatDoor
open Go Go.Sep Go.Proofs Go.Conc
open Go.ConcN (upd upd_same)
open Go.ConcM (muA msA)
open Go.ConcR (stA smA)
set_option maxRecDepth 100000
set_option maxHeartbeats 4000000
set_option linter.all false
attribute [local go_sem] Int.reduceBEq Int.reduceBNe muA msA stA smA
section
variable {Mu Wg Is n base T0 i:Nat}{bs:Nat->Bool}{st:Bool}{F:af}
theorem Iz (w:World)(s:Sh)(h:cH (CY Mu Wg Is n bs base T0) w s):∃v,w.cell? ⟨Wg,0,none⟩=some v:=⟨_,h.wg.1⟩
theorem IA (a:Mu≠Wg/\Mu≠Is/\Wg≠Is)(b:n<67108864){mp:Mp}:
  cO Tryz.prog (WJ (CY Mu Wg Is n bs base T0) i) 178 #[.pointer (some (stA Wg)),.int .u64 18446744069414584320] F ⟨mp,.rel,st,1⟩
   (fun r F' aV=>F'=F/\∃v t:Nat,v<=n/\t<=1/\r= .int .u64 ((v:Int)*4294967296+(t:Int))/\aV=⟨mp,if v=0/\t=1 then .ld else .gone,st,1⟩):=by
 have hM:=WJ.eL (CY Mu Wg Is n bs base T0) i
 refine cO.go (main:=false) hM Tryz.func178 rfl Tryz.ntmps178 av fun A d hd hs=>?_
 have e:=hs 0
 have k1:=hs 1
 clear hs
 repeat apply aH (hM _)
 refine dn hM ?_
 refine ak.pure (hM _) 1 (n:=0) _ rfl rfl ?_;apply ag _
 refine ak.nil hM ?_;try simp only[go_sem]
 repeat apply aH (hM _)
 refine dn hM ?_
 refine ak.pure (hM _) 4 (n:=2) _ rfl rfl ?_;apply ag _
 refine Ir Bs a b ⟨_,_,_,rfl,(by first|rfl|simp only[*,go_sem]),rfl,by first|(simp only[*,go_sem];done)|(simp only[*,go_sem];rfl),rfl⟩ (by rfl) av fun v t c ht=>?_
 refine ak.pure (hM _) 1 (n:=0) _ rfl rfl ?_;apply ag _
 refine ak.nil hM ?_;try simp only[go_sem]
 refine fM ?_;try simp only[go_sem]
 exact (lC rfl aI aI ⟨rfl,v,t,c,ht,rfl,rfl⟩).2
theorem IB {mp:Mp}:
  cO Tryz.prog (WJ (CY Mu Wg Is n bs base T0) i) 180 #[.pointer (some (stA Wg))] F ⟨mp,.ld,st,1⟩
   (fun r F' aV=>F'=F/\r= .int .u64 1/\aV=⟨mp,.st,st,1⟩):=by
 have hM:=WJ.eL (CY Mu Wg Is n bs base T0) i
 refine cO.go (main:=false) hM Tryz.func180 rfl Tryz.ntmps180 av fun A a hd hs=>?_
 have b:=hs 0
 clear hs
 repeat apply aH (hM _)
 refine dn hM ?_
 refine ak.pure (hM _) 1 (n:=0) _ rfl rfl ?_;apply ag _
 refine ak.nil hM ?_;try simp only[go_sem]
 repeat apply aH (hM _)
 refine dn hM ?_
 refine ak.pure (hM _) 3 (n:=2) _ rfl rfl ?_;apply ag _
 refine It xw ⟨_,_,_,rfl,(by first|rfl|simp only[*,go_sem]),rfl,by first|(simp only[*,go_sem];done)|(simp only[*,go_sem];rfl),rfl⟩ (by rfl) av ?_
 refine ak.pure (hM _) 1 (n:=0) _ rfl rfl ?_;apply ag _
 refine ak.nil hM ?_;try simp only[go_sem]
 refine fM ?_;try simp only[go_sem]
 exact (lC rfl aI aI ⟨rfl,rfl,rfl⟩).2
theorem IC (a:Mu≠Wg/\Mu≠Is/\Wg≠Is){mp:Mp}:
  cO Tryz.prog (WJ (CY Mu Wg Is n bs base T0) i) 181 #[.pointer (some (stA Wg)),.int .u64 0] F ⟨mp,.st,st,1⟩
   (fun r F' aV=>F'=F/\r= .tuple #[]/\aV=⟨mp,.sm,st,1⟩):=by
 have hM:=WJ.eL (CY Mu Wg Is n bs base T0) i
 refine cO.go (main:=false) hM Tryz.func181 rfl Tryz.ntmps181 av fun A b hd hs=>?_
 have c:=hs 0
 have k1:=hs 1
 clear hs
 repeat apply aH (hM _)
 refine dn hM ?_
 refine ak.pure (hM _) 4 (n:=1) _ rfl rfl ?_;apply ag _
 refine Iu HP a ⟨_,_,_,rfl,(by first|rfl|simp only[*,go_sem]),rfl,by first|(simp only[*,go_sem];done)|(simp only[*,go_sem];rfl),rfl⟩ (by rfl) av ?_
 refine ak.nil hM ?_;try simp only[go_sem]
 exact lB rfl aI ⟨rfl,rfl,rfl⟩
end
end Go.Proofs.YtdgblangfefjmaaGreatDoor
end
section
namespace Go.Sep
open Go Go.Conc
open Go.ConcN (sumTo upd upd_ne upd_same)
open Go.ConcM (MuAt muA msA muBlock OsLater)
open Go.ConcR (WgAt wgBlock stA smA)
structure X where
 Mu:Nat
 Wg:Nat
 Is:Nat
 n:Nat
 bs:Nat->Bool
 base:Nat
 T0:Nat
 B0:Nat
inductive Z where
 |free
 |co (x:X) (k:Nat) (p:P0) (d:Nat)
structure PT where
 P:Program
 tM:TypeId
 tW:TypeId
 tI:TypeId
abbrev X.cy (x:X)(T:PT):Cy:=⟨T.P,x.Mu,x.Wg,x.Is,T.tM,T.tW,T.tI,x.n,x.bs,x.base,x.T0⟩
def ZJ (T:PT)(Φ:Goroutine->af->Prop):Z->Goroutine->af->Prop
 | .free=>iM T.P Φ
 | .co x k p d=>fun g F=>(p= .reg->k=x.n)/\eK (x.cy T) x.B0 (iM T.P Φ) k p d g F
section
variable {T:PT}{Φ:Goroutine->af->Prop}{x:X}{k d:Nat}{p:P0}{ops:Array Oper}{j n:Nat}{Q:Act->af->Z->Prop}{a:Act}{F:af}{o:Oper}{f fi:FuncId}{dt:Option Tmp}
theorem BI {c:Cy}:Ev0 c d d #[]:=⟨av,rfl⟩
theorem ID {c:Cy}:Ev0 c d (d+1) #[cQ .disable]:=⟨fun e he=>by simp at he;exact .inl he,rfl⟩
theorem BJ {c:Cy}:Ev0 c (d+1) d #[cQ .enable]:=⟨fun e he=>by simp at he;exact .inr (.inl he),rfl⟩
theorem xO {c:Cy}{ad:Addr}(y:Bool)(h:ad.block=c.Wg):Ev0 c d d #[⟨.cell ad,y,true⟩]:=⟨fun e he=>by simp at he;exact .inr (.inr ⟨ad,h,.inl ⟨y,he⟩⟩),by simp[deafBehind]⟩
theorem BK {c:Cy}{ad:Addr}(h:ad.block=c.Wg):Ev0 c d d #[⟨.cell ad,false,true⟩,⟨.cell ad,true,true⟩]:=
 ⟨fun e he=>by simp at he;rcases he with he|he<;>exact .inr (.inr ⟨ad,h,.inl ⟨_,he⟩⟩),by simp[deafBehind]⟩
theorem IE {c:Cy}{ad:Addr}(h:ad.block=c.Wg):Ev0 c d d #[cQ (.read ad)]:=⟨fun e he=>by simp at he;exact .inr (.inr ⟨ad,h,.inr (.inl he)⟩),by simp[deafBehind,cQ]⟩
theorem IF {c:Cy}{ad:Addr}(h:ad.block=c.Wg):Ev0 c d d #[cQ (.write ad)]:=⟨fun e he=>by simp at he;exact .inr (.inr ⟨ad,h,.inr (.inr he)⟩),by simp[deafBehind,cQ]⟩
theorem IG {c:Cy}{ad:Addr}(h:ad.block=c.Wg):Ev0 c d d (semEvents ad):=by
 refine ⟨fun e he=>?_,by simp[deafBehind,semEvents]⟩;simp[semEvents] at he;rcases he with rfl|rfl|rfl|rfl
 .exact .inl rfl
 .exact .inr (.inr ⟨ad,h,.inl ⟨_,rfl⟩⟩)
 .exact .inr (.inr ⟨ad,h,.inl ⟨_,rfl⟩⟩)
 .exact .inr (.inl rfl)
theorem ZJ.eL (T:PT)(Φ:Goroutine->af->Prop)(z:Z):eD T.P true (ZJ T Φ z):=by
 cases z with
 |free=>exact Closed.eL (Bh T.P Φ)
 |co x k p d=>
  refine ⟨fun {fr fr' cs cs' F} hs h=>⟨h.1,eK.xm (c:=x.cy T) rfl rfl h.1 fun w s φ e a b=>?_⟩⟩;exact ⟨_,w,#[],s,p,d,hs w,a,.refl _ _,b,BI,.inr dZ,h.2⟩
theorem ZJ.closed (T:PT)(Φ:Goroutine->af->Prop){z:Z}(b:∀x k d,z≠ .co x k .reg d):Closed T.P true (ZJ T Φ z):=by
 cases z with
 |free=>exact Bh T.P Φ
 |co x k p d=>
  have a:p≠ .reg:=fun e=>b x k d (by rw[e]);have hC:=eK.closed (x.cy T) x.B0 (iM T.P Φ) k p d a
  exact ⟨fun hle h=>⟨h.1,hC.mono hle h.2⟩,fun {fr cs F} h=>⟨fun e=>absurd e a,hC.step fun w hw=>by
   obtain ⟨g',w',es,F',k1,c,f,g,i⟩:=h w hw
   exact ⟨g',w',es,F',k1,c,f,g,i.2⟩⟩⟩
theorem kF (A:ops[j]?=some o)(i:p= .reg->k=x.n)
  (h:∀(w:World) (s:Sh) (φ:Nat->Ph),Has F w->cH (x.cy T) w s->Inv x.n x.bs k φ p s->
   ∃(v:Value) (w':World) (es:Array Event) (s':Sh) (f:P0) (g:Nat),(∀(b:Frame) (e:List Item) (cs:List Frame),BF fi b->
    stepG T.P true (G (b.at a (.inRegion ops (j::List.range' (j+1) n)::e)) cs) w= .go (G (b.at (a.put o.dst v) (.inRegion ops (List.range' (j+1) n)::e)) cs) w' es)/\cH (x.cy T) w' s'/\ia (x.cy T) w w'/\Inv x.n x.bs k φ f s'/\Ev0 (x.cy T) d g es/\
    (s'.ms<=s.ms/\s'.ws<=s.ws)/\ak (ZJ T Φ) fi ops (j+1) n Q (a.put o.dst v) F (.co x k f g)):ak (ZJ T Φ) fi ops j (n+1) Q a F (.co x k p d):=fun b e cs hb l=>by
 rw[List.range'_succ,eX hb.round]
 refine ⟨i,eK.xm (c:=x.cy T) rfl rfl i fun w s φ e1 e2 m=>?_⟩
 obtain ⟨v,w',es,s',f,g,k1,q,r,t,u,y,z⟩:=h w s φ e1 e2 m
 have:=z b e cs hb l
 rw[eX hb.round] at this
 exact ⟨_,w',es,s',f,g,k1 b e cs hb,q,r,t,u,.inr y,this.2⟩
theorem oh {k:Nat}{φ:Nat->Ph}{p a:P0}{s:Sh}(h:Inv x.n x.bs k φ p s){wg ws:Int}(hw:dW x.n φ a wg ws):Inv x.n x.bs k φ a {s with wg:=wg,ws:=ws}:=⟨h.m,hw,h.i⟩
theorem BL (i:Entry T.P f (fun _=>do mark .disable;pure Extern.Race.none_)){vals:List Value}(l:At ops j a f vals dt)(m:p= .reg->k=x.n)(c:P0)(q:∀φ wg ws,dW x.n φ p wg ws->dW x.n φ c wg ws)
  (h:ak (ZJ T Φ) fi ops (j+1) n Q (bq a dt (.tuple #[])) F (.co x k c (d+1))):ak (ZJ T Φ) fi ops j (n+1) Q a F (.co x k p d):=by
 obtain ⟨o,cI,dG,e,hg,r,_,rfl⟩:=l
 obtain ⟨fn,f1,f2,f3,f4,f5⟩:=i.ex
 exact kF e m fun w s φ _ hs g=>⟨.tuple #[],w,_,s,c,d+1,fun b t cs hb=>stepG_mark0 .disable av e (cv hg) hb.kind r f1 f2 f3 f4 f5,hs,.refl _ _,oh g (q _ _ _ g.w),ID,dZ,h⟩
theorem BM (e:Entry T.P f (fun _=>do mark .enable;pure Extern.Race.none_)){vals:List Value}(g:At ops j a f vals dt)(i:p= .reg->k=x.n)
  (h:ak (ZJ T Φ) fi ops (j+1) n Q (bq a dt (.tuple #[])) F (.co x k p d)):ak (ZJ T Φ) fi ops j (n+1) Q a F (.co x k p (d+1)):=by
 obtain ⟨o,cI,dG,c,hg,l,_,rfl⟩:=g
 obtain ⟨fn,f1,f2,f3,f4,f5⟩:=e.ex
 exact kF c i fun w s φ _ hs m=>⟨.tuple #[],w,_,s,p,d,fun b q cs hb=>stepG_mark0 .enable av c (cv hg) hb.kind l f1 f2 f3 f4 f5,hs,.refl _ _,m,BJ,dZ,h⟩
theorem II (e:Entry T.P f (Extern.Race.marked .read))(g:At ops j a f [.pointer (some (smA x.Wg))] dt)(i:p= .reg->k=x.n)
  (h:ak (ZJ T Φ) fi ops (j+1) n Q (bq a dt (.tuple #[])) F (.co x k p d)):ak (ZJ T Φ) fi ops j (n+1) Q a F (.co x k p d):=by
 obtain ⟨o,cI,dG,c,hg,l,m,rfl⟩:=g
 obtain ⟨y,rfl,q⟩:=jQ m
 obtain ⟨fn,f1,f2,f3,f4,f5⟩:=e.ex
 exact kF c i fun w s φ _ hs r=>⟨.tuple #[],w,_,s,p,d,fun b t cs hb=>stepG_markAt .read av c (cv hg) hb.kind l f1 f2 f3 f4 f5 (by simp[eR,q]),hs,.refl _ _,r,IE (ad:=smA x.Wg) rfl,dZ,h⟩
theorem IJ (e:Entry T.P f (Extern.Race.marked .write))(g:At ops j a f [.pointer (some (smA x.Wg))] dt)(i:p= .reg->k=x.n)
  (h:ak (ZJ T Φ) fi ops (j+1) n Q (bq a dt (.tuple #[])) F (.co x k p d)):ak (ZJ T Φ) fi ops j (n+1) Q a F (.co x k p d):=by
 obtain ⟨o,cI,dG,c,hg,l,m,rfl⟩:=g
 obtain ⟨y,rfl,q⟩:=jQ m
 obtain ⟨fn,f1,f2,f3,f4,f5⟩:=e.ex
 exact kF c i fun w s φ _ hs r=>⟨.tuple #[],w,_,s,p,d,fun b t cs hb=>stepG_markAt .write av c (cv hg) hb.kind l f1 f2 f3 f4 f5 (by simp[eR,q]),hs,.refl _ _,r,IF (ad:=smA x.Wg) rfl,dZ,h⟩
theorem sZ (ad:Addr){src dst t:TypeId}(hs:T.P.underlying src=some (.pointer t))(hd:T.P.underlying dst=some .unsafePointer)(c:(T.P.info? t).map (fun i=>decide (i.size=0))=some false){y:Operand}
  (l:mI ops j a (.convert src dst y) dt) (m:p= .reg->k=x.n) (q:ev a y= .pointer (some ad)) (r:∀w s,cH (x.cy T) w s->∃v,w.cell? ad=some v) (h:ak (ZJ T Φ) fi ops (j+1) n Q (bq a dt (.pointer (some ad))) F (.co x k p d)):ak (ZJ T Φ) fi ops j (n+1) Q a F (.co x k p d):=by
 obtain ⟨o,e,hg,u,rfl⟩:=l
 refine kF e m fun w s φ _ f z=>⟨_,w,#[],s,p,d,fun b C cs hb=>?_,f,.refl _ _,z,BI,dZ,h⟩
 obtain ⟨v,g⟩:=r w s f
 have e1:execOp a.eval o=(do pure (.value (<-convert src dst (.pointer (some ad)))):Sem Next):=by
  unfold execOp
  simp only[u,eR,q]
 have A:(execOp a.eval o).run T.P w= .ok (.value (.pointer (some ad))) w:=by
  rw[e1];simp[run_convert_to_unsafe hs hd c g]
 have B:(execOp a.eval o).events T.P w #[]=#[]:=by
  rw[e1];simp[events_convert_to_unsafe hs hd c g]
 rw[stepG_value e (cv hg) hb.kind A]
 unfold listed
 rw[B,seen_none]
theorem IK (i:Entry T.P f (Extern.Atomic.update (Op.intArith .add) .u64 true))(l:x.Mu≠x.Wg/\x.Mu≠x.Is/\x.Wg≠x.Is)(B:x.n<67108864)(m:At ops j a f [.pointer (some (stA x.Wg)),.int .u64 4294967296] dt)
  (h:∀v:Nat,v<=x.n->ak (ZJ T Φ) fi ops (j+1) n Q (bq a dt (.int .u64 (((v+1:Nat):Int)*4294967296+((0:Nat):Int)))) F (.co x k (.opn 1) d)):ak (ZJ T Φ) fi ops j (n+1) Q a F (.co x k (.opn 0) d):=by
 obtain ⟨o,cI,dG,c,hg,p,q,rfl⟩:=m
 obtain ⟨y,z,rfl,r,t⟩:=p7 q
 obtain ⟨fn,f1,f2,f3,f4,f5⟩:=i.ex
 refine kF c (fun e=>by cases e) fun w s φ _ hs g=>?_
 obtain ⟨v,e1,u,hw⟩:=Hi g.w
 have e2:IntKind.u64.wrap (s.wg+4294967296)=((v+1:Nat):Int)*4294967296+((0:Nat):Int):=by
  rw[e1]
  unfold IntKind.wrap
  simp only[IntKind.bits,IntKind.signed,di]
  simp
  omega
 have A:s.wg+di=((v+1:Nat):Int)*4294967296+((0:Nat):Int):=by rw[e1];simp only[di];omega
 rw[A] at hw
 exact ⟨_,_,_,{s with wg:=((v+1:Nat):Int)*4294967296+((0:Nat):Int)},.opn 1,d,fun b C cs hb=>by rw[<-e2];exact stepG_add_atomic c (cv hg) hb.kind p f1 f2 f3 f4 .u64 f5 r t hs.wg.1 hs.wg.2,by rw[<-e2];exact hs.sP l _,.set _ (.inr (.inl rfl)),oh g hw,BK rfl,dZ,h v u⟩
theorem IL (i:Entry T.P f (Extern.Atomic.loadT (.int .u64)))(l:At ops j a f [.pointer (some (stA x.Wg))] dt){u:Nat}
  (h:∀v:Nat,v<=u->ak (ZJ T Φ) fi ops (j+1) n Q (bq a dt (.int .u64 ((v:Int)*4294967296+((0:Nat):Int)))) F (.co x k (if v=0 then .e9 else .look v) d)):ak (ZJ T Φ) fi ops j (n+1) Q a F (.co x k (.look u) d):=by
 obtain ⟨o,cI,dG,c,hg,m,p,rfl⟩:=l
 obtain ⟨y,rfl,q⟩:=jQ p
 obtain ⟨fn,f1,f2,f3,f4,f5⟩:=i.ex
 refine kF c (fun e=>by cases e) fun w s φ _ hs g=>?_
 obtain ⟨v,e1,r,hw⟩:=Ho g.w
 have e2:s.wg=(v:Int)*4294967296+((0:Nat):Int):=by rw[e1];simp only[di];omega
 exact ⟨_,_,_,s,_,d,fun b t cs hb=>by rw[<-e2];exact stepG_load_atomic c (cv hg) hb.kind m f1 f2 f3 f4 .u64 f5 q hs.wg.1,hs,.refl _ _,oh g hw,xO false rfl,dZ,h v r⟩
theorem IM (i:Entry T.P f (Extern.Atomic.loadT (.int .u64)))(l:At ops j a f [.pointer (some (stA x.Wg))] dt)
  (h:ak (ZJ T Φ) fi ops (j+1) n Q (bq a dt (.int .u64 0)) F (.co x k .e9 d)):ak (ZJ T Φ) fi ops j (n+1) Q a F (.co x k .e9 d):=by
 obtain ⟨o,cI,dG,c,hg,m,p,rfl⟩:=l
 obtain ⟨y,rfl,q⟩:=jQ p
 obtain ⟨fn,f1,f2,f3,f4,f5⟩:=i.ex
 refine kF c (fun e=>by cases e) fun w s φ _ hs g=>?_
 have e2:s.wg=0:=(A4 g.w).1
 exact ⟨_,_,_,s,_,d,fun b r cs hb=>by rw[<-e2];exact stepG_load_atomic c (cv hg) hb.kind m f1 f2 f3 f4 .u64 f5 q hs.wg.1,hs,.refl _ _,g,xO false rfl,dZ,h⟩
theorem IN (q:Entry T.P f (Extern.Atomic.casT (.int .u64)))(r:x.Mu≠x.Wg/\x.Mu≠x.Is/\x.Wg≠x.Is){v:Nat}(t:0<v)(H:k=x.n)(u:At ops j a f [.pointer (some (stA x.Wg)),.int .u64 ((v:Int)*4294967296+((0:Nat):Int)),.int .u64 ((v:Int)*4294967296+((0:Nat):Int)+1)] dt)
  (A:ak (ZJ T Φ) fi ops (j+1) n Q (bq a dt (.bool true)) F (.co x k .reg d)) (B:ak (ZJ T Φ) fi ops (j+1) n Q (bq a dt (.bool false)) F (.co x k (.look (v - 1)) d)):ak (ZJ T Φ) fi ops j (n+1) Q a F (.co x k (.look v) d):=by
 obtain ⟨o,cI,dG,g,hg,h,C,rfl⟩:=u
 obtain ⟨y,z,I,rfl,i,l,m⟩:=p8 C
 obtain ⟨fn,f1,f2,f3,f4,f5⟩:=q.ex
 refine kF g (fun e=>by cases e) fun w s φ _ hs c=>?_
 by_cases e:s.wg=(v:Int)*4294967296+((0:Nat):Int)
 .have e1:s.wg=(v:Int)*di:=by rw[e];simp only[di];omega
  have hw:=c.w
  rw[e1] at hw
  have p:=Hp hw t
  have D:(v:Int)*di+1=(v:Int)*4294967296+((0:Nat):Int)+1:=by simp only[di];omega
  rw[D] at p
  exact ⟨.bool true,_,_,{s with wg:=(v:Int)*4294967296+((0:Nat):Int)+1},.reg,d,fun b E cs hb=>stepG_cas_hit g (cv hg) hb.kind h f1 f2 f3 f4 .u64 f5 i l m (by rw[<-e];exact hs.wg.1) hs.wg.2,hs.sP r _,.set _ (.inr (.inl rfl)),oh c p,BK rfl,dZ,A⟩
 .have e1:s.wg≠(v:Int)*di:=fun G=>e (by rw[G];simp only[di];omega)
  exact ⟨.bool false,_,_,s,.look (v - 1),d,fun b E cs hb=>stepG_cas_miss g (cv hg) hb.kind h f1 f2 f3 f4 .u64 f5 i l m hs.wg.1 hs.wg.2 e,hs,.refl _ _,oh c (Hq c.w e1).2,xO false rfl,dZ,B⟩
theorem IP (q:Value)(r:Entry T.P f Extern.Sync.semacquire)(t:x.Mu≠x.Wg/\x.Mu≠x.Is/\x.Wg≠x.Is)(g:k=x.n)(u:At ops j a f [.pointer (some (smA x.Wg)),q] dt)
  (h:ak (ZJ T Φ) fi ops (j+1) n Q (bq a dt (.tuple #[])) F (.co x k .e9 d)):ak (ZJ T Φ) fi ops j (n+1) Q a F (.co x k .reg d):=fun b v cs hb A=>by
 obtain ⟨o,cI,dG,i,hg,l,B,rfl⟩:=u
 obtain ⟨y,z,rfl,m,_⟩:=p7 B
 obtain ⟨fn,f1,f2,f3,f4,f5⟩:=r.ex
 rw[List.range'_succ,eX hb.round]
 refine ⟨fun _=>g,eK.act (c:=x.cy T) rfl rfl (fun _=>⟨g,fun w s hs e=>?_⟩) fun w s φ e1 hs p C=>?_⟩
 .exact stepG_semacquire_wait i (cv hg) l f1 f2 f3 f4 f5 (ad:=smA x.Wg) (by simp[eR,m]) (by rw[hs.ws.1,e])
 .have e:=C rfl
  obtain ⟨D,E,hw⟩:=Hr p.w e
  have:=h b v cs hb A
  rw[eX hb.round] at this
  exact ⟨_,_,_,{s with ws:=s.ws - 1},.e9,d,stepG_semacquire i (cv hg) hb.kind l f1 f2 f3 f4 f5 (by simp[eR,m]) hs.ws.1 e hs.ws.2,hs.Bz t _,.set _ (.inr (.inl rfl)),oh p hw,IG rfl,.inr ⟨Int.le_refl _,by simp only;omega⟩,this.2⟩
theorem BN (d:Entry T.P f (Extern.Race.marked .acquire))(e:k=x.n)(g:At ops j a f [.pointer (some (stA x.Wg))] dt)
  (h:ak (ZJ T Φ) fi ops (j+1) n Q (bq a dt (.tuple #[])) ⟨F.ro,(x.Is,(x.cy T).fin)::F.own⟩ .free):ak (ZJ T Φ) fi ops j (n+1) Q a F (.co x k .e9 0):=fun b i cs hb l=>by
 obtain ⟨o,cI,dG,m,hg,p,q,rfl⟩:=g
 obtain ⟨y,rfl,r⟩:=jQ q
 obtain ⟨fn,f1,f2,f3,f4,f5⟩:=d.ex
 rw[List.range'_succ,eX hb.round]
 subst e
 have:=h b i cs hb l
 rw[eX hb.round] at this
 exact ⟨fun _=>rfl,eK.join (c:=x.cy T) rfl rfl fun w hw=>⟨_,stepG_markAt .acquire av m (cv hg) hb.kind p f1 f2 f3 f4 f5 (by simp[eR,r]),rfl,this⟩⟩
theorem IQ (i:k<x.n){d:Deferred}{fv:Operand}{g:Fn}{caps:Array Value}(l:ops[j]?=some o)(hg:cJ ops o a=some true)(f:∀w,(execOp a.eval o).run T.P w= .ok (.spawn d) w/\(execOp a.eval o).events T.P w #[]=#[])(hd:d.target= .fn g caps)
  (hW:Wk (x.cy T) k ⟨.idle,.cnt,false,0⟩ (born T.P d) ⟨F.ro,[]⟩) (h:ak (ZJ T Φ) fi ops (j+1) n Q (bq a o.dst undef) F (.co x (k+1) (.opn 0) 0)):ak (ZJ T Φ) fi ops j (n+1) Q a F (.co x k (.opn 1) 0):=fun b m cs hb p=>by
 rw[List.range'_succ,eX hb.round]
 have:=h b m cs hb p
 rw[eX hb.round] at this
 refine ⟨fun e=>(by cases e),eK.spawn (c:=x.cy T) rfl rfl i fun w hw=>⟨_,_,?_,hW,rfl,rfl,this.2⟩⟩
 rw[stepG_spawn l (cv hg) hb.kind (f w).1 hd]
 unfold listed
 rw[(f w).2,seen_none]
 rfl
end
section
variable {T:PT}{Φ:Goroutine->af->Prop}{fi f:FuncId}
theorem IS {cd:Code}{Q:Ex->Act->af->Z->Prop}{a:Act}{F:af}(c:af)(Mu Wg Is n:Nat)(bs:Nat->Bool)
  (hle:Le ⟨c.ro,(Mu,muBlock T.tM 0 0)::(Wg,wgBlock T.tW 0 0)::(Is,.cells (List.replicate n (Value.bool false)).toArray T.tI)::c.own⟩ F)
  (h:∀base B0 T0,0<base->(Mu≠Wg/\Mu≠Is/\Wg≠Is)->cX (ZJ T Φ) fi cd Q a c (.co ⟨Mu,Wg,Is,n,bs,base,T0,B0⟩ 0 (.opn 0) 0)):cX (ZJ T Φ) fi cd Q a F .free:=fun b k cs hb d=>
 iM.found bs rfl rfl hle fun base B0 T0 e f=>(h base B0 T0 e f b k cs hb d).2
theorem IT (l:Entry T.P f (fun _=>do mark .enable;pure Extern.Race.none_)){x:X}{k d:Nat}{p:P0}{F:af}(e:p= .reg->k=x.n){b:Frame}{a:Act}{todo:List Item}{cs:List Frame}{i:List Deferred}(m:a.defers=dcall f #[]::i)
  (h:ZJ T Φ (.co x k p d) (G {b.at ⟨a.tmps,i⟩ todo with mode:=.returning} cs) F):ZJ T Φ (.co x k p (d+1)) (G {b.at a todo with mode:=.returning} cs) F:=by
 obtain ⟨fn,f1,f2,f3,f4,f5⟩:=l.ex
 refine ⟨e,eK.xm (c:=x.cy T) rfl rfl e fun w s φ e1 hs o=>⟨_,w,#[cQ .enable],s,p,d,?_,hs,.refl _ _,o,BJ,.inr dZ,h.2⟩⟩
 exact stepG_unwind_entry (v:=.tuple #[]) m f1 f2 f3 f4 f5 (by simp[Extern.Race.none_]) (by simp[cQ]) (by
  intro y j
  simp[cQ] at j
  subst j
  exact ⟨rfl,fun g h=>by cases h⟩)
def xP (f:FuncId)(R:Value->af->Z->Prop):Ex->Act->af->Z->Prop
 | .exit _,_,_,_=>False
 |_,a,F,z=>a.defers=[dcall f #[]]/\∃x k p d,(p= .reg->k=x.n)/\z= .co x k p (d+1)/\R (.tuple #[]) F (.co x k p d)
theorem cO.IU {f0:FuncId}(r:Entry T.P f (fun _=>do mark .enable;pure Extern.Race.none_)){fn:Func}{cd:Code}{n:Nat}{args:Array Value}{R:Value->af->Z->Prop}{F:af}{z:Z}(m:T.P.funcs[f0]?=some fn)(hb:fn.body=some cd)(o:fn.results=#[])(q:fn.ntmps=n)(C:args.size<=n)
  (h:∀A:Act,sz A=n->A.defers=[]->(∀i,slot A i=args.getD i undef)->cX (ZJ T Φ) f0 cd (xP f R) A F z):cO T.P (ZJ T Φ) f0 args F z R:=by
 intro j cs s
 let b:Frame:={(default:Frame) with fn:=f0,kind:=.normal}
 have t:b.roundOf=none:=rfl
 have u:Frame.enter T.P f0 args .normal=on b {tmps:=args++Array.replicate (fn.ntmps - args.size) undef,defers:=[]} [.code cd]:=by
  simp[Frame.enter,on,m,hb,b]
  rfl
 rw[u]
 have hM:=ZJ.eL T Φ
 have leave:∀(c:Act) (todo:List Item) F' (a:Z),(c.defers=[dcall f #[]]/\∃x k p d,(p= .reg->k=x.n)/\a= .co x k p (d+1)/\R (.tuple #[]) F' (.co x k p d))->ZJ T Φ a (G {on b c todo with mode:=.returning} (j::cs)) F':=by
  intro c todo F' a ⟨hd,x,k,p,d,v,y,B⟩
  subst y
  rw[eX t]
  refine IT r v hd ((hM _).move (fr':=j.finish (.tuple #[])) (cs':=cs) (fun w=>?_) (s _ F' _ B))
  exact stepG_leave rfl rfl m (results_none o _ T.P w) (events_results_none o _ _)
 refine h _ (by simp[sz,q];omega) rfl (fun i=>?_) b [] (j::cs) ⟨by simp[b],rfl,rfl⟩ fun e c F' a l=>?_
 .simp only[slot,q,Array.getD_eq_getD_getElem?]
  rcases Nat.lt_or_ge i args.size with g|g
  .rw[Array.getElem?_append_left g]
  .rw[Array.getElem?_append_right g,Array.getElem?_replicate,Array.getElem?_eq_none g]
   split<;>rfl
 .cases e with
  |normal=>exact (hM a).move (fun _=>lI rfl) (leave c _ F' a l)
  |exit i=>exact l.elim
  |ret=>exact fun D=>(hM a).move (fun _=>stepG_ret' rfl) (leave c _ F' a l)
theorem fT.IV {args:Array Value}{ro:Addr->Option Value}{R:Value->af->Prop}(h:∀Φ,cO T.P (ZJ T Φ) f args ⟨ro,[]⟩ .free (fun v F' z=>z= .free/\R v F')):fT T.P f args ⟨ro,[]⟩ R:=
 fT.HK fun Φ c cs hK=>h Φ c cs fun v F' z ⟨a,b⟩=>by subst a;exact hK v F' b
end
end Go.Sep
end
section
namespace Go.Proofs.YtdgblangfefjmaaGreatDoor
open Go Go.Sep Go.Proofs Go.Conc
open Go.ConcN (upd upd_same)
open Go.ConcM (muA msA)
open Go.ConcR (stA smA)
set_option maxRecDepth 100000
set_option maxHeartbeats 4000000
attribute [local go_sem] Int.reduceBEq Int.reduceBNe muA msA stA smA
noncomputable abbrev TT:PT:=⟨Tryz.prog,224,231,4⟩
theorem IW {f:FuncId}{R:Value->af->Z->Prop}{a:Act}{F:af}{x:X}{k d:Nat}{p:P0}(hd:a.defers=[dcall f #[]])(b:p= .reg->k=x.n)(c:R (.tuple #[]) F (.co x k p d)):xP f R .ret a F (.co x k p (d+1)):=⟨hd,x,k,p,d,b,rfl,c⟩
section
variable {Φ:Goroutine->af->Prop}{x:X}{F:af}{k:Nat}
theorem BO (w:World)(s:Sh)(h:cH (x.cy TT) w s):∃v,w.cell? ⟨x.Wg,0,none⟩=some v:=⟨_,h.wg.1⟩
theorem BP (w:World)(s:Sh)(h:cH (x.cy TT) w s):∃v,w.cell? ⟨x.Wg,1,none⟩=some v:=⟨_,h.ws.1⟩
theorem IX (a:x.Mu≠x.Wg/\x.Mu≠x.Is/\x.Wg≠x.Is)(b:x.n<67108864):
  cO Tryz.prog (ZJ TT Φ) 178 #[.pointer (some (stA x.Wg)),.int .u64 4294967296] F (.co x k (.opn 0) 1)
   (fun r F' c=>F'=F/\∃v:Nat,v<=x.n/\r= .int .u64 (((v+1:Nat):Int)*4294967296+((0:Nat):Int))/\c= .co x k (.opn 1) 1):=by
 have hM:=ZJ.eL TT Φ
 have hJ:True:=trivial
 refine cO.go (main:=true) hM Tryz.func178 rfl Tryz.ntmps178 av fun A e hd hs=>?_
 have f:=hs 0
 have k1:=hs 1
 clear hs
 repeat apply aH (hM _)
 refine bt hM fun K hK=>?_
 refine ak.pure (hM _) 1 (n:=0) _ rfl rfl ?_;simp only[*,go_sem,-hK,-hM]
 refine ak.nil hM (hK _ _ _ ?_);clear hK K
 repeat apply aH (hM _)
 refine bt hM fun K hK=>?_
 refine ak.pure (hM _) 4 (n:=2) _ rfl rfl ?_;simp only[*,go_sem,-hK,-hM]
 refine IK Bs a b ⟨_,_,_,rfl,cC,rfl,ee,rfl⟩ fun v d=>?_
 refine ak.pure (hM _) 1 (n:=0) _ rfl rfl ?_;simp only[*,go_sem,-hK,-hM]
 refine ak.nil hM (hK _ _ _ ?_);clear hK K
 exact fM (lC rfl ax ax ⟨rfl,v,d,rfl,rfl⟩).2
theorem IY {u:Nat}:
  cO Tryz.prog (ZJ TT Φ) 180 #[.pointer (some (stA x.Wg))] F (.co x k (.look u) 1)
   (fun r F' a=>F'=F/\∃v:Nat,v<=u/\r= .int .u64 ((v:Int)*4294967296+((0:Nat):Int))/\a= .co x k (if v=0 then .e9 else .look v) 1):=by
 have hM:=ZJ.eL TT Φ
 have hJ:True:=trivial
 refine cO.go (main:=true) hM Tryz.func180 rfl Tryz.ntmps180 av fun A c hd hs=>?_
 have d:=hs 0
 clear hs
 repeat apply aH (hM _)
 refine bt hM fun K hK=>?_
 refine ak.pure (hM _) 1 (n:=0) _ rfl rfl ?_;simp only[*,go_sem,-hK,-hM]
 refine ak.nil hM (hK _ _ _ ?_);clear hK K
 repeat apply aH (hM _)
 refine bt hM fun K hK=>?_
 refine ak.pure (hM _) 3 (n:=2) _ rfl rfl ?_;simp only[*,go_sem,-hK,-hM]
 refine IL xw ⟨_,_,_,rfl,cC,rfl,ee,rfl⟩ fun v b=>?_
 refine ak.pure (hM _) 1 (n:=0) _ rfl rfl ?_;simp only[*,go_sem,-hK,-hM]
 refine ak.nil hM (hK _ _ _ ?_);clear hK K
 exact fM (lC rfl ax ax ⟨rfl,v,b,rfl,rfl⟩).2
theorem IZ:
  cO Tryz.prog (ZJ TT Φ) 180 #[.pointer (some (stA x.Wg))] F (.co x k .e9 1)
   (fun r F' a=>F'=F/\r= .int .u64 0/\a= .co x k .e9 1):=by
 have hM:=ZJ.eL TT Φ
 have hJ:True:=trivial
 refine cO.go (main:=true) hM Tryz.func180 rfl Tryz.ntmps180 av fun A b hd hs=>?_
 have c:=hs 0
 clear hs
 repeat apply aH (hM _)
 refine bt hM fun K hK=>?_
 refine ak.pure (hM _) 1 (n:=0) _ rfl rfl ?_;simp only[*,go_sem,-hK,-hM]
 refine ak.nil hM (hK _ _ _ ?_);clear hK K
 repeat apply aH (hM _)
 refine bt hM fun K hK=>?_
 refine ak.pure (hM _) 3 (n:=2) _ rfl rfl ?_;simp only[*,go_sem,-hK,-hM]
 refine IM xw ⟨_,_,_,rfl,cC,rfl,ee,rfl⟩ ?_
 refine ak.pure (hM _) 1 (n:=0) _ rfl rfl ?_;simp only[*,go_sem,-hK,-hM]
 refine ak.nil hM (hK _ _ _ ?_);clear hK K
 exact fM (lC rfl ax ax ⟨rfl,rfl,rfl⟩).2
theorem I0 (b:x.Mu≠x.Wg/\x.Mu≠x.Is/\x.Wg≠x.Is){v:Nat}(c:0<v):
  cO Tryz.prog (ZJ TT Φ) 189 #[.pointer (some (stA x.Wg)),.int .u64 ((v:Int)*4294967296+((0:Nat):Int)),.int .u64 ((v:Int)*4294967296+((0:Nat):Int)+1)] F (.co x x.n (.look v) 1)
   (fun r F' a=>F'=F/\((r= .bool true/\a= .co x x.n .reg 1)\/(r= .bool false/\a= .co x x.n (.look (v - 1)) 1))):=by
 have hM:=ZJ.eL TT Φ
 have hJ:True:=trivial
 refine cO.go (main:=true) hM Tryz.func189 rfl Tryz.ntmps189 av fun A d hd hs=>?_
 have e:=hs 0
 have k1:=hs 1
 have f:=hs 2
 clear hs
 repeat apply aH (hM _)
 refine bt hM fun K hK=>?_
 refine ak.pure (hM _) 1 (n:=0) _ rfl rfl ?_;simp only[*,go_sem,-hK,-hM]
 refine ak.nil hM (hK _ _ _ ?_);clear hK K
 repeat apply aH (hM _)
 refine bt hM fun K hK=>?_
 refine ak.pure (hM _) 5 (n:=2) _ rfl rfl ?_;simp only[*,go_sem,-hK,-hM]
 refine IN HO b c rfl ⟨_,_,_,rfl,cC,rfl,ee,rfl⟩ ?_ ?_
 .refine ak.pure (hM _) 1 (n:=0) _ rfl rfl ?_;simp only[*,go_sem,-hK,-hM]
  refine ak.nil hM (hK _ _ _ ?_);clear hK K
  exact fM (lC rfl ax ax ⟨rfl,.inl ⟨rfl,rfl⟩⟩).2
 .refine ak.pure (hM _) 1 (n:=0) _ rfl rfl ?_;simp only[*,go_sem,-hK,-hM]
  refine ak.nil hM (hK _ _ _ ?_);clear hK K
  exact fM (lC rfl ax ax ⟨rfl,.inr ⟨rfl,rfl⟩⟩).2
end
attribute [local go_sem] Int.reduceBEq Int.reduceBNe muA msA stA smA
def I1 (Wg:Nat)(F:af)(z:Z)(v:Int)(a:Act)(F':af)(b:Z):Prop:=
 F'=F/\slot a 1= .int .i64 1/\slot a 7= .int .i32 v/\slot a 8= .int .u32 0/\sz a=117/\a.defers=[dcall 173 #[]]/\b=z
section
variable {Φ:Goroutine->af->Prop}{x:X}{F:af}{k:Nat}
theorem I2 (l:x.Mu≠x.Wg/\x.Mu≠x.Is/\x.Wg≠x.Is)(m:x.n<67108864):
  cO Tryz.prog (ZJ TT Φ) 144 #[.pointer (some (stA x.Wg)),.int .i64 1] F (.co x k (.opn 0) 0)
   (fun r F' d=>r= .tuple #[]/\F'=F/\d= .co x k (.opn 1) 0):=by
 have hM:=ZJ.eL TT Φ
 have hJ:True:=trivial
 refine cO.IU lD Tryz.func144 rfl rfl Tryz.ntmps144 av fun A f hd hs=>?_
 have o:=hs 0
 have k1:=hs 1
 clear hs
 have c1:decide ((1:Int)<0)=false:=aO
 have c2:decide ((1:Int)>0)=true:=aO
 repeat apply aH (hM _)
 refine dm (hM _) ax ?_
 repeat apply aH (hM _)
 refine bt hM fun K hK=>?_
 refine ak.pure (hM _) 2 (n:=0) _ rfl rfl ?_;simp only[*,go_sem,-hK,-hM]
 refine ak.nil hM (hK _ _ _ ?_);clear hK K
 repeat apply aH (hM _)
 refine cK (hM _) ax ?_
 apply cP (hM _)
 repeat apply aH (hM _)
 refine bt hM fun K hK=>?_
 refine BL p6 ⟨_,_,_,rfl,cC,rfl,ee,rfl⟩ (fun e=>by cases e) (.opn 0) (fun _ _ _ h=>h) ?_
 refine ak.nil hM (hK _ _ _ ?_);clear hK K
 repeat apply aH (hM _)
 refine bt hM fun K hK=>?_
 refine ak.defer (hM _) rfl cC rfl rfl (by simp;rfl) fun b e1 e2 g=>?_
 have l0:slot b 0= .pointer (some ⟨x.Wg,0,none⟩):=(e1 0).trans ax
 have i:slot b 1= .int .i64 1:=(e1 1).trans ax
 replace f:sz b=117:=e2.trans ax
 replace hd:b.defers=[dcall 173 #[]]:=g.trans ax
 clear e1 e2 g o k1
 refine ak.nil hM (hK _ _ _ ?_);clear hK K
 repeat apply aH (hM _)
 refine bt hM fun K hK=>?_
 refine ak.pure (hM _) 1 (n:=0) _ rfl rfl ?_;simp only[*,go_sem,-hK,-hM]
 refine ak.nil hM (hK _ _ _ ?_);clear hK K
 repeat apply aH (hM _)
 refine bt hM fun K hK=>?_
 refine ak.entry (.bool false) (hM _) Bt ⟨_,_,_,rfl,cC,rfl,ee,rfl⟩ ?_
 refine ak.nil hM (hK _ _ _ ?_);clear hK K
 repeat apply aH (hM _)
 refine cK (hM _) ax ?_
 apply cP (hM _)
 have w1:IntKind.u64.wrap 1=1:=aO
 have w2:IntKind.u64.wrap (1*2 ^ min 32 64)=4294967296:=aO
 repeat apply aH (hM _)
 refine bt hM fun K hK=>?_
 refine ak.pure (hM _) 6 (n:=2) _ rfl rfl ?_;simp only[*,go_sem,-hK,-hM]
 refine ak.gk (hM _) rfl cC rfl zn er (IX l m) fun r F' aV p=>?_
 obtain ⟨rfl,v,q,rfl,rfl⟩:=p
 obtain ⟨y,a⟩:∃y:Int,y=((v+1:Nat):Int)*4294967296+((0:Nat):Int):=⟨_,rfl⟩
 rw[<-a]
 have a1:iq y 2147483648=0:=by show kE y 2147483648=0;rw[a];exact xL (v+1) 0 aa aa
 have a2:iq y 2147483647=0:=by show kE y 2147483647=0;rw[a];exact xM (v+1) 0 aa aa
 obtain ⟨V,j⟩:∃V:Int,V=((v+1:Nat):Int):=⟨_,rfl⟩
 have a3:y.fdiv (2 ^ min 32 64)=V:=by rw[a,j];exact xN (v+1) 0 aa
 have a4:IntKind.i32.wrap V=V:=iJ aa aa
 have a5:IntKind.u32.wrap 0=0:=aO
 have u:IntKind.i32.wrap 1=1:=aO
 have c3:decide (V<0)=false:=by simp;omega
 have c4:decide (V>0)=true:=by simp;omega
 have c:(V==1)=true\/(V==1)=false:=by cases (V==1)<;>simp
 clear a j q
 refine ak.pure (hM _) 1 (n:=0) _ rfl rfl ?_;simp only[*,go_sem,-hK,-hM]
 refine ak.nil hM (hK _ _ _ ?_);clear hK K
 repeat apply aH (hM _)
 refine bt hM fun K hK=>?_
 refine ak.pure (hM _) 7 (n:=0) _ rfl rfl ?_;simp only[*,go_sem,-hK,-hM]
 refine ak.nil hM (hK _ _ _ ?_);clear hK K
 repeat apply aH (hM _)
 refine cK (hM _) ax ?_
 apply cP (hM _)
 repeat apply aH (hM _)
 refine bt hM fun K hK=>?_
 refine ak.pure (hM _) 4 (n:=0) _ rfl rfl ?_;simp only[*,go_sem,-hK,-hM]
 refine ak.nil hM (hK _ _ _ ?_);clear hK K
 repeat apply aH (hM _)
 refine bt hM fun K hK=>?_
 refine ak.pure (hM _) 4 (n:=0) _ rfl rfl ?_;simp only[*,go_sem,-hK,-hM]
 refine ak.nil hM (hK _ _ _ ?_);clear hK K
 repeat apply aH (hM _)
 refine bt hM fun K hK=>?_
 refine ak.pure (hM _) 10 (n:=0) _ rfl rfl ?_;simp only[*,go_sem,-hK,-hM]
 refine ak.nil hM (hK _ _ _ ?_);clear hK K
 repeat apply aH (hM _)
 refine sV hM (I1 x.Wg F' (.co x k (.opn 1) 1) V) ?_ ?_
 .rcases c with c|c
  .repeat apply aH (hM _)
   refine dm (hM _) ax ?_
   repeat apply aH (hM _)
   refine bt hM fun K hK=>?_
   refine ak.pure (hM _) 3 (n:=2) _ rfl rfl ?_;simp only[*,go_sem,-hK,-hM]
   refine sZ ⟨x.Wg,1,none⟩ Bu lE Bv ⟨_,rfl,cC,rfl,rfl⟩ (fun e=>by cases e) er BP ?_
   refine II HQ ⟨_,_,_,rfl,cC,rfl,ee,rfl⟩ (fun e=>by cases e) ?_
   refine ak.nil hM (hK _ _ _ ?_);clear hK K
   exact eP ⟨rfl,ax,ax,ax,ax,ax,rfl⟩
  .repeat apply aH (hM _)
   refine cK (hM _) ax ?_
   apply cP (hM _)
   exact eP ⟨rfl,ax,ax,ax,ax,ax,rfl⟩
 clear c l0 i f hd a1 a2 a3
 rintro A s w ⟨rfl,i,z,B,f,hd,rfl⟩
 repeat apply aH (hM _)
 refine bt hM fun K hK=>?_
 refine ak.pure (hM _) 2 (n:=0) _ rfl rfl ?_;simp only[*,go_sem,-hK,-hM]
 refine ak.nil hM (hK _ _ _ ?_);clear hK K
 repeat apply aH (hM _)
 refine cK (hM _) ax ?_
 apply cP (hM _)
 repeat apply aH (hM _)
 refine bt hM fun K hK=>?_
 refine ak.pure (hM _) 12 (n:=0) _ rfl rfl ?_;simp only[*,go_sem,-hK,-hM]
 refine ak.nil hM (hK _ _ _ ?_);clear hK K
 repeat apply aH (hM _)
 refine cK (hM _) ax ?_
 apply cP (hM _)
 repeat apply aH (hM _)
 refine bt hM fun K hK=>?_
 refine ak.pure (hM _) 6 (n:=0) _ rfl rfl ?_;simp only[*,go_sem,-hK,-hM]
 refine ak.nil hM (hK _ _ _ ?_);clear hK K
 repeat apply aH (hM _)
 refine dm (hM _) ax ?_
 exact fM (show xP 173 (fun r t d=>r= .tuple #[]/\t=s/\d= .co x k (.opn 1) 0) .ret _ _ _ from IW ax (fun e=>by cases e) ⟨rfl,rfl,rfl⟩)
end
attribute [local go_sem] Int.reduceBEq Int.reduceBNe muA msA stA smA
def BQ (x:X)(F:af)(m:Nat)(a:Act)(F':af)(z:Z):Prop:=
 ∃u:Nat,u<=m/\u<=x.n/\F'=F/\slot a 0= .pointer (some ⟨x.Wg,0,none⟩)/\sz a=84/\a.defers=[]/\z= .co x x.n (.look u) 1
section
variable {Φ:Goroutine->af->Prop}{x:X}{F:af}{k:Nat}
theorem I3 (k:x.Mu≠x.Wg/\x.Mu≠x.Is/\x.Wg≠x.Is)(w:x.n<67108864):
  cO Tryz.prog (ZJ TT Φ) 151 #[.pointer (some (stA x.Wg))] F (.co x x.n (.opn 0) 0)
   (fun r F' b=>r= .tuple #[]/\F'=⟨F.ro,(x.Is,(x.cy TT).fin)::F.own⟩/\b= .free):=by
 have hM:=ZJ.eL TT Φ
 have hJ:True:=trivial
 refine cO.go (main:=true) hM Tryz.func151 rfl Tryz.ntmps151 av fun A l hd hs=>?_
 have o:=hs 0
 clear hs
 repeat apply aH (hM _)
 refine dm (hM _) ax ?_
 repeat apply aH (hM _)
 refine bt hM fun K hK=>?_
 refine BL p6 ⟨_,_,_,rfl,cC,rfl,ee,rfl⟩ (fun e=>by cases e) (.look x.n) (fun _ _ _ h=>Hl h) ?_
 refine ak.nil hM (hK _ _ _ ?_);clear hK K
 repeat apply aH (hM _)
 refine jO hM ?_
 refine p5 hM (BQ x F) x.n ?_ ?_
 .exact ⟨x.n,Nat.le_refl _,Nat.le_refl _,rfl,ax,ax,ax,rfl⟩
 .clear l hd o
  rintro m A F' b ⟨u,z,B,rfl,o,l,hd,rfl⟩
  repeat apply aH (hM _)
  refine jO hM ?_
  repeat apply aH (hM _)
  refine bt hM fun K hK=>?_
  refine ak.pure (hM _) 3 (n:=2) _ rfl rfl ?_;simp only[*,go_sem,-hK,-hM]
  refine ak.gk (hM _) rfl cC rfl uk er IY fun r i C c=>?_
  obtain ⟨rfl,v,s,rfl,rfl⟩:=c
  obtain ⟨y,a⟩:∃y:Int,y=(v:Int)*4294967296+((0:Nat):Int):=⟨_,rfl⟩
  rw[<-a]
  have a1:iq y 2147483648=0:=by show kE y 2147483648=0;rw[a];exact xL v 0 aa aa
  have a2:iq y 2147483647=0:=by show kE y 2147483647=0;rw[a];exact xM v 0 aa aa
  obtain ⟨V,f⟩:∃V:Int,V=(v:Int):=⟨_,rfl⟩
  have a3:y.fdiv (2 ^ min 32 64)=V:=by rw[a,f];exact xN v 0 aa
  have a4:IntKind.i32.wrap V=V:=iJ aa aa
  have a5:IntKind.u32.wrap 0=0:=aO
  have D:IntKind.u64.wrap (y+1)=y+1:=by
   unfold IntKind.wrap
   simp only[IntKind.bits,IntKind.signed]
   simp
   omega
  by_cases g:v=0
  ·
   have c1:(V==0)=true:=by rw[f,g];rfl
   have d:(if v=0 then P0.e9 else .look v)= .e9:=if_pos g
   rw[d]
   clear d a f s g
   refine ak.pure (hM _) 1 (n:=0) _ rfl rfl ?_;simp only[*,go_sem,-hK,-hM]
   refine ak.nil hM (hK _ _ _ ?_);clear hK K
   repeat apply aH (hM _)
   refine bt hM fun K hK=>?_
   refine ak.pure (hM _) 4 (n:=0) _ rfl rfl ?_;simp only[*,go_sem,-hK,-hM]
   refine ak.nil hM (hK _ _ _ ?_);clear hK K
   repeat apply aH (hM _)
   refine bt hM fun K hK=>?_
   refine ak.pure (hM _) 4 (n:=0) _ rfl rfl ?_;simp only[*,go_sem,-hK,-hM]
   refine ak.nil hM (hK _ _ _ ?_);clear hK K
   repeat apply aH (hM _)
   refine bt hM fun K hK=>?_
   refine ak.pure (hM _) 2 (n:=0) _ rfl rfl ?_;simp only[*,go_sem,-hK,-hM]
   refine ak.nil hM (hK _ _ _ ?_);clear hK K
   repeat apply aH (hM _)
   refine dm (hM _) ax ?_
   repeat apply aH (hM _)
   refine dm (hM _) ax ?_
   repeat apply aH (hM _)
   refine bt hM fun K hK=>?_
   refine BM lD ⟨_,_,_,rfl,cC,rfl,ee,rfl⟩ (fun e=>by cases e) ?_
   refine ak.nil hM (hK _ _ _ ?_);clear hK K
   repeat apply aH (hM _)
   refine bt hM fun K hK=>?_
   refine ak.pure (hM _) 1 (n:=2) _ rfl rfl ?_;simp only[*,go_sem,-hK,-hM]
   refine sZ ⟨x.Wg,0,none⟩ xy lE xA ⟨_,rfl,cC,rfl,rfl⟩ (fun e=>by cases e) er BO ?_
   refine BN sM rfl ⟨_,_,_,rfl,cC,rfl,ee,rfl⟩ ?_
   refine ak.nil hM (hK _ _ _ ?_);clear hK K
   repeat apply aH (hM _)
   refine bt hM fun K hK=>?_
   refine ak.pure (hM _) 11 (n:=0) _ rfl rfl ?_;simp only[*,go_sem,-hK,-hM]
   refine ak.nil hM (hK _ _ _ ?_);clear hK K
   repeat apply aH (hM _)
   refine cK (hM _) ax ?_
   apply cP (hM _)
   exact fM (show jP Tryz.prog Tryz.f151 (fun (r:Value) (F':af) (b:Z)=>r= .tuple #[]/\F'=⟨i.ro,(x.Is,(x.cy TT).fin)::i.own⟩/\b=Z.free) .ret _ _ _ from oa rfl ax ⟨rfl,rfl,rfl⟩)
  .have c1:(V==0)=false:=by simp;omega
   have d:(if v=0 then P0.e9 else .look v)= .look v:=if_neg g
   rw[d]
   have j:=I0 (Φ:=Φ) (F:=i) k (v:=v) aa
   rw[<-a] at j
   clear d a f
   refine ak.pure (hM _) 1 (n:=0) _ rfl rfl ?_;simp only[*,go_sem,-hK,-hM]
   refine ak.nil hM (hK _ _ _ ?_);clear hK K
   repeat apply aH (hM _)
   refine bt hM fun K hK=>?_
   refine ak.pure (hM _) 4 (n:=0) _ rfl rfl ?_;simp only[*,go_sem,-hK,-hM]
   refine ak.nil hM (hK _ _ _ ?_);clear hK K
   repeat apply aH (hM _)
   refine bt hM fun K hK=>?_
   refine ak.pure (hM _) 4 (n:=0) _ rfl rfl ?_;simp only[*,go_sem,-hK,-hM]
   refine ak.nil hM (hK _ _ _ ?_);clear hK K
   repeat apply aH (hM _)
   refine bt hM fun K hK=>?_
   refine ak.pure (hM _) 2 (n:=0) _ rfl rfl ?_;simp only[*,go_sem,-hK,-hM]
   refine ak.nil hM (hK _ _ _ ?_);clear hK K
   repeat apply aH (hM _)
   refine cK (hM _) ax ?_
   apply cP (hM _)
   repeat apply aH (hM _)
   refine bt hM fun K hK=>?_
   refine ak.pure (hM _) 6 (n:=1) _ rfl rfl ?_;simp only[*,go_sem,-hK,-hM]
   refine ak.gk (hM _) rfl cC rfl Dr er j fun r t E c=>?_
   clear j
   obtain ⟨rfl,⟨rfl,rfl⟩|⟨rfl,rfl⟩⟩:=c
   ·
    refine ak.nil hM (hK _ _ _ ?_);clear hK K
    repeat apply aH (hM _)
    refine dm (hM _) ax ?_
    repeat apply aH (hM _)
    refine bt hM fun K hK=>?_
    refine ak.pure (hM _) 4 (n:=0) _ rfl rfl ?_;simp only[*,go_sem,-hK,-hM]
    refine ak.nil hM (hK _ _ _ ?_);clear hK K
    repeat apply aH (hM _)
    refine dm (hM _) ax ?_
    repeat apply aH (hM _)
    refine bt hM fun K hK=>?_
    refine ak.pure (hM _) 3 (n:=2) _ rfl rfl ?_;simp only[*,go_sem,-hK,-hM]
    refine sZ ⟨x.Wg,1,none⟩ Bu lE Bv ⟨_,rfl,cC,rfl,rfl⟩ (fun _=>rfl) er BP ?_
    refine IJ HR ⟨_,_,_,rfl,cC,rfl,ee,rfl⟩ (fun _=>rfl) ?_
    refine ak.nil hM (hK _ _ _ ?_);clear hK K
    repeat apply aH (hM _)
    refine bt hM fun K hK=>?_
    refine ak.pure (hM _) 1 (n:=0) _ rfl rfl ?_;simp only[*,go_sem,-hK,-hM]
    refine ak.nil hM (hK _ _ _ ?_);clear hK K
    repeat apply aH (hM _)
    refine bt hM fun K hK=>?_
    refine ak.pure (hM _) 6 (n:=0) _ rfl rfl ?_;simp only[*,go_sem,-hK,-hM]
    refine ak.nil hM (hK _ _ _ ?_);clear hK K
    repeat apply aH (hM _)
    refine cK (hM _) ax ?_
    apply cP (hM _)
    repeat apply aH (hM _)
    refine bt hM fun K hK=>?_
    refine ak.pure (hM _) 4 (n:=1) _ rfl rfl ?_;simp only[*,go_sem,-hK,-hM]
    refine IP (.bool false) HS k rfl ⟨_,_,_,rfl,cC,rfl,ee,rfl⟩ ?_
    refine ak.nil hM (hK _ _ _ ?_);clear hK K
    repeat apply aH (hM _)
    refine bt hM fun K hK=>?_
    refine ak.pure (hM _) 3 (n:=3) _ rfl rfl ?_;simp only[*,go_sem,-hK,-hM]
    refine ak.gk (hM _) rfl cC rfl uk er IZ fun r p G c=>?_
    obtain ⟨rfl,rfl,rfl⟩:=c
    refine ak.pure (hM _) 2 (n:=0) _ rfl rfl ?_;simp only[*,go_sem,-hK,-hM]
    refine ak.nil hM (hK _ _ _ ?_);clear hK K
    repeat apply aH (hM _)
    refine dm (hM _) ax ?_
    repeat apply aH (hM _)
    refine bt hM fun K hK=>?_
    refine BM lD ⟨_,_,_,rfl,cC,rfl,ee,rfl⟩ (fun e=>by cases e) ?_
    refine ak.nil hM (hK _ _ _ ?_);clear hK K
    repeat apply aH (hM _)
    refine bt hM fun K hK=>?_
    refine ak.pure (hM _) 1 (n:=2) _ rfl rfl ?_;simp only[*,go_sem,-hK,-hM]
    refine sZ ⟨x.Wg,0,none⟩ xy lE xA ⟨_,rfl,cC,rfl,rfl⟩ (fun e=>by cases e) er BO ?_
    refine BN sM rfl ⟨_,_,_,rfl,cC,rfl,ee,rfl⟩ ?_
    refine ak.nil hM (hK _ _ _ ?_);clear hK K
    repeat apply aH (hM _)
    refine bt hM fun K hK=>?_
    refine ak.pure (hM _) 1 (n:=0) _ rfl rfl ?_;simp only[*,go_sem,-hK,-hM]
    refine ak.nil hM (hK _ _ _ ?_);clear hK K
    repeat apply aH (hM _)
    refine cK (hM _) ax ?_
    apply cP (hM _)
    exact fM (show jP Tryz.prog Tryz.f151 (fun (r:Value) (F':af) (b:Z)=>r= .tuple #[]/\F'=⟨p.ro,(x.Is,(x.cy TT).fin)::p.own⟩/\b=Z.free) .ret _ _ _ from oa rfl ax ⟨rfl,rfl,rfl⟩)
   ·
    refine ak.nil hM (hK _ _ _ ?_);clear hK K
    repeat apply aH (hM _)
    refine cK (hM _) ax ?_
    apply cP (hM _)
    change ∃q,q<m/\BQ x t q _ _ _
    exact ⟨v - 1,aa,v - 1,Nat.le_refl _,aa,rfl,ax,ax,ax,rfl⟩
end
end Go.Proofs.YtdgblangfefjmaaGreatDoor
end
section
namespace Go.Sep
open Go Go.Conc
variable {P:Program}
theorem I4 {t e:TypeId}{i:TypeInfo}{n:Nat}{R:Value->af->Prop}{F:af}(hu:P.underlying t=some (.slice e))(d:P.info? e=some i)(hb:i.bytes=1)(hs:bZ P e=some 1)(f:zeroOf P e=some (.bool false))(k:n<1048576)
  (h:∀b,ez F b->R (.slice (some ⟨b,0,none⟩) n n) (F.push b (.cells (List.replicate n (Value.bool false)).toArray e))):ff P (Instr.makeSlice t (.int .i64 n) (.int .i64 n)) R F:=by
 unfold ff
 have hw:IntKind.i64.wrap (n:Int)=(n:Int):=by
  unfold IntKind.wrap
  simp[IntKind.bits,IntKind.signed]
  omega
 have e1:¬((n:Int)<0\/(1:Int)*(n:Int)>2 ^ 48):=by
  have:((2:Int) ^ 48)=281474976710656:=aO
  omega
 simp only[Instr.makeSlice,bF,dO,hu,yH,ow,d,hb,hw]
 have e2:(((n:Int)<0||decide (((1:Nat):Int)*(n:Int)>2 ^ 48))||decide ((n:Int)<0)||decide ((n:Int)>(n:Int)))=false:=by
  have:((2:Int) ^ 48)=281474976710656:=aO
  simp only[Bool.or_eq_false_iff,decide_eq_false_iff_not]
  omega
 rw[if_neg (by rw[e2];simp)]
 simp only[bF]
 refine tL _ ?_
 simp only[bF,eY,hs,Int.toNat_natCast,Nat.mul_one]
 have fin:∀zero:Array Value,(n≠0->zero=#[.bool false])->bp P (newRow e ((Array.range n).map (fun j=>zero[j % zero.size]!))) (fun a G=>bp P (Pure.pure (Value.slice (some a) n n)) R G) F:=fun zero hzero=>by
  simp only[newRow,bF,ov,bP]
  have g:((Array.range n).map (fun j=>zero[j % zero.size]!))=(List.replicate n (Value.bool false)).toArray:=by
   rcases Nat.eq_zero_or_pos n with rfl|l
   .simp
   .rw[hzero aa]
    rw[<-Array.toList_inj]
    simp only[Array.toList_map,Array.toList_range]
    apply List.ext_getElem
    .simp
    .intro i m o
     simp[Nat.mod_one]
  rw[g]
  exact ⟨rfl,h⟩
 by_cases c:n=0
 .rw[if_pos c]
  exact fin #[] (fun x=>absurd c x)
 .rw[if_neg c]
  rw[bF,lK,f]
  exact fin #[.bool false] (fun _=>rfl)
section
variable {T:PT}{Φ:Goroutine->af->Prop}{fi:FuncId}
def xQ:Z->Bool| .co _ _ .reg _=>false|_=>true
theorem ZJ.I5 (T:PT)(Φ:Goroutine->af->Prop)(z:Z)(h:xQ z=true):Closed T.P true (ZJ T Φ z):=ZJ.closed T Φ fun x k d e=>by subst e;simp[xQ] at h
theorem BR {P:Program}{main:Bool}{S:Type}{JF:S->Goroutine->af->Prop}{ph:S}(hJ:Closed P main (JF ph)){c:Code}{Q:Ex->Act->af->S->Prop}{a:Act}{F F':af}(hle:Le F F')(h:cX JF fi c Q a F ph):cX JF fi c Q a F' ph:=
 fun b k cs hb d=>hJ.mono hle (h b k cs hb d)
theorem xR {P:Program}{main:Bool}{S:Type}{JF:S->Goroutine->af->Prop}{ph:S}(hJ:Closed P main (JF ph)){c:Code}{Q:Ex->Act->af->S->Prop}{a:Act}{F:af}(h:aY (keys F.own)->aF F.ro F.own->cX JF fi c Q a F ph):cX JF fi c Q a F ph:=by
 intro b k cs hb d;by_cases hw:∃w,Has F w
 .obtain ⟨w,hw⟩:=hw;refine h ⟨hw.nodup⟩ (fun b hb off sp=>?_) b k cs hb d;cases e:F.ro ⟨b,off,sp⟩ with
  |none=>rfl
  |some v=>exact absurd hb (hw.apart _ v e)
 .exact hJ.step fun w f=>absurd ⟨w,f⟩ hw
end
theorem mL {ro:Addr->Option Value}{b a off:Nat}{sp:Option Nat}{o:Obj}(h:ro ⟨a,off,sp⟩=none)(c:a≠b):bR ro b o ⟨a,off,sp⟩=none:=by simp[bR,h,c]
theorem I6 {ro:Addr->Option Value}{b3 b4 b a I M W:Nat}{i o4 g c d e f:Obj}(p:aY (keys [(W,f),(M,e),(a,c),(I,d),(b,g),(b4,o4),(b3,i)]))(l:aF ro [(W,f),(M,e),(a,c),(I,d),(b,g),(b4,o4),(b3,i)]):
  ∃j,Ext ro j/\Le ⟨j,[(M,e),(W,f),(I,d)]⟩ ⟨ro,[(W,f),(M,e),(a,c),(I,d),(b,g),(b4,o4),(b3,i)]⟩/\
   (∀off v,cellOf i off=some v->j ⟨b3,off,none⟩=some v)/\(∀off v,cellOf o4 off=some v->j ⟨b4,off,none⟩=some v)/\(∀off v,cellOf g off=some v->j ⟨b,off,none⟩=some v)/\(∀off v,cellOf c off=some v->j ⟨a,off,none⟩=some v):=by
 have hd:=p.1
 simp only[keys,List.map_cons,List.map_nil,List.nodup_cons,List.mem_cons,List.not_mem_nil,not_or] at hd
 obtain ⟨⟨-,a1,-,a2,a3,a4,-⟩,⟨G,-,H,J,K,-⟩,⟨c1,c2,c3,c4,-⟩,⟨i1,i2,i3,-⟩,⟨e1,e2,-⟩,⟨r,-⟩,-⟩:=hd
 have r3:∀off sp,ro ⟨b3,off,sp⟩=none:=l b3 (by simp[keys])
 have s:∀off sp,ro ⟨b4,off,sp⟩=none:=l b4 (by simp[keys])
 have t:∀off sp,ro ⟨b,off,sp⟩=none:=l b (by simp[keys])
 have u:∀off sp,ro ⟨a,off,sp⟩=none:=l a (by simp[keys])
 clear l p
 have w:b4≠b3:=r
 have x:b≠b3:=e2
 have y:b≠b4:=e1
 have z:a≠b3:=c4
 have A:a≠b4:=c3
 have B:a≠b:=c2
 let s1:=bR ro b3 i
 let s2:=bR s1 b4 o4
 let k:=bR s2 b g
 let n:=bR k a c
 have C:Ext ro s1:=gr _ _ _
 have q:Ext s1 s2:=gr _ _ _
 have o:Ext s2 k:=gr _ _ _
 have m:Ext k n:=gr _ _ _
 have t4:∀off sp,s1 ⟨b4,off,sp⟩=none:=fun off sp=>mL (s off sp) w
 have t7:∀off sp,s2 ⟨b,off,sp⟩=none:=fun off sp=>mL (mL (t off sp) x) y
 have t8:∀off sp,k ⟨a,off,sp⟩=none:=fun off sp=>mL (mL (mL (u off sp) z) A) B
 have k1:Le ⟨s1,[(W,f),(M,e),(a,c),(I,d),(b,g),(b4,o4)]⟩ ⟨ro,[(W,f),(M,e),(a,c),(I,d),(b,g),(b4,o4),(b3,i)]⟩:=
  jX (by simp[lk, *]) av (by simp[au,Ne.symm, *])
 have D:Le ⟨s2,[(W,f),(M,e),(a,c),(I,d),(b,g)]⟩ ⟨s1,[(W,f),(M,e),(a,c),(I,d),(b,g),(b4,o4)]⟩:=
  jX (by simp[lk, *]) av (by simp[au,Ne.symm, *])
 have E:Le ⟨k,[(W,f),(M,e),(a,c),(I,d)]⟩ ⟨s2,[(W,f),(M,e),(a,c),(I,d),(b,g)]⟩:=
  jX (by simp[lk, *]) av (by simp[au,Ne.symm, *])
 have F:Le ⟨n,[(W,f),(M,e),(I,d)]⟩ ⟨k,[(W,f),(M,e),(a,c),(I,d)]⟩:=
  jX (by simp[lk, *]) av (by simp[au,Ne.symm, *])
 refine ⟨n,((C.trans q).trans o).trans m,zq.trans (((F.trans E).trans D).trans k1),fun off v h=>?_,fun off v h=>?_,fun off v h=>?_,fun off v h=>?_⟩
 .exact m _ _ (o _ _ (q _ _ ((fE r3).trans h)))
 .exact m _ _ (o _ _ ((fE t4).trans h))
 .exact m _ _ ((fE t7).trans h)
 .exact (fE t8).trans h
theorem I7 {ro:Addr->Option Value}{a b2:Nat}{o1 o2:Obj}(d:aY (keys [(b2,o2),(a,o1)]))(c:aF ro [(b2,o2),(a,o1)]):
  ∃b,Ext ro b/\Le ⟨b,[]⟩ ⟨ro,[(b2,o2),(a,o1)]⟩/\(∀off v,cellOf o1 off=some v->b ⟨a,off,none⟩=some v)/\(∀off v,cellOf o2 off=some v->b ⟨b2,off,none⟩=some v):=by
 have hd:=d.1
 simp only[keys,List.map_cons,List.map_nil,List.nodup_cons,List.mem_cons,List.not_mem_nil,not_or] at hd
 have r1:∀off sp,ro ⟨a,off,sp⟩=none:=c a (by simp[keys])
 have r2:∀off sp,ro ⟨b2,off,sp⟩=none:=c b2 (by simp[keys])
 have e:b2≠a:=by obtain ⟨⟨z,-⟩,-⟩:=hd;exact z
 have t2:∀off sp,bR ro a o1 ⟨b2,off,sp⟩=none:=fun off sp=>mL (r2 off sp) e
 have k1:Le ⟨bR ro a o1,[(b2,o2)]⟩ ⟨ro,[(b2,o2),(a,o1)]⟩:=jX (by simp[lk, *]) av (by simp[au,Ne.symm, *])
 have f:Le ⟨bR (bR ro a o1) b2 o2,[]⟩ ⟨bR ro a o1,[(b2,o2)]⟩:=jX (by simp only[lk];simp) av trivial
 exact ⟨_,(gr _ _ _).trans (gr _ _ _),f.trans k1,fun off v h=>gr _ _ _ _ _ ((fE r1).trans h),fun off v h=>(fE t2).trans h⟩
theorem I8 {T:PT}{Φ:Goroutine->af->Prop}{x:X}{k:Nat}{ops:Array Oper}{j n:Nat}{Q:Act->af->Z->Prop}{a:Act}{F:af}{fi:FuncId}(b:k<x.n){y:Operand}{f0:FuncId}{dG:Array TypeId}{caps:Array Value}(c:mI ops j a (.go {callee:=.value y,args:=#[],argTypes:=dG}) none)(d:ev a y= .func (.func f0) #[] caps)
  (hW:Wk (x.cy T) k ⟨.idle,.cnt,false,0⟩ (born T.P {target:=.fn (.func f0) caps,args:=#[]}) ⟨F.ro,[]⟩) (h:ak (ZJ T Φ) fi ops (j+1) n Q (bq a none undef) F (.co x (k+1) (.opn 0) 0)):ak (ZJ T Φ) fi ops j (n+1) Q a F (.co x k (.opn 1) 0):=by
 obtain ⟨o,e,hg,f,hd⟩:=c
 have e1:execOp a.eval o=(pure (.spawn {target:=.fn (.func f0) caps,args:=#[]}):Sem Next):=by
  unfold execOp
  have e0:(#[]:Array Value)++Array.map (ev a) #[]=#[]:=av
  simp only[f,resolve,eR,d,Deferred.ofValue,e0]
  rfl
 refine IQ (fv:=y) b e hg (fun w=>?_) rfl hW (by rw[hd];exact h)
 rw[e1]
 exact ⟨rfl,rfl⟩
end Go.Sep
end
section
namespace Go.Proofs.YtdgblangfefjmaaGreatDoor
open Go Go.Sep Go.Proofs Go.Conc
open Go.ConcN (upd upd_same)
open Go.ConcM (muA msA)
open Go.ConcR (stA smA)
set_option maxRecDepth 100000
set_option maxHeartbeats 4000000
attribute [local go_sem] Int.reduceBEq Int.reduceBNe muA msA stA smA
def I9 (Wg:Nat)(st:Bool)(F:af)(m:Nat)(a:Act)(F':af)(ph:Ph):Prop:=
 ∃t8:Int,F'=F/\slot a 0= .pointer (some ⟨Wg,0,none⟩)/\slot a 8= .int .u32 t8/\sz a=117/\a.defers=[dcall 173 #[]]/\((m=1/\t8=1/\ph=⟨.fin,.sm,st,1⟩)\/(m=0/\t8=0/\ph=⟨.fin,.gone,st,1⟩))
theorem Ja {f:FuncId}{R:Value->af->Ph->Prop}{a:Act}{F:af}{ph:Ph}{b:Nat}(hd:a.defers=[dcall f #[]])(hg:ph.gp= .gone)(h:ph.deaf=b+1)(c:R (.tuple #[]) F {ph with deaf:=b}):kD f R .normal a F ph:=⟨hd,hg,b,h,c⟩
theorem s0 {f:FuncId}{R:Value->af->Ph->Prop}{a:Act}{F:af}{ph:Ph}{b:Nat}(hd:a.defers=[dcall f #[]])(hg:ph.gp= .gone)(h:ph.deaf=b+1)(c:R (.tuple #[]) F {ph with deaf:=b}):kD f R .ret a F ph:=⟨hd,hg,b,h,c⟩
section
variable {Mu Wg Is n base T0 i:Nat}{bs:Nat->Bool}{st:Bool}{F:af}
theorem Jb (f:Mu≠Wg/\Mu≠Is/\Wg≠Is)(q:n<67108864){mp:Mp}(s:mp= .idle\/mp= .fin)(u:st=bs i):
  cO Tryz.prog (WJ (CY Mu Wg Is n bs base T0) i) 144 #[.pointer (some (stA Wg)),.int .i64 (-1)] F ⟨mp,.cnt,st,0⟩
   (fun r F' aV=>r= .tuple #[]/\F'=F/\aV=⟨.fin,.gone,st,0⟩):=by
 have hM:=WJ.eL (CY Mu Wg Is n bs base T0) i
 refine cO.Ix lD Tryz.func144 rfl rfl Tryz.ntmps144 av fun A g hd hs=>?_
 have hJ:True:=trivial
 have w:=hs 0
 have k1:=hs 1
 clear hs
 subst u
 have c1:decide ((-1:Int)<0)=true:=aO
 have c2:decide ((-1:Int)>0)=false:=aO
 repeat apply aH (hM _)
 refine dm (hM _) ax ?_
 repeat apply aH (hM _)
 refine bt hM fun K hK=>?_
 refine ak.pure (hM _) 2 (n:=0) _ rfl rfl ?_;simp only[*,go_sem,-hK,-hM]
 refine ak.nil hM (hK _ _ _ ?_);clear hK K
 repeat apply aH (hM _)
 refine dm (hM _) ax ?_
 repeat apply aH (hM _)
 refine bt hM fun K hK=>?_
 refine ak.pure (hM _) 1 (n:=2) _ rfl rfl ?_;simp only[*,go_sem,-hK,-hM]
 refine sS ⟨Wg,0,none⟩ xy lE xA ⟨_,rfl,cC,rfl,rfl⟩ av er Iz ?_
 refine H7 Bp ⟨_,_,_,rfl,cC,rfl,ee,rfl⟩ rfl rfl s rfl ?_
 refine ak.nil hM (hK _ _ _ ?_);clear hK K
 repeat apply aH (hM _)
 refine bt hM fun K hK=>?_
 refine xG p6 ⟨_,_,_,rfl,cC,rfl,ee,rfl⟩ av av ?_
 refine ak.nil hM (hK _ _ _ ?_);clear hK K
 repeat apply aH (hM _)
 refine bt hM fun K hK=>?_
 refine ak.defer (hM _) rfl cC rfl rfl (by simp;rfl) fun d e1 e2 k=>?_
 have l0:slot d 0= .pointer (some ⟨Wg,0,none⟩):=(e1 0).trans ax
 have y:slot d 1= .int .i64 (-1):=(e1 1).trans ax
 replace g:sz d=117:=e2.trans ax
 replace hd:d.defers=[dcall 173 #[]]:=k.trans ax
 clear e1 e2 k w k1
 refine ak.nil hM (hK _ _ _ ?_);clear hK K
 repeat apply aH (hM _)
 refine bt hM fun K hK=>?_
 refine ak.pure (hM _) 1 (n:=0) _ rfl rfl ?_;simp only[*,go_sem,-hK,-hM]
 refine ak.nil hM (hK _ _ _ ?_);clear hK K
 repeat apply aH (hM _)
 refine bt hM fun K hK=>?_
 refine ak.entry (.bool false) (hM _) Bt ⟨_,_,_,rfl,cC,rfl,ee,rfl⟩ ?_
 refine ak.nil hM (hK _ _ _ ?_);clear hK K
 repeat apply aH (hM _)
 refine cK (hM _) ax ?_
 apply cP (hM _)
 have w1:IntKind.u64.wrap (-1)=18446744073709551615:=aO
 have w2:IntKind.u64.wrap (18446744073709551615*2 ^ min 32 64)=18446744069414584320:=aO
 repeat apply aH (hM _)
 refine bt hM fun K hK=>?_
 refine ak.pure (hM _) 6 (n:=2) _ rfl rfl ?_;simp only[*,go_sem,-hK,-hM]
 refine ak.gk (hM _) rfl cC rfl zn er (IA f q) fun r F' aV c=>?_
 obtain ⟨rfl,v,t,l,ht,rfl,rfl⟩:=c
 obtain ⟨x,b⟩:∃x:Int,x=(v:Int)*4294967296+(t:Int):=⟨_,rfl⟩
 rw[<-b]
 have a1:iq x 2147483648=0:=by show kE x 2147483648=0;rw[b];exact xL v t aa ht
 have a2:iq x 2147483647=(t:Int):=by show kE x 2147483647=(t:Int);rw[b];exact xM v t aa ht
 have a3:x.fdiv (2 ^ min 32 64)=(v:Int):=by rw[b];exact xN v t ht
 have a4:IntKind.i32.wrap (v:Int)=(v:Int):=iJ aa aa
 have a5:IntKind.u32.wrap (t:Int)=(t:Int):=by
  unfold IntKind.wrap
  simp[IntKind.bits,IntKind.signed]
  omega
 have h:v=0->t=1->((1:Int) != x)=false:=fun e z=>by rw[b,e,z];rfl
 clear b
 refine ak.pure (hM _) 1 (n:=0) _ rfl rfl ?_;simp only[*,go_sem,-hK,-hM]
 refine ak.nil hM (hK _ _ _ ?_);clear hK K
 repeat apply aH (hM _)
 refine bt hM fun K hK=>?_
 refine ak.pure (hM _) 7 (n:=0) _ rfl rfl ?_;simp only[*,go_sem,-hK,-hM]
 refine ak.nil hM (hK _ _ _ ?_);clear hK K
 repeat apply aH (hM _)
 refine cK (hM _) ax ?_
 apply cP (hM _)
 repeat apply aH (hM _)
 refine bt hM fun K hK=>?_
 refine ak.pure (hM _) 4 (n:=0) _ rfl rfl ?_;simp only[*,go_sem,-hK,-hM]
 refine ak.nil hM (hK _ _ _ ?_);clear hK K
 repeat apply aH (hM _)
 refine bt hM fun K hK=>?_
 refine ak.pure (hM _) 4 (n:=0) _ rfl rfl ?_;simp only[*,go_sem,-hK,-hM]
 refine ak.nil hM (hK _ _ _ ?_);clear hK K
 repeat apply aH (hM _)
 refine bt hM fun K hK=>?_
 refine ak.pure (hM _) 10 (n:=0) _ rfl rfl ?_;simp only[*,go_sem,-hK,-hM]
 refine ak.nil hM (hK _ _ _ ?_);clear hK K
 repeat apply aH (hM _)
 refine cK (hM _) ax ?_
 apply cP (hM _)
 have c3:decide ((v:Int)<0)=false:=av
 repeat apply aH (hM _)
 refine bt hM fun K hK=>?_
 refine ak.pure (hM _) 2 (n:=0) _ rfl rfl ?_;simp only[*,go_sem,-hK,-hM]
 refine ak.nil hM (hK _ _ _ ?_);clear hK K
 repeat apply aH (hM _)
 refine cK (hM _) ax ?_
 apply cP (hM _)
 have o:t=0\/t=1:=aa
 by_cases hC:v=0/\t=1
 ·
  obtain ⟨rfl,rfl⟩:=hC
  have B:((1:Int) != x)=false:=h rfl rfl
  have hg:(if (0:Nat)=0/\(1:Nat)=1 then Gp.ld else Gp.gone)= .ld:=rfl
  rw[hg]
  have C:((1:Nat):Int)=1:=rfl
  clear hg h o l ht
  repeat apply aH (hM _)
  refine bt hM fun K hK=>?_
  refine ak.pure (hM _) 12 (n:=0) _ rfl rfl ?_;simp only[*,go_sem,-hK,-hM]
  refine ak.nil hM (hK _ _ _ ?_);clear hK K
  repeat apply aH (hM _)
  refine cK (hM _) ax ?_
  apply cP (hM _)
  repeat apply aH (hM _)
  refine bt hM fun K hK=>?_
  refine ak.pure (hM _) 6 (n:=0) _ rfl rfl ?_;simp only[*,go_sem,-hK,-hM]
  refine ak.nil hM (hK _ _ _ ?_);clear hK K
  repeat apply aH (hM _)
  refine cK (hM _) ax ?_
  apply cP (hM _)
  repeat apply aH (hM _)
  refine bt hM fun K hK=>?_
  refine ak.pure (hM _) 3 (n:=3) _ rfl rfl ?_;simp only[*,go_sem,-hK,-hM]
  refine ak.gk (hM _) rfl cC rfl uk er IB fun r F' aV c=>?_
  obtain ⟨rfl,rfl,rfl⟩:=c
  refine ak.pure (hM _) 2 (n:=0) _ rfl rfl ?_;simp only[*,go_sem,-hK,-hM]
  refine ak.nil hM (hK _ _ _ ?_);clear hK K
  repeat apply aH (hM _)
  refine cK (hM _) ax ?_
  apply cP (hM _)
  repeat apply aH (hM _)
  refine bt hM fun K hK=>?_
  refine ak.pure (hM _) 3 (n:=1) _ rfl rfl ?_;simp only[*,go_sem,-hK,-hM]
  refine ak.gk (hM _) rfl cC rfl Dn er (IC f) fun r F' aV c=>?_
  obtain ⟨rfl,rfl,rfl⟩:=c
  refine ak.nil hM (hK _ _ _ ?_);clear hK K
  repeat apply aH (hM _)
  refine bt hM fun K hK=>?_
  refine ak.pure (hM _) 1 (n:=0) _ rfl rfl ?_;simp only[*,go_sem,-hK,-hM]
  refine ak.nil hM (hK _ _ _ ?_);clear hK K
  repeat apply aH (hM _)
  refine cK (hM _) ax ?_
  apply cP (hM _)
  repeat apply aH (hM _)
  refine jO hM ?_
  refine p5 hM (I9 Wg (bs i) F') 1 ?_ ?_
  .exact ⟨1,rfl,ax,ax,ax,ax,.inl ⟨rfl,rfl,rfl⟩⟩
  .clear l0 y g hd c1 c2 c3 B a1 a2 a3 a4 a5 w1 w2 C
   rintro m A D G ⟨t8,rfl,l0,H,g,hd,⟨rfl,rfl,rfl⟩|⟨rfl,rfl,rfl⟩⟩
   .have E:((1:Int) != 0)=true:=rfl
    have w3:IntKind.u32.wrap (1 - 1)=0:=aO
    repeat apply aH (hM _)
    refine bt hM fun K hK=>?_
    refine ak.pure (hM _) 2 (n:=0) _ rfl rfl ?_;simp only[*,go_sem,-hK,-hM]
    refine ak.nil hM (hK _ _ _ ?_);clear hK K
    repeat apply aH (hM _)
    refine dm (hM _) ax ?_
    apply cP (hM _)
    repeat apply aH (hM _)
    refine jO hM ?_
    repeat apply aH (hM _)
    refine bt hM fun K hK=>?_
    refine ak.pure (hM _) 3 (n:=1) _ rfl rfl ?_;simp only[*,go_sem,-hK,-hM]
    refine Iv (.bool false) (.int .i64 0) HT f ⟨_,_,_,rfl,cC,rfl,ee,rfl⟩ (by rfl) ?_
    refine ak.nil hM (hK _ _ _ ?_);clear hK K
    repeat apply aH (hM _)
    refine bt hM fun K hK=>?_
    refine ak.pure (hM _) 3 (n:=0) _ rfl rfl ?_;simp only[*,go_sem,-hK,-hM]
    refine ak.nil hM (hK _ _ _ ?_);clear hK K
    exact ⟨0,aa,0,rfl,ax,ax,ax,ax,.inr ⟨rfl,rfl,rfl⟩⟩
   .have E:((0:Int) != 0)=false:=rfl
    repeat apply aH (hM _)
    refine bt hM fun K hK=>?_
    refine ak.pure (hM _) 2 (n:=0) _ rfl rfl ?_;simp only[*,go_sem,-hK,-hM]
    refine ak.nil hM (hK _ _ _ ?_);clear hK K
    repeat apply aH (hM _)
    refine cK (hM _) ax ?_
    exact n9 (show kD 173 (fun r a aV=>r= .tuple #[]/\a=D/\aV=⟨.fin,.gone,bs i,0⟩) .normal _ _ _ from Ja ax rfl rfl ⟨rfl,rfl,rfl⟩)
 ·
  rw[if_neg hC]
  have p:(0<v/\decide ((v:Int)>0)=true)\/(v=0/\decide ((v:Int)>0)=false/\((t:Int)==0)=true):=by
   rcases Nat.eq_zero_or_pos v with e|e
   .refine .inr ⟨e,by simp[e],?_⟩
    obtain rfl:t=0:=aa
    rfl
   .exact .inl ⟨e,by simp;omega⟩
  have a7:((t:Int) != 0)=false\/((t:Int) != 0)=true:=by cases ((t:Int) != 0)<;>simp
  clear h hC l ht o
  rcases a7 with a7|a7
  .repeat apply aH (hM _)
   refine bt hM fun K hK=>?_
   refine ak.pure (hM _) 12 (n:=0) _ rfl rfl ?_;simp only[*,go_sem,-hK,-hM]
   refine ak.nil hM (hK _ _ _ ?_);clear hK K
   repeat apply aH (hM _)
   refine cK (hM _) ax ?_
   apply cP (hM _)
   rcases p with ⟨_,j⟩|⟨_,j,b2⟩
   .repeat apply aH (hM _)
    refine bt hM fun K hK=>?_
    refine ak.pure (hM _) 6 (n:=0) _ rfl rfl ?_;simp only[*,go_sem,-hK,-hM]
    refine ak.nil hM (hK _ _ _ ?_);clear hK K
    repeat apply aH (hM _)
    refine dm (hM _) ax ?_
    exact fM (show kD 173 (fun r a aV=>r= .tuple #[]/\a=F'/\aV=⟨.fin,.gone,bs i,0⟩) .ret _ _ _ from s0 ax rfl rfl ⟨rfl,rfl,rfl⟩)
   .repeat apply aH (hM _)
    refine bt hM fun K hK=>?_
    refine ak.pure (hM _) 6 (n:=0) _ rfl rfl ?_;simp only[*,go_sem,-hK,-hM]
    refine ak.nil hM (hK _ _ _ ?_);clear hK K
    repeat apply aH (hM _)
    refine dm (hM _) ax ?_
    exact fM (show kD 173 (fun r a aV=>r= .tuple #[]/\a=F'/\aV=⟨.fin,.gone,bs i,0⟩) .ret _ _ _ from s0 ax rfl rfl ⟨rfl,rfl,rfl⟩)
  .repeat apply aH (hM _)
   refine bt hM fun K hK=>?_
   refine ak.pure (hM _) 12 (n:=0) _ rfl rfl ?_;simp only[*,go_sem,-hK,-hM]
   refine ak.nil hM (hK _ _ _ ?_);clear hK K
   repeat apply aH (hM _)
   refine cK (hM _) ax ?_
   apply cP (hM _)
   rcases p with ⟨_,j⟩|⟨_,j,b2⟩
   .repeat apply aH (hM _)
    refine bt hM fun K hK=>?_
    refine ak.pure (hM _) 6 (n:=0) _ rfl rfl ?_;simp only[*,go_sem,-hK,-hM]
    refine ak.nil hM (hK _ _ _ ?_);clear hK K
    repeat apply aH (hM _)
    refine dm (hM _) ax ?_
    exact fM (show kD 173 (fun r a aV=>r= .tuple #[]/\a=F'/\aV=⟨.fin,.gone,bs i,0⟩) .ret _ _ _ from s0 ax rfl rfl ⟨rfl,rfl,rfl⟩)
   .repeat apply aH (hM _)
    refine bt hM fun K hK=>?_
    refine ak.pure (hM _) 6 (n:=0) _ rfl rfl ?_;simp only[*,go_sem,-hK,-hM]
    refine ak.nil hM (hK _ _ _ ?_);clear hK K
    repeat apply aH (hM _)
    refine dm (hM _) ax ?_
    exact fM (show kD 173 (fun r a aV=>r= .tuple #[]/\a=F'/\aV=⟨.fin,.gone,bs i,0⟩) .ret _ _ _ from s0 ax rfl rfl ⟨rfl,rfl,rfl⟩)
end
end Go.Proofs.YtdgblangfefjmaaGreatDoor
end
section
namespace Go.Sep
open Go Go.Conc
open Go.ConcN (sumTo upd upd_ne upd_same)
def jm (P:Program):Frame:={(default:Frame) with fn:=P.funcs.size,defers:=[],mode:=.panicking [goexitEntry]}
section
variable {P:Program}{f:FuncId}{fn:Func}{cd:Code}{w:World}{caps args:Array Value}
theorem Jc (a:P.funcs[f]?=some fn)(b:(fn.name== "runtime.NumGoroutine")=false)(hb:fn.body=some cd):
  stepG P false (born P {target:=.fn (.func f) caps,args:=args}) w= .go (G ((baseD f).at {tmps:=args++caps++Array.replicate (fn.ntmps - (args++caps).size) undef,defers:=[]} [.code cd]) [jm P]) w #[]:=by
 have c:¬fn.name= "runtime.NumGoroutine":=by simpa using b
 rw[<-enter_atD (args++caps) a hb]
 simp[born,G,stepG,unwind,callDeferred,invoke,callFunc,a,c,hb,GStep.after,seen_none,jm]
theorem Jd {b:Frame}{a:Act}{todo:List Item}(d:b.kind= .deferred)(hd:a.defers=[])(e:P.funcs[b.fn]?=some fn)(c:fn.results=#[]):
  stepG P false (G {b.at a todo with mode:=.returning} [jm P]) w= .go (G (jm P) []) w #[]:=by
 have he:(results fn a.tmps).events P w #[]=#[]:=events_results_none c _ _
 have f:(results fn a.tmps).run P w= .ok (.tuple #[]) w:=results_none c _ P w
 simp[G,stepG,unwind,doReturn,Frame.at,d,hd,e,f,he,jm,goexitEntry,seen_none,GStep.after]
theorem Je:stepG P false (G (jm P) []) w= .go {frame:=jm P,callers:=[],status:=.finished,dying:=none} w #[]:=by
 have e:(default:Frame).todo=[]:=rfl;simp[G,stepG,unwind,jm,goexitEntry,Frame.catches,e]
end
section
variable {c:Cy}{i:Nat}{F:af}{f fd:FuncId}
def xS (c:Cy)(i:Nat)(fd:FuncId)(v:Value):Ex->Act->af->Ph->Prop
 | .exit _,_,_,_=>False
 |_,a,_,ph=>a.defers=[dcall fd #[v]]/\(ph.mp= .idle\/ph.mp= .fin)/\ph.gp= .cnt/\ph.stored=c.bs i/\ph.deaf=0
theorem worker {fn b:Func}{cd l:Code}{n nd:Nat}{v:Value}(m:c.P.funcs[f]?=some fn)(y:(fn.name== "runtime.NumGoroutine")=false)(hb:fn.body=some cd)(z:fn.results=#[])(o:fn.ntmps=n){caps:Array Value}(Q:caps.size<=n)
  (B:c.P.funcs[fd]?=some b) (C:(b.name== "runtime.NumGoroutine")=false) (D:b.body=some l) (E:b.results=#[]) (H:b.ntmps=nd) (I:1<=nd)
  (hd:∀(mp:Mp) (F:af),mp= .idle\/mp= .fin->∀A:Act,sz A=nd->A.defers=[]->(∀j,slot A j=(#[v]:Array Value).getD j undef)->cX (WJ c i) fd l (xK fun F' aV=>aV=⟨.fin,.gone,c.bs i,0⟩) A F ⟨mp,.cnt,c.bs i,0⟩)
  (h:∀A:Act,sz A=n->A.defers=[]->(∀j,slot A j=caps.getD j undef)->cX (WJ c i) f cd (xS c i fd v) A F ⟨.idle,.cnt,false,0⟩):
  Wk c i ⟨.idle,.cnt,false,0⟩ (born c.P {target:=.fn (.func f) caps,args:=#[]}) F:=by
 have hM:=WJ.eL c i
 have e0:∀w,stepG c.P false (born c.P {target:=.fn (.func f) caps,args:=#[]}) w= .go (G ((baseD f).at {tmps:=caps++Array.replicate (fn.ntmps - caps.size) undef,defers:=[]} [.code cd]) [jm c.P]) w #[]:=fun w=>by
  have:=Jc (P:=c.P) (w:=w) (caps:=caps) (args:=#[]) m y hb
  simpa using this
 refine Wk.act (c:=c) (i:=i) rfl rfl av fun w s k φ p0 e1 e2 R J K=>.inr ⟨_,w,#[],s,⟨.idle,.cnt,false,0⟩,e0 w,e2,.refl _ _,?_,mJ rfl Iff.rfl,.inr dZ,?_⟩
 .rw[<-J,xB];exact K
 have out:∀(a:Act) (p:List Item) F' (aV:Ph),(a.defers=[dcall fd #[v]]/\(aV.mp= .idle\/aV.mp= .fin)/\aV.gp= .cnt/\aV.stored=c.bs i/\aV.deaf=0)->WJ c i aV (G {(baseD f).at a p with mode:=.returning} [jm c.P]) F':=by
  intro a p F' aV ⟨k1,r,t,u,x⟩
  obtain ⟨mp,gp,st,S⟩:=aV
  simp only at r t u x
  subst t u x
  refine Iy B C D E H (by simpa using I) k1 (fun A L M N=>hd mp F' r A L M N) fun T U O=>?_
  subst O
  refine Wk.gone (q:=2) rfl (QuitsD.ctl rfl (fun w=>Jd rfl rfl m z) (QuitsD.ctl rfl (fun w=>Je) ⟨rfl,rfl⟩))
 have:=h {tmps:=caps++Array.replicate (fn.ntmps - caps.size) undef,defers:=[]} (by simp[sz,o];omega) rfl (fun j=>?_) (baseD f) [] [jm c.P] ⟨by simp[baseD],rfl,rfl⟩ fun e a F' aV g=>?_
 .rw[eX rfl] at this;exact this
 .simp only[slot,o,Array.getD_eq_getD_getElem?]
  rcases Nat.lt_or_ge j caps.size with d|d
  .rw[Array.getElem?_append_left d]
  .rw[Array.getElem?_append_right d,Array.getElem?_replicate,Array.getElem?_eq_none d]
   split<;>rfl
 .cases e with
  |normal=>exact (hM aV).move (fun _=>lI rfl) (out a _ F' aV g)
  |exit i=>exact g.elim
  |ret=>exact fun V=>(hM aV).move (fun _=>stepG_ret' rfl) (out a _ F' aV g)
end
attribute [go_sem] xS
end Go.Sep
end
section
namespace Go.Proofs.YtdgblangfefjmaaGreatDoor
open Go Go.Sep Go.Proofs Go.Conc
open Go.ConcN (upd upd_same)
open Go.ConcM (muA msA)
open Go.ConcR (stA smA)
set_option maxRecDepth 100000
set_option maxHeartbeats 4000000
attribute [local go_sem] Int.reduceBEq Int.reduceBNe muA msA stA smA
theorem Jf:(Tryz.prog.funcs[145]?).any (·.norace)=false:=ai
section
variable {Mu Wg Is n base T0 i:Nat}{bs:Nat->Bool}
theorem Jg (m:Mu≠Wg/\Mu≠Is/\Wg≠Is)(x:n<67108864)(a5:i<n){ro:Addr->Option Value}(u0:dw){s1:Value}(o:aB dV ro s1 u0.book.aR){K:Value}(q:aB eV ro K u0.book.props){L:Value}(r:aB fl ro L u0.book.aU){M:Value}(s:aB dD ro M u0.book.told)
  (z:Int) (B:List Int) {N:Value} (u:aB rI ro N B) (C:List bM) {O:Value} (f:aB iY ro O C) {d b2 b3 b4 P Q:Nat}
  (g0:ro ⟨d,0,none⟩=some (.int .i64 u0.book.bE)) (R:ro ⟨d,1,none⟩=some (.int .i64 u0.book.cD)) (S:ro ⟨d,2,none⟩=some (.int .i64 u0.book.bx.num)) (T:ro ⟨d,3,none⟩=some (.int .i64 u0.book.bx.den)) (U:ro ⟨d,4,none⟩=some s1) (V:ro ⟨d,5,none⟩=some K) (W:ro ⟨d,6,none⟩=some L) (X:ro ⟨d,7,none⟩=some M)
  (Y:ro ⟨b2,0,none⟩=some (.int .i64 z)) (Z:ro ⟨b3,0,none⟩=some N) (ab:ro ⟨b4,0,none⟩=some O) (D:ro ⟨P,0,none⟩=some (.slice (some ⟨Is,0,none⟩) n n)) (E:ro ⟨Q,0,none⟩=some (.int .i64 i))
  (h:aj (rJ u0.book z B) (fun b=>rq b C)=some (bs i)):
  Wk (CY Mu Wg Is n bs base T0) i ⟨.idle,.cnt,false,0⟩ (born Tryz.prog {target:=.fn (.func 145) #[.pointer (some ⟨Wg,0,none⟩),.pointer (some ⟨d,0,none⟩),.pointer (some ⟨b2,0,none⟩),.pointer (some ⟨b3,0,none⟩),.pointer (some ⟨b4,0,none⟩),.pointer (some ⟨Mu,0,none⟩),.pointer (some ⟨P,0,none⟩),.pointer (some ⟨Q,0,none⟩)],args:=#[]}) ⟨ro,[]⟩:=by
 have hM:=WJ.eL (CY Mu Wg Is n bs base T0) i
 have hJ:∀ph:Ph,ph.gp= .cnt->Go.Sep.Closed Tryz.prog false (WJ (CY Mu Wg Is n bs base T0) i ph):=fun ph h=>Wk.closed (CY Mu Wg Is n bs base T0) i ph h
 refine worker (c:=CY Mu Wg Is n bs base T0) (i:=i) (fd:=146) (v:=.pointer (some ⟨Wg,0,none⟩)) Tryz.func145 rfl rfl rfl Tryz.ntmps145 av Tryz.func146 rfl rfl rfl Tryz.ntmps146 av ?_ ?_
 .intro mp F a6 A G hd hs
  have w:=hs 0
  clear hs h g0 R S T U V W X Y Z ab D E o q r s u f hJ a5
  repeat apply aH (hM _)
  refine dn hM ?_
  refine ak.pure (hM _) 1 (n:=1) _ rfl rfl ?_;apply ag _
  refine ak.gk (hM _) rfl rfl rfl zm (by simp only[*,go_sem,stA]) (Jb m x a6 rfl) fun v F' aV g=>?_
  obtain ⟨rfl,rfl,rfl⟩:=g
  refine ak.nil hM ?_
  exact ⟨aI,rfl⟩
 .intro ad G hd hs
  have w:=hs 0
  have k1:=hs 1
  have ae:=hs 2
  have al:=hs 3
  have ao:=hs 4
  have ar:=hs 5
  have a0:=hs 6
  have a2:=hs 7
  clear hs
  repeat apply aH (hM _)
  refine dn hM ?_
  refine ak.defer (hM _) (vals:=#[.pointer (some ⟨Wg,0,none⟩)]) rfl (by rfl) rfl rfl (by simp only[List.map_toArray,List.map_cons,List.map_nil];rw[show ad.eval (.tmp 0)=slot ad 0 from rfl,w];rfl) fun A e1 e2 H=>?_
  replace w:=(e1 0).trans w
  replace k1:=(e1 1).trans k1
  replace ae:=(e1 2).trans ae
  replace al:=(e1 3).trans al
  replace ao:=(e1 4).trans ao
  replace ar:=(e1 5).trans ar
  replace a0:=(e1 6).trans a0
  replace a2:=(e1 7).trans a2
  replace G:sz A=20:=e2.trans G
  rw[hd] at H
  replace hd:=H
  clear e1 e2 H
  refine ak.nil hM ?_;try simp only[go_sem]
  obtain ⟨d3,c4,rfl,a7,a8,a9⟩:=id o
  obtain ⟨d10,dq,rfl,ba,bb,bc⟩:=id q
  obtain ⟨d17,ds,rfl,bd,bj,bk⟩:=id r
  obtain ⟨d24,dt,rfl,bl,bm,bo⟩:=id s
  obtain ⟨d38,du,rfl,br,bz,bS⟩:=id u
  obtain ⟨d45,dv,rfl,b0,b1,I⟩:=id f
  repeat apply aH (hM _)
  have k:=hJ ⟨.idle,.cnt,false,0⟩ rfl
  refine cX.of k ?_
  refine Dv k mixed [0,1,2,3,5] [4,6] ⟨ro,[]⟩ cL ai ?_
  have b5:=dJ h;clear h;obtain ⟨ca,a3,h⟩:=b5
  simp only[*,go_sem,-h,-hJ,-hM]
  refine tX k _ (E3 u0.book ⟨o,q,r,s⟩ z B u a3) fun v dC l cb g=>?_
  obtain ⟨dE,dT,ea,eb,rfl,j⟩:=g
  replace f:=f.mono l;clear I;obtain ⟨_,_,I⟩:=f.op
  obtain ⟨d63,ec,rfl,cd,cf,cl⟩:=id j.e
  obtain ⟨d68,ed,rfl,cy,cS,c0⟩:=id j.p
  obtain ⟨d73,eh,rfl,da,db,dd⟩:=id j.y
  obtain ⟨d78,et,rfl,df,dk,dp⟩:=id j.t
  replace D:=l _ _ D
  replace E:=l _ _ E
  clear g0 R S T U V W X Y Z ab
  refine ⟨⟨l,fun a J=>by simp[keys] at J,trivial⟩,gX ?_⟩
  simp only[*,go_sem,-h,-hJ,-hM]
  refine bf k _ (ES ca (j.mono bg) C (f.mono bg) h) ?_
  refine ⟨⟨l,fun a J=>by simp[keys] at J,trivial⟩,?_⟩
  clear o q r s u f j a9 bc bk bo bS I cl c0 dd dp h a3 a7 ba bd bl br b0 cd cy da df a8 bb bj bm bz b1 cf cS db dk k cb
  have i0:(0:Int)<=(i:Int):=aa
  have i1:(i:Int)<(n:Int):=aa
  cases a4:bs i
  .repeat apply aH (hM _)
   refine cK (hM _) aI ?_
   apply cP (hM _)
   exact ⟨aI,.inl rfl,rfl,a4.symm,rfl⟩
  .repeat apply aH (hM _)
   refine dm (hM _) aI ?_
   repeat apply aH (hM _)
   refine dn hM ?_
   refine ak.gk (hM _) rfl (by rfl) rfl Dk aI (Il m x) fun v F' aV g=>?_
   obtain ⟨rfl,rfl,rfl⟩:=g
   refine ak.nil hM ?_;try simp only[go_sem]
   repeat apply aH (hM _)
   refine dn hM ?_
   refine ak.bK (hJ _ rfl) 3 (n:=1) _ rfl rfl ?_;apply ag _
   refine Ia HU zb Jf m ⟨_,rfl,(by first|rfl|simp only[*,go_sem]),rfl,rfl⟩ (by rfl) aI aI ?_
   refine ak.nil hM ?_;try simp only[go_sem]
   repeat apply aH (hM _)
   refine dn hM ?_
   refine ak.gk (hM _) rfl (by rfl) rfl Dl aI (Im m x) fun v F' aV g=>?_
   obtain ⟨rfl,rfl,rfl⟩:=g
   refine ak.nil hM ?_
   exact (show xS _ _ _ _ .normal _ _ _ from ⟨aI,.inr rfl,rfl,a4.symm,rfl⟩)
end
end Go.Proofs.YtdgblangfefjmaaGreatDoor
end
section
namespace Go.Proofs.YtdgblangfefjmaaGreatDoor
open Go Go.Sep Go.Proofs Go.Conc
open Go.ConcN (upd upd_same)
open Go.ConcM (muA msA muBlock)
open Go.ConcR (stA smA wgBlock)
set_option maxRecDepth 100000
set_option maxHeartbeats 4000000
attribute [local go_sem] Int.reduceBEq Int.reduceBNe muA msA stA smA
def Jh (u0:dw)(a:Int)(c:List bM)(d:List Int):Option Bool:=aj (rJ u0.book a d) fun b=>rq b c
def qa (f:List Int->Option Bool):List (List Int)->Option (List Bool)
 |[]=>some []
 |x::l=>aj (f x) fun b=>aj (qa f l) fun r=>some (b::r)
def xT (a:List Bool)(i23:Nat)(b:List Int)(st:List (List Int)):Option (Fl (List (List Int)) (List (List Int))):=
 aj (bH a (i23:Int)) fun c=>cond (c) (aj (eA st ([b])) fun d=>some (.nx d)) (some (.nx st))
def s3 (u0:dw)(b:Int)(a:List (List Int)):Option (List (List Int)):=
 cond (decide (a.length<1048576)) (aj (rY u0) fun c=>aj (qa (Jh u0 b c) a) fun bl=>aj (bQ (xT bl) 0 a ([]:List (List Int))) fun o=>aL o (fun d=>some d) (fun _ _=>none) (fun r=>some r)) none
theorem BS {f:List Int->Option Bool}:∀{l:List (List Int)} {bl:List Bool},qa f l=some bl->bl.length=l.length/\∀(i:Nat) (c:List Int),l[i]?=some c->f c=some (bl[i]?.getD false)
 |[],bl,h=>by
  simp[qa] at h;subst h
  exact ⟨rfl,fun i c a=>by simp at a⟩
 |x::l,bl,h=>by
  unfold qa at h
  obtain ⟨b,hb,h⟩:=dJ h
  obtain ⟨r,d,h⟩:=dJ h
  have h:=Option.some.inj h
  subst h
  obtain ⟨e1,e2⟩:=BS d
  refine ⟨by simp[e1],fun i c a=>?_⟩
  cases i with
  |zero=>simp at a;subst a;simpa using hb
  |succ i=>simp at a;simpa using e2 i c a
def BT (x:X)(d:Addr->Option Value)(b3 b4 e f:Nat)(b:Value)(m:Nat)(a:Act)(F:af)(z:Z):Prop:=
 ∃(i:Nat) (c:Addr->Option Value),m=x.n - i/\i<=x.n/\F=⟨c,[]⟩/\Ext d c/\slot a 2=b/\slot a 3= .pointer (some ⟨b3,0,none⟩)/\slot a 4= .pointer (some ⟨b4,0,none⟩)/\slot a 6= .slice none 0 0/\slot a 7= .pointer (some ⟨e,0,none⟩)/\slot a 8= .pointer (some ⟨f,0,none⟩)/\slot a 9= .pointer (some ⟨x.Mu,0,none⟩)/\slot a 10= .pointer (some ⟨x.Wg,0,none⟩)/\slot a 21=b/\slot a 22= .int .i64 x.n/\slot a 23= .int .i64 i/\sz a=49/\a.defers=[]/\z= .co x i (.opn 0) 0
theorem Ji (l:List Bool):(l.map fun b=>[Value.bool b]).flatten=l.map Value.bool:=by
 induction l with
 |nil=>rfl
 |cons b l ih=>simp only[List.map_cons,List.flatten_cons,ih];rfl
theorem Jj:Tryz.prog.underlying 217=some (.slice 4):=ai
theorem Jk:Tryz.prog.info? 4=some ((Tryz.prog.info? 4).getD default):=ai
theorem BU {ro:Addr->Option Value}(u0:dw){s1:Value}(o:aB dV ro s1 u0.book.aR){bo:Value}(p:aB eV ro bo u0.book.props){br:Value}(q:aB fl ro br u0.book.aU){bs:Value}(s:aB dD ro bs u0.book.told){bz:Value}(a3:aB g9 ro bz u0.all)(ab:Int)(a:List (List Int)){bS:Value}(g:aB (rL rI) ro bS a){r:List (List Int)}(h:s3 u0 ab a=some r):
  oO Tryz.prog 101 #[.agg #[.int .i64 u0.book.bE,.int .i64 u0.book.cD,.int .i64 u0.book.bx.num,.int .i64 u0.book.bx.den,s1,bo,br,bs,bz],.int .i64 ab,bS] ro (fun v aT=>∃b0,v=b0/\aB (rL rI) aT b0 r):=by
 refine fT.IV (T:=TT) fun Φ=>?_
 obtain ⟨d3,c4,rfl,fx,fz,gg⟩:=id o
 obtain ⟨d10,gl,rfl,gn,gp,P⟩:=id p
 obtain ⟨d17,G,rfl,gB,gC,gV⟩:=id q
 obtain ⟨d24,g0,rfl,g1,g2,g3⟩:=id s
 obtain ⟨d31,j2,rfl,g4,ha,hc⟩:=id a3
 obtain ⟨d38,b1,rfl,kh,b2,w⟩:=id g
 unfold s3 at h
 have hlen:a.length<1048576:=by
  rcases Nat.lt_or_ge a.length 1048576 with y|y
  .exact y
  .rw[show decide (a.length<1048576)=false by simp;omega] at h;cases h
 rw[show decide (a.length<1048576)=true by simp;omega] at h
 simp only[cond_true] at h
 obtain ⟨b5,ca,h⟩:=dJ h
 obtain ⟨bl,cb,h⟩:=dJ h
 obtain ⟨cd,cf⟩:=BS cb
 have hM:=ZJ.eL TT Φ
 have hJ:=fun (z:Z) (Q:xQ z=true)=>ZJ.I5 TT Φ z Q
 refine cO.go (main:=true) hM Tryz.func101 rfl Tryz.ntmps101 av fun A Q hd hs=>?_
 have hf:=hs 0
 have k1:=hs 1
 have cl:=hs 2
 clear hs cb
 repeat apply aH (hM _)
 refine bt hM fun K hK=>?_
 refine ak.bK (hJ _ rfl) 3 (n:=0) _ rfl rfl ?_;apply bX _
 intro b3 f3;have r3:=dI f3;have n3:=ew f3
 try simp only[au] at n3
 intro b4 f4;have hg:=dI f4;have cS:=ew f4
 try simp only[au] at cS
 try simp only[*,go_sem,-hK,-hM,-hJ,-h]
 refine ak.nil hM (hK _ _ _ ?_);clear hK K
 have k:=hJ .free rfl
 repeat apply aH (hM _)
 refine bt hM fun K hK=>?_
 refine ak.bK (hJ _ rfl) 4 (n:=0) _ rfl rfl ?_;apply bX _
 refine tX k _ (Ak u0 ⟨o,p,q,s⟩ a3 ca) fun v kj H hh R=>?_
 obtain ⟨kk,rfl,I⟩:=R
 replace o:=o.mono H
 replace p:=p.mono H
 replace q:=q.mono H
 replace s:=s.mono H
 replace g:=g.mono H
 obtain ⟨d45,hi,rfl,hj,hk,hl⟩:=id I
 clear gg P gV g3 hc w hl r3 hg
 apply aP
 try simp only[*,go_sem,-hK,-hM,-hJ,-h,-k]
 intro a4 f7;have hn:=dI f7;have c0:=ew f7
 try simp only[au] at c0
 try simp only[*,go_sem,-hK,-hM,-hJ,-h,-k]
 refine ak.nil hM (hK _ _ _ ?_);clear hK K
 repeat apply aH (hM _)
 refine bt hM fun K hK=>?_
 refine ak.bK (hJ _ rfl) 5 (n:=0) _ rfl rfl ?_;apply bX _
 refine I4 Jj Jk rfl zb C3 hlen fun f a5=>?_
 have rI:=dI a5;have nI:=ew a5
 try simp only[au] at nI
 apply aP
 try simp only[*,go_sem,-hK,-hM,-hJ,-h,-k]
 intro S f8;have ho:=dI f8;have da:=ew f8
 try simp only[au] at da
 try simp only[*,go_sem,-hK,-hM,-hJ,-h,-k]
 refine ak.nil hM (hK _ _ _ ?_);clear hK K
 repeat apply aH (hM _)
 refine bt hM fun K hK=>?_
 refine ak.bK (hJ _ rfl) 1 (n:=0) _ rfl rfl ?_;apply bX _
 intro J f9;have hp:=dI f9;have db:=ew f9
 try simp only[au] at db
 try simp only[*,go_sem,-hK,-hM,-hJ,-h,-k]
 refine ak.nil hM (hK _ _ _ ?_);clear hK K
 repeat apply aH (hM _)
 refine bt hM fun K hK=>?_
 refine ak.bK (hJ _ rfl) 1 (n:=0) _ rfl rfl ?_;apply bX _
 intro L f10;have hq:=dI f10;have dd:=ew f10
 try simp only[au] at dd
 try simp only[*,go_sem,-hK,-hM,-hJ,-h,-k]
 refine ak.nil hM (hK _ _ _ ?_);clear hK K
 repeat apply aH (hM _)
 refine bt hM fun K hK=>?_
 refine ak.bK (hJ _ rfl) 3 (n:=0) _ rfl rfl ?_;apply bX _
 refine ak.nil hM (hK _ _ _ ?_);clear hK K
 refine xR k fun nd no=>?_
 obtain ⟨ad,B,hle,u,df,dk,dp⟩:=I6 nd no
 clear nd no
 refine IS (T:=TT) (Φ:=Φ) ⟨ad,[]⟩ J L f a.length (fun i=>bl[i]?.getD false) hle ?_
 intro base B0 T0 hr ae
 clear hle
 have al:a.length<67108864:=aa
 replace o:=o.mono B
 replace p:=p.mono B
 replace q:=q.mono B
 replace s:=s.mono B
 replace g:=g.mono B
 replace I:=I.mono B
 have dq:=u 0 (.int .i64 u0.book.bE) rfl
 have ds:=u 1 (.int .i64 u0.book.cD) rfl
 have dt:=u 2 (.int .i64 u0.book.bx.num) rfl
 have du:=u 3 (.int .i64 u0.book.bx.den) rfl
 have dv:=u 4 (.slice d3 u0.book.aR.length c4) rfl
 have dC:=u 5 (.slice d10 u0.book.props.length gl) rfl
 have dE:=u 6 (.slice d17 u0.book.aU.length G) rfl
 have dT:=u 7 (.slice d24 u0.book.told.length g0) rfl
 have ea:=df 0 (.int .i64 ab) rfl
 have eb:=dk 0 (.slice d45 b5.length hi) rfl
 have a6:=dp 0 (.slice (some ⟨f,0,none⟩) a.length a.length) rfl
 clear u df dk dp f3 f4 f7 f8 f9 f10 a5 n3 cS c0 da db dd nI hn ho hp hq rI hh
 repeat apply aH (hM _)
 refine jO hM ?_
 refine p5 hM (BT (⟨J,L,f,a.length,(fun i=>bl[i]?.getD false),base,T0,B0⟩:X) ad b3 b4 a4 S (.slice d38 a.length b1)) a.length ?_ ?_
 .exact ⟨0,ad,rfl,Nat.zero_le _,rfl,Ext.refl _,ax,ax,ax,ax,ax,ax,ax,ax,ax,ax,ax,ax,ax,rfl⟩
 clear hf k1 cl Q hd
 rintro m A F' ec ⟨i,N,rfl,a7,rfl,c,cl,ht,hv,kl,hx,km,hy,hz,hA,hB,hD,Q,hd,rfl⟩
 have a7:i<=a.length:=a7
 replace o:=o.mono c
 replace p:=p.mono c
 replace q:=q.mono c
 replace s:=s.mono c
 replace g:=g.mono c
 replace I:=I.mono c
 rcases Nat.lt_or_ge i a.length with ao|hE
 .have c1:decide ((i:Int)<(a.length:Int))=true:=by simp;omega
  have i0:(0:Int)<=(i:Int):=aa
  have i1:(i:Int)<(a.length:Int):=aa
  obtain ⟨a8,ed⟩:∃x,a[i]?=some x:=⟨_,List.getElem?_eq_getElem ao⟩
  obtain ⟨_,_,w⟩:=g.op
  obtain ⟨hF,eh,a9,ba,U⟩:=w _ _ ed
  obtain ⟨hG,rfl,V⟩:=ba
  obtain ⟨d32,W,rfl,hI,hL,-⟩:=id V
  cases a9
  have hN:=U 0 _ rfl
  simp only[go_sem] at hN
  clear U w
  have et:=cw (n:=i) aa
  repeat apply aH (hM _)
  refine bt hM fun K hK=>?_
  refine ak.bK (hJ _ rfl) 1 (n:=0) _ rfl rfl ?_;apply bX _
  refine ak.nil hM (hK _ _ _ ?_);clear hK K
  repeat apply aH (hM _)
  refine dm (hM _) ax ?_
  apply cP (hM _)
  repeat apply aH (hM _)
  refine jO hM ?_
  repeat apply aH (hM _)
  refine bt hM fun K hK=>?_
  refine ak.bK (hJ _ rfl) 7 (n:=0) _ rfl rfl ?_;apply bX _
  intro hP f11;have hQ:=dI f11;have ev:=ew f11
  try simp only[au] at ev
  try simp only[*,go_sem,-hK,-hM,-hJ,-h,-k]
  intro hR f12;have hS:=dI f12;have eQ:=ew f12
  try simp only[au] at eQ
  try simp only[*,go_sem,-hK,-hM,-hJ,-h,-k]
  refine ak.nil hM (hK _ _ _ ?_);clear hK K
  refine xR (hJ _ rfl) fun nd no=>?_
  obtain ⟨hT,d,hle,eS,e0⟩:=I7 nd no
  clear nd no f11 f12 hQ hS ev eQ
  refine BR (hJ _ rfl) hle ?_
  clear hle
  have hV:=eS 0 (.int .i64 i) rfl
  have hX:=e0 0 (.slice d32 a8.length W) rfl
  clear eS e0
  repeat apply aH (hM _)
  refine bt hM fun K hK=>?_
  refine ak.gk (hM _) rfl cC rfl zm er (I2 ae al) fun v F' ec R=>?_
  obtain ⟨rfl,rfl,rfl⟩:=R
  refine ak.nil hM (hK _ _ _ ?_);clear hK K
  repeat apply aH (hM _)
  refine bt hM fun K hK=>?_
  refine ak.bK (hJ _ rfl) 1 (n:=1) _ rfl rfl ?_;apply bX _
  refine I8 (caps:=#[.pointer (some ⟨L,0,none⟩),.pointer (some ⟨b3,0,none⟩),.pointer (some ⟨b4,0,none⟩),.pointer (some ⟨hR,0,none⟩),.pointer (some ⟨a4,0,none⟩),.pointer (some ⟨J,0,none⟩),.pointer (some ⟨S,0,none⟩),.pointer (some ⟨hP,0,none⟩)]) (f0:=145) ao ⟨_,rfl,cC,rfl,rfl⟩ er ?_ ?_
  .exact Jg ae al ao u0 (o.mono d) (p.mono d) (q.mono d) (s.mono d) ab a8 (V.mono d) b5 (I.mono d) (d _ _ (c _ _ dq)) (d _ _ (c _ _ ds)) (d _ _ (c _ _ dt)) (d _ _ (c _ _ du)) (d _ _ (c _ _ dv)) (d _ _ (c _ _ dC)) (d _ _ (c _ _ dE)) (d _ _ (c _ _ dT)) (d _ _ (c _ _ ea)) hX (d _ _ (c _ _ eb)) (d _ _ (c _ _ a6)) hV (cf i a8 ed)
  refine ak.nil hM (hK _ _ _ ?_);clear hK K
  repeat apply aH (hM _)
  refine bt hM fun K hK=>?_
  refine ak.bK (hJ _ rfl) 2 (n:=0) _ rfl rfl ?_;apply bX _
  refine ak.nil hM (hK _ _ _ ?_);clear hK K
  change ∃e1,e1<a.length - i/\BT _ ad b3 b4 a4 S _ e1 _ _ _
  exact ⟨a.length - (i+1),aa,i+1,hT,rfl,ao,rfl,c.trans d,ax,ax,ax,ax,ax,ax,ax,ax,ax,ax,ax,ax,ax,rfl⟩
 .have c1:decide ((i:Int)<(a.length:Int))=false:=by simp;omega
  obtain rfl:i=a.length:=aa
  repeat apply aH (hM _)
  refine bt hM fun K hK=>?_
  refine ak.bK (hJ _ rfl) 1 (n:=0) _ rfl rfl ?_;apply bX _
  refine ak.nil hM (hK _ _ _ ?_);clear hK K
  repeat apply aH (hM _)
  refine cK (hM _) ax ?_
  refine n9 ?_
  simp only[go_sem]
  repeat apply aH (hM _)
  refine bt hM fun K hK=>?_
  refine ak.gk (hM _) rfl cC rfl Dm er (I3 ae al) fun v F' ec R=>?_
  obtain ⟨rfl,rfl,rfl⟩:=R
  refine ak.nil hM (hK _ _ _ ?_);clear hK K
  refine xR k fun nd no=>?_
  have rI:∀off sp,N ⟨f,off,sp⟩=none:=fun off sp=>no f (by simp[keys]) off sp
  have hle:Le ⟨bR N f (X.cy (⟨J,L,f,a.length,(fun i=>bl[i]?.getD false),base,T0,B0⟩:X) TT).fin,[]⟩ ⟨N,[(f,(X.cy (⟨J,L,f,a.length,(fun i=>bl[i]?.getD false),base,T0,B0⟩:X) TT).fin)]⟩:=jX (by simp[lk]) av trivial
  have Y:aB rB (bR N f (X.cy (⟨J,L,f,a.length,(fun i=>bl[i]?.getD false),base,T0,B0⟩:X) TT).fin) (.slice (some ⟨f,0,none⟩) bl.length bl.length) bl:=aB.flat (fun b=>[.bool b]) bl (fun _=>rfl) rI (by
   show (((List.range a.length).map fun i=>Value.bool (bl[i]?.getD false)).toArray).toList=_
   rw[<-cd]
   apply List.ext_getElem?
   intro j
   rw[Ji bl]
   simp only[List.getElem?_map]
   rcases Nat.lt_or_ge j bl.length with y|y
   .simp[y]
   .simp[y]) aa
  obtain ⟨C,bb⟩:∃C,C=bR N f (X.cy (⟨J,L,f,a.length,(fun i=>bl[i]?.getD false),base,T0,B0⟩:X) TT).fin:=⟨_,rfl⟩
  have ar:Ext N C:=by rw[bb];exact gr _ _ _
  have hY:Ext ro C:=H.trans (B.trans (c.trans ar))
  rw[<-bb] at hle Y
  refine BR k hle ?_
  replace g:=g.mono ar
  have a6:C ⟨S,0,none⟩=some (.slice (some ⟨f,0,none⟩) bl.length bl.length):=by rw[cd];exact ar _ _ (c _ _ a6)
  clear hle nd no bb rI dq ds dt du dv dC dE dT ea eb hM hJ ae al hr o p q s I ca cf c1 hlen hE a7 ar H B c ht hv hx hy hz hA hB hD fx fz gn gp gB gC g1 g2 a3 g4 ha hj hk
  obtain ⟨_,_,w⟩:=g.op
  obtain ⟨_,_,P⟩:=Y.op
  have hJ:=k
  clear k
  refine cX.of hJ ?_
  repeat apply ah hJ
  apply aG hJ
  apply bu _
  repeat apply ah hJ
  apply aG hJ
  apply bu _
  repeat apply ah hJ
  apply aW hJ
  have e:=dJ h;clear h;obtain ⟨hZ,D,h0⟩:=e;have h:=True.intro
  refine b7 hJ [13,14,15,34,35,36,37,38,39,40,41,42,43,44,45,46,47] (fun m e3 F'=>∃(i23:Nat) (d17:Option Addr) (G:Nat) (a0:List (Nat×Obj)) (E:(List (List Int))),m=a.length - i23/\i23<=a.length/\bQ (xT bl) i23 (a.drop i23) E=some hZ/\F'=⟨C,a0⟩/\aZ (rL rI) C 60 (.slice d17 E.length G) E a0/\E.length<=G/\slot e3 34= .int .i64 (i23:Int)/\slot e3 13= .slice d17 E.length G) a.length ?_ ?_
  .refine ⟨0,none,0,[],([]:List (List Int)),(Nat.sub_zero _).symm,Nat.zero_le _,D,rfl,aZ.nil _ _ _,Nat.le_refl _,?_⟩
   simp only[*,go_sem,-h]
  .rintro kn O F' M ⟨i23,d17,G,a0,E,rfl,kp,D,rfl,bc,h1,ks,kt⟩
   have h:=True.intro
   have kv:sz O=49:=by rw[M.size];simp only[*,go_sem,-h]
   have kx:O.defers=[]:=by rw[M.defers];simp only[*,go_sem,-h]
   have ky:slot O 6= .slice none 0 0:=by rw[M.fD 6 aO];simp only[*,go_sem,-h]
   have k0:slot O 8= .pointer (some ⟨S,0,none⟩):=by rw[M.fD 8 aO];simp only[*,go_sem,-h]
   have k2:slot O 32= .slice d38 a.length b1:=by rw[M.fD 32 aO];simp only[*,go_sem,-h]
   have lb:slot O 33= .int .i64 (a.length:Int):=by rw[M.fD 33 aO];simp only[*,go_sem,-h]
   clear M Q hd
   repeat apply ah hJ
   apply aG hJ
   apply bu _
   repeat apply ah hJ
   rcases Nat.lt_or_ge i23 a.length with h2|fa
   .refine c5 hJ cL ?_
    apply aK hJ
    obtain ⟨a2,bd⟩:∃x,a[i23]?=some x:=⟨_,List.getElem?_eq_getElem h2⟩
    rw[dr bd] at D
    have e:=dJ D;clear D h;obtain ⟨lh,h,fb⟩:=e
    unfold xT at h
    try dsimp only at h
    obtain ⟨lj,ll,h3,h4,fg⟩:=w _ _ bd
    obtain ⟨hG,rfl,V⟩:=h4;obtain ⟨d32,W,rfl,hI,hL,ln⟩:=id V
    cases h3
    have h5:=fg 0 _ rfl;simp only[go_sem] at h5
    clear fg bd
    repeat apply ah hJ
    apply aW hJ
    repeat apply ah hJ
    refine aE hJ fun lo=>?_
    apply aG hJ
    apply bu _
    repeat apply ah hJ
    refine aE hJ fun lr=>?_
    apply aG hJ
    have e:=dJ h;clear h;obtain ⟨h6,h7,h⟩:=e
    obtain ⟨lv,lx,fi⟩:=c6 h7
    obtain ⟨hF,eh,a9,ba,U⟩:=P _ _ fi
    obtain rfl:eh=[.bool h6]:=ba
    cases a9
    have h8:=U 0 _ rfl;simp only[go_sem] at h8
    clear U fi
    try apply bu _
    have e:=gJ h;clear h;rcases e with ⟨bj,h⟩|⟨bj,h⟩
    .try simp only[Int.ofNat_lt] at bj
     refine c5 hJ cL ?_
     refine aE hJ fun h9=>?_
     apply aG hJ
     have e:=dJ h;clear h;obtain ⟨ib,ic,h⟩:=e
     obtain ⟨ih,fp⟩:=dQ ic
     apply bu _
     intro fr f45;have ik:=dI f45;have fs:=ew f45
     have il:=aY.cons fs h9
     try simp only[au] at fs
     try apply bu _
     refine uu (r:=(rL rI)) (l:=E) (x:=a2) (cs:=#[.slice d32 a2.length W]) (e2:=60) [(fr,.cells #[.slice d32 a2.length W] 60)] [] (by first|rfl|simp only[bn]|(simp only[bn];rfl)) bc il ih ⟨_,rfl,V⟩ cL ik rfl rfl kQ kQ qC qE rfl qD aO aO (fun ly ft bk im iv lL=>?_)
     simp only[bn] at iv
     subst im
     rw[<-fp] at bk;clear fp
     obtain ⟨d53,ix,rfl,jC⟩:=bk.len
     refine ⟨⟨C,(fr,.cells #[.slice d32 a2.length W] 60)::ft⟩,Le.refl _,?_⟩
     apply aP
     try apply bu _
     have e:=Option.some.inj h;clear h;subst e
     have h:=True.intro
     have et:=cw (n:=i23) (by have:=b2;omega)
     apply aG hJ
     apply bu _
     refine ⟨a.length - (i23+1),aa,_,Le.sub (List.Sublist.cons _ (List.Sublist.refl _)),i23+1,d53,ix,ft,ib,rfl,aa,fb,rfl,bk,jC,?_⟩
     simp only[*,go_sem,-h]
    .try simp only[Int.ofNat_lt] at bj
     refine cW hJ cL ?_
     apply aK hJ
     have e:=Option.some.inj h;clear h;subst e
     have h:=True.intro
     have et:=cw (n:=i23) (by have:=b2;omega)
     apply aG hJ
     apply bu _
     refine ⟨a.length - (i23+1),aa,_,Le.sub (List.Sublist.refl _),i23+1,d17,G,a0,E,rfl,aa,fb,rfl,bc,h1,?_⟩
     simp only[*,go_sem,-h]
   .have l1:=Nat.not_lt.2 fa
    refine cW hJ cL ?_
    rw[List.drop_eq_nil_of_le fa] at D
    have e:=Option.some.inj D;clear D h;subst e
    have h:=h0
    dsimp only[aL] at h
    apply bT
    simp only[go_sem]
    repeat apply ah hJ
    refine aE hJ fun l2=>?_
    apply aG hJ
    apply bu _
    have e:=Option.some.inj h;clear h;subst e
    refine aE hJ fun fu=>?_
    obtain ⟨fv,bm,l3,fw,j1⟩:=bc.kS (([]:List (Nat×Obj))) [] [] (by first|rfl|simp only[bn]|(simp only[bn];rfl)) (by first|rfl|simp only[bn]|(simp only[bn];rfl)) fu (aF.nil _)
    clear fu
    refine cN (F:=⟨fv,([]:List (Nat×Obj))⟩) hJ j1 ?_
    obtain ⟨l4,ma,mf⟩:=fw.op
    replace g:=g.mono bm;clear w;obtain ⟨_,_,w⟩:=g.op
    replace Y:=Y.mono bm;clear P;obtain ⟨_,_,P⟩:=Y.op
    apply aJ
    exact (lC (t:=6) rfl aI aI ⟨rfl,fv,hY.trans bm,Le.refl _,_,rfl,fw⟩).2
end Go.Proofs.YtdgblangfefjmaaGreatDoor
end
section
namespace Go.Proofs.YtdgblangfefjmaaGreatDoor
open Go Go.Sep Go.Proofs
set_option maxRecDepth 100000
set_option maxHeartbeats 4000000
def xU (u0:aC)(b:Int):Option ((List Int)×Int):=
 aj (iC u0 ([(hH b),nu])) fun a=>cond ((a.2 != 0)) (some (([]:(List Int)),a.2)) (aj (rK a.1.book ([([]:(List Int))])) fun c=>aj (s3 a.1 b c) fun d=>aj (we d) fun e=>some (e,0))
theorem Jl {ro:Addr->Option Value}(L:dy ro)(u0:aC){s1 g i j:Value}(D:bV ro u0 s1 g i j)(a:Int){r:((List Int)×Int)}(h:xU u0 a=some r):oO Tryz.prog 43 #[bv u0 s1 g i j,.int .i64 a] ro (fun v aT=>∃W,v= .tuple #[W,.int .i64 r.2]/\aB rI aT W r.1):=by
 unfold xU at h;have ba:=D.oc;simp only[bN] at ba;refine fT.go Tryz.func43 rfl Tryz.ntmps43 Tryz.results43 av fun Φ hJ A b5 hd hs=>?_;have ca:=hs 0;have k1:=hs 1;clear hs;apply aD hJ _;refine az fun w c bb=>?_;try simp only[au] at bb
 apply ah hJ;refine aE hJ fun bc=>?_;apply aG hJ;revert h;refine bS fun n bd h=>?_;apply ag _;refine az fun z X Y=>?_;have Z:=aY.cons Y bc;try simp only[au] at Y
 obtain ⟨B,M,ab⟩:=e4 (b:=z) (o:=(.cells #[.func (.func 98) #[.int .i64 a] #[],.func (.func 99) #[] #[]] 111)) [] ((w,bk u0 s1 g i j)::[]) Z X (aF.cons c (aF.nil _));have ad:aB (dx) (bR ro z (.cells #[.func (.func 98) #[.int .i64 a] #[],.func (.func 99) #[] #[]] 111)) (.slice (some ⟨z,0,none⟩) 2 2) [(hH a),nu]:=(aB.two (r:=(dx)) (e:=111) (v:=.func (.func 98) #[.int .i64 a] #[]) (u:=.func (.func 99) #[] #[]) (x:=(hH a)) (y:=nu) (own:=[(z,.cells #[.func (.func 98) #[.int .i64 a] #[],.func (.func 99) #[] #[]] 111)]) X (by simp[lk]) rfl ⟨98,#[.int .i64 a],#[],rfl,⟨by simp only[go_sem],fun bj bl N _ _ _ _ _ O P Q R h=>by simp only[go_sem];exact uI a N ⟨O,P,Q,R⟩ h⟩⟩ ⟨99,#[],#[],rfl,⟨by simp only[go_sem],fun bj bl N _ _ _ _ _ O P Q R h=>by simp only[go_sem];exact Fz N ⟨O,P,Q,R⟩ h⟩⟩)
 generalize bR ro z (.cells #[.func (.func 98) #[.int .i64 a] #[],.func (.func 99) #[] #[]] 111)=cb at ad M B ab;refine gK hJ ab ?_;replace D:=D.mono B;replace c:=M.hd;replace L:=L.mono B;simp only[bC] at M;have bm:=aY.tl Z;refine cr hJ _ (jF L u0 D ([(hH a),nu]) ad bd) fun v ae al ao k=>?_;obtain ⟨E,F,G,H,I,rfl,d,q⟩:=k;have bo:=d.oc;simp only[bN] at bo;have br:=q.oc;simp only[bN] at br;replace c:=ao.hd;simp only[bC] at ao;apply aP;apply ag _;refine az fun J f ar=>?_;have cd:=aY.cons ar bm;try simp only[au] at ar
 refine ah hJ (an hJ ?_);apply ag _;revert h;refine aX hJ (fun bs h=>?_) fun bs h=>?_
 .cases h;apply aD hJ _;refine b9 ?_;exact ⟨_,(B).trans al,Le.sub (List.nil_sublist _),_,rfl,aB.nil _ _⟩
 refine aK hJ (ah hJ ?_);refine aE hJ fun bz=>?_;refine cM hJ mixed 4 2 aI ai ?_;revert h;refine bS fun b0 b1 h=>?_;apply ag _;refine az fun C a0 a2=>?_;have a3:=aY.cons a2 bz;try simp only[au] at a2
 apply ag _;obtain ⟨m,K,a4⟩:=e4 (b:=C) (o:=(.cells #[.slice none 0 0] 60)) [] ((J,kn n.1 E F G H I)::(w,bk u0 s1 g i j)::[]) a3 a0 (aF.cons f (aF.cons c (aF.nil _)));have a5:aB (rL rI) (bR ae C (.cells #[.slice none 0 0] 60)) (.slice (some ⟨C,0,none⟩) 1 1) [([]:(List Int))]:=(aB.one (r:=(rL rI)) (e:=60) (cs:=#[.slice none 0 0]) (x:=([]:(List Int))) (own:=[(C,.cells #[.slice none 0 0] 60)]) a0 (by simp[lk]) ⟨_,rfl,aB.nil _ _⟩)
 generalize bR ae C (.cells #[.slice none 0 0] 60)=cf at a5 K m a4;refine gK hJ a4 ?_;replace d:=d.mono m;replace q:=q.mono m;replace f:=K.hd;replace c:=K.tl.hd;simp only[bC] at K;have cl:=aY.tl a3;refine cr hJ _ (Ac n.1.book d ([([]:(List Int))]) a5 b1) fun v cy s S k=>?_;obtain ⟨cS,rfl,a6⟩:=k;replace d:=d.mono s;replace q:=q.mono s;replace f:=S.hd;replace c:=S.tl.hd;simp only[bC] at S;obtain ⟨d92,c0,rfl,da,db,-⟩:=id a6;have dd:=e6 (l:=[(J,kn n.1 E F G H I),(w,bk u0 s1 g i j)]) (m.trans s) (aF.cons f (aF.cons c (aF.nil _)));refine ⟨aI,?_⟩;refine gX ?_;revert h;refine bS fun b2 b3 h=>?_;apply ag _;refine qR _ (BU n.1 d.e d.p d.y d.t q a b0 a6 b3) fun v df T U k=>?_;obtain ⟨dk,rfl,a7⟩:=k;replace f:=U.hd;replace c:=U.tl.hd;simp only[bC] at U;obtain ⟨d111,dp,rfl,dq,ds,-⟩:=id a7;have dt:=e6 (l:=[(J,kn n.1 E F G H I),(w,bk u0 s1 g i j)]) ((m.trans s).trans T) (aF.cons f (aF.cons c (aF.nil _)));refine ⟨aI,?_⟩;refine gX ?_;revert h;refine bS fun du b4 h=>?_;cases h;apply ag _;refine cr hJ _ (FB b2 a7 b4) fun v dv a8 V k=>?_;obtain ⟨dC,rfl,a9⟩:=k;replace f:=V.hd;replace c:=V.tl.hd;simp only[bC] at V;obtain ⟨d124,dE,rfl,dT,ea,-⟩:=id a9;have eb:=e6 (l:=[(J,kn n.1 E F G H I),(w,bk u0 s1 g i j)]) (((m.trans s).trans T).trans a8) (aF.cons f (aF.cons c (aF.nil _)));refine ⟨aI,?_⟩;refine gX ?_;apply ag _;refine b9 ?_;exact ⟨_,(((((B).trans al).trans m).trans s).trans T).trans a8,Le.sub (List.nil_sublist _),_,rfl,a9⟩
def xV (u0:aC)(c:Int)(a:(dw×Int))(st:(Bool×Int×(List (List Int))×Int)):Option (Fl (Bool×Int×(List (List Int))×Int) ((List Int)×Bool×Int)):=
 cond (decide (st.2.2.2<(IntKind.i64.wrap ((IntKind.i64.wrap (3 - (u0.props.length:Int)))+1)))) (aj (s3 a.1 c st.2.2.1) fun b=>cond (decide (0<(b.length:Int))) (aj (bH b 0) fun d=>some (.rt (d,true,0))) (aj (rK a.1.book st.2.2.1) fun e=>some (.nx (st.1,st.2.1,e,(IntKind.i64.wrap (st.2.2.2+1)))))) (some (.bk (st.1,st.2.1,st.2.2.1,st.2.2.2)))
def xW (u0:aC)(b:Int):Option ((List Int)×Bool×Int):=
 aj (iC u0 ([(hH b)])) fun a=>cond ((a.2 != 0)) (some (([]:(List Int)),false,a.2)) (aj (bB (xV u0 b a) fu (false,a.2,([([]:(List Int))]),0)) fun o=>aL o (fun c=>some (([]:(List Int)),false,0)) (fun _ _=>none) (fun r=>some r))
theorem Jm {ro:Addr->Option Value}(K:dy ro)(u0:aC){s1 S k l:Value}(n:bV ro u0 s1 S k l)(a:Int){r:((List Int)×Bool×Int)}(h:xW u0 a=some r):oO Tryz.prog 44 #[bv u0 s1 S k l,.int .i64 a] ro (fun v aT=>∃T,v= .tuple #[T,.bool r.2.1,.int .i64 r.2.2]/\aB rI aT T r.1):=by
 obtain ⟨d10,L,rfl,ed,eh,-⟩:=id n.p;unfold xW at h;have bm:=n.oc;simp only[bN] at bm;refine fT.go Tryz.func44 rfl Tryz.ntmps44 Tryz.results44 av fun Φ hJ A bo hd hs=>?_;have br:=hs 0;have k1:=hs 1;clear hs;apply aD hJ _;refine az fun M C bs=>?_;try simp only[au] at bs
 apply ah hJ;refine aE hJ fun bz=>?_;apply aG hJ;revert h;refine bS fun f b0 h=>?_;apply ag _;refine az fun q U V=>?_;have W:=aY.cons V bz;try simp only[au] at V
 obtain ⟨g,N,X⟩:=e4 (b:=q) (o:=(.cells #[.func (.func 98) #[.int .i64 a] #[]] 111)) [] ((M,bk u0 s1 (sl d10 u0.props L) k l)::[]) W U (aF.cons C (aF.nil _));have Y:aB (dx) (bR ro q (.cells #[.func (.func 98) #[.int .i64 a] #[]] 111)) (.slice (some ⟨q,0,none⟩) 1 1) [(hH a)]:=(aB.one (r:=(dx)) (e:=111) (cs:=#[.func (.func 98) #[.int .i64 a] #[]]) (x:=(hH a)) (own:=[(q,.cells #[.func (.func 98) #[.int .i64 a] #[]] 111)]) U (by simp[lk]) ⟨98,#[.int .i64 a],#[],rfl,⟨by simp only[go_sem],fun et ev b1 _ _ _ _ _ b2 b3 b4 b5 h=>by simp only[go_sem];exact uI a b1 ⟨b2,b3,b4,b5⟩ h⟩⟩)
 generalize bR ro q (.cells #[.func (.func 98) #[.int .i64 a] #[]] 111)=eQ at Y N g X;refine gK hJ X ?_;replace n:=n.mono g;replace C:=N.hd;replace K:=K.mono g;simp only[bC] at N;have ca:=aY.tl W;refine cr hJ _ (jF K u0 n ([(hH a)]) Y b0) fun v Z O ab s=>?_;obtain ⟨ad,ae,al,ao,ar,rfl,c,i⟩:=s;have cb:=c.oc;simp only[bN] at cb;have cd:=i.oc;simp only[bN] at cd;replace C:=ab.hd;simp only[bC] at ab;apply aP;apply ag _;refine az fun a0 cf a2=>?_;have eS:=aY.cons a2 ca;try simp only[au] at a2
 refine ah hJ (an hJ ?_);apply ag _;revert h;refine aX hJ (fun cl h=>?_) fun cl h=>?_
 .cases h;apply aD hJ _;refine b9 ?_;exact ⟨_,(g).trans O,Le.sub (List.nil_sublist _),_,rfl,aB.nil _ _⟩
 refine aK hJ (ah hJ ?_);refine aE hJ fun cy=>?_;apply aM hJ _;refine az fun j a3 a4=>?_;have e0:=aY.cons a4 cy;try simp only[au] at a4
 refine ah hJ (an hJ ?_);apply ag _;refine aE hJ fun a5=>?_;obtain ⟨u,a6,a7⟩:=e4 (b:=j) (o:=(.cells #[.slice none 0 0] 60)) [] ((a0,kn f.1 ad ae al ao ar)::(M,bk u0 s1 (sl d10 u0.props L) k l)::[]) a5 a3 (aF.cons cf (aF.cons C (aF.nil _)));clear a5;have P:aB (rL rI) (bR Z j (.cells #[.slice none 0 0] 60)) (.slice (some ⟨j,0,none⟩) 1 1) [([]:(List Int))]:=(aB.one (r:=(rL rI)) (e:=60) (cs:=#[.slice none 0 0]) (x:=([]:(List Int))) (own:=[(j,.cells #[.slice none 0 0] 60)]) a3 (by simp[lk]) ⟨_,rfl,aB.nil _ _⟩)
 generalize bR Z j (.cells #[.slice none 0 0] 60)=a8 at u a6 a7 P;refine cN hJ a7 ?_;obtain ⟨e1,e2,-⟩:=P.op;replace c:=c.mono u;replace i:=i.mono u;simp only[bC] at a6;apply aW hJ;revert h;refine bS fun cS D a9=>?_;refine b7 hJ (rg 27 17 [4,5,6,8,9]) (fun m E F'=>∃(F:Addr->Option Value) (d98:Option Addr) (Q:Nat) (G:Bool) (H:Int) (d:(List (List Int))) (I:Int),bB (xV u0 a f) m (G,H,d,I)=some cS/\F'=⟨F,(a0,kn f.1 ad ae al ao ar)::(M,bk u0 s1 (sl d10 u0.props L) k l)::[]⟩/\Ext a8 F/\aB (rL rI) F (.slice d98 d.length Q) d/\slot E 5= .bool G/\slot E 6= .int .i64 H/\slot E 8= .slice d98 d.length Q/\slot E 27= .int .i64 I) fu ?_ ?_
 .refine ⟨a8,(some ⟨j,0,none⟩),1,false,f.2,([([]:(List Int))]),0,D,rfl,Ext.refl _,P,?_⟩;simp only[*,go_sem]
 rintro R e3 F' ba ⟨F,d98,Q,G,H,d,I,D,rfl,w,z,fa,fb,fg,fi⟩;refine fF hJ fun _ c0=>?_;replace c:=c.mono w;replace i:=i.mono w;simp only[bC] at c0;obtain ⟨fp,fr,-⟩:=z.op;obtain ⟨da,db,dd⟩:=ba.pick [1,7,26] aO;simp only[*,go_sem] at da db dd;clear ba bo hd br k1;obtain _|R:=R
 .exact absurd D (by simp only[bB,reduceCtorEq,not_false_eq_true])
 revert D;refine bS fun fs h B=>?_;unfold xV at h;try dsimp only at h
 apply aD hJ _;apply ah hJ;revert h;refine aX hJ (fun df h=>?_) fun df h=>?_
 .refine aK hJ (ah hJ ?_);refine aW hJ (ah hJ ?_);apply an hJ;revert h;refine bS fun ft dk h=>?_;apply ag _;refine qR _ (BU f.1 c.e c.p c.y c.t i a d z dk) fun v fv J dp s=>?_;obtain ⟨fw,rfl,bb⟩:=s;replace z:=z.mono J;replace c:=c.mono J;simp only[bC] at dp;obtain ⟨d121,fx,rfl,fz,gg,-⟩:=id bb;apply aP;apply ag _;apply aD hJ _;revert h;refine aX hJ (fun dq h=>?_) fun dq h=>?_
  .apply an hJ;revert h;refine bS fun gl ds h=>?_;cases h;obtain ⟨gn,gp,bc⟩:=c6 ds;obtain ⟨gB,gC,dt,du,bd⟩:=bb.el _ _ bc;obtain ⟨gV,rfl,bj⟩:=du;obtain ⟨d130,g0,rfl,g1,g2,g3⟩:=id bj;cases dt;have dv:=bd 0 _ rfl;simp only[go_sem] at dv;clear bd bc;apply ag _;obtain rfl:=sI B;clear B;have h:=a9;dsimp only[aL] at h;cases h;refine b9 ?_;exact ⟨_,((((g).trans O).trans u).trans w).trans J,Le.sub (List.nil_sublist _),_,rfl,bj⟩
  refine aK hJ (aG hJ ?_);revert h;refine bS fun dC dE h=>?_;cases h;apply ag _;refine cr hJ _ (Ac f.1.book c d z dE) fun v dT ea eb s=>?_;obtain ⟨g4,rfl,bl⟩:=s;simp only[bC] at eb;obtain ⟨d144,ec,rfl,ha,hc,-⟩:=id bl;apply aP;apply ag _;apply aM hJ _;refine ⟨R,Nat.lt_succ_self _,_,Le.sub (List.Sublist.refl _),dT,d144,ec,G,H,dC,(IntKind.i64.wrap (I+1)),B,rfl,(w.trans (J.trans ea)),bl,?_⟩;simp only[*,go_sem]
 cases h;apply bT;simp only[go_sem];obtain rfl:=sI B;clear B;have h:=a9;dsimp only[aL] at h;cases h;apply aD hJ _;refine b9 ?_;exact ⟨_,(((g).trans O).trans u).trans w,Le.sub (List.nil_sublist _),_,rfl,aB.nil _ _⟩
def xX (a:(Int×Int×Int))(e:(aC×Int))(b:((List Int)×Int))(f:(aC×Int))(g:(aC×Int))(c:(Int×Int))(d:((List Int)×Int)):Option Bool:=
 cond ((a.2.2==0)) (cond ((e.2==0)) (cond ((b.2==0)) (cond ((f.2==9)) (cond ((g.2==0)) (cond ((c.2==0)) (cond ((d.2==0)) (cond ((a.1==0)) (cond ((a.2.1==2)) (aj (mo b.1 ([11,12])) fun h=>cond (h) (cond ((c.1==2)) (aj (mo d.1 ([1])) fun i=>some i) (some false)) (some false)) (some false)) (some false)) (some false)) (some false)) (some false)) (some false)) (some false)) (some false)) (some false)
def xY (a:aC):Option Bool:=
 aj (v7 a) fun d=>aj (mz 0 true) fun e=>aj (rV a e) fun b=>aj (rZ b.1 0) fun f=>aj (mz 1 true) fun g=>aj (rV a g) fun h=>aj (pz 12 12) fun i=>aj (v8 a 0 i) fun c=>aj (pn c.1) fun j=>aj (mz 0 true) fun k=>aj (pE a k) fun l=>aj (mz 1 true) fun m=>aj (pE l m) fun n=>aj (mz 0 false) fun o=>aj (pE n o) fun p=>aj (wu p) fun q=>xX d b f h c j q
def xZ (d:aC)(f:(Int×Int))(g:(Int×Int))(h:(Int×Int))(i:(Int×Int))(b:(Int×ay×Int))(c:(Int×ay×Int))(a:(ay×ay×Bool×Int)):Option Bool:=
 aj (xU d 2) fun j=>aj (xW d 2) fun e=>cond ((f.2 != 0)) (some false) (cond ((g.2 != 0)) (some false) (cond ((h.2 != 0)) (some false) (cond ((i.2 != 0)) (some false) (cond ((b.2.2 != 0)) (some false) (cond ((c.2.2 != 0)) (some false) (cond ((a.2.2.2 != 0)) (some false) (cond ((j.2 != 0)) (some false) (cond ((e.2.2 != 0)) (some false) (cond ((f.1 != 0)) (some false) (cond ((g.1 != 2)) (some false) (cond ((h.1 != 0)) (some false) (cond ((i.1 != 1)) (some false) (cond ((b.1 != 0)) (some false) (aj (fJ 1 1) fun k=>cond (!((b.2.1.num==k.num)&&(b.2.1.den==k.den))) (some false) (cond ((c.1 != (-1))) (some false) (aj (fJ 0 1) fun l=>cond (!((c.2.1.num==l.num)&&(c.2.1.den==l.den))) (some false) (cond (!a.2.2.1) (some false) (aj (fJ 3 2) fun m=>cond (!((a.1.num==m.num)&&(a.1.den==m.den))) (some false) (aj (fJ 3 2) fun n=>cond (!((a.2.1.num==n.num)&&(a.2.1.den==n.den))) (some false) (aj (mo j.1 ([11,12,13,14])) fun o=>cond (!o) (some false) (cond (!e.2.1) (some false) (aj (mo e.1 ([11])) fun p=>cond (!p) (some false) (xY d)))))))))))))))))))))))
def x2 (a:aC)(b:aC):Option Bool:=
 aj (rT a 0) fun c=>aj (rT a 1) fun d=>aj (pn a) fun e=>aj (pn b) fun f=>aj (r4 a) fun g=>aj (r4 b) fun h=>aj (wz a) fun i=>xZ a c d e f g h i
def x3 (b:aC)(s:aC)(g:(ay×Int))(c:(Int×ay×Int))(h:(ay×Int))(d:(ay×Bool×Int))(e:(ay×Bool×Int))(f:(ay×Bool×Int)):Option Bool:=
 aj (wF b) fun i=>aj (rZ b 0) fun j=>aj (wE b 0) fun a=>cond ((g.2 != 0)) (some false) (cond ((c.2.2 != 0)) (some false) (cond ((h.2 != 0)) (some false) (cond ((d.2.2 != 0)) (some false) (cond ((e.2.2 != 0)) (some false) (cond ((f.2.2 != 0)) (some false) (cond ((i.2 != 0)) (some false) (cond ((j.2 != 0)) (some false) (cond ((a.2.2 != 0)) (some false) (aj (fJ 13 4) fun k=>cond (!((g.1.num==k.num)&&(g.1.den==k.den))) (some false) (cond ((c.1 != 2)) (some false) (aj (fJ 11 8) fun l=>cond (!((c.2.1.num==l.num)&&(c.2.1.den==l.den))) (some false) (aj (fJ 1 4) fun m=>cond (!((h.1.num==m.num)&&(h.1.den==m.den))) (some false) (aj (fJ 24 13) fun n=>cond (!((d.1.num==n.num)&&(d.1.den==n.den))) (some false) (cond (!d.2.1) (some false) (aj (fJ 2 13) fun o=>cond (!((e.1.num==o.num)&&(e.1.den==o.den))) (some false) (cond (e.2.1) (some false) (aj (fJ 1 1) fun p=>cond (!((f.1.num==p.num)&&(f.1.den==p.den))) (some false) (cond (!f.2.1) (some false) (cond ((i.1 != 3)) (some false) (aj (mo j.1 ([10,11,12])) fun t=>cond (!t) (some false) (aj (fJ 1 4) fun q=>cond (!((a.1.num==q.num)&&(a.1.den==q.den))) (some false) (aj (fJ 1 1) fun r=>cond (!((a.2.1.num==r.num)&&(a.2.1.den==r.den))) (some false) (x2 b s)))))))))))))))))))))))
def jo :Option Bool:=
 aj (wJ) fun a=>aj (wI a ([11]) 2) fun b=>aj (vf a 5) fun c=>aj (k6 2 11) fun d=>aj (nq a d) fun e=>aj (k6 2 10) fun f=>aj (vg a f) fun g=>aj (k6 2 12) fun h=>aj (vh b h) fun i=>aj (k6 2 12) fun j=>aj (rG b j) fun k=>aj (k6 2 12) fun l=>aj (rG a l) fun m=>x3 a b c e g i k m
theorem x4:jo=some true:=by decide+kernel
end Go.Proofs.YtdgblangfefjmaaGreatDoor
end

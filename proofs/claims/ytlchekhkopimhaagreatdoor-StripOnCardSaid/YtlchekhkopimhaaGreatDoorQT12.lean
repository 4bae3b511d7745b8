/- A part of the proof: QT12. -/
import Derived.Test.YtlchekhkopimhaaGreatDoorQT11
import Derived.Conc.TokenWalk
set_option linter.all false
section
namespace Go.Sep
open Go Go.Conc
open Go.ConcN (sumTo upd upd_ne upd_same)
open Go.ConcM (OsLater)
open Go.ConcR (WgAt wgBlock stA smA)
def CK (c:Gy)(cl:Cl)(g:Goroutine)(F:af):Prop:=(∀d,cl≠ .on .reg d true)/\eG c cl g F
section
variable {c:Gy}{φ:Nat->Ph}{cl:Cl}{s:Sg}{w:World}{p p':P0}{d d':Nat}
theorem ya:EvC c (.on p d false) (.on p d false) #[]:=.book p p d d rfl rfl an rfl
theorem JQ:EvC c (.on p d false) (.on p' (d+1) false) #[cA .disable]:=.book p p' d (d+1) rfl rfl (fun e he=>by simp at he;exact .inl he) rfl
theorem JR:EvC c (.on p (d+1) false) (.on p' d false) #[cA .enable]:=.book p p' (d+1) d rfl rfl (fun e he=>by simp at he;exact .inr (.inl he)) rfl
theorem yb {ad:Addr}(y:Bool)(h:ad.block=c.Wg):EvC c (.on p d false) (.on p' d false) #[⟨.cell ad,y,true⟩]:=.book p p' d d rfl rfl (fun e he=>by simp at he;exact .inr (.inr ⟨ad,h,.inl ⟨y,he⟩⟩)) (by simp[deafBehind])
theorem JS {ad:Addr}(h:ad.block=c.Wg):EvC c (.on p d false) (.on p' d false) #[⟨.cell ad,false,true⟩,⟨.cell ad,true,true⟩]:=
 .book p p' d d rfl rfl (fun e he=>by simp at he;rcases he with he|he<;>exact .inr (.inr ⟨ad,h,.inl ⟨_,he⟩⟩)) (by simp[deafBehind])
theorem JU {ad:Addr}(h:ad.block=c.Wg):EvC c (.on p d false) (.on p' d false) #[cA (.write ad)]:=.book p p' d d rfl rfl (fun e he=>by simp at he;exact .inr (.inr ⟨ad,h,.inr (.inr he)⟩)) (by simp[deafBehind,cA])
theorem JV {ad:Addr}(h:ad.block=c.Wg):EvC c (.on p d false) (.on p' d false) (semEvents ad):=by
 refine .book p p' d d rfl rfl (fun e he=>?_) (by simp[deafBehind,semEvents]);simp[semEvents] at he;rcases he with rfl|rfl|rfl|rfl
 .exact .inl rfl
 .exact .inr (.inr ⟨ad,h,.inl ⟨_,rfl⟩⟩)
 .exact .inr (.inr ⟨ad,h,.inl ⟨_,rfl⟩⟩)
 .exact .inr (.inl rfl)
theorem jX.left {r:Rk}{g:Goroutine}{F:af}(h:jX c r g F cl)(hb:∀p d a,cl≠ .on p d a):∃d q,cl= .shut d/\QuitsD c.P q d g:=by
 obtain ⟨ι,f⟩:=r;rcases h with ⟨d,q,b,_,e⟩|⟨_,_,⟨p,d,a,b,_⟩,_⟩|⟨_,_,⟨p,d,a,b⟩,_⟩
 .exact ⟨d,q,b,e⟩
 .exact absurd b (hb _ _ _)
 .exact absurd b (hb _ _ _)
theorem CK.closed (c:Gy){p:P0}{d:Nat}{a:Bool}(b:p≠ .reg):Closed c.P false (CK c (.on p d a)):=
 have hC:=eG.closed c (d:=d) (a:=a) b
 have hn:∀d',Cl.on p d a≠ .on .reg d' true:=fun d' e=>b (by cases e;rfl)
 ⟨fun hle h=>⟨h.1,hC.mono hle h.2⟩,fun {fr cs F} h=>⟨hn,hC.step fun w hw=>by
  obtain ⟨g',w',es,F',k1,f,g,i,j⟩:=h w hw
  exact ⟨g',w',es,F',k1,f,g,i,j.2⟩⟩⟩
theorem CK.eT (c:Gy)(cl:Cl):ez c.P false (CK c cl):=⟨fun {fr fr' cs cs' F} hs h=>by
 obtain ⟨hn,h⟩:=h
 refine ⟨hn,?_⟩
 have left:(∀p d a,cl≠ .on p d a)->eG c cl (G fr cs) F:=fun hb=>by
  obtain ⟨F0,r,hle,hW⟩:=h
  obtain ⟨d,q,rfl,f⟩:=hW.left hb
  exact eG.gone (q:=q+1) (.inr ⟨rfl,G fr' cs',#[],an,hs,by rw[deafBehind_nil];exact f⟩)
 cases cl with
 |none m=>exact left fun p d a e=>by cases e
 |shut d=>exact left fun p d a e=>by cases e
 |on p d a=>
  by_cases b:p= .reg
  .subst b
   have g:a=false:=by
    cases a with
    |false=>rfl
    |true=>exact absurd rfl (hn d)
   subst g
   exact eG.act rfl rfl fun w s φ k i j=>.inr ⟨G fr' cs',w,#[],s,_,hs w,i,.refl _ _,j,rfl,ya,.inr ⟨Int.le_refl _,rfl⟩,h⟩
  .exact (eG.closed c b).move hs h⟩
variable {ops:Array Oper}{j n:Nat}{Q:Act->af->Cl->Prop}{a:Act}{F:af}{o:Oper}{f fi:FuncId}{cM:Array Operand}{dI:Array TypeId}{dt:Option Tmp}
theorem CB:∀d',Cl.on p d false≠ .on .reg d' true:=fun d' e=>by cases e
theorem lG (ho:ops[j]?=some o)
  (h:∀(w:World) (s:Sg) (φ:Nat->Ph),Has F w->c5 c w s (.on p d false)->c9 c.n φ p s.wg s.ws->
   ∃(v:Value) (w':World) (es:Array Event) (s':Sg) (p':P0) (d':Nat) (e:Bool),(∀(b:Frame) (f:List Item) (cs:List Frame),BF fi b->
    stepG c.P false (G (b.at a (.inRegion ops (j::List.range' (j+1) n)::f)) cs) w= .go (G (b.at (a.put o.dst v) (.inRegion ops (List.range' (j+1) n)::f)) cs) w' es)/\c5 c w' s' (.on p' d' e)/\fq c.cy w w'/\c9 c.n φ p' s'.wg s'.ws/\s'.got=s.got/\EvC c (.on p d false) (.on p' d' e) es/\
    s'.ws<=s.ws/\ay (CK c) fi ops (j+1) n Q (a.put o.dst v) F (.on p' d' e)):ay (CK c) fi ops j (n+1) Q a F (.on p d false):=fun b f cs hb i=>by
 rw[List.range'_succ,dy hb.round]
 refine ⟨CB,eG.act rfl rfl fun w s φ e1 e2 e3=>.inr ?_⟩
 obtain ⟨v,w',es,s',p',d',e,z,k,l,m,g,q,r,t⟩:=h w s φ e1 e2 e3.w
 have:=t b f cs hb i
 rw[dy hb.round] at this
 exact ⟨_,w',es,s',.on p' d' e,z b f cs hb,k,l,e3.group m rfl g,g,q,.inr ⟨r,rfl⟩,this.2⟩
theorem JW (e:Entry c.P f (fun _=>do mark .disable;pure Extern.Race.none_)){vals:List Value}(g:At ops j a f vals dt)(p':P0)(i:∀φ wg ws,c9 c.n φ p wg ws->c9 c.n φ p' wg ws)
  (h:ay (CK c) fi ops (j+1) n Q (bC a dt (.tuple #[])) F (.on p' (d+1) false)):ay (CK c) fi ops j (n+1) Q a F (.on p d false):=by
 obtain ⟨o,cM,dI,ho,hg,k,_,rfl⟩:=g
 obtain ⟨fn,f1,f2,f3,f4,f5⟩:=e.ex
 exact lG ho fun w s φ _ hs l=>⟨.tuple #[],w,_,s,p',d+1,false,fun b m cs hb=>stepG_mark0 .disable an ho (cH hg) hb.kind k f1 f2 f3 f4 f5,hs,.refl _ _,i _ _ _ l,rfl,JQ,Int.le_refl _,h⟩
theorem CC (e:Entry c.P f (fun _=>do mark .enable;pure Extern.Race.none_)){vals:List Value}(g:At ops j a f vals dt)
  (h:ay (CK c) fi ops (j+1) n Q (bC a dt (.tuple #[])) F (.on p d false)):ay (CK c) fi ops j (n+1) Q a F (.on p (d+1) false):=by
 obtain ⟨o,cM,dI,ho,hg,i,_,rfl⟩:=g
 obtain ⟨fn,f1,f2,f3,f4,f5⟩:=e.ex
 exact lG ho fun w s φ _ hs k=>⟨.tuple #[],w,_,s,p,d,false,fun b l cs hb=>stepG_mark0 .enable an ho (cH hg) hb.kind i f1 f2 f3 f4 f5,hs,.refl _ _,k,rfl,JR,Int.le_refl _,h⟩
theorem JX (e:Entry c.P f (Extern.Race.marked .write))(g:At ops j a f [.pointer (some (smA c.Wg))] dt)
  (h:ay (CK c) fi ops (j+1) n Q (bC a dt (.tuple #[])) F (.on p d false)):ay (CK c) fi ops j (n+1) Q a F (.on p d false):=by
 obtain ⟨o,cM,dI,ho,hg,i,hv,rfl⟩:=g
 obtain ⟨y,rfl,k⟩:=mQ hv
 obtain ⟨fn,f1,f2,f3,f4,f5⟩:=e.ex
 exact lG ho fun w s φ _ hs l=>⟨.tuple #[],w,_,s,p,d,false,fun b m cs hb=>stepG_markAt .write an ho (cH hg) hb.kind i f1 f2 f3 f4 f5 (by simp[fC,k]),hs,.refl _ _,l,rfl,JU (ad:=smA c.Wg) rfl,Int.le_refl _,h⟩
theorem yc (ad:Addr){src dst t:TypeId}(hs:c.P.underlying src=some (.pointer t))(hd:c.P.underlying dst=some .unsafePointer)(e:(c.P.info? t).map (fun i=>decide (i.size=0))=some false){y:Operand}
  (g:jw ops j a (.convert src dst y) dt) (k:ev a y= .pointer (some ad)) (l:∀w s cl,c5 c w s cl->∃v,w.cell? ad=some v) (h:ay (CK c) fi ops (j+1) n Q (bC a dt (.pointer (some ad))) F (.on p d false)):ay (CK c) fi ops j (n+1) Q a F (.on p d false):=by
 obtain ⟨o,ho,hg,m,rfl⟩:=g
 refine lG ho fun w s φ _ f q=>⟨_,w,#[],s,p,d,false,fun b x cs hb=>?_,f,.refl _ _,q,rfl,ya,Int.le_refl _,h⟩
 obtain ⟨v,hv⟩:=l w s _ f
 have e1:execOp a.eval o=(do pure (.value (<-convert src dst (.pointer (some ad)))):Sem Next):=by
  unfold execOp
  simp only[m,fC,k]
 have r:(execOp a.eval o).run c.P w= .ok (.value (.pointer (some ad))) w:=by
  rw[e1];simp[run_convert_to_unsafe hs hd e hv]
 have u:(execOp a.eval o).events c.P w #[]=#[]:=by
  rw[e1];simp[events_convert_to_unsafe hs hd e hv]
 rw[stepG_value ho (cH hg) hb.kind r]
 unfold listed
 rw[u,seen_none]
theorem JY (e:Entry c.P f (Extern.Atomic.loadT (.int .u64)))(g:At ops j a f [.pointer (some (stA c.Wg))] dt){u:Nat}
  (h:∀v:Nat,v<=u->ay (CK c) fi ops (j+1) n Q (bC a dt (.int .u64 ((v:Int)*4294967296+((0:Nat):Int)))) F (.on (if v=0 then .cZ else .look v) d false)):ay (CK c) fi ops j (n+1) Q a F (.on (.look u) d false):=by
 obtain ⟨o,cM,dI,ho,hg,i,hv,rfl⟩:=g
 obtain ⟨y,rfl,k⟩:=mQ hv
 obtain ⟨fn,f1,f2,f3,f4,f5⟩:=e.ex
 refine lG ho fun w s φ _ hs l=>?_
 obtain ⟨v,e1,m,hw⟩:=Ib l
 have e2:s.wg=(v:Int)*4294967296+((0:Nat):Int):=by rw[e1];simp only[c8];omega
 exact ⟨_,_,_,s,(if v=0 then .cZ else .look v),d,false,fun b p cs hb=>by rw[<-e2];exact stepG_load_atomic ho (cH hg) hb.kind i f1 f2 f3 f4 .u64 f5 k hs.wg.1,hs,.refl _ _,hw,rfl,yb false rfl,Int.le_refl _,h v m⟩
theorem JZ (g:Entry c.P f (Extern.Atomic.loadT (.int .u64)))(i:At ops j a f [.pointer (some (stA c.Wg))] dt)
  (h:ay (CK c) fi ops (j+1) n Q (bC a dt (.int .u64 0)) F (.on .cZ d false)):ay (CK c) fi ops j (n+1) Q a F (.on .cZ d false):=by
 obtain ⟨o,cM,dI,ho,hg,k,hv,rfl⟩:=i
 obtain ⟨y,rfl,l⟩:=mQ hv
 obtain ⟨fn,f1,f2,f3,f4,f5⟩:=g.ex
 refine lG ho fun w s φ _ hs e=>?_
 have e2:s.wg=0:=(Bv e).1
 exact ⟨_,_,_,s,_,d,false,fun b m cs hb=>by rw[<-e2];exact stepG_load_atomic ho (cH hg) hb.kind k f1 f2 f3 f4 .u64 f5 l hs.wg.1,hs,.refl _ _,e,rfl,yb false rfl,Int.le_refl _,h⟩
theorem J0 (p:Entry c.P f (Extern.Atomic.casT (.int .u64)))(q:c.Wg≠c.C){v:Nat}(r:0<v)(t:At ops j a f [.pointer (some (stA c.Wg)),.int .u64 ((v:Int)*4294967296+((0:Nat):Int)),.int .u64 ((v:Int)*4294967296+((0:Nat):Int)+1)] dt)
  (u:ay (CK c) fi ops (j+1) n Q (bC a dt (.bool true)) F (.on .reg d false)) (x:ay (CK c) fi ops (j+1) n Q (bC a dt (.bool false)) F (.on (.look (v - 1)) d false)):ay (CK c) fi ops j (n+1) Q a F (.on (.look v) d false):=by
 obtain ⟨o,cM,dI,ho,hg,g,hv,rfl⟩:=t
 obtain ⟨y,z,D,rfl,h,i,k⟩:=BH hv
 obtain ⟨fn,f1,f2,f3,f4,f5⟩:=p.ex
 refine lG ho fun w s φ _ hs l=>?_
 by_cases e:s.wg=(v:Int)*4294967296+((0:Nat):Int)
 .have e1:s.wg=(v:Int)*c8:=by rw[e];simp only[c8];omega
  have hw:=l
  rw[e1] at hw
  have m:=Ic hw r
  have e3:(v:Int)*c8+1=(v:Int)*4294967296+((0:Nat):Int)+1:=by simp only[c8];omega
  rw[e3] at m
  exact ⟨.bool true,_,_,{s with wg:=(v:Int)*4294967296+((0:Nat):Int)+1},.reg,d,false,fun b A cs hb=>stepG_cas_hit ho (cH hg) hb.kind g f1 f2 f3 f4 .u64 f5 h i k (by rw[<-e];exact hs.wg.1) hs.wg.2,hs.tO q _,.set _ pL,m,rfl,JS rfl,Int.le_refl _,u⟩
 .have e1:s.wg≠(v:Int)*c8:=fun B=>e (by rw[B];simp only[c8];omega)
  exact ⟨.bool false,_,_,s,.look (v - 1),d,false,fun b A cs hb=>stepG_cas_miss ho (cH hg) hb.kind g f1 f2 f3 f4 .u64 f5 h i k hs.wg.1 hs.wg.2 e,hs,.refl _ _,(Ie l e1).2,rfl,yb false rfl,Int.le_refl _,x⟩
theorem J1 (l:Value)(m:Entry c.P f Extern.Sync.semacquire)(p:c.Wg≠c.C)(q:At ops j a f [.pointer (some (smA c.Wg)),l] dt)
  (h:ay (CK c) fi ops (j+1) n Q (bC a dt (.tuple #[])) F (.on .cZ d false)):ay (CK c) fi ops j (n+1) Q a F (.on .reg d false):=fun b r cs hb t=>by
 obtain ⟨o,cM,dI,ho,hg,g,hv,rfl⟩:=q
 obtain ⟨y,z,rfl,i,_⟩:=tc hv
 obtain ⟨fn,f1,f2,f3,f4,f5⟩:=m.ex
 rw[List.range'_succ,dy hb.round]
 refine ⟨CB,eG.act rfl rfl fun w s φ e1 hs k=>?_⟩
 by_cases e:s.ws=0
 .exact .inl ⟨rfl,e,stepG_semacquire_wait ho (cH hg) g f1 f2 f3 f4 f5 (ad:=smA c.Wg) (by simp[fC,i]) (by rw[hs.ws.1,e])⟩
 .obtain ⟨u,v,hw⟩:=Ig k.w e
  have:=h b r cs hb t
  rw[dy hb.round] at this
  exact .inr ⟨_,_,_,{s with ws:=s.ws - 1},.on .cZ d false,stepG_semacquire ho (cH hg) hb.kind g f1 f2 f3 f4 f5 (by simp[fC,i]) hs.ws.1 e hs.ws.2,hs.Cz p _,.set _ pL,k.group hw rfl rfl,rfl,JV rfl,.inr ⟨by simp only;omega,rfl⟩,this.2⟩
theorem CD (d:Entry c.P f (Extern.Race.marked .acquire))(e:At ops j a f [.pointer (some (stA c.Wg))] dt)
  (h:ay (CK c) fi ops (j+1) n Q (bC a dt (.tuple #[])) F (.on .cZ 0 true)):ay (CK c) fi ops j (n+1) Q a F (.on .cZ 0 false):=by
 obtain ⟨o,cM,dI,ho,hg,g,hv,rfl⟩:=e
 obtain ⟨y,rfl,i⟩:=mQ hv
 obtain ⟨fn,f1,f2,f3,f4,f5⟩:=d.ex
 exact lG ho fun w s φ _ hs k=>⟨.tuple #[],w,_,s,.cZ,0,true,fun b l cs hb=>stepG_markAt .acquire an ho (cH hg) hb.kind g f1 f2 f3 f4 f5 (by simp[fC,i]),hs,.refl _ _,k,rfl,.acq rfl rfl rfl,Int.le_refl _,h⟩
theorem J2 {x:Operand}(k:c.Wg≠c.C)(l:(c.P.funcs[fi]?).any (·.norace)=false)(m:jw ops j a (.call {callee:=.builtin .close,args:=#[x],argTypes:=dI}) dt)(p:ev a x= .chan (some c.C))
  (h:ay (CK c) fi ops (j+1) n Q (bC a dt (.tuple #[])) F (.shut 0)):ay (CK c) fi ops j (n+1) Q a F (.on .cZ 0 true):=fun b q cs hb r=>by
 obtain ⟨o,ho,hg,f,rfl⟩:=m
 rw[List.range'_succ,dy hb.round]
 refine ⟨(fun d e=>by cases e),eG.act rfl rfl fun w s φ e1 hs g=>.inr ?_⟩
 have:=h b q cs hb r
 rw[dy hb.round] at this
 have i:w.heap[c.C]?=some (.chan 0 #[] false s.got.length s.got.length false):=hs.2
 refine ⟨_,_,_,s,.shut 0,stepG_close ho (cH hg) hb.kind f (by simpa [fC] using p) i (by rw[hb.fn];exact l),⟨?_,?_⟩,⟨rfl,rfl,by simp[World.setChan],.refl _,fun b hb=>?_⟩,g.group g.w rfl rfl,rfl,.close rfl rfl rfl,.inl ?_,this.2⟩
 .have t:=hs.1
  unfold WgAt at*
  simp only[World.setChan]
  rw[Array.getElem?_setIfInBounds_ne (Ne.symm k)]
  exact t
 .simp only[World.setChan]
  have u:c.C<w.heap.size:=(Array.getElem?_eq_some_iff.1 i).1
  rw[Array.getElem?_setIfInBounds_self_of_lt u]
  rfl
 .simp only[World.setChan]
  rw[Array.getElem?_setIfInBounds_ne (fun e=>hb (.inl e.symm))]
 .simp only[mayWake,G,Frame.at,ho,Option.map_some,f]
def yd:Ex->Act->af->Cl->Prop
 | .exit _,_,_,_=>False
 |_,a,_,cl=>a.defers=[]/\cl= .shut 0
theorem J3 {fn:Func}{cd:Code}{n:Nat}(k:c.P.funcs[f]?=some fn)(m:(fn.name== "runtime.NumGoroutine")=false)(hb:fn.body=some cd)(o:fn.results=#[])(hn:fn.ntmps=n){caps:Array Value}(p:caps.size<=n)
  (h:∀A:Act,sz A=n->A.defers=[]->(∀j,slot A j=caps.getD j undef)->cV (CK c) f cd yd A F (.on (.opn 0) 0 false)):
  eG c (.on (.opn 0) 0 false) (born c.P {target:=.fn (.func f) caps,args:=#[]}) F:=by
 have hM:=CK.eT c
 have e0:∀w,stepG c.P false (born c.P {target:=.fn (.func f) caps,args:=#[]}) w= .go (G ((baseD f).at {tmps:=caps++Array.replicate (fn.ntmps - caps.size) undef,defers:=[]} [.code cd]) [g8 c.P]) w #[]:=fun w=>by
  have:=B3 (P:=c.P) (w:=w) (caps:=caps) (args:=#[]) k m hb
  simpa using this
 refine eG.act rfl rfl fun w s φ e1 e2 e3=>.inr ⟨_,w,#[],s,_,e0 w,e2,.refl _ _,e3,rfl,ya,.inr ⟨Int.le_refl _,rfl⟩,?_⟩
 have out:∀(a:Act) (l:List Item) F' (cl':Cl),(a.defers=[]/\cl'= .shut 0)->CK c cl' (G {(baseD f).at a l with mode:=.returning} [g8 c.P]) F':=by
  rintro a l F' cl' ⟨k1,rfl⟩
  exact ⟨(fun d e=>by cases e),eG.gone (q:=2) (QuitsD.ctl rfl (fun w=>B4 rfl k1 k o) (QuitsD.ctl rfl (fun w=>B5) ⟨rfl,rfl⟩))⟩
 have:=h {tmps:=caps++Array.replicate (fn.ntmps - caps.size) undef,defers:=[]} (by simp[sz,hn];omega) rfl (fun j=>?_) (baseD f) [] [g8 c.P] ⟨by simp[baseD],rfl,rfl⟩ fun e a F' aX g=>?_
 .rw[dy rfl] at this;exact this.2
 .simp only[slot,hn,Array.getD_eq_getD_getElem?]
  rcases Nat.lt_or_ge j caps.size with b|b
  .rw[Array.getElem?_append_left b]
  .rw[Array.getElem?_append_right b,Array.getElem?_replicate,Array.getElem?_eq_none b]
   split<;>rfl
 .cases e with
  |normal=>exact (hM aX).move (fun _=>kI rfl) (out a _ F' aX g)
  |exit i=>exact g.elim
  |ret=>exact fun r=>(hM aX).move (fun _=>stepG_ret' rfl) (out a _ F' aX g)
end
attribute [go_sem] yd
structure Yx where
 Wg:Nat
 C:Nat
 n:Nat
 pay:Nat->Option hO
 mono:∀i R ro aF v,pay i=some R->Ext ro aF->R ro v->R aF v
 base:Nat
 T0:Nat
 F1:af
 w1:World
inductive Y where
 |free
 |co (x:Yx) (z:Zg) (d:Nat)
structure PG where
 P:Program
 tW:TypeId
 z:Value
abbrev Yx.gy (x:Yx)(T:PG):Gy:=⟨T.P,x.Wg,x.C,T.tW,T.z,x.n,x.pay,x.mono,x.base,x.T0,x.F1,x.w1⟩
def GJ (T:PG)(Φ:Goroutine->af->Prop):Y->Goroutine->af->Prop
 | .free=>iT T.P Φ
 | .co x z d=>eH (x.gy T) (iT T.P Φ) z d
section
variable {T:PG}{Φ:Goroutine->af->Prop}{x:Yx}{k m d:Nat}{ops:Array Oper}{j n:Nat}{Q:Act->af->Y->Prop}{a:Act}{F:af}{o:Oper}{f fi:FuncId}{dt:Option Tmp}
theorem GJ.closed (T:PG)(Φ:Goroutine->af->Prop)(y:Y):Closed T.P true (GJ T Φ y):=by
 cases y with
 |free=>exact Ip T.P Φ
 |co x z d=>exact eH.closed (x.gy T) (iT T.P Φ) z d
theorem GJ.eT (T:PG)(Φ:Goroutine->af->Prop)(y:Y):ez T.P true (GJ T Φ y):=(GJ.closed T Φ y).eT
theorem tQ (ho:ops[j]?=some o)
  (h:∀(w:World) (s:Sg) (φ:Nat->Ph),Has F w->c5 (x.gy T) w s (.none m)->c9 x.n φ (.opn m) s.wg s.ws->
   ∃(v:Value) (w':World) (es:Array Event) (s':Sg) (e d':Nat),(∀(b:Frame) (f:List Item) (cs:List Frame),BF fi b->
    stepG T.P true (G (b.at a (.inRegion ops (j::List.range' (j+1) n)::f)) cs) w= .go (G (b.at (a.put o.dst v) (.inRegion ops (List.range' (j+1) n)::f)) cs) w' es)/\c5 (x.gy T) w' s' (.none e)/\fq (x.gy T).cy w w'/\c9 x.n φ (.opn e) s'.wg s'.ws/\s'.got=s.got/\Ev0 (x.gy T).cy d d' es/\
    s'.ws<=s.ws/\ay (GJ T Φ) fi ops (j+1) n Q (a.put o.dst v) F (.co x (.add k e) d')):ay (GJ T Φ) fi ops j (n+1) Q a F (.co x (.add k m) d):=fun b f cs hb i=>by
 rw[List.range'_succ,dy hb.round]
 refine eH.act (c:=x.gy T) rfl rfl fun w s φ e1 e2 e3=>?_
 obtain ⟨v,w',es,s',e,d',k1,l,p,q,g,r,t,u⟩:=h w s φ e1 e2 e3.w
 have:=u b f cs hb i
 rw[dy hb.round] at this
 exact ⟨_,w',es,s',e,d',k1 b f cs hb,l,p,e3.group q rfl g,g,r,.inr t,this⟩
theorem J4 (c:Entry T.P f (fun _=>do mark .disable;pure Extern.Race.none_)){vals:List Value}(e:At ops j a f vals dt)
  (h:ay (GJ T Φ) fi ops (j+1) n Q (bC a dt (.tuple #[])) F (.co x (.add k m) (d+1))):ay (GJ T Φ) fi ops j (n+1) Q a F (.co x (.add k m) d):=by
 obtain ⟨o,cM,dI,ho,hg,g,_,rfl⟩:=e
 obtain ⟨fn,f1,f2,f3,f4,f5⟩:=c.ex
 exact tQ ho fun w s φ _ hs i=>⟨.tuple #[],w,_,s,m,d+1,fun b l cs hb=>stepG_mark0 .disable an ho (cH hg) hb.kind g f1 f2 f3 f4 f5,hs,.refl _ _,i,rfl,IG,Int.le_refl _,h⟩
theorem J5 (c:Entry T.P f (Extern.Race.marked .read))(e:At ops j a f [.pointer (some (smA x.Wg))] dt)
  (h:ay (GJ T Φ) fi ops (j+1) n Q (bC a dt (.tuple #[])) F (.co x (.add k m) d)):ay (GJ T Φ) fi ops j (n+1) Q a F (.co x (.add k m) d):=by
 obtain ⟨o,cM,dI,ho,hg,g,hv,rfl⟩:=e
 obtain ⟨y,rfl,i⟩:=mQ hv
 obtain ⟨fn,f1,f2,f3,f4,f5⟩:=c.ex
 exact tQ ho fun w s φ _ hs l=>⟨.tuple #[],w,_,s,m,d,fun b p cs hb=>stepG_markAt .read an ho (cH hg) hb.kind g f1 f2 f3 f4 f5 (by simp[fC,i]),hs,.refl _ _,l,rfl,IK (ad:=smA x.Wg) rfl,Int.le_refl _,h⟩
theorem J6 (ad:Addr){src dst t:TypeId}(hs:T.P.underlying src=some (.pointer t))(hd:T.P.underlying dst=some .unsafePointer)(c:(T.P.info? t).map (fun i=>decide (i.size=0))=some false){y:Operand}
  (f:jw ops j a (.convert src dst y) dt) (g:ev a y= .pointer (some ad)) (l:∀w s cl,c5 (x.gy T) w s cl->∃v,w.cell? ad=some v) (h:ay (GJ T Φ) fi ops (j+1) n Q (bC a dt (.pointer (some ad))) F (.co x (.add k m) d)):ay (GJ T Φ) fi ops j (n+1) Q a F (.co x (.add k m) d):=by
 obtain ⟨o,ho,hg,p,rfl⟩:=f
 refine tQ ho fun w s φ _ e q=>⟨_,w,#[],s,m,d,fun b z cs hb=>?_,e,.refl _ _,q,rfl,IF,Int.le_refl _,h⟩
 obtain ⟨v,hv⟩:=l w s _ e
 have e1:execOp a.eval o=(do pure (.value (<-convert src dst (.pointer (some ad)))):Sem Next):=by
  unfold execOp
  simp only[p,fC,g]
 have r:(execOp a.eval o).run T.P w= .ok (.value (.pointer (some ad))) w:=by
  rw[e1];simp[run_convert_to_unsafe hs hd c hv]
 have u:(execOp a.eval o).events T.P w #[]=#[]:=by
  rw[e1];simp[events_convert_to_unsafe hs hd c hv]
 rw[stepG_value ho (cH hg) hb.kind r]
 unfold listed
 rw[u,seen_none]
theorem J7 (c:Entry T.P f (Extern.Atomic.update (Op.intArith .add) .u64 true))(e:x.Wg≠x.C)(hn:x.n<67108864)(g:At ops j a f [.pointer (some (stA x.Wg)),.int .u64 4294967296] dt)
  (h:∀v:Nat,v<=x.n->ay (GJ T Φ) fi ops (j+1) n Q (bC a dt (.int .u64 (((v+1:Nat):Int)*4294967296+((0:Nat):Int)))) F (.co x (.add k 1) d)):ay (GJ T Φ) fi ops j (n+1) Q a F (.co x (.add k 0) d):=by
 obtain ⟨o,cM,dI,ho,hg,i,hv,rfl⟩:=g
 obtain ⟨y,z,rfl,l,m⟩:=tc hv
 obtain ⟨fn,f1,f2,f3,f4,f5⟩:=c.ex
 refine tQ ho fun w s φ _ hs p=>?_
 obtain ⟨v,e1,q,hw⟩:=H8 p
 have e2:IntKind.u64.wrap (s.wg+4294967296)=((v+1:Nat):Int)*4294967296+((0:Nat):Int):=by
  rw[e1]
  unfold IntKind.wrap
  simp only[IntKind.bits,IntKind.signed,c8]
  simp
  omega
 have e3:s.wg+c8=((v+1:Nat):Int)*4294967296+((0:Nat):Int):=by rw[e1];simp only[c8];omega
 rw[e3] at hw
 exact ⟨_,_,_,{s with wg:=((v+1:Nat):Int)*4294967296+((0:Nat):Int)},1,d,fun b r cs hb=>by rw[<-e2];exact stepG_add_atomic ho (cH hg) hb.kind i f1 f2 f3 f4 .u64 f5 l m hs.wg.1 hs.wg.2,by rw[<-e2];exact hs.tO e _,.set _ pL,hw,rfl,IJ rfl,Int.le_refl _,h v q⟩
theorem CE {y:Operand}{f0:FuncId}{dI:Array TypeId}{caps:Array Value}(e:jw ops j a (.go {callee:=.value y,args:=#[],argTypes:=dI}) none)(f:ev a y= .func (.func f0) #[] caps)(b:Frame)(c:List Item)(cs:List Frame)(hb:b.kind≠ .early)(w:World):
  stepG T.P true (G (b.at a (.inRegion ops (j::List.range' (j+1) n)::c)) cs) w= .spawn (G (b.at (a.put none undef) (.inRegion ops (List.range' (j+1) n)::c)) cs) (born T.P {target:=.fn (.func f0) caps,args:=#[]}) w #[]:=by
 obtain ⟨o,ho,hg,g,hd⟩:=e
 have e1:execOp a.eval o=(pure (.spawn {target:=.fn (.func f0) caps,args:=#[]}):Sem Next):=by
  unfold execOp
  have e0:(#[]:Array Value)++Array.map (ev a) #[]=#[]:=an
  simp only[g,resolve,fC,f,Deferred.ofValue,e0]
  rfl
 rw[stepG_spawn (P:=T.P) ho (cH hg) hb (d:={target:=.fn (.func f0) caps,args:=#[]}) (by rw[e1];rfl) rfl,hd]
 unfold listed
 rw[e1]
 rw[show ((pure (.spawn {target:=.fn (.func f0) caps,args:=#[]}):Sem Next)).events T.P w #[]=#[] from rfl,seen_none]
theorem J8 (e:k<x.n){y:Operand}{f0:FuncId}{dI:Array TypeId}{caps:Array Value}(f:jw ops j a (.go {callee:=.value y,args:=#[],argTypes:=dI}) none)(g:ev a y= .func (.func f0) #[] caps)
  (hW:eA (x.gy T) k ⟨.idle,.cnt,false,0⟩ (born T.P {target:=.fn (.func f0) caps,args:=#[]}) ⟨F.ro,[]⟩) (h:ay (GJ T Φ) fi ops (j+1) n Q (bC a none undef) F (.co x (.add (k+1) 0) 0)):ay (GJ T Φ) fi ops j (n+1) Q a F (.co x (.add k 1) 0):=fun b d cs hb i=>by
 rw[List.range'_succ,dy hb.round]
 have:=h b d cs hb i
 rw[dy hb.round] at this
 exact eH.spawn (c:=x.gy T) rfl rfl e fun w hw=>⟨_,_,CE f g b d cs hb.kind w,hW,this⟩
theorem J9 {y:Operand}{f0:FuncId}{dI:Array TypeId}{caps:Array Value}(e:k=x.n)(f:jw ops j a (.go {callee:=.value y,args:=#[],argTypes:=dI}) none)(g:ev a y= .func (.func f0) #[] caps)
  (hW:eG (x.gy T) (.on (.opn 0) 0 false) (born T.P {target:=.fn (.func f0) caps,args:=#[]}) ⟨F.ro,[]⟩) (h:ay (GJ T Φ) fi ops (j+1) n Q (bC a none undef) F (.co x (.jZ []) 0)):ay (GJ T Φ) fi ops j (n+1) Q a F (.co x (.add k 0) 0):=fun b d cs hb i=>by
 subst e
 rw[List.range'_succ,dy hb.round]
 have:=h b d cs hb i
 rw[dy hb.round] at this
 exact eH.Jy (c:=x.gy T) rfl rfl fun w hw=>⟨_,_,CE f g b d cs hb.kind w,hW,this⟩
theorem Ka {got:List Nat}{t:TypeId}{y:Operand}(h:jw ops j a (.recv t y true) dt)(k:ev a y= .chan (some x.C)){el:TypeId}{dir:ChanDir}(hu:T.P.underlying t=some (.chan dir el))(l:zeroOf T.P el=some T.z)
  (hv:∀(i:Nat) (v:Value) (R:hO) (aF:Addr->Option Value),i<x.n->i∉got->x.pay i=some R->R aF v->Ext F.ro aF->ay (GJ T Φ) fi ops (j+1) n Q (bC a dt (.tuple #[v,.bool true])) ⟨aF,F.own⟩ (.co x (.jZ (got++[i])) 0))
  (m:(∀i,i<x.n->(x.pay i).isSome=true->i∈got)->ay (GJ T Φ) fi ops (j+1) n Q (bC a dt (.tuple #[T.z,.bool false])) F .free):ay (GJ T Φ) fi ops j (n+1) Q a F (.co x (.jZ got) 0):=fun b d cs hb g=>by
 obtain ⟨o,ho,hg,p,rfl⟩:=h
 rw[List.range'_succ,dy hb.round]
 have e:∀u,Go.Conc.served (G (b.at a (.inRegion ops (j::List.range' (j+1) n)::d)) cs) u=G (on b (bC a o.dst u) (.inRegion ops (List.range' (j+1) n)::d)) cs:=fun u=>by
  rw[served_G,dy hb.round]
  simp[ho]
  rfl
 have e1:execOp a.eval o=(do
   let .chan _ e<-underlying t|stuck "receive: channel type expected"
   pure (.comm #[{chan:=.chan (some x.C),send:=none,zero:=<-zeroValue e}] true (.recv true)):Sem Next):=by
  unfold execOp
  simp only[p,fC,k]
  rfl
 obtain ⟨inf,i1,i2⟩:=Option.bind_eq_some_iff.1 l
 have e2:∀w,(execOp a.eval o).run T.P w= .ok (.comm #[rcase x.C T.z] true (.recv true)) w:=fun w=>by
  rw[e1]
  simp[run_underlying hu,zeroValue,typeInfo,i1,i2,rcase]
 have e3:∀w,(execOp a.eval o).events T.P w #[]=#[]:=fun w=>by
  rw[e1]
  simp[run_underlying hu,zeroValue,typeInfo,i1,i2,rcase]
 refine eH.recv (c:=x.gy T) rfl rfl (fun w=>?_) (fun i v R aF f q r s A=>?_) fun f=>?_
 .rw[stepG_comm (cases:=#[rcase x.C T.z]) (blocking:=true) (shape:=.recv true) (w':=w) ho (cH hg) hb.kind (e2 w)]
  unfold listed
  rw[e3,seen_none]
 .rw[e];exact hv i v R aF f q r s A b d cs hb g
 .rw[e];exact m f b d cs hb g
theorem Kb {cd:Code}{Q:Ex->Act->af->Y->Prop}{a:Act}{F:af}(F1:af)(Wg C n:Nat)(pay:Nat->Option hO)(c:∀i R ro aF v,pay i=some R->Ext ro aF->R ro v->R aF v)
  (hle:Le ⟨F1.ro,(Wg,wgBlock T.tW 0 0)::(C,.chan 0 #[] false 0 0 false)::F1.own⟩ F)
  (h:∀base T0 w1,0<base->Wg≠C->cV (GJ T Φ) fi cd Q a F1 (.co ⟨Wg,C,n,pay,c,base,T0,F1,w1⟩ (.add 0 0) 0)):cV (GJ T Φ) fi cd Q a F .free:=fun b k cs hb d=>
 iT.Jz c rfl rfl hle fun base T0 w1 e f=>h base T0 w1 e f b k cs hb d
theorem Kc (j:Entry T.P f (fun _=>do mark .enable;pure Extern.Race.none_)){b:Frame}{todo:List Item}{cs:List Frame}{e:List Deferred}(l:a.defers=dcall f #[]::e)
  (h:GJ T Φ (.co x (.add k m) d) (G {b.at ⟨a.tmps,e⟩ todo with mode:=.returning} cs) F):GJ T Φ (.co x (.add k m) (d+1)) (G {b.at a todo with mode:=.returning} cs) F:=by
 obtain ⟨fn,f1,f2,f3,f4,f5⟩:=j.ex
 refine eH.act (c:=x.gy T) rfl rfl fun w s φ e1 hs n=>⟨_,w,#[cA .enable],s,m,d,?_,hs,.refl _ _,n,rfl,II,.inr (Int.le_refl _),h⟩
 exact stepG_unwind_entry (v:=.tuple #[]) l f1 f2 f3 f4 f5 (by simp[Extern.Race.none_]) (by simp[cA]) (by
  intro y i
  simp[cA] at i
  subst i
  exact ⟨rfl,fun g h=>by cases h⟩)
def tR (f:FuncId)(R:Value->af->Y->Prop):Ex->Act->af->Y->Prop
 | .exit _,_,_,_=>False
 |_,a,F,z=>a.defers=[dcall f #[]]/\∃x k m d,z= .co x (.add k m) (d+1)/\R (.tuple #[]) F (.co x (.add k m) d)
theorem dH.Ke {f0:FuncId}(p:Entry T.P f (fun _=>do mark .enable;pure Extern.Race.none_)){fn:Func}{cd:Code}{n:Nat}{args:Array Value}{R:Value->af->Y->Prop}{F:af}{z:Y}(l:T.P.funcs[f0]?=some fn)(hb:fn.body=some cd)(o:fn.results=#[])(hn:fn.ntmps=n)(u:args.size<=n)
  (h:∀A:Act,sz A=n->A.defers=[]->(∀i,slot A i=args.getD i undef)->cV (GJ T Φ) f0 cd (tR f R) A F z):dH T.P (GJ T Φ) f0 args F z R:=by
 intro g cs hR
 let b:Frame:={(default:Frame) with fn:=f0,kind:=.normal}
 have q:b.roundOf=none:=rfl
 have r:Frame.enter T.P f0 args .normal=on b {tmps:=args++Array.replicate (fn.ntmps - args.size) undef,defers:=[]} [.code cd]:=by
  simp[Frame.enter,on,l,hb,b]
  rfl
 rw[r]
 have hM:=GJ.eT T Φ
 have leave:∀(c:Act) (todo:List Item) F' (a:Y),(c.defers=[dcall f #[]]/\∃x k m d,a= .co x (.add k m) (d+1)/\R (.tuple #[]) F' (.co x (.add k m) d))->GJ T Φ a (G {on b c todo with mode:=.returning} (g::cs)) F':=by
  intro c todo F' a ⟨hd,x,k,m,d,s,t⟩
  subst s
  rw[dy q]
  refine Kc p hd ((hM _).move (fr':=g.finish (.tuple #[])) (cs':=cs) (fun w=>?_) (hR _ F' _ t))
  exact stepG_leave rfl rfl l (results_none o _ T.P w) (events_results_none o _ _)
 refine h _ (by simp[sz,hn];omega) rfl (fun i=>?_) b [] (g::cs) ⟨by simp[b],rfl,rfl⟩ fun e c F' a j=>?_
 .simp only[slot,hn,Array.getD_eq_getD_getElem?]
  rcases Nat.lt_or_ge i args.size with hi|hi
  .rw[Array.getElem?_append_left hi]
  .rw[Array.getElem?_append_right hi,Array.getElem?_replicate,Array.getElem?_eq_none hi]
   split<;>rfl
 .cases e with
  |normal=>exact (hM a).move (fun _=>kI rfl) (leave c _ F' a j)
  |exit i=>exact j.elim
  |ret=>exact fun v=>(hM a).move (fun _=>stepG_ret' rfl) (leave c _ F' a j)
theorem gd.Kg {args:Array Value}{ro:Addr->Option Value}{R:Value->af->Prop}(h:∀Φ,dH T.P (GJ T Φ) f args ⟨ro,[]⟩ .free (fun v F' z=>z= .free/\R v F')):gd T.P f args ⟨ro,[]⟩ R:=
 gd.Iq fun Φ c cs hK=>h Φ c cs fun v F' z ⟨a,hR⟩=>by subst a;exact hK v F' hR
end
attribute [go_sem] tR
end Go.Sep
end
section
namespace Go.Proofs.YtlchekhkopimhaaGreatDoor
open Go Go.Sep Go.Proofs Go.Conc
open Go.ConcN (upd upd_same)
open Go.ConcM (muA msA)
open Go.ConcR (stA smA)
set_option maxRecDepth 100000
set_option maxHeartbeats 4000000
attribute [local go_sem] Int.reduceBEq Int.reduceBNe muA msA stA smA
noncomputable abbrev TG:PG:=⟨Tryz.prog,179,.slice none 0 0⟩
section
variable {x:Yx}{i:Nat}{st:Bool}{F:af}
theorem ye (w:World)(s:Sg)(cl:Cl)(h:c5 (x.gy TG) w s cl):∃v,w.cell? ⟨x.Wg,0,none⟩=some v:=⟨_,h.wg.1⟩
theorem CF (w:World)(s:Sg)(cl:Cl)(h:c5 (x.gy TG) w s cl):∃v,w.cell? ⟨x.Wg,1,none⟩=some v:=⟨_,h.ws.1⟩
theorem Kh (a:x.Wg≠x.C)(hn:x.n<67108864):
  dH Tryz.prog (WG (x.gy TG) i) 177 #[.pointer (some (stA x.Wg)),.int .u64 18446744069414584320] F ⟨.idle,.rel,st,1⟩
   (fun r F' aX=>F'=F/\∃v t:Nat,v<=x.n/\t<=1/\r= .int .u64 ((v:Int)*4294967296+(t:Int))/\aX=⟨.idle,if v=0/\t=1 then .ld else .gone,st,1⟩):=by
 have hM:=WG.eT (x.gy TG) i
 refine dH.go (main:=false) hM Tryz.func177 rfl Tryz.ntmps177 an fun A b hd hs=>?_
 have c:=hs 0
 have k1:=hs 1
 clear hs
 repeat apply bp (hM _)
 refine oU hM ?_
 refine ay.pure (hM _) 1 (n:=0) _ rfl rfl ?_;apply ag _
 refine ay.nil hM ?_;try simp only[go_sem]
 repeat apply bp (hM _)
 refine oU hM ?_
 refine ay.pure (hM _) 4 (n:=2) _ rfl rfl ?_;apply ag _
 refine JI BJ a hn ⟨_,_,_,rfl,(by first|rfl|simp only[*,go_sem]),rfl,by first|(simp only[*,go_sem];done)|(simp only[*,go_sem];rfl),rfl⟩ (by rfl) an fun v t hv ht=>?_
 refine ay.pure (hM _) 1 (n:=0) _ rfl rfl ?_;apply ag _
 refine ay.nil hM ?_;try simp only[go_sem]
 refine g5 ?_;try simp only[go_sem]
 exact (lq rfl bx bx ⟨rfl,v,t,hv,ht,rfl,rfl⟩).2
theorem Ki:
  dH Tryz.prog (WG (x.gy TG) i) 179 #[.pointer (some (stA x.Wg))] F ⟨.idle,.ld,st,1⟩
   (fun r F' aX=>F'=F/\r= .int .u64 1/\aX=⟨.idle,.st,st,1⟩):=by
 have hM:=WG.eT (x.gy TG) i
 refine dH.go (main:=false) hM Tryz.func179 rfl Tryz.ntmps179 an fun A a hd hs=>?_
 have b:=hs 0
 clear hs
 repeat apply bp (hM _)
 refine oU hM ?_
 refine ay.pure (hM _) 1 (n:=0) _ rfl rfl ?_;apply ag _
 refine ay.nil hM ?_;try simp only[go_sem]
 repeat apply bp (hM _)
 refine oU hM ?_
 refine ay.pure (hM _) 3 (n:=2) _ rfl rfl ?_;apply ag _
 refine JJ xd ⟨_,_,_,rfl,(by first|rfl|simp only[*,go_sem]),rfl,by first|(simp only[*,go_sem];done)|(simp only[*,go_sem];rfl),rfl⟩ (by rfl) an ?_
 refine ay.pure (hM _) 1 (n:=0) _ rfl rfl ?_;apply ag _
 refine ay.nil hM ?_;try simp only[go_sem]
 refine g5 ?_;try simp only[go_sem]
 exact (lq rfl bx bx ⟨rfl,rfl,rfl⟩).2
theorem Kj (a:x.Wg≠x.C):
  dH Tryz.prog (WG (x.gy TG) i) 180 #[.pointer (some (stA x.Wg)),.int .u64 0] F ⟨.idle,.st,st,1⟩
   (fun r F' aX=>F'=F/\r= .tuple #[]/\aX=⟨.idle,.sm,st,1⟩):=by
 have hM:=WG.eT (x.gy TG) i
 refine dH.go (main:=false) hM Tryz.func180 rfl Tryz.ntmps180 an fun A b hd hs=>?_
 have c:=hs 0
 have k1:=hs 1
 clear hs
 repeat apply bp (hM _)
 refine oU hM ?_
 refine ay.pure (hM _) 4 (n:=1) _ rfl rfl ?_;apply ag _
 refine JK Ix a ⟨_,_,_,rfl,(by first|rfl|simp only[*,go_sem]),rfl,by first|(simp only[*,go_sem];done)|(simp only[*,go_sem];rfl),rfl⟩ (by rfl) an ?_
 refine ay.nil hM ?_;try simp only[go_sem]
 exact Ir rfl bx ⟨rfl,rfl,rfl⟩
end
attribute [local go_sem] Int.reduceBEq Int.reduceBNe muA msA stA smA
def Kk (Wg:Nat)(st:Bool)(F:af)(m:Nat)(a:Act)(F':af)(ph:Ph):Prop:=
 ∃t8:Int,F'=F/\slot a 0= .pointer (some ⟨Wg,0,none⟩)/\slot a 8= .int .u32 t8/\sz a=117/\a.defers=[dcall 172 #[]]/\((m=1/\t8=1/\ph=⟨.idle,.sm,st,1⟩)\/(m=0/\t8=0/\ph=⟨.idle,.gone,st,1⟩))
theorem Kl {f:FuncId}{R:Value->af->Ph->Prop}{a:Act}{F:af}{ph:Ph}{b:Nat}(hd:a.defers=[dcall f #[]])(hg:ph.gp= .gone)(h:ph.deaf=b+1)(hR:R (.tuple #[]) F {ph with deaf:=b}):ko f R .normal a F ph:=⟨hd,hg,b,h,hR⟩
theorem tS {f:FuncId}{R:Value->af->Ph->Prop}{a:Act}{F:af}{ph:Ph}{b:Nat}(hd:a.defers=[dcall f #[]])(hg:ph.gp= .gone)(h:ph.deaf=b+1)(hR:R (.tuple #[]) F {ph with deaf:=b}):ko f R .ret a F ph:=⟨hd,hg,b,h,hR⟩
section
variable {x:Yx}{i:Nat}{st:Bool}{F:af}
theorem Km (d:x.Wg≠x.C)(hn:x.n<67108864)(o:(x.pay i).isSome=true->st=true):
  dH Tryz.prog (WG (x.gy TG) i) 147 #[.pointer (some (stA x.Wg)),.int .i64 (-1)] F ⟨.idle,.cnt,st,0⟩
   (fun r F' aX=>r= .tuple #[]/\F'=F/\aX=⟨.idle,.gone,st,0⟩):=by
 have hM:=WG.eT (x.gy TG) i
 refine dH.JN td Tryz.func147 rfl rfl Tryz.ntmps147 an fun A f hd hs=>?_
 have hJ:True:=trivial
 have p:=hs 0
 have k1:=hs 1
 clear hs
 have c1:decide ((-1:Int)<0)=true:=aL
 have c2:decide ((-1:Int)>0)=false:=aL
 repeat apply bp (hM _)
 refine fI (hM _) bz ?_
 repeat apply bp (hM _)
 refine bL hM fun K hK=>?_
 refine ay.pure (hM _) 2 (n:=0) _ rfl rfl ?_;simp only[*,go_sem,-hK,-hM]
 refine ay.nil hM (hK _ _ _ ?_);clear hK K
 repeat apply bp (hM _)
 refine fI (hM _) bz ?_
 repeat apply bp (hM _)
 refine bL hM fun K hK=>?_
 refine ay.pure (hM _) 1 (n:=2) _ rfl rfl ?_;simp only[*,go_sem,-hK,-hM]
 refine JH ⟨x.Wg,0,none⟩ xe q5 xg ⟨_,rfl,c6,rfl,rfl⟩ an fW ye ?_
 refine JG Iv ⟨_,_,_,rfl,c6,rfl,fJ,rfl⟩ rfl rfl o ?_
 refine ay.nil hM (hK _ _ _ ?_);clear hK K
 repeat apply bp (hM _)
 refine bL hM fun K hK=>?_
 refine JE xb ⟨_,_,_,rfl,c6,rfl,fJ,rfl⟩ an an ?_
 refine ay.nil hM (hK _ _ _ ?_);clear hK K
 repeat apply bp (hM _)
 refine bL hM fun K hK=>?_
 refine ay.defer (hM _) rfl c6 rfl rfl (by simp;rfl) fun c e1 e2 e3=>?_
 have l0:slot c 0= .pointer (some ⟨x.Wg,0,none⟩):=(e1 0).trans bz
 have q:slot c 1= .int .i64 (-1):=(e1 1).trans bz
 replace f:sz c=117:=e2.trans bz
 replace hd:c.defers=[dcall 172 #[]]:=e3.trans bz
 clear e1 e2 e3 p k1
 refine ay.nil hM (hK _ _ _ ?_);clear hK K
 repeat apply bp (hM _)
 refine bL hM fun K hK=>?_
 refine ay.pure (hM _) 1 (n:=0) _ rfl rfl ?_;simp only[*,go_sem,-hK,-hM]
 refine ay.nil hM (hK _ _ _ ?_);clear hK K
 repeat apply bp (hM _)
 refine bL hM fun K hK=>?_
 refine ay.entry (.bool false) (hM _) BK ⟨_,_,_,rfl,c6,rfl,fJ,rfl⟩ ?_
 refine ay.nil hM (hK _ _ _ ?_);clear hK K
 repeat apply bp (hM _)
 refine eF (hM _) bz ?_
 apply eE (hM _)
 have w1:IntKind.u64.wrap (-1)=18446744073709551615:=aL
 have w2:IntKind.u64.wrap (18446744073709551615*2 ^ min 32 64)=18446744069414584320:=aL
 repeat apply bp (hM _)
 refine bL hM fun K hK=>?_
 refine ay.pure (hM _) 6 (n:=2) _ rfl rfl ?_;simp only[*,go_sem,-hK,-hM]
 refine ay.jV (hM _) rfl c6 rfl Au fW (Kh d hn) fun r F' aX hR=>?_
 obtain ⟨rfl,v,t,hv,ht,rfl,rfl⟩:=hR
 obtain ⟨y,b⟩:∃y:Int,y=(v:Int)*4294967296+(t:Int):=⟨_,rfl⟩
 rw[<-b]
 have a1:fE y 2147483648=0:=by show kB y 2147483648=0;rw[b];exact xJ v t aa ht
 have s:fE y 2147483647=(t:Int):=by show kB y 2147483647=(t:Int);rw[b];exact xK v t aa ht
 have u:y.fdiv (2 ^ min 32 64)=(v:Int):=by rw[b];exact xL v t ht
 have w:IntKind.i32.wrap (v:Int)=(v:Int):=wX aa aa
 have z:IntKind.u32.wrap (t:Int)=(t:Int):=by
  unfold IntKind.wrap
  simp[IntKind.bits,IntKind.signed]
  omega
 have g:v=0->t=1->((1:Int) != y)=false:=fun e B=>by rw[b,e,B];rfl
 clear b
 refine ay.pure (hM _) 1 (n:=0) _ rfl rfl ?_;simp only[*,go_sem,-hK,-hM]
 refine ay.nil hM (hK _ _ _ ?_);clear hK K
 repeat apply bp (hM _)
 refine bL hM fun K hK=>?_
 refine ay.pure (hM _) 7 (n:=0) _ rfl rfl ?_;simp only[*,go_sem,-hK,-hM]
 refine ay.nil hM (hK _ _ _ ?_);clear hK K
 repeat apply bp (hM _)
 refine eF (hM _) bz ?_
 apply eE (hM _)
 repeat apply bp (hM _)
 refine bL hM fun K hK=>?_
 refine ay.pure (hM _) 4 (n:=0) _ rfl rfl ?_;simp only[*,go_sem,-hK,-hM]
 refine ay.nil hM (hK _ _ _ ?_);clear hK K
 repeat apply bp (hM _)
 refine bL hM fun K hK=>?_
 refine ay.pure (hM _) 4 (n:=0) _ rfl rfl ?_;simp only[*,go_sem,-hK,-hM]
 refine ay.nil hM (hK _ _ _ ?_);clear hK K
 repeat apply bp (hM _)
 refine bL hM fun K hK=>?_
 refine ay.pure (hM _) 10 (n:=0) _ rfl rfl ?_;simp only[*,go_sem,-hK,-hM]
 refine ay.nil hM (hK _ _ _ ?_);clear hK K
 repeat apply bp (hM _)
 refine eF (hM _) bz ?_
 apply eE (hM _)
 have c3:decide ((v:Int)<0)=false:=an
 repeat apply bp (hM _)
 refine bL hM fun K hK=>?_
 refine ay.pure (hM _) 2 (n:=0) _ rfl rfl ?_;simp only[*,go_sem,-hK,-hM]
 refine ay.nil hM (hK _ _ _ ?_);clear hK K
 repeat apply bp (hM _)
 refine eF (hM _) bz ?_
 apply eE (hM _)
 have k:t=0\/t=1:=aa
 by_cases hC:v=0/\t=1
 ·
  obtain ⟨rfl,rfl⟩:=hC
  have D:((1:Int) != y)=false:=g rfl rfl
  have hg:(if (0:Nat)=0/\(1:Nat)=1 then Gp.ld else Gp.gone)= .ld:=rfl
  rw[hg]
  have E:((1:Nat):Int)=1:=rfl
  clear hg g k hv ht
  repeat apply bp (hM _)
  refine bL hM fun K hK=>?_
  refine ay.pure (hM _) 12 (n:=0) _ rfl rfl ?_;simp only[*,go_sem,-hK,-hM]
  refine ay.nil hM (hK _ _ _ ?_);clear hK K
  repeat apply bp (hM _)
  refine eF (hM _) bz ?_
  apply eE (hM _)
  repeat apply bp (hM _)
  refine bL hM fun K hK=>?_
  refine ay.pure (hM _) 6 (n:=0) _ rfl rfl ?_;simp only[*,go_sem,-hK,-hM]
  refine ay.nil hM (hK _ _ _ ?_);clear hK K
  repeat apply bp (hM _)
  refine eF (hM _) bz ?_
  apply eE (hM _)
  repeat apply bp (hM _)
  refine bL hM fun K hK=>?_
  refine ay.pure (hM _) 3 (n:=3) _ rfl rfl ?_;simp only[*,go_sem,-hK,-hM]
  refine ay.jV (hM _) rfl c6 rfl vM fW Ki fun r F' aX hR=>?_
  obtain ⟨rfl,rfl,rfl⟩:=hR
  refine ay.pure (hM _) 2 (n:=0) _ rfl rfl ?_;simp only[*,go_sem,-hK,-hM]
  refine ay.nil hM (hK _ _ _ ?_);clear hK K
  repeat apply bp (hM _)
  refine eF (hM _) bz ?_
  apply eE (hM _)
  repeat apply bp (hM _)
  refine bL hM fun K hK=>?_
  refine ay.pure (hM _) 3 (n:=1) _ rfl rfl ?_;simp only[*,go_sem,-hK,-hM]
  refine ay.jV (hM _) rfl c6 rfl FL fW (Kj d) fun r F' aX hR=>?_
  obtain ⟨rfl,rfl,rfl⟩:=hR
  refine ay.nil hM (hK _ _ _ ?_);clear hK K
  repeat apply bp (hM _)
  refine bL hM fun K hK=>?_
  refine ay.pure (hM _) 1 (n:=0) _ rfl rfl ?_;simp only[*,go_sem,-hK,-hM]
  refine ay.nil hM (hK _ _ _ ?_);clear hK K
  repeat apply bp (hM _)
  refine eF (hM _) bz ?_
  apply eE (hM _)
  repeat apply bp (hM _)
  refine lp hM ?_
  refine s9 hM (Kk x.Wg (st) F') 1 ?_ ?_
  .exact ⟨1,rfl,bz,bz,bz,bz,.inl ⟨rfl,rfl,rfl⟩⟩
  .clear l0 q f hd c1 c2 c3 D a1 s u w z w1 w2 E
   rintro m A G I ⟨t8,rfl,l0,J,f,hd,⟨rfl,rfl,rfl⟩|⟨rfl,rfl,rfl⟩⟩
   .have H:((1:Int) != 0)=true:=rfl
    have w3:IntKind.u32.wrap (1 - 1)=0:=aL
    repeat apply bp (hM _)
    refine bL hM fun K hK=>?_
    refine ay.pure (hM _) 2 (n:=0) _ rfl rfl ?_;simp only[*,go_sem,-hK,-hM]
    refine ay.nil hM (hK _ _ _ ?_);clear hK K
    repeat apply bp (hM _)
    refine fI (hM _) bz ?_
    apply eE (hM _)
    repeat apply bp (hM _)
    refine lp hM ?_
    repeat apply bp (hM _)
    refine bL hM fun K hK=>?_
    refine ay.pure (hM _) 3 (n:=1) _ rfl rfl ?_;simp only[*,go_sem,-hK,-hM]
    refine JL (.bool false) (.int .i64 0) IB d ⟨_,_,_,rfl,c6,rfl,fJ,rfl⟩ (by rfl) ?_
    refine ay.nil hM (hK _ _ _ ?_);clear hK K
    repeat apply bp (hM _)
    refine bL hM fun K hK=>?_
    refine ay.pure (hM _) 3 (n:=0) _ rfl rfl ?_;simp only[*,go_sem,-hK,-hM]
    refine ay.nil hM (hK _ _ _ ?_);clear hK K
    exact ⟨0,aa,0,rfl,bz,bz,bz,bz,.inr ⟨rfl,rfl,rfl⟩⟩
   .have H:((0:Int) != 0)=false:=rfl
    repeat apply bp (hM _)
    refine bL hM fun K hK=>?_
    refine ay.pure (hM _) 2 (n:=0) _ rfl rfl ?_;simp only[*,go_sem,-hK,-hM]
    refine ay.nil hM (hK _ _ _ ?_);clear hK K
    repeat apply bp (hM _)
    refine eF (hM _) bz ?_
    exact w5 (show ko 172 (fun r a aX=>r= .tuple #[]/\a=G/\aX=⟨.idle,.gone,st,0⟩) .normal _ _ _ from Kl bz rfl rfl ⟨rfl,rfl,rfl⟩)
 ·
  rw[if_neg hC]
  have l:(0<v/\decide ((v:Int)>0)=true)\/(v=0/\decide ((v:Int)>0)=false/\((t:Int)==0)=true):=by
   rcases Nat.eq_zero_or_pos v with e|e
   .refine .inr ⟨e,by simp[e],?_⟩
    obtain rfl:t=0:=aa
    rfl
   .exact .inl ⟨e,by simp;omega⟩
  have h:((t:Int) != 0)=false\/((t:Int) != 0)=true:=by cases ((t:Int) != 0)<;>simp
  clear g hC hv ht k
  rcases h with h|h
  .repeat apply bp (hM _)
   refine bL hM fun K hK=>?_
   refine ay.pure (hM _) 12 (n:=0) _ rfl rfl ?_;simp only[*,go_sem,-hK,-hM]
   refine ay.nil hM (hK _ _ _ ?_);clear hK K
   repeat apply bp (hM _)
   refine eF (hM _) bz ?_
   apply eE (hM _)
   rcases l with ⟨_,j⟩|⟨_,j,b2⟩
   .repeat apply bp (hM _)
    refine bL hM fun K hK=>?_
    refine ay.pure (hM _) 6 (n:=0) _ rfl rfl ?_;simp only[*,go_sem,-hK,-hM]
    refine ay.nil hM (hK _ _ _ ?_);clear hK K
    repeat apply bp (hM _)
    refine fI (hM _) bz ?_
    exact g5 (show ko 172 (fun r a aX=>r= .tuple #[]/\a=F'/\aX=⟨.idle,.gone,st,0⟩) .ret _ _ _ from tS bz rfl rfl ⟨rfl,rfl,rfl⟩)
   .repeat apply bp (hM _)
    refine bL hM fun K hK=>?_
    refine ay.pure (hM _) 6 (n:=0) _ rfl rfl ?_;simp only[*,go_sem,-hK,-hM]
    refine ay.nil hM (hK _ _ _ ?_);clear hK K
    repeat apply bp (hM _)
    refine fI (hM _) bz ?_
    exact g5 (show ko 172 (fun r a aX=>r= .tuple #[]/\a=F'/\aX=⟨.idle,.gone,st,0⟩) .ret _ _ _ from tS bz rfl rfl ⟨rfl,rfl,rfl⟩)
  .repeat apply bp (hM _)
   refine bL hM fun K hK=>?_
   refine ay.pure (hM _) 12 (n:=0) _ rfl rfl ?_;simp only[*,go_sem,-hK,-hM]
   refine ay.nil hM (hK _ _ _ ?_);clear hK K
   repeat apply bp (hM _)
   refine eF (hM _) bz ?_
   apply eE (hM _)
   rcases l with ⟨_,j⟩|⟨_,j,b2⟩
   .repeat apply bp (hM _)
    refine bL hM fun K hK=>?_
    refine ay.pure (hM _) 6 (n:=0) _ rfl rfl ?_;simp only[*,go_sem,-hK,-hM]
    refine ay.nil hM (hK _ _ _ ?_);clear hK K
    repeat apply bp (hM _)
    refine fI (hM _) bz ?_
    exact g5 (show ko 172 (fun r a aX=>r= .tuple #[]/\a=F'/\aX=⟨.idle,.gone,st,0⟩) .ret _ _ _ from tS bz rfl rfl ⟨rfl,rfl,rfl⟩)
   .repeat apply bp (hM _)
    refine bL hM fun K hK=>?_
    refine ay.pure (hM _) 6 (n:=0) _ rfl rfl ?_;simp only[*,go_sem,-hK,-hM]
    refine ay.nil hM (hK _ _ _ ?_);clear hK K
    repeat apply bp (hM _)
    refine fI (hM _) bz ?_
    exact g5 (show ko 172 (fun r a aX=>r= .tuple #[]/\a=F'/\aX=⟨.idle,.gone,st,0⟩) .ret _ _ _ from tS bz rfl rfl ⟨rfl,rfl,rfl⟩)
end
attribute [local go_sem] Int.reduceBEq Int.reduceBNe muA msA stA smA
def CG (x:Yx)(F:af)(m:Nat)(a:Act)(F':af)(z:Cl):Prop:=
 ∃u:Nat,u<=m/\u<=x.n/\F'=F/\slot a 0= .pointer (some ⟨x.Wg,0,none⟩)/\sz a=84/\a.defers=[]/\z= .on (.look u) 1 false
section
variable {x:Yx}{F:af}
theorem Kn {u:Nat}:
  dH Tryz.prog (CK (x.gy TG)) 179 #[.pointer (some (stA x.Wg))] F (.on (.look u) 1 false)
   (fun r F' a=>F'=F/\∃v:Nat,v<=u/\r= .int .u64 ((v:Int)*4294967296+((0:Nat):Int))/\a= .on (if v=0 then .cZ else .look v) 1 false):=by
 have hM:=CK.eT (x.gy TG)
 have hJ:True:=trivial
 refine dH.go (main:=false) hM Tryz.func179 rfl Tryz.ntmps179 an fun A b hd hs=>?_
 have c:=hs 0
 clear hs
 repeat apply bp (hM _)
 refine bL hM fun K hK=>?_
 refine ay.pure (hM _) 1 (n:=0) _ rfl rfl ?_;simp only[*,go_sem,-hK,-hM]
 refine ay.nil hM (hK _ _ _ ?_);clear hK K
 repeat apply bp (hM _)
 refine bL hM fun K hK=>?_
 refine ay.pure (hM _) 3 (n:=2) _ rfl rfl ?_;simp only[*,go_sem,-hK,-hM]
 refine JY xd ⟨_,_,_,rfl,c6,rfl,fJ,rfl⟩ fun v hv=>?_
 refine ay.pure (hM _) 1 (n:=0) _ rfl rfl ?_;simp only[*,go_sem,-hK,-hM]
 refine ay.nil hM (hK _ _ _ ?_);clear hK K
 exact g5 (lq rfl bz bz ⟨rfl,v,hv,rfl,rfl⟩).2
theorem Ko:
  dH Tryz.prog (CK (x.gy TG)) 179 #[.pointer (some (stA x.Wg))] F (.on .cZ 1 false)
   (fun r F' a=>F'=F/\r= .int .u64 0/\a= .on .cZ 1 false):=by
 have hM:=CK.eT (x.gy TG)
 have hJ:True:=trivial
 refine dH.go (main:=false) hM Tryz.func179 rfl Tryz.ntmps179 an fun A b hd hs=>?_
 have c:=hs 0
 clear hs
 repeat apply bp (hM _)
 refine bL hM fun K hK=>?_
 refine ay.pure (hM _) 1 (n:=0) _ rfl rfl ?_;simp only[*,go_sem,-hK,-hM]
 refine ay.nil hM (hK _ _ _ ?_);clear hK K
 repeat apply bp (hM _)
 refine bL hM fun K hK=>?_
 refine ay.pure (hM _) 3 (n:=2) _ rfl rfl ?_;simp only[*,go_sem,-hK,-hM]
 refine JZ xd ⟨_,_,_,rfl,c6,rfl,fJ,rfl⟩ ?_
 refine ay.pure (hM _) 1 (n:=0) _ rfl rfl ?_;simp only[*,go_sem,-hK,-hM]
 refine ay.nil hM (hK _ _ _ ?_);clear hK K
 exact g5 (lq rfl bz bz ⟨rfl,rfl,rfl⟩).2
theorem Kp (b:x.Wg≠x.C){v:Nat}(hv:0<v):
  dH Tryz.prog (CK (x.gy TG)) 185 #[.pointer (some (stA x.Wg)),.int .u64 ((v:Int)*4294967296+((0:Nat):Int)),.int .u64 ((v:Int)*4294967296+((0:Nat):Int)+1)] F (.on (.look v) 1 false)
   (fun r F' a=>F'=F/\((r= .bool true/\a= .on .reg 1 false)\/(r= .bool false/\a= .on (.look (v - 1)) 1 false))):=by
 have hM:=CK.eT (x.gy TG)
 have hJ:True:=trivial
 refine dH.go (main:=false) hM Tryz.func185 rfl Tryz.ntmps185 an fun A c hd hs=>?_
 have d:=hs 0
 have k1:=hs 1
 have e:=hs 2
 clear hs
 repeat apply bp (hM _)
 refine bL hM fun K hK=>?_
 refine ay.pure (hM _) 1 (n:=0) _ rfl rfl ?_;simp only[*,go_sem,-hK,-hM]
 refine ay.nil hM (hK _ _ _ ?_);clear hK K
 repeat apply bp (hM _)
 refine bL hM fun K hK=>?_
 refine ay.pure (hM _) 5 (n:=2) _ rfl rfl ?_;simp only[*,go_sem,-hK,-hM]
 refine J0 Iw b hv ⟨_,_,_,rfl,c6,rfl,fJ,rfl⟩ ?_ ?_
 .refine ay.pure (hM _) 1 (n:=0) _ rfl rfl ?_;simp only[*,go_sem,-hK,-hM]
  refine ay.nil hM (hK _ _ _ ?_);clear hK K
  exact g5 (lq rfl bz bz ⟨rfl,.inl ⟨rfl,rfl⟩⟩).2
 .refine ay.pure (hM _) 1 (n:=0) _ rfl rfl ?_;simp only[*,go_sem,-hK,-hM]
  refine ay.nil hM (hK _ _ _ ?_);clear hK K
  exact g5 (lq rfl bz bz ⟨rfl,.inr ⟨rfl,rfl⟩⟩).2
theorem Kq (g:x.Wg≠x.C)(hn:x.n<67108864):
  dH Tryz.prog (CK (x.gy TG)) 152 #[.pointer (some (stA x.Wg))] F (.on (.opn 0) 0 false)
   (fun r F' b=>r= .tuple #[]/\F'=F/\b= .on .cZ 0 true):=by
 have hM:=CK.eT (x.gy TG)
 have hJ:True:=trivial
 refine dH.go (main:=false) hM Tryz.func152 rfl Tryz.ntmps152 an fun A i hd hs=>?_
 have j:=hs 0
 clear hs
 repeat apply bp (hM _)
 refine fI (hM _) bz ?_
 repeat apply bp (hM _)
 refine bL hM fun K hK=>?_
 refine JW xb ⟨_,_,_,rfl,c6,rfl,fJ,rfl⟩ (.look x.n) (fun _ _ _ h=>Ia h) ?_
 refine ay.nil hM (hK _ _ _ ?_);clear hK K
 repeat apply bp (hM _)
 refine lp hM ?_
 refine s9 hM (CG x F) x.n ?_ ?_
 .exact ⟨x.n,Nat.le_refl _,Nat.le_refl _,rfl,bz,bz,bz,rfl⟩
 .clear i hd j
  rintro m A F' b ⟨u,q,s,rfl,j,i,hd,rfl⟩
  repeat apply bp (hM _)
  refine lp hM ?_
  repeat apply bp (hM _)
  refine bL hM fun K hK=>?_
  refine ay.pure (hM _) 3 (n:=2) _ rfl rfl ?_;simp only[*,go_sem,-hK,-hM]
  refine ay.jV (hM _) rfl c6 rfl vM fW Kn fun r k t hR=>?_
  obtain ⟨rfl,v,hv,rfl,rfl⟩:=hR
  obtain ⟨y,a⟩:∃y:Int,y=(v:Int)*4294967296+((0:Nat):Int):=⟨_,rfl⟩
  rw[<-a]
  have a1:fE y 2147483648=0:=by show kB y 2147483648=0;rw[a];exact xJ v 0 aa aa
  have w:fE y 2147483647=0:=by show kB y 2147483647=0;rw[a];exact xK v 0 aa aa
  obtain ⟨V,d⟩:∃V:Int,V=(v:Int):=⟨_,rfl⟩
  have z:y.fdiv (2 ^ min 32 64)=V:=by rw[a,d];exact xL v 0 aa
  have B:IntKind.i32.wrap V=V:=wX aa aa
  have D:IntKind.u32.wrap 0=0:=aL
  have E:IntKind.u64.wrap (y+1)=y+1:=by
   unfold IntKind.wrap
   simp only[IntKind.bits,IntKind.signed]
   simp
   omega
  by_cases e:v=0
  ·
   have c1:(V==0)=true:=by rw[d,e];rfl
   have c:(if v=0 then P0.cZ else .look v)= .cZ:=if_pos e
   rw[c]
   clear c a d hv e
   refine ay.pure (hM _) 1 (n:=0) _ rfl rfl ?_;simp only[*,go_sem,-hK,-hM]
   refine ay.nil hM (hK _ _ _ ?_);clear hK K
   repeat apply bp (hM _)
   refine bL hM fun K hK=>?_
   refine ay.pure (hM _) 4 (n:=0) _ rfl rfl ?_;simp only[*,go_sem,-hK,-hM]
   refine ay.nil hM (hK _ _ _ ?_);clear hK K
   repeat apply bp (hM _)
   refine bL hM fun K hK=>?_
   refine ay.pure (hM _) 4 (n:=0) _ rfl rfl ?_;simp only[*,go_sem,-hK,-hM]
   refine ay.nil hM (hK _ _ _ ?_);clear hK K
   repeat apply bp (hM _)
   refine bL hM fun K hK=>?_
   refine ay.pure (hM _) 2 (n:=0) _ rfl rfl ?_;simp only[*,go_sem,-hK,-hM]
   refine ay.nil hM (hK _ _ _ ?_);clear hK K
   repeat apply bp (hM _)
   refine fI (hM _) bz ?_
   repeat apply bp (hM _)
   refine fI (hM _) bz ?_
   repeat apply bp (hM _)
   refine bL hM fun K hK=>?_
   refine CC td ⟨_,_,_,rfl,c6,rfl,fJ,rfl⟩ ?_
   refine ay.nil hM (hK _ _ _ ?_);clear hK K
   repeat apply bp (hM _)
   refine bL hM fun K hK=>?_
   refine ay.pure (hM _) 1 (n:=2) _ rfl rfl ?_;simp only[*,go_sem,-hK,-hM]
   refine yc ⟨x.Wg,0,none⟩ xe q5 xg ⟨_,rfl,c6,rfl,rfl⟩ fW ye ?_
   refine CD BI ⟨_,_,_,rfl,c6,rfl,fJ,rfl⟩ ?_
   refine ay.nil hM (hK _ _ _ ?_);clear hK K
   repeat apply bp (hM _)
   refine bL hM fun K hK=>?_
   refine ay.pure (hM _) 11 (n:=0) _ rfl rfl ?_;simp only[*,go_sem,-hK,-hM]
   refine ay.nil hM (hK _ _ _ ?_);clear hK K
   repeat apply bp (hM _)
   refine eF (hM _) bz ?_
   apply eE (hM _)
   exact g5 (show jU Tryz.prog Tryz.f152 (fun (r:Value) (F':af) (b:Cl)=>r= .tuple #[]/\F'=k/\b= .on .cZ 0 true) .ret _ _ _ from BE rfl bz ⟨rfl,rfl,rfl⟩)
  .have c1:(V==0)=false:=by simp;omega
   have c:(if v=0 then P0.cZ else .look v)= .look v:=if_neg e
   rw[c]
   have f:=Kp (F:=k) g (v:=v) aa
   rw[<-a] at f
   clear c a d
   refine ay.pure (hM _) 1 (n:=0) _ rfl rfl ?_;simp only[*,go_sem,-hK,-hM]
   refine ay.nil hM (hK _ _ _ ?_);clear hK K
   repeat apply bp (hM _)
   refine bL hM fun K hK=>?_
   refine ay.pure (hM _) 4 (n:=0) _ rfl rfl ?_;simp only[*,go_sem,-hK,-hM]
   refine ay.nil hM (hK _ _ _ ?_);clear hK K
   repeat apply bp (hM _)
   refine bL hM fun K hK=>?_
   refine ay.pure (hM _) 4 (n:=0) _ rfl rfl ?_;simp only[*,go_sem,-hK,-hM]
   refine ay.nil hM (hK _ _ _ ?_);clear hK K
   repeat apply bp (hM _)
   refine bL hM fun K hK=>?_
   refine ay.pure (hM _) 2 (n:=0) _ rfl rfl ?_;simp only[*,go_sem,-hK,-hM]
   refine ay.nil hM (hK _ _ _ ?_);clear hK K
   repeat apply bp (hM _)
   refine eF (hM _) bz ?_
   apply eE (hM _)
   repeat apply bp (hM _)
   refine bL hM fun K hK=>?_
   refine ay.pure (hM _) 6 (n:=1) _ rfl rfl ?_;simp only[*,go_sem,-hK,-hM]
   refine ay.jV (hM _) rfl c6 rfl FM fW f fun r o G hR=>?_
   clear f
   obtain ⟨rfl,⟨rfl,rfl⟩|⟨rfl,rfl⟩⟩:=hR
   ·
    refine ay.nil hM (hK _ _ _ ?_);clear hK K
    repeat apply bp (hM _)
    refine fI (hM _) bz ?_
    repeat apply bp (hM _)
    refine bL hM fun K hK=>?_
    refine ay.pure (hM _) 4 (n:=0) _ rfl rfl ?_;simp only[*,go_sem,-hK,-hM]
    refine ay.nil hM (hK _ _ _ ?_);clear hK K
    repeat apply bp (hM _)
    refine fI (hM _) bz ?_
    repeat apply bp (hM _)
    refine bL hM fun K hK=>?_
    refine ay.pure (hM _) 3 (n:=2) _ rfl rfl ?_;simp only[*,go_sem,-hK,-hM]
    refine yc ⟨x.Wg,1,none⟩ BL q5 BM ⟨_,rfl,c6,rfl,rfl⟩ fW CF ?_
    refine JX Iz ⟨_,_,_,rfl,c6,rfl,fJ,rfl⟩ ?_
    refine ay.nil hM (hK _ _ _ ?_);clear hK K
    repeat apply bp (hM _)
    refine bL hM fun K hK=>?_
    refine ay.pure (hM _) 1 (n:=0) _ rfl rfl ?_;simp only[*,go_sem,-hK,-hM]
    refine ay.nil hM (hK _ _ _ ?_);clear hK K
    repeat apply bp (hM _)
    refine bL hM fun K hK=>?_
    refine ay.pure (hM _) 6 (n:=0) _ rfl rfl ?_;simp only[*,go_sem,-hK,-hM]
    refine ay.nil hM (hK _ _ _ ?_);clear hK K
    repeat apply bp (hM _)
    refine eF (hM _) bz ?_
    apply eE (hM _)
    repeat apply bp (hM _)
    refine bL hM fun K hK=>?_
    refine ay.pure (hM _) 4 (n:=1) _ rfl rfl ?_;simp only[*,go_sem,-hK,-hM]
    refine J1 (.bool false) IA g ⟨_,_,_,rfl,c6,rfl,fJ,rfl⟩ ?_
    refine ay.nil hM (hK _ _ _ ?_);clear hK K
    repeat apply bp (hM _)
    refine bL hM fun K hK=>?_
    refine ay.pure (hM _) 3 (n:=3) _ rfl rfl ?_;simp only[*,go_sem,-hK,-hM]
    refine ay.jV (hM _) rfl c6 rfl vM fW Ko fun r p H hR=>?_
    obtain ⟨rfl,rfl,rfl⟩:=hR
    refine ay.pure (hM _) 2 (n:=0) _ rfl rfl ?_;simp only[*,go_sem,-hK,-hM]
    refine ay.nil hM (hK _ _ _ ?_);clear hK K
    repeat apply bp (hM _)
    refine fI (hM _) bz ?_
    repeat apply bp (hM _)
    refine bL hM fun K hK=>?_
    refine CC td ⟨_,_,_,rfl,c6,rfl,fJ,rfl⟩ ?_
    refine ay.nil hM (hK _ _ _ ?_);clear hK K
    repeat apply bp (hM _)
    refine bL hM fun K hK=>?_
    refine ay.pure (hM _) 1 (n:=2) _ rfl rfl ?_;simp only[*,go_sem,-hK,-hM]
    refine yc ⟨x.Wg,0,none⟩ xe q5 xg ⟨_,rfl,c6,rfl,rfl⟩ fW ye ?_
    refine CD BI ⟨_,_,_,rfl,c6,rfl,fJ,rfl⟩ ?_
    refine ay.nil hM (hK _ _ _ ?_);clear hK K
    repeat apply bp (hM _)
    refine bL hM fun K hK=>?_
    refine ay.pure (hM _) 1 (n:=0) _ rfl rfl ?_;simp only[*,go_sem,-hK,-hM]
    refine ay.nil hM (hK _ _ _ ?_);clear hK K
    repeat apply bp (hM _)
    refine eF (hM _) bz ?_
    apply eE (hM _)
    exact g5 (show jU Tryz.prog Tryz.f152 (fun (r:Value) (F':af) (b:Cl)=>r= .tuple #[]/\F'=p/\b= .on .cZ 0 true) .ret _ _ _ from BE rfl bz ⟨rfl,rfl,rfl⟩)
   ·
    refine ay.nil hM (hK _ _ _ ?_);clear hK K
    repeat apply bp (hM _)
    refine eF (hM _) bz ?_
    apply eE (hM _)
    change ∃l,l<m/\CG x o l _ _ _
    exact ⟨v - 1,aa,v - 1,Nat.le_refl _,aa,rfl,bz,bz,bz,rfl⟩
end
attribute [local go_sem] Int.reduceBEq Int.reduceBNe muA msA stA smA
theorem Kr {f:FuncId}{R:Value->af->Y->Prop}{a:Act}{F:af}{x:Yx}{k m d:Nat}(hd:a.defers=[dcall f #[]])(hR:R (.tuple #[]) F (.co x (.add k m) d)):tR f R .ret a F (.co x (.add k m) (d+1)):=⟨hd,x,k,m,d,rfl,hR⟩
def Ks (F:af)(z:Y)(v:Int)(a:Act)(F':af)(b:Y):Prop:=
 F'=F/\slot a 1= .int .i64 1/\slot a 7= .int .i32 v/\slot a 8= .int .u32 0/\sz a=117/\a.defers=[dcall 172 #[]]/\b=z
section
variable {Φ:Goroutine->af->Prop}{x:Yx}{F:af}{k:Nat}
theorem Kt (a:x.Wg≠x.C)(hn:x.n<67108864):
  dH Tryz.prog (GJ TG Φ) 177 #[.pointer (some (stA x.Wg)),.int .u64 4294967296] F (.co x (.add k 0) 1)
   (fun r F' b=>F'=F/\∃v:Nat,v<=x.n/\r= .int .u64 (((v+1:Nat):Int)*4294967296+((0:Nat):Int))/\b= .co x (.add k 1) 1):=by
 have hM:=GJ.eT TG Φ
 have hJ:True:=trivial
 refine dH.go (main:=true) hM Tryz.func177 rfl Tryz.ntmps177 an fun A c hd hs=>?_
 have d:=hs 0
 have k1:=hs 1
 clear hs
 repeat apply bp (hM _)
 refine bL hM fun K hK=>?_
 refine ay.pure (hM _) 1 (n:=0) _ rfl rfl ?_;simp only[*,go_sem,-hK,-hM]
 refine ay.nil hM (hK _ _ _ ?_);clear hK K
 repeat apply bp (hM _)
 refine bL hM fun K hK=>?_
 refine ay.pure (hM _) 4 (n:=2) _ rfl rfl ?_;simp only[*,go_sem,-hK,-hM]
 refine J7 BJ a hn ⟨_,_,_,rfl,c6,rfl,fJ,rfl⟩ fun v hv=>?_
 refine ay.pure (hM _) 1 (n:=0) _ rfl rfl ?_;simp only[*,go_sem,-hK,-hM]
 refine ay.nil hM (hK _ _ _ ?_);clear hK K
 exact g5 (lq rfl bz bz ⟨rfl,v,hv,rfl,rfl⟩).2
theorem Ku (h:x.Wg≠x.C)(hn:x.n<67108864):
  dH Tryz.prog (GJ TG Φ) 147 #[.pointer (some (stA x.Wg)),.int .i64 1] F (.co x (.add k 0) 0)
   (fun r F' d=>r= .tuple #[]/\F'=F/\d= .co x (.add k 1) 0):=by
 have hM:=GJ.eT TG Φ
 have hJ:True:=trivial
 refine dH.Ke td Tryz.func147 rfl rfl Tryz.ntmps147 an fun A e hd hs=>?_
 have i:=hs 0
 have k1:=hs 1
 clear hs
 have c1:decide ((1:Int)<0)=false:=aL
 have c2:decide ((1:Int)>0)=true:=aL
 repeat apply bp (hM _)
 refine fI (hM _) bz ?_
 repeat apply bp (hM _)
 refine bL hM fun K hK=>?_
 refine ay.pure (hM _) 2 (n:=0) _ rfl rfl ?_;simp only[*,go_sem,-hK,-hM]
 refine ay.nil hM (hK _ _ _ ?_);clear hK K
 repeat apply bp (hM _)
 refine eF (hM _) bz ?_
 apply eE (hM _)
 repeat apply bp (hM _)
 refine bL hM fun K hK=>?_
 refine J4 xb ⟨_,_,_,rfl,c6,rfl,fJ,rfl⟩ ?_
 refine ay.nil hM (hK _ _ _ ?_);clear hK K
 repeat apply bp (hM _)
 refine bL hM fun K hK=>?_
 refine ay.defer (hM _) rfl c6 rfl rfl (by simp;rfl) fun b e1 e2 e3=>?_
 have l0:slot b 0= .pointer (some ⟨x.Wg,0,none⟩):=(e1 0).trans bz
 have f:slot b 1= .int .i64 1:=(e1 1).trans bz
 replace e:sz b=117:=e2.trans bz
 replace hd:b.defers=[dcall 172 #[]]:=e3.trans bz
 clear e1 e2 e3 i k1
 refine ay.nil hM (hK _ _ _ ?_);clear hK K
 repeat apply bp (hM _)
 refine bL hM fun K hK=>?_
 refine ay.pure (hM _) 1 (n:=0) _ rfl rfl ?_;simp only[*,go_sem,-hK,-hM]
 refine ay.nil hM (hK _ _ _ ?_);clear hK K
 repeat apply bp (hM _)
 refine bL hM fun K hK=>?_
 refine ay.entry (.bool false) (hM _) BK ⟨_,_,_,rfl,c6,rfl,fJ,rfl⟩ ?_
 refine ay.nil hM (hK _ _ _ ?_);clear hK K
 repeat apply bp (hM _)
 refine eF (hM _) bz ?_
 apply eE (hM _)
 have w1:IntKind.u64.wrap 1=1:=aL
 have w2:IntKind.u64.wrap (1*2 ^ min 32 64)=4294967296:=aL
 repeat apply bp (hM _)
 refine bL hM fun K hK=>?_
 refine ay.pure (hM _) 6 (n:=2) _ rfl rfl ?_;simp only[*,go_sem,-hK,-hM]
 refine ay.jV (hM _) rfl c6 rfl Au fW (Kt h hn) fun r F' aX hR=>?_
 obtain ⟨rfl,v,hv,rfl,rfl⟩:=hR
 obtain ⟨y,a⟩:∃y:Int,y=((v+1:Nat):Int)*4294967296+((0:Nat):Int):=⟨_,rfl⟩
 rw[<-a]
 have a1:fE y 2147483648=0:=by show kB y 2147483648=0;rw[a];exact xJ (v+1) 0 aa aa
 have j:fE y 2147483647=0:=by show kB y 2147483647=0;rw[a];exact xK (v+1) 0 aa aa
 obtain ⟨V,g⟩:∃V:Int,V=((v+1:Nat):Int):=⟨_,rfl⟩
 have l:y.fdiv (2 ^ min 32 64)=V:=by rw[a,g];exact xL (v+1) 0 aa
 have p:IntKind.i32.wrap V=V:=wX aa aa
 have q:IntKind.u32.wrap 0=0:=aL
 have s:IntKind.i32.wrap 1=1:=aL
 have c3:decide (V<0)=false:=by simp;omega
 have c4:decide (V>0)=true:=by simp;omega
 have c:(V==1)=true\/(V==1)=false:=by cases (V==1)<;>simp
 clear a g hv
 refine ay.pure (hM _) 1 (n:=0) _ rfl rfl ?_;simp only[*,go_sem,-hK,-hM]
 refine ay.nil hM (hK _ _ _ ?_);clear hK K
 repeat apply bp (hM _)
 refine bL hM fun K hK=>?_
 refine ay.pure (hM _) 7 (n:=0) _ rfl rfl ?_;simp only[*,go_sem,-hK,-hM]
 refine ay.nil hM (hK _ _ _ ?_);clear hK K
 repeat apply bp (hM _)
 refine eF (hM _) bz ?_
 apply eE (hM _)
 repeat apply bp (hM _)
 refine bL hM fun K hK=>?_
 refine ay.pure (hM _) 4 (n:=0) _ rfl rfl ?_;simp only[*,go_sem,-hK,-hM]
 refine ay.nil hM (hK _ _ _ ?_);clear hK K
 repeat apply bp (hM _)
 refine bL hM fun K hK=>?_
 refine ay.pure (hM _) 4 (n:=0) _ rfl rfl ?_;simp only[*,go_sem,-hK,-hM]
 refine ay.nil hM (hK _ _ _ ?_);clear hK K
 repeat apply bp (hM _)
 refine bL hM fun K hK=>?_
 refine ay.pure (hM _) 10 (n:=0) _ rfl rfl ?_;simp only[*,go_sem,-hK,-hM]
 refine ay.nil hM (hK _ _ _ ?_);clear hK K
 repeat apply bp (hM _)
 refine I1 hM (Ks F' (.co x (.add k 1) 1) V) ?_ ?_
 .rcases c with c|c
  .repeat apply bp (hM _)
   refine fI (hM _) bz ?_
   repeat apply bp (hM _)
   refine bL hM fun K hK=>?_
   refine ay.pure (hM _) 3 (n:=2) _ rfl rfl ?_;simp only[*,go_sem,-hK,-hM]
   refine J6 ⟨x.Wg,1,none⟩ BL q5 BM ⟨_,rfl,c6,rfl,rfl⟩ fW CF ?_
   refine J5 Iy ⟨_,_,_,rfl,c6,rfl,fJ,rfl⟩ ?_
   refine ay.nil hM (hK _ _ _ ?_);clear hK K
   exact B6 ⟨rfl,bz,bz,bz,bz,bz,rfl⟩
  .repeat apply bp (hM _)
   refine eF (hM _) bz ?_
   apply eE (hM _)
   exact B6 ⟨rfl,bz,bz,bz,bz,bz,rfl⟩
 clear c l0 f e hd a1 j l
 rintro A m t ⟨rfl,f,u,w,e,hd,rfl⟩
 repeat apply bp (hM _)
 refine bL hM fun K hK=>?_
 refine ay.pure (hM _) 2 (n:=0) _ rfl rfl ?_;simp only[*,go_sem,-hK,-hM]
 refine ay.nil hM (hK _ _ _ ?_);clear hK K
 repeat apply bp (hM _)
 refine eF (hM _) bz ?_
 apply eE (hM _)
 repeat apply bp (hM _)
 refine bL hM fun K hK=>?_
 refine ay.pure (hM _) 12 (n:=0) _ rfl rfl ?_;simp only[*,go_sem,-hK,-hM]
 refine ay.nil hM (hK _ _ _ ?_);clear hK K
 repeat apply bp (hM _)
 refine eF (hM _) bz ?_
 apply eE (hM _)
 repeat apply bp (hM _)
 refine bL hM fun K hK=>?_
 refine ay.pure (hM _) 6 (n:=0) _ rfl rfl ?_;simp only[*,go_sem,-hK,-hM]
 refine ay.nil hM (hK _ _ _ ?_);clear hK K
 repeat apply bp (hM _)
 refine fI (hM _) bz ?_
 exact g5 (show tR 172 (fun r o d=>r= .tuple #[]/\o=m/\d= .co x (.add k 1) 0) .ret _ _ _ from Kr bz ⟨rfl,rfl,rfl⟩)
end
end Go.Proofs.YtlchekhkopimhaaGreatDoor
end
section
namespace Go.Sep
open Go Go.Conc
def ry (ops:Array Oper):Nat->Array Bool->List (List Nat)
 |0,_=>[[]]
 |f+1,listed=>if (Region.ready .any ops listed).isEmpty then [[]] else (Region.ready .any ops listed).flatMap fun i=>(ry ops f (listed.setIfInBounds i true)).map (i::·)
theorem CH (ops:Array Oper):∀(fuel t:Nat) (listed:Array Bool),Region.linearise.go .any ops fuel t listed []∈ry ops fuel listed
 |0,t,listed=>by simp[Region.linearise.go,ry]
 |fuel+1,t,listed=>by
  simp only[Region.linearise.go]
  change (match (Region.ready .any ops listed)[t % (Region.ready .any ops listed).length]? with
   |some i=>Region.linearise.go .any ops fuel (t/(Region.ready .any ops listed).length) (listed.setIfInBounds i true) [i]
   |none=>[].reverse)∈_
  unfold ry
  cases b:Region.ready .any ops listed with
  |nil=>simp
  |cons x xs=>
   have a:t % (x::xs).length<(x::xs).length:=Nat.mod_lt _ an
   rw[List.getElem?_eq_getElem a]
   simp only[List.isEmpty_cons,Bool.false_eq_true,if_false,List.mem_flatMap,List.mem_map]
   refine ⟨_,List.getElem_mem a,_,CH ops fuel (t/(x::xs).length) _,?_⟩
   symm
   rw[linearise_go_acc]
   simp
def jz {S:Type}(JF:S->Goroutine->af->Prop)(fi:FuncId)(ops:Array Oper)(l:List Nat)(Q:Act->af->S->Prop)(a:Act)(F:af)(ph:S):Prop:=
 ∀(b:Frame) (k:List Item) (cs:List Frame),BF fi b->(∀c F' aX,Q c F' aX->JF aX (G (on b c k) cs) F')->JF ph (G (on b a (.inRegion ops l::k)) cs) F
section
variable {P:Program}{main:Bool}{S:Type}{JF:S->Goroutine->af->Prop}{fi:FuncId}{ops:Array Oper}{a:Act}{F:af}{ph:S}
theorem Kv {Q:Ex->Act->af->S->Prop}{id:Nat}(hJ:Closed P main (JF ph))(hm:P.follows .mixedOrders=true)(ls:List (List Nat))(c:ry ops ops.size (Array.replicate ops.size false)=ls)(h:∀l∈ls,jz JF fi ops l (Q .normal) a F ph):cV JF fi (.region id ops true) Q a F ph:=fun b k cs hb d=>
 hJ.step fun w hw=>by
  refine ⟨_,_,_,F,uz,.drawn _ _ _,hw.drawn _,an,?_⟩
  simp only[Region.schedule,hm,Bool.true_or,if_true]
  refine h _ ?_ b k cs hb fun e F' aX f=>d .normal e F' aX f
  rw[<-c]
  exact CH ops _ _ _
theorem jz.pre {Q:Act->af->S->Prop}(hJ:Closed P main (JF ph)){e:List Nat}:∀(c:List Nat) (a:Act) (F:af),fB P (JF ph) ops (fun d F'=>jz JF fi ops e Q d F' ph) c a F->jz JF fi ops (c++e) Q a F ph
 |[],a,F,h=>h
 |i::c,a,F,h=>fun b k cs hb f=>by
  refine uD hJ ⟨hb.kind,.inl hb.round⟩ h fun d F' h'=>?_
  exact jz.pre hJ c d F' h' b k cs hb f
theorem yf {J:Goroutine->af->Prop}{K:Act->af->Prop}:∀(is:List Nat) (go:Bool) (a:Act) (F:af),(∀i∈is,i<ops.size)->eM P J ops K (pick ops is) go a F->fB P J ops K is a F
 |[],_,a,F,_,h=>by unfold pick at h;rw[u7] at h;exact h
 |i::is,go,a,F,hi,h=>by
  have c:i<ops.size:=hi i an
  have ho:ops[i]?=some ops[i]:=Array.getElem?_eq_getElem c
  have b:∀j∈is,j<ops.size:=fun j d=>hi j (by simp[d])
  show ee P J ops i (fB P J ops K is) a F
  unfold ee
  unfold pick at h
  simp only[ho] at h ⊢
  have h:eM P J ops K (ops[i]::pick ops is) true a F:=by unfold eM at h ⊢;exact h
  rw[u9] at h
  split at h
  .rename_i hg
   rw[if_pos (cH hg)]
   exact gO (nk (fun v F' hv=>yf is _ _ F' b hv) (fun _ _ x=>x)) _ _ (j4 h)
  .rename_i hg
   rw[if_neg (by rw[cH hg];simp)]
   exact yf is _ _ F b h
  .exact h.elim
theorem jz.last {Q:Act->af->S->Prop}(hJ:Closed P main (JF ph))(b:List Nat)(j:Nat)(c:(b.all (· <ops.size))=true)(h:eM P (JF ph) ops (fun d F'=>ay JF fi ops j 1 Q d F' ph) (pick ops b) true a F):jz JF fi ops (b++[j]) Q a F ph:=
 jz.pre hJ b a F (yf b true a F (fun i hi=>by simpa using List.all_eq_true.1 c i hi) h)
theorem Kw {Q:Act->af->S->Prop}{j n:Nat}{d:Option Tmp}(hJ:Closed P main (JF ph)){t el:TypeId}{dir:ChanDir}{inf:TypeInfo}(hu:P.underlying t=some (.chan dir el))(hi:P.info? el=some inf){x:Operand}(e:jw ops j a (.makeChan t x) d)(f:ev a x= .int .i64 0)
  (h:∀b,er F b->ay JF fi ops (j+1) n Q (bC a d (.chan (some b))) (F.push b (.chan 0 #[] false 0 0 false)) ph):ay JF fi ops j (n+1) Q a F ph:=fun b g cs hb i=>by
 obtain ⟨o,ho,hg,k,rfl⟩:=e
 rw[List.range'_succ,dy hb.round]
 have e1:execOp a.eval o=(do pure (Next.value (<-Instr.makeChan t (.int .i64 0))):Sem Next):=by
  unfold execOp
  simp only[k,fC,f]
 have e2:Instr.makeChan t (.int .i64 0)=(do
   let .chan _ elem<-underlying t|stuck "MakeChan: channel type expected"
   if (0:Int)<0\/(0:Int)>IntKind.i64.max\/(<-typeInfo elem).bytes*(0:Int)>2 ^ 48 - 112 then runtimePanic (.plain "makechan: size out of range")
   pure (.chan (some (<-newObj (.chan 0 #[] false 0 0 false)))):Sem Value):=rfl
 have c:¬((0:Int)<0\/(0:Int)>IntKind.i64.max\/(inf.bytes:Int)*0>2 ^ 48 - 112):=by
  rw[Int.mul_zero];decide
 refine hJ.step fun w hw=>?_
 have l:(execOp a.eval o).run P w= .ok (.value (.chan (some w.heap.size))) {w with heap:=w.heap.push (.chan 0 #[] false 0 0 false)}:=by
  rw[e1,e2]
  simp only[Sem.run_bind,run_underlying hu,Result.andThen,typeInfo,run_program,hi,Sem.run_pure,if_neg c,run_newObj_alloc]
  rfl
 have m:(execOp a.eval o).events P w #[]=#[]:=by
  rw[e1,e2]
  simp[run_underlying hu,typeInfo,hi,if_neg c,Result.evThen]
 have:=h _ hw.fresh b g cs hb i
 rw[dy hb.round] at this
 refine ⟨_,_,#[],_,?_,dO.push (.chan 0 #[] false 0 0 false),hw.push _,an,this⟩
 rw[stepG_value ho (cH hg) hb.kind l]
 unfold listed
 rw[m,seen_none]
 rfl
end
end Go.Sep
end
section
namespace Go.Proofs.YtlchekhkopimhaaGreatDoor
open Go Go.Sep Go.Proofs Go.Conc
open Go.ConcN (upd upd_same)
open Go.ConcM (muA msA)
open Go.ConcR (stA smA)
set_option maxRecDepth 100000
set_option maxHeartbeats 4000000
attribute [local go_sem] Int.reduceBEq Int.reduceBNe muA msA stA smA
theorem Kx:(Tryz.prog.funcs[151]?).any (·.norace)=false:=aj
def ic (bs:Nat->Bool)(ls:Nat->List Int)(i:Nat):Option hO:=if bs i then some (fun ro v=>aH rI ro v (ls i)) else none
theorem yg (bs:Nat->Bool)(ls:Nat->List Int)(i:Nat)(R:hO)(ro aF:Addr->Option Value)(v:Value)(h:ic bs ls i=some R)(a:Ext ro aF)(hR:R ro v):R aF v:=by
 unfold ic at h;split at h
 .cases h;exact hR.mono a
 .cases h
section
variable {x:Yx}{i:Nat}
theorem Ky (b:x.Wg≠x.C)(hn:x.n<67108864){ro:Addr->Option Value}{d:Nat}(e:ro ⟨d,0,none⟩=some (.chan (some x.C))):
  eG (x.gy TG) (.on (.opn 0) 0 false) (born Tryz.prog {target:=.fn (.func 151) #[.pointer (some ⟨x.Wg,0,none⟩),.pointer (some ⟨d,0,none⟩)],args:=#[]}) ⟨ro,[]⟩:=by
 have hM:=CK.eT (x.gy TG)
 have hJ:True:=trivial
 refine J3 (c:=x.gy TG) Tryz.func151 rfl rfl rfl Tryz.ntmps151 an fun A f hd hs=>?_
 have g:=hs 0
 have k1:=hs 1
 clear hs
 repeat apply bp (hM _)
 refine bL hM fun K hK=>?_
 refine ay.jV (hM _) rfl c6 rfl FK fW (Kq b hn) fun r F' cl' hR=>?_
 obtain ⟨rfl,rfl,rfl⟩:=hR
 refine ay.nil hM (hK _ _ _ ?_);clear hK K
 have a:Go.Sep.Closed Tryz.prog false (CK (x.gy TG) (.on .cZ 0 true)):=CK.closed (x.gy TG) an
 repeat apply bp (hM _)
 refine bL hM fun K hK=>?_
 refine ay.fT a 1 (n:=1) _ rfl rfl ?_
 simp only[*,go_sem,-hK,-hM,-hJ,-a]
 refine J2 b Kx ⟨_,rfl,c6,rfl,rfl⟩ (by simp only[*,go_sem,-hK,-hM,-hJ,-a]) ?_
 refine ay.nil hM (hK _ _ _ ?_);clear hK K
 exact (show yd .normal _ _ _ from ⟨bz,rfl⟩)
theorem Kz (L:x.Wg≠x.C)(hn:x.n<67108864)(Q:i<x.n){ro:Addr->Option Value}{is:Int->Option Bool}{f:FuncId}{s uc:Array Value}
  (m:aI Tryz.prog f=true/\∀(aF:Addr->Option Value),Ext ro aF->∀(y:Int) (z:Bool),is y=some z->aE Tryz.prog f (s++#[.int .u64 y]++uc) ⟨aF,[]⟩ (fun v _=>v= .bool z))
  {b3 t u:Nat} (M:ro ⟨b3,0,none⟩=some (.func (.func f) s uc)) (p:ro ⟨t,0,none⟩=some (.chan (some x.C))) (N:ro ⟨u,0,none⟩=some (.int .u64 i))
  {bs:Nat->Bool} {ls:Nat->List Int} (h:is i=some (bs i)) (d:qp i=some (ls i)) (j:x.pay=ic bs ls):
  eA (x.gy TG) i ⟨.idle,.cnt,false,0⟩ (born Tryz.prog {target:=.fn (.func 148) #[.pointer (some ⟨x.Wg,0,none⟩),.pointer (some ⟨b3,0,none⟩),.pointer (some ⟨u,0,none⟩),.pointer (some ⟨t,0,none⟩)],args:=#[]}) ⟨ro,[]⟩:=by
 have hM:=WG.eT (x.gy TG) i
 have hJ:True:=trivial
 refine JP (c:=x.gy TG) (i:=i) (fd:=149) (v:=.pointer (some ⟨x.Wg,0,none⟩)) Tryz.func148 rfl rfl rfl Tryz.ntmps148 an Tryz.func149 rfl rfl rfl Tryz.ntmps149 an ?_ ?_
 .intro st F O A q hd hs
  have o:=hs 0
  clear hs h M p N m d
  repeat apply bp (hM _)
  refine bL hM fun K hK=>?_
  refine ay.pure (hM _) 1 (n:=1) _ rfl rfl ?_;simp only[*,go_sem,-hK,-hM]
  refine ay.jV (hM _) rfl rfl rfl As (by simp only[*,go_sem,stA]) (Km L hn O) fun v F' aX hR=>?_
  obtain ⟨rfl,rfl,rfl⟩:=hR
  refine ay.nil hM (hK _ _ _ ?_);clear hK K
  exact ⟨bz,rfl⟩
 .intro w q hd hs
  have o:=hs 0
  have k1:=hs 1
  have B:=hs 2
  have D:=hs 3
  clear hs
  repeat apply bp (hM _)
  refine bL hM fun K hK=>?_
  refine ay.defer (hM _) (vals:=#[.pointer (some ⟨x.Wg,0,none⟩)]) rfl (by rfl) rfl rfl (by simp only[List.map_toArray,List.map_cons,List.map_nil];rw[show w.eval (.tmp 0)=slot w 0 from rfl,o];rfl) fun A e1 e2 e3=>?_
  replace o:=(e1 0).trans o
  replace k1:=(e1 1).trans k1
  replace B:=(e1 2).trans B
  replace D:=(e1 3).trans D
  replace q:sz A=10:=e2.trans q
  rw[hd] at e3
  replace hd:=e3
  clear e1 e2 e3
  refine ay.nil hM (hK _ _ _ ?_);clear hK K
  have b:Go.Sep.Closed Tryz.prog false (WG (x.gy TG) i ⟨.idle,.cnt,false,0⟩):=eA.closed (x.gy TG) i _ rfl
  repeat apply bp (hM _)
  refine bL hM fun K hK=>?_
  refine ay.fT b 3 (n:=0) _ rfl rfl ?_
  have P:=m.1
  simp only[*,go_sem,-hK,-hM,-hJ,-b,-h,-d,-j]
  refine bh b _ (m.2 _ (fun a v h=>aY a v h) _ _ h) ?_
  clear m P
  try simp only[*,go_sem,-hK,-hM,-hJ,-b,-h,-d,-j]
  refine ay.nil hM (hK _ _ _ ?_);clear hK K
  have g:x.pay i=if bs i then some (fun ro v=>aH rI ro v (ls i)) else none:=by rw[j];rfl
  cases E:bs i
  .repeat apply bp (hM _)
   refine eF (hM _) bz ?_
   apply eE (hM _)
   exact ⟨bz,false,rfl,fun e=>by rw[show (x.gy TG).pay i=x.pay i from rfl,g,E] at e;simp at e⟩
  .repeat apply bp (hM _)
   refine fI (hM _) bz ?_
   rw[E,if_pos rfl] at g
   refine Kv b mixed [[0,1,2,3],[1,0,2,3],[1,2,0,3]] aj fun l G=>?_
   simp only[List.mem_cons,List.not_mem_nil,or_false] at G
   rcases G with rfl|rfl|rfl
   .refine jz.last b [0,1,2] 3 aL ?_
    simp only[*,go_sem,-hM,-hJ,-b,-h,-d,-j,-g]
    refine nD b _ (v5 _ d) fun v H r I hR=>?_
    obtain ⟨J,rfl,k⟩:=hR
    refine x8 (R:=fun ro v=>aH rI ro v (ls i)) g k ⟨_,rfl,by rfl,rfl,rfl⟩ (by simp only[*,go_sem,-hM,-hJ,-b]) (by simp only[*,go_sem,-hM,-hJ,-b]) rfl rfl rfl ?_
    refine ay.nil hM ?_
    exact (show ru _ _ _ _ .normal _ _ _ from ⟨bz,true,rfl,fun _=>rfl⟩)
   .refine jz.last b [1,0,2] 3 aL ?_
    simp only[*,go_sem,-hM,-hJ,-b,-h,-d,-j,-g]
    refine nD b _ (v5 _ d) fun v H r I hR=>?_
    obtain ⟨J,rfl,k⟩:=hR
    refine x8 (R:=fun ro v=>aH rI ro v (ls i)) g k ⟨_,rfl,by rfl,rfl,rfl⟩ (by simp only[*,go_sem,-hM,-hJ,-b]) (by simp only[*,go_sem,-hM,-hJ,-b]) rfl rfl rfl ?_
    refine ay.nil hM ?_
    exact (show ru _ _ _ _ .normal _ _ _ from ⟨bz,true,rfl,fun _=>rfl⟩)
   .refine jz.last b [1,2,0] 3 aL ?_
    simp only[*,go_sem,-hM,-hJ,-b,-h,-d,-j,-g]
    refine nD b _ (v5 _ d) fun v H r I hR=>?_
    obtain ⟨J,rfl,k⟩:=hR
    replace p:=r _ _ p
    apply aJ
    simp only[*,go_sem,-hM,-hJ,-b,-h,-d,-j,-g]
    refine x8 (R:=fun ro v=>aH rI ro v (ls i)) g k ⟨_,rfl,by rfl,rfl,rfl⟩ (by simp only[*,go_sem,-hM,-hJ,-b]) (by simp only[*,go_sem,-hM,-hJ,-b]) rfl rfl rfl ?_
    refine ay.nil hM ?_
    exact (show ru _ _ _ _ .normal _ _ _ from ⟨bz,true,rfl,fun _=>rfl⟩)
end
end Go.Proofs.YtlchekhkopimhaaGreatDoor
end
section
namespace Go.Proofs.YtlchekhkopimhaaGreatDoor
open Go Go.Sep Go.Proofs Go.Conc
open Go.ConcN (upd upd_same)
open Go.ConcM (muA msA)
open Go.ConcR (stA smA wgBlock)
set_option maxRecDepth 100000
set_option maxHeartbeats 4000000
attribute [local go_sem] Int.reduceBEq Int.reduceBNe muA msA stA smA
theorem CI:Tryz.prog.underlying 169=some (.chan .both 36):=aj
theorem KA:Tryz.prog.info? 36=some ((Tryz.prog.info? 36).getD default):=aj
theorem KB {ro:Addr->Option Value}{b2 b3 a C W:Nat}{f e b c d:Obj}(j:bO (keys [(W,d),(a,b),(C,c),(b3,e),(b2,f)]))(i:bg ro [(W,d),(a,b),(C,c),(b3,e),(b2,f)]):
  ∃g,Ext ro g/\Le ⟨g,[(W,d),(C,c)]⟩ ⟨ro,[(W,d),(a,b),(C,c),(b3,e),(b2,f)]⟩/\
   (∀off v,cellOf e off=some v->g ⟨b3,off,none⟩=some v)/\(∀off v,cellOf b off=some v->g ⟨a,off,none⟩=some v):=by
 have hd:=j.1
 simp only[keys,List.map_cons,List.map_nil,List.nodup_cons,List.mem_cons,List.not_mem_nil,not_or] at hd
 obtain ⟨⟨w1,w2,w3,w4,-⟩,⟨e1,e2,e3,-⟩,⟨c1,c2,-⟩,⟨a1,-⟩,-⟩:=hd
 have r3:∀off sp,ro ⟨b3,off,sp⟩=none:=i b3 (by simp[keys])
 have k:∀off sp,ro ⟨a,off,sp⟩=none:=i a (by simp[keys])
 clear i j
 let s1:=b9 ro b3 e
 let s2:=b9 s1 a b
 have x1:Ext ro s1:=gQ _ _ _
 have x2:Ext s1 s2:=gQ _ _ _
 have t5:∀off sp,s1 ⟨a,off,sp⟩=none:=fun off sp=>BO (k off sp) e2
 have l:Le ⟨ro,[(W,d),(a,b),(C,c),(b3,e)]⟩ ⟨ro,[(W,d),(a,b),(C,c),(b3,e),(b2,f)]⟩:=Le.sub (by
  show List.Sublist ([(W,d),(a,b),(C,c),(b3,e)]:List (Nat×Obj)) ([(W,d),(a,b),(C,c),(b3,e)]++[(b2,f)])
  exact List.sublist_append_left _ _)
 have k1:Le ⟨s1,[(W,d),(a,b),(C,c)]⟩ ⟨ro,[(W,d),(a,b),(C,c),(b3,e)]⟩:=
  lT (by simp[lk, *]) an (by simp[aN,Ne.symm, *])
 have m:Le ⟨s2,[(W,d),(C,c)]⟩ ⟨s1,[(W,d),(a,b),(C,c)]⟩:=
  lT (by simp[lk, *]) an (by simp[aN,Ne.symm, *])
 exact ⟨s2,x1.trans x2,(m.trans k1).trans l,fun off v h=>x2 _ _ ((eY r3).trans h),fun off v h=>(eY t5).trans h⟩
def CJ (x:Yx)(c:Addr->Option Value)(b3 d:Nat)(m:Nat)(a:Act)(F:af)(y:Y):Prop:=
 ∃(i:Nat) (b:Addr->Option Value),m=x.n - i/\i<=x.n/\F=⟨b,[]⟩/\Ext c b/\slot a 3= .pointer (some ⟨b3,0,none⟩)/\slot a 4= .slice none 0 0/\slot a 5= .pointer (some ⟨d,0,none⟩)/\slot a 6= .pointer (some ⟨x.Wg,0,none⟩)/\slot a 15= .int .u64 x.n/\slot a 16= .int .u64 i/\sz a=37/\a.defers=[]/\y= .co x (.add i 0) 0
def CL (x:Yx)(e:Addr->Option Value)(m:Nat)(a:Act)(F:af)(y:Y):Prop:=
 ∃(got:List Nat) (L:List (List Int)) (b:Addr->Option Value) (d:Option Addr) (c:Nat) (own:List (Nat×Obj)),m=x.n - got.length/\got.Nodup/\(∀i∈got,i<x.n/\(x.pay i).isSome=true)/\got.map dF=L/\Ext e b/\F=⟨b,own⟩/\aW (rL rI) b 36 (.slice d L.length c) L own/\L.length<=c/\
  slot a 8= .slice d L.length c/\slot a 23= .chan (some x.C)/\slot a 4= .slice none 0 0/\sz a=37/\a.defers=[]/\y= .co x (.jZ got) 0
section
variable {n:Nat}{r:List Int}
theorem KC {ro:Addr->Option Value}(ds dt:Int)(d:Option Addr)(du:Nat)(is:Int->Option Bool){f:FuncId}{X uc:Array Value}
  (Z:aI Tryz.prog f=true/\∀(aF:Addr->Option Value),Ext ro aF->∀(y:Int) (z:Bool),is y=some z->aE Tryz.prog f (X++#[.int .u64 y]++uc) ⟨aF,[]⟩ (fun v _=>v= .bool z))
  (h:qU is n=some r):
  nM Tryz.prog 94 #[.agg #[.int .i64 ds,.int .i64 dt,.slice d n du],.func (.func f) X uc] ro (fun v aF=>∃a7,v=a7/\aH rI aF a7 r):=by
 refine gd.Kg (T:=TG) fun Φ=>?_
 unfold qU at h
 by_cases ab:n<=4
 case neg=>rw[if_neg ab] at h;cases h
 rw[if_pos ab] at h
 obtain ⟨ks,ad,h⟩:=eu h
 obtain ⟨N,G⟩:∃N:Nat,N=2 ^ n:=⟨_,rfl⟩
 rw[<-G] at ad
 obtain ⟨H,a8⟩:=wN ad
 have gp:N<=16:=by
  rw[G]
  exact Nat.le_trans (Nat.pow_le_pow_right aL ab) aL
 have dv:IntKind.u64.wrap (1*2 ^ min n 64)=(N:Int):=by
  rw[G]
  have:n=0\/n=1\/n=2\/n=3\/n=4:=aa
  rcases this with rfl|rfl|rfl|rfl|rfl<;>decide
 have hM:=GJ.eT TG Φ
 have hJ:=fun (y:Y) (_:(0:Nat)=0)=>GJ.closed TG Φ y
 have gy:¬((n:Int)<0):=aa
 refine dH.go (main:=true) hM Tryz.func94 rfl Tryz.ntmps94 an fun A I hd hs=>?_
 have dC:=hs 0
 have k1:=hs 1
 clear hs ad G
 have g:=hJ .free rfl
 repeat apply bp (hM _)
 refine bL hM fun K hK=>?_
 refine ay.fT (hJ _ rfl) 3 (n:=0) _ rfl rfl ?_;apply gq _
 intro b2 f2;have r2:=cT f2;have a9:=cY f2
 try simp only[aN] at a9
 try simp only[*,go_sem,-hK,-hM,-hJ,-h,-g]
 intro b3 f3;have r3:=cT f3;have n3:=cY f3
 try simp only[aN] at n3
 try simp only[*,go_sem,-hK,-hM,-hJ,-h,-g]
 refine ay.nil hM (hK _ _ _ ?_);clear hK K
 repeat apply bp (hM _)
 refine bL hM fun K hK=>?_
 refine Kw (n:=2) g CI KA ⟨_,rfl,c6,rfl,rfl⟩ rfl fun J ae=>?_
 have dE:=cT ae;have ba:=cY ae
 try simp only[aN] at ba
 refine ay.fT (hJ _ rfl) 2 (n:=0) _ rfl rfl ?_;apply gq _
 intro M f5;have dT:=cT f5;have bb:=cY f5
 try simp only[aN] at bb
 try simp only[*,go_sem,-hK,-hM,-hJ,-h,-g]
 refine ay.nil hM (hK _ _ _ ?_);clear hK K
 repeat apply bp (hM _)
 refine bL hM fun K hK=>?_
 refine ay.fT (hJ _ rfl) 1 (n:=0) _ rfl rfl ?_;apply gq _
 intro C al;have ea:=cT al;have bc:=cY al
 try simp only[aN] at bc
 try simp only[*,go_sem,-hK,-hM,-hJ,-h,-g]
 refine ay.nil hM (hK _ _ _ ?_);clear hK K
 repeat apply bp (hM _)
 refine bL hM fun K hK=>?_
 refine ay.fT (hJ _ rfl) 6 (n:=0) _ rfl rfl ?_;apply gq _
 refine ay.nil hM (hK _ _ _ ?_);clear hK K
 refine xk g fun nd no=>?_
 obtain ⟨u,bd,hle,bj,bk⟩:=KB nd no
 clear nd no
 have eb:∀i:Nat,i<N->is (i:Int)=some ((is (i:Int)).getD false):=H
 refine Kb (T:=TG) (Φ:=Φ) ⟨u,[]⟩ C J N (ic (fun i=>(is (i:Int)).getD false) dF) (yg _ _) hle ?_
 intro base T0 w1 g1 ao
 clear hle
 have ar:N<67108864:=aa
 have bm:=bj 0 (.func (.func f) X uc) rfl
 have O:=bk 0 (.chan (some J)) rfl
 clear bj bk f2 f3 f5 ae al a9 n3 bb ba bc r2 r3 dT dE ea
 repeat apply bp (hM _)
 refine lp hM ?_
 refine s9 hM (CJ (⟨C,J,N,ic (fun i=>(is (i:Int)).getD false) dF,yg _ _,base,T0,⟨u,[]⟩,w1⟩:Yx) u b3 M) N ?_ ?_
 .exact ⟨0,u,rfl,Nat.zero_le _,rfl,Ext.refl _,bz,bz,bz,bz,bz,bz,bz,bz,rfl⟩
 clear dC k1 I hd
 rintro m A F' bo ⟨i,k,rfl,hi,rfl,o,ec,br,ed,eh,et,ev,I,hd,rfl⟩
 have hi:i<=N:=hi
 rcases Nat.lt_or_ge i N with P|eQ
 .have c1:decide ((i:Int)<(N:Int))=true:=by simp;omega
  have g2:IntKind.u64.wrap ((i:Int)+1)=((i+1:Nat):Int):=by
   unfold IntKind.wrap
   simp[IntKind.bits,IntKind.signed]
   omega
  repeat apply bp (hM _)
  refine bL hM fun K hK=>?_
  refine ay.fT (hJ _ rfl) 1 (n:=0) _ rfl rfl ?_;apply gq _
  refine ay.nil hM (hK _ _ _ ?_);clear hK K
  repeat apply bp (hM _)
  refine fI (hM _) bz ?_
  apply eE (hM _)
  repeat apply bp (hM _)
  refine lp hM ?_
  repeat apply bp (hM _)
  refine bL hM fun K hK=>?_
  refine ay.fT (hJ _ rfl) 3 (n:=0) _ rfl rfl ?_;apply gq _
  intro w f7;have eS:=cT f7;have bs:=cY f7
  try simp only[aN] at bs
  try simp only[*,go_sem,-hK,-hM,-hJ,-h,-g]
  refine ay.nil hM (hK _ _ _ ?_);clear hK K
  refine xk (hJ _ rfl) fun nd no=>?_
  have t7:∀off sp,k ⟨w,off,sp⟩=none:=fun off sp=>no w (by simp[keys]) off sp
  obtain ⟨Q,S⟩:∃q,q=b9 k w (.cells #[.int .u64 (i:Int)] 112):=⟨_,rfl⟩
  have hle:Le ⟨Q,[]⟩ ⟨k,[(w,.cells #[.int .u64 (i:Int)] 112)]⟩:=by rw[S];exact lT (by simp[lk]) an trivial
  have U:Ext k Q:=by rw[S];exact gQ _ _ _
  have e0:Q ⟨w,0,none⟩=some (.int .u64 (i:Int)):=by rw[S];exact (eY t7).trans rfl
  clear nd no f7 eS bs t7 S
  refine IL (hJ _ rfl) hle ?_
  clear hle
  repeat apply bp (hM _)
  refine bL hM fun K hK=>?_
  refine ay.jV (hM _) rfl c6 rfl As fW (Ku ao ar) fun v F' bo hR=>?_
  obtain ⟨rfl,rfl,rfl⟩:=hR
  refine ay.nil hM (hK _ _ _ ?_);clear hK K
  repeat apply bp (hM _)
  refine bL hM fun K hK=>?_
  refine ay.fT (hJ _ rfl) 1 (n:=1) _ rfl rfl ?_;apply gq _
  refine J8 (caps:=#[.pointer (some ⟨C,0,none⟩),.pointer (some ⟨b3,0,none⟩),.pointer (some ⟨w,0,none⟩),.pointer (some ⟨M,0,none⟩)]) (f0:=148) P ⟨_,rfl,c6,rfl,rfl⟩ fW ?_ ?_
  .exact Kz (is:=is) ao ar P ⟨Z.1,fun aF e1=>Z.2 aF (((bd.trans o).trans U).trans e1)⟩ (U _ _ (o _ _ bm)) (U _ _ (o _ _ O)) e0 (H i P) (Hq i aa) rfl
  refine ay.nil hM (hK _ _ _ ?_);clear hK K
  repeat apply bp (hM _)
  refine bL hM fun K hK=>?_
  refine ay.fT (hJ _ rfl) 2 (n:=0) _ rfl rfl ?_;apply gq _
  refine ay.nil hM (hK _ _ _ ?_);clear hK K
  change ∃D,D<N - i/\CJ _ u b3 M D _ _ _
  exact ⟨N - (i+1),aa,i+1,Q,rfl,P,rfl,o.trans U,bz,bz,bz,bz,bz,bz,bz,bz,rfl⟩
 .have c1:decide ((i:Int)<(N:Int))=false:=by simp;omega
  obtain rfl:i=N:=aa
  repeat apply bp (hM _)
  refine bL hM fun K hK=>?_
  refine ay.fT (hJ _ rfl) 1 (n:=0) _ rfl rfl ?_;apply gq _
  refine ay.nil hM (hK _ _ _ ?_);clear hK K
  repeat apply bp (hM _)
  refine eF (hM _) bz ?_
  refine w5 ?_
  simp only[go_sem]
  repeat apply bp (hM _)
  refine bL hM fun K hK=>?_
  refine ay.fT (hJ _ rfl) 1 (n:=1) _ rfl rfl ?_;apply gq _
  refine J9 (caps:=#[.pointer (some ⟨C,0,none⟩),.pointer (some ⟨M,0,none⟩)]) (f0:=151) rfl ⟨_,rfl,c6,rfl,rfl⟩ fW ?_ ?_
  .exact Ky ao ar (o _ _ O)
  refine ay.nil hM (hK _ _ _ ?_);clear hK K
  repeat apply bp (hM _)
  refine bL hM fun K hK=>?_
  refine ay.fT (hJ _ rfl) 1 (n:=0) _ rfl rfl ?_;apply gq _
  refine ay.nil hM (hK _ _ _ ?_);clear hK K
  repeat apply bp (hM _)
  refine bL hM fun K hK=>?_
  have e3:=o _ _ O
  refine ay.fT (hJ _ rfl) 1 (n:=0) _ rfl rfl ?_;apply gq _
  refine ay.nil hM (hK _ _ _ ?_);clear hK K
  clear ec ed eh et ev c1 eQ bm O e3
  repeat apply bp (hM _)
  refine lp hM ?_
  refine s9 hM (CL (⟨C,J,i,ic (fun i=>(is (i:Int)).getD false) dF,yg _ _,base,T0,⟨u,[]⟩,w1⟩:Yx) k) i ?_ ?_
  .exact ⟨[],[],k,none,0,[],rfl,List.nodup_nil,(fun j V=>by cases V),rfl,Ext.refl _,rfl,aW.nil _ _ _,Nat.le_refl _,bz,bz,bz,bz,bz,rfl⟩
  clear I hd br
  rintro m A F' bo ⟨got,L,g3,d3,c3,own,rfl,a0,E,p,bS,rfl,hg,g4,g7,fa,br,I,hd,rfl⟩
  repeat apply bp (hM _)
  refine bL hM fun K hK=>?_
  refine Ka ⟨_,rfl,c6,rfl,rfl⟩ fW CI An ?_ ?_
  .intro j v R aF V b0 hR b1 a2
   have hb:(is (j:Int)).getD false=true/\R=fun ro v=>aH rI ro v (dF j):=by
    have hR:ic (fun i=>(is (i:Int)).getD false) dF j=some R:=hR
    unfold ic at hR
    split at hR
    .rename_i e;exact ⟨e,(Option.some.inj hR).symm⟩
    .cases hR
   obtain ⟨hb,rfl⟩:=hb
   have b4:aH rI aF v (dF j):=b1
   obtain ⟨d9,ca,rfl,ha,hc,-⟩:=id b4
   clear hR b1
   refine ay.fT (hJ _ rfl) 1 (n:=0) _ rfl rfl ?_;apply gq _
   refine ay.nil hM (hK _ _ _ ?_);clear hK K
   repeat apply bp (hM _)
   refine fI (hM _) bz ?_
   apply eE (hM _)
   repeat apply bp (hM _)
   refine lp hM ?_
   repeat apply bp (hM _)
   refine bL hM fun K hK=>?_
   refine ay.fT (hJ _ rfl) 2 (n:=0) _ rfl rfl ?_;apply gq _
   refine ay.nil hM (hK _ _ _ ?_);clear hK K
   refine xk (hJ _ rfl) fun nd no=>?_
   replace hg:=hg.mono a2 no
   clear no
   have hlen:got.length<i:=by
    have:=A2 i (got++[j]) (List.nodup_append.2 ⟨a0,an,fun a a3 b hb e=>by simp at hb;subst hb;subst e;exact b0 a3⟩) (fun y c=>by
     rcases List.mem_append.1 c with c|c
     .exact (E y c).1
     .simp at c;subst c;exact V)
    simp at this
    omega
   repeat apply bp (hM _)
   refine bL hM fun K hK=>?_
   refine ay.fT (hJ _ rfl) 5 (n:=0) _ rfl rfl ?_;apply gq _
   intro fb f45;have fc:=cT f45;have cb:=cY f45
   have fg:=bO.cons cb nd
   try simp only[aN] at cb
   try simp only[*,go_sem,-hK,-hM,-hJ,-h,-g]
   refine qh (bn:=own) (r:=(rL rI)) (l:=L) (x:=dF j) (cs:=#[.slice d9 (dF j).length ca]) (e2:=36) [(fb,.cells #[.slice d9 (dF j).length ca] 36)] [] (by first|rfl|simp only[bN]|(simp only[bN];rfl)) hg fg (by rw[<-p];simp;omega) ⟨_,rfl,b4⟩ (by simp only[*,go_sem,-hK,-hM,-hJ,-h,-g]) fc rfl rfl Ar Ar FA An rfl FB aL aL (fun hf cc cd fh fi hh=>?_)
   simp only[bN] at fi
   subst fh
   obtain ⟨d53,fj,rfl,fl⟩:=cd.len
   refine ⟨⟨aF,cc⟩,Le.sub (List.sublist_cons_self _ _),?_⟩
   apply aJ
   try simp only[*,go_sem,-hK,-hM,-hJ,-h,-g,-p]
   refine ay.nil hM (hK _ _ _ ?_);clear hK K
   change ∃D,D<i - got.length/\CL _ k D _ _ _
   exact ⟨i - (got++[j]).length,by simp;omega,got++[j],L++[dF j],aF,d53,fj,cc,rfl,List.nodup_append.2 ⟨a0,an,fun a a3 b hb e=>by simp at hb;subst hb;subst e;exact b0 a3⟩,fun y c=>(by
     rcases List.mem_append.1 c with c|c
     .exact E y c
     .simp at c;subst c;exact ⟨V,by show (ic (fun i=>(is (i:Int)).getD false) dF y).isSome=true;unfold ic;rw[if_pos hb];rfl⟩),by rw[<-p];simp,bS.trans a2,rfl,cd,fl,bz,bz,bz,bz,bz,rfl⟩
  .intro cf
   refine ay.fT (hJ _ rfl) 1 (n:=0) _ rfl rfl ?_;apply gq _
   refine ay.nil hM (hK _ _ _ ?_);clear hK K
   repeat apply bp (hM _)
   refine eF (hM _) bz ?_
   refine w5 ?_
   simp only[go_sem]
   have hJ:=g
   clear g
   refine cV.of hJ ?_
   repeat apply ah hJ
   refine aC hJ fun ck=>?_
   obtain ⟨cl,fp,hj,cv,cy⟩:=hg.lY (own:=own) [] [] [] an rfl ck (bg.nil _)
   clear ck
   refine cq (F:=⟨cl,[]⟩) hJ cy ?_
   obtain ⟨hk,hl,fr⟩:=cv.op
   clear hg cy
   have a4:∀y,y∈got↔y∈ks:=fun y=>by
    rw[a8]
    constructor
    .intro c
     obtain ⟨B,s⟩:=E y c
     refine ⟨B,?_⟩
     have s:(ic (fun i=>(is (i:Int)).getD false) dF y).isSome=true:=s
     unfold ic at s
     split at s
     .rename_i e
      have e:(is (y:Int)).getD false=true:=e
      rw[H y B,e]
     .cases s
    .rintro ⟨B,s⟩
     exact cf y B (by show (ic (fun i=>(is (i:Int)).getD false) dF y).isSome=true;unfold ic;rw[if_pos (show (is (y:Int)).getD false=true by rw[s];rfl)];rfl)
   cases ks with
   |nil=>simp at h
   |cons x0 ks=>
    have h:some (dF (fG ks x0))=some r:=h
    have h:=Option.some.inj h
    cases got with
    |nil=>exact absurd ((a4 x0).2 an) an
    |cons g0 got=>
     have W:∀y∈g0::got,y<16:=fun y c=>by have:=(E y c).1;have:y<i:=this;omega
     have a5:=Ht got g0 (W g0 an) fun y c=>W y (by simp[c])
     have cS:dF (fG got g0)=r:=by rw[<-h,Hs (x':=x0) (l':=ks) W a4]
     rw[cS] at a5
     have c0:L[0]?=some (dF g0):=by rw[<-p];rfl
     have a6:lU L 1 (L.length:Int)=some (got.map dF):=by
      rw[<-p]
      unfold lU
      rw[if_pos ⟨aL,by simp;omega,Int.le_refl _⟩]
      simp only[Int.toNat_natCast,List.take_length]
      rfl
     have hn:1<=L.length:=by rw[<-p];simp
     obtain ⟨T,da⟩:∃T,T=got.map dF:=⟨_,rfl⟩
     rw[<-da] at a6 a5
     clear da p a4 W cS cf E a0 a8 H eb dv h hM Z fa
     refine eN hJ mixed 5 ⟨cl,[]⟩ bx aj ?_
     have ho:(0:Int)<=0:=Int.le_refl _
     have hp:(0:Int)<(L.length:Int):=aa
     obtain ⟨hq,hr,fs,ft,db⟩:=fr _ _ c0
     obtain ⟨ht,rfl,dd⟩:=ft
     obtain ⟨hv,hx,rfl,hy,hz,hA⟩:=id dd
     cases fs
     have fu:=db 0 _ rfl
     simp only[go_sem] at fu
     clear db c0
     obtain ⟨hB,hD,hE,df⟩:=zS a6
     have dk:(1:Int).toNat<=((L.length:Int)).toNat:=aa
     have fv:((L.length:Int)).toNat<=c3:=aa
     have hF:0<=((L.length:Int)):=aa
     obtain ⟨hG,fw,fx,dp⟩:=aH.zU cv (1:Int).toNat ((L.length:Int)).toNat dk aa df
     simp only[go_sem] at fw fx dk fv
     obtain ⟨_,_,fz,hH,hI,hL⟩:=id dp;cases fz
     clear df a6
     try apply ag _
     refine nD hJ _ (Gi (sE:=154) (v7:=#[]) (v8:=#[]) od ⟨by simp only[go_sem],fun hN a2 y0 _ B _ _ gg gj h=>by simp only[go_sem];exact Gh y0 gg B gj h⟩ (dF g0) dd T dp a5) fun v gl dq hP hR=>?_
     obtain ⟨hQ,rfl,gn⟩:=hR
     have hS:=jh (l:=[]) dq (bg.nil _)
     refine ⟨bx,?_⟩
     refine rZ ?_
     try apply ag _
     apply aO
     exact (lq (t:=4) rfl bx bx ⟨rfl,gl,((((bd.trans o).trans bS).trans fp).trans dq),Le.refl _,_,rfl,gn⟩).2
end
end Go.Proofs.YtlchekhkopimhaaGreatDoor
end
section
namespace Go.Proofs.YtlchekhkopimhaaGreatDoor
open Go Go.Sep Go.Proofs
set_option maxRecDepth 100000
def tT (u0:ax)(a:Int->Option Bool):Option (List Int):=qU a u0.ak.length
theorem CM {ro:Addr->Option Value}(u0:ax){s1:Value}(e:aH bK ro s1 u0.ak)(a:Int->Option Bool){bQ:FuncId}{bY bZ:Array Value}
  (f:aI Tryz.prog bQ=true/\∀(aF:Addr->Option Value),Ext ro aF->∀(y0:Int) (z:Bool),a y0=some z->aE Tryz.prog bQ (bY++#[.int .u64 y0]++bZ) ⟨aF,[]⟩ (fun v _=>v= .bool z)) {r:List Int} (h:tT u0 a=some r):
  nM Tryz.prog 94 #[.agg #[.int .i64 u0.steps,.int .i64 u0.aR,s1],.func (.func bQ) bY bZ] ro (fun v aF=>∃b,v=b/\aH rI aF b r):=by
 obtain ⟨d,c,rfl,-,-,-⟩:=id e
 exact KC u0.steps u0.aR d c a f h
end Go.Proofs.YtlchekhkopimhaaGreatDoor
end
section
namespace Go.Proofs.YtlchekhkopimhaaGreatDoor
open Go Go.Sep Go.Proofs
set_option maxRecDepth 100000
set_option maxHeartbeats 4000000
def tU (u0:Int)(a:ax)(w1:Int):Option Bool:=
 ai (kr a (vr w1 u0)) fun b=>some (!b)
theorem KD {ro:Addr->Option Value}(u0:Int)(a:ax){b:Nat}(f:ro ⟨b,0,none⟩=some (.int .i64 a.steps))(g:ro ⟨b,1,none⟩=some (.int .i64 a.aR)){s1:Value}(c:aH bK ro s1 a.ak)(i:ro ⟨b,2,none⟩=some (s1))(w1:Int){d:Nat}(j:ro ⟨d,0,none⟩=some (.int .u64 w1)){r:Bool}(h:tU u0 a w1=some r):aE Tryz.prog 128 #[.int .u64 u0,.pointer (some ⟨b,0,none⟩),.pointer (some ⟨d,0,none⟩)] ⟨ro,[]⟩ (fun v _=>v= .bool r):=by
 obtain ⟨d3,c4,rfl,k,l,-⟩:=id c;unfold tU at h;refine aE.go Tryz.func128 rfl Tryz.ntmps128 Tryz.results128 an fun main J hJ A m hd hs=>?_;have n:=hs 0;have k1:=hs 1;have o:=hs 2;clear hs;apply aB hJ _;apply aA hJ;revert h;refine bS fun p e h=>?_;cases h;apply ag _;refine bh hJ _ (xm a (c.mono aY) (vr w1 u0) e) (aJ ?_);try apply ag _
 apply aO;simp only[*,go_sem]
def lH (u0:ax):Option ((List Int)×Int):=
 ai (ef u0) fun x9=>cond ((x9 != 0)) (some (([]:(List Int)),x9)) (ai (tT u0 (kr u0)) fun a=>some (a,0))
theorem tV {ro:Addr->Option Value}(d:dw ro)(u0:ax){s1:Value}(a:aH bK ro s1 u0.ak){r:((List Int)×Int)}(h:lH u0=some r):nM Tryz.prog 25 #[cn u0 s1] ro (fun v aF=>∃b,v= .tuple #[b,.int .i64 r.2]/\aH rI aF b r.1):=by
 unfold lH at h;refine gd.go Tryz.func25 rfl Tryz.ntmps25 Tryz.results25 an fun Φ hJ A m hd hs=>?_;have n:=hs 0;clear hs;apply aB hJ _;refine bf fun o p e=>?_;try simp only[aN] at e
 try apply ag _
 refine ah hJ (aA hJ ?_);revert h;refine bS fun x9 f h=>?_;apply ag _;refine bh hJ _ (kU (d.mono aY) u0 (a.mono aY) f) (aJ ?_);try apply ag _
 apply aB hJ _;revert h;refine aV hJ (fun g h=>?_) fun g h=>?_
 .cases h;apply aB hJ _;refine b5 ?_;exact ⟨_,Ext.refl _,Le.sub (List.nil_sublist _),_,rfl,aH.nil _ _⟩
 refine aK hJ (ah hJ ?_);apply aG hJ;revert h;refine bS fun q i h=>?_;cases h;apply ag _;refine l6 _ (CM (bQ:=95) (bY:=#[cn u0 s1]) (bZ:=#[]) u0 a (kr u0) ⟨by simp only[go_sem],fun s j y0 _ h=>by simp only[go_sem];exact xm u0 (a.mono j) y0 h⟩ i) fun v t k l hR=>?_;obtain ⟨u,rfl,c⟩:=hR;simp only[bW] at l;obtain ⟨d19,w,rfl,x,y,-⟩:=id c;apply aJ;try apply ag _
 refine b5 ?_;exact ⟨_,k,Le.sub (List.nil_sublist _),_,rfl,c⟩
def yh (u0:ax):Option ((List Int)×Int):=
 ai (ef u0) fun x9=>cond ((x9 != 0)) (some (([]:(List Int)),x9)) (ai (kr u0 0) fun a=>cond (a) (some (([]:(List Int)),0)) (ai (iO 1 (u0.ak.length:Int)) fun b=>ai (tT u0 (fun y0=>tU y0 u0 (IntKind.u64.wrap (b - 1)))) fun c=>some (c,0)))
theorem KE {ro:Addr->Option Value}(G:dw ro)(u0:ax){s1:Value}(a:aH bK ro s1 u0.ak){r:((List Int)×Int)}(h:yh u0=some r):nM Tryz.prog 55 #[cn u0 s1] ro (fun v aF=>∃u,v= .tuple #[u,.int .i64 r.2]/\aH rI aF u r.1):=by
 obtain ⟨d3,c4,rfl,S,T,-⟩:=id a;unfold yh at h;refine gd.go Tryz.func55 rfl Tryz.ntmps55 Tryz.results55 an fun Φ hJ A U hd hs=>?_;have V:=hs 0;clear hs;apply aB hJ _;refine bf fun w s H=>?_;try simp only[aN] at H
 try apply ag _
 refine ah hJ (aA hJ ?_);revert h;refine bS fun x9 I h=>?_;apply ag _;refine bh hJ _ (kU (G.mono aY) u0 (a.mono aY) I) (aJ ?_);try apply ag _
 apply aB hJ _;revert h;refine aV hJ (fun J h=>?_) fun J h=>?_
 .cases h;apply aB hJ _;refine b5 ?_;exact ⟨_,Ext.refl _,Le.sub (List.nil_sublist _),_,rfl,aH.nil _ _⟩
 refine aK hJ (ah hJ ?_);apply aM hJ _;refine bf fun c m K=>?_;try simp only[aN] at K
 try apply ag _
 refine ah hJ (aA hJ ?_);revert h;refine bS fun W L h=>?_;apply ag _;refine bh hJ _ (xm u0 (a.mono aY) 0 L) ?_;try apply ag _
 revert h;refine aV hJ (fun M h=>?_) fun M h=>?_
 .cases h;apply aB hJ _;refine b5 ?_;exact ⟨_,Ext.refl _,Le.sub (List.nil_sublist _),_,rfl,aH.nil _ _⟩
 refine aK hJ (ah hJ ?_);apply aG hJ;revert h;refine bS fun d x h=>?_;obtain ⟨X,N⟩:=nG x;clear x;try simp only[go_sem] at N
 try apply ag _
 refine bf fun e n O=>?_;try simp only[aN] at O
 try apply ag _
 apply ah hJ;refine aC hJ fun y=>?_;obtain ⟨t,p,z⟩:=iy (b:=c) (o:=(dM u0 (sl d3 u0.ak c4))) [(e,.cells #[.int .u64 (IntKind.u64.wrap (d - 1))] 112)] ((w,bB u0 (sl d3 u0.ak c4))::[]) y m (bg.cons n (bg.cons s (bg.nil _)));clear y;have f:b9 ro c (dM u0 (sl d3 u0.ak c4)) ⟨c,0,none⟩=some (.int .i64 u0.steps):=by rw[eY m];rfl
 have g:b9 ro c (dM u0 (sl d3 u0.ak c4)) ⟨c,1,none⟩=some (.int .i64 u0.aR):=by rw[eY m];rfl
 have i:b9 ro c (dM u0 (sl d3 u0.ak c4)) ⟨c,2,none⟩=some (.slice d3 u0.ak.length c4):=by rw[eY m];rfl
 generalize b9 ro c (dM u0 (sl d3 u0.ak c4))=B at t p z f g i;refine cq hJ z ?_;replace a:=a.mono t;replace n:=p.hd;replace s:=p.tl.hd;simp only[bW] at p;refine aC hJ fun C=>?_;obtain ⟨j,D,E⟩:=iy (b:=e) (o:=(.cells #[.int .u64 (IntKind.u64.wrap (d - 1))] 112)) [] ((w,bB u0 (sl d3 u0.ak c4))::[]) C n (bg.cons s (bg.nil _));clear C;have q:b9 B e (.cells #[.int .u64 (IntKind.u64.wrap (d - 1))] 112) ⟨e,0,none⟩=some (.int .u64 (IntKind.u64.wrap (d - 1))):=by rw[eY n];rfl
 generalize b9 B e (.cells #[.int .u64 (IntKind.u64.wrap (d - 1))] 112)=Y at j D E q;refine cq hJ E ?_;replace a:=a.mono j;simp only[bW] at D;replace f:=j _ _ f;replace g:=j _ _ g;replace i:=j _ _ i;apply aG hJ;revert h;refine bS fun Z P h=>?_;cases h;apply ag _;refine l6 _ (CM (bQ:=128) (bY:=#[]) (bZ:=#[.pointer (some ⟨c,0,none⟩),.pointer (some ⟨e,0,none⟩)]) u0 a (fun y0=>tU y0 u0 (IntKind.u64.wrap (d - 1))) ⟨by simp only[go_sem],fun ab k y0 ad Q=>by simp only[go_sem];exact KD y0 u0 (k _ _ f) (k _ _ g) (a.mono k) (k _ _ i) (IntKind.u64.wrap (d - 1)) (k _ _ q) Q⟩ P) fun v ae l R hR=>?_;obtain ⟨al,rfl,F⟩:=hR;simp only[bW] at R;replace f:=l _ _ f;replace g:=l _ _ g;replace i:=l _ _ i;replace q:=l _ _ q;obtain ⟨d40,ao,rfl,ar,a0,-⟩:=id F;apply aJ;try apply ag _
 refine b5 ?_;exact ⟨_,((t).trans j).trans l,Le.sub (List.nil_sublist _),_,rfl,F⟩
end Go.Proofs.YtlchekhkopimhaaGreatDoor
end

/- A part of the proof: QS13. -/
import Derived.Test.YtcoalekambhghaaGreatDoorQS12
import Derived.Conc.TokenWalk
set_option linter.all false
section
namespace Go.Sep
open Go Go.Conc
open Go.ConcN (sumTo upd upd_ne upd_same)
open Go.ConcM (OsLater)
open Go.ConcR (WgAt wgBlock stA smA)
def CK (c:Gy)(cl:Cl)(g:Goroutine)(F:ag):Prop:=(∀d,cl≠ .on .reg d true)/\dX c cl g F
section
variable {c:Gy}{φ:Nat->Ph}{cl:Cl}{s:Sg}{w:World}{p p':P0}{d d':Nat}
theorem wJ:EvC c (.on p d false) (.on p d false) #[]:=.book p p d d rfl rfl aB rfl
theorem HP:EvC c (.on p d false) (.on p' (d+1) false) #[cn .disable]:=.book p p' d (d+1) rfl rfl (fun e he=>by simp at he;exact .inl he) rfl
theorem HQ:EvC c (.on p (d+1) false) (.on p' d false) #[cn .enable]:=.book p p' (d+1) d rfl rfl (fun e he=>by simp at he;exact .inr (.inl he)) rfl
theorem wK {ad:Addr}(y:Bool)(h:ad.block=c.Wg):EvC c (.on p d false) (.on p' d false) #[⟨.cell ad,y,true⟩]:=.book p p' d d rfl rfl (fun e he=>by simp at he;exact .inr (.inr ⟨ad,h,.inl ⟨y,he⟩⟩)) (by simp[deafBehind])
theorem HR {ad:Addr}(h:ad.block=c.Wg):EvC c (.on p d false) (.on p' d false) #[⟨.cell ad,false,true⟩,⟨.cell ad,true,true⟩]:=
 .book p p' d d rfl rfl (fun e he=>by simp at he;rcases he with he|he<;>exact .inr (.inr ⟨ad,h,.inl ⟨_,he⟩⟩)) (by simp[deafBehind])
theorem HS {ad:Addr}(h:ad.block=c.Wg):EvC c (.on p d false) (.on p' d false) #[cn (.write ad)]:=.book p p' d d rfl rfl (fun e he=>by simp at he;exact .inr (.inr ⟨ad,h,.inr (.inr he)⟩)) (by simp[deafBehind,cn])
theorem HT {ad:Addr}(h:ad.block=c.Wg):EvC c (.on p d false) (.on p' d false) (semEvents ad):=by
 refine .book p p' d d rfl rfl (fun e he=>?_) (by simp[deafBehind,semEvents]);simp[semEvents] at he;rcases he with rfl|rfl|rfl|rfl
 .exact .inl rfl
 .exact .inr (.inr ⟨ad,h,.inl ⟨_,rfl⟩⟩)
 .exact .inr (.inr ⟨ad,h,.inl ⟨_,rfl⟩⟩)
 .exact .inr (.inl rfl)
theorem jc.left {r:Rk}{g:Goroutine}{F:ag}(h:jc c r g F cl)(hb:∀p d a,cl≠ .on p d a):∃d q,cl= .shut d/\QuitsD c.P q d g:=by
 obtain ⟨ι,f⟩:=r;rcases h with ⟨d,q,b,_,e⟩|⟨_,_,⟨p,d,a,b,_⟩,_⟩|⟨_,_,⟨p,d,a,b⟩,_⟩
 .exact ⟨d,q,b,e⟩
 .exact absurd b (hb _ _ _)
 .exact absurd b (hb _ _ _)
theorem CK.closed (c:Gy){p:P0}{d:Nat}{a:Bool}(b:p≠ .reg):Closed c.P false (CK c (.on p d a)):=
 have hC:=dX.closed c (d:=d) (a:=a) b
 have hn:∀d',Cl.on p d a≠ .on .reg d' true:=fun d' e=>b (by cases e;rfl)
 ⟨fun hle h=>⟨h.1,hC.mono hle h.2⟩,fun {fr cs F} h=>⟨hn,hC.step fun w hw=>by
  obtain ⟨g',w',es,F',k1,f,g,i,j⟩:=h w hw
  exact ⟨g',w',es,F',k1,f,g,i,j.2⟩⟩⟩
theorem CK.en (c:Gy)(cl:Cl):dS c.P false (CK c cl):=⟨fun {fr fr' cs cs' F} hs h=>by
 obtain ⟨hn,h⟩:=h
 refine ⟨hn,?_⟩
 have left:(∀p d a,cl≠ .on p d a)->dX c cl (G fr cs) F:=fun hb=>by
  obtain ⟨F0,r,hle,hW⟩:=h
  obtain ⟨d,q,rfl,f⟩:=hW.left hb
  exact dX.gone (q:=q+1) (.inr ⟨rfl,G fr' cs',#[],aB,hs,by rw[deafBehind_nil];exact f⟩)
 cases cl with
 |none m=>exact left fun p d a e=>by cases e
 |shut d=>exact left fun p d a e=>by cases e
 |on p d a=>
  by_cases b:p= .reg
  .subst b
   have g:a=false:=by
    cases a with
    |false=>rfl
    |true=>exact absurd rfl (hn d)
   subst g
   exact dX.act rfl rfl fun w s φ k i j=>.inr ⟨G fr' cs',w,#[],s,_,hs w,i,.refl _ _,j,rfl,wJ,.inr ⟨Int.le_refl _,rfl⟩,h⟩
  .exact (dX.closed c b).move hs h⟩
variable {ops:Array Oper}{j n:Nat}{Q:Act->ag->Cl->Prop}{a:Act}{F:ag}{o:Oper}{f fi:FuncId}{cH:Array Operand}{dj:Array TypeId}{dt:Option Tmp}
theorem Bc:∀d',Cl.on p d false≠ .on .reg d' true:=fun d' e=>by cases e
theorem kr (ho:ops[j]?=some o)
  (h:∀(w:World) (s:Sg) (φ:Nat->Ph),Has F w->cR c w s (.on p d false)->cX c.n φ p s.wg s.ws->
   ∃(v:Value) (w':World) (es:Array Event) (s':Sg) (p':P0) (d':Nat) (e:Bool),(∀(b:Frame) (f:List Item) (cs:List Frame),BF fi b->
    stepG c.P false (G (b.at a (.inRegion ops (j::List.range' (j+1) n)::f)) cs) w= .go (G (b.at (a.put o.dst v) (.inRegion ops (List.range' (j+1) n)::f)) cs) w' es)/\cR c w' s' (.on p' d' e)/\eH c.cy w w'/\cX c.n φ p' s'.wg s'.ws/\s'.got=s.got/\EvC c (.on p d false) (.on p' d' e) es/\
    s'.ws<=s.ws/\aE (CK c) fi ops (j+1) n Q (a.put o.dst v) F (.on p' d' e)):aE (CK c) fi ops j (n+1) Q a F (.on p d false):=fun b f cs hb i=>by
 rw[List.range'_succ,dc hb.round]
 refine ⟨Bc,dX.act rfl rfl fun w s φ e1 e2 e3=>.inr ?_⟩
 obtain ⟨v,w',es,s',p',d',e,z,k,l,m,g,q,r,t⟩:=h w s φ e1 e2 e3.w
 have:=t b f cs hb i
 rw[dc hb.round] at this
 exact ⟨_,w',es,s',.on p' d' e,z b f cs hb,k,l,e3.group m rfl g,g,q,.inr ⟨r,rfl⟩,this.2⟩
theorem HU (e:Entry c.P f (fun _=>do mark .disable;pure Extern.Race.none_)){vals:List Value}(g:At ops j a f vals dt)(p':P0)(i:∀φ wg ws,cX c.n φ p wg ws->cX c.n φ p' wg ws)
  (h:aE (CK c) fi ops (j+1) n Q (bt a dt (.tuple #[])) F (.on p' (d+1) false)):aE (CK c) fi ops j (n+1) Q a F (.on p d false):=by
 obtain ⟨o,cH,dj,ho,hg,k,_,rfl⟩:=g
 obtain ⟨fn,f1,f2,f3,f4,f5⟩:=e.ex
 exact kr ho fun w s φ _ hs l=>⟨.tuple #[],w,_,s,p',d+1,false,fun b m cs hb=>stepG_mark0 .disable aB ho (cx hg) hb.kind k f1 f2 f3 f4 f5,hs,.refl _ _,i _ _ _ l,rfl,HP,Int.le_refl _,h⟩
theorem Be (e:Entry c.P f (fun _=>do mark .enable;pure Extern.Race.none_)){vals:List Value}(g:At ops j a f vals dt)
  (h:aE (CK c) fi ops (j+1) n Q (bt a dt (.tuple #[])) F (.on p d false)):aE (CK c) fi ops j (n+1) Q a F (.on p (d+1) false):=by
 obtain ⟨o,cH,dj,ho,hg,i,_,rfl⟩:=g
 obtain ⟨fn,f1,f2,f3,f4,f5⟩:=e.ex
 exact kr ho fun w s φ _ hs k=>⟨.tuple #[],w,_,s,p,d,false,fun b l cs hb=>stepG_mark0 .enable aB ho (cx hg) hb.kind i f1 f2 f3 f4 f5,hs,.refl _ _,k,rfl,HQ,Int.le_refl _,h⟩
theorem HV (e:Entry c.P f (Extern.Race.marked .write))(g:At ops j a f [.pointer (some (smA c.Wg))] dt)
  (h:aE (CK c) fi ops (j+1) n Q (bt a dt (.tuple #[])) F (.on p d false)):aE (CK c) fi ops j (n+1) Q a F (.on p d false):=by
 obtain ⟨o,cH,dj,ho,hg,i,hv,rfl⟩:=g
 obtain ⟨y,rfl,k⟩:=k3 hv
 obtain ⟨fn,f1,f2,f3,f4,f5⟩:=e.ex
 exact kr ho fun w s φ _ hs l=>⟨.tuple #[],w,_,s,p,d,false,fun b m cs hb=>stepG_markAt .write aB ho (cx hg) hb.kind i f1 f2 f3 f4 f5 (by simp[eJ,k]),hs,.refl _ _,l,rfl,HS (ad:=smA c.Wg) rfl,Int.le_refl _,h⟩
theorem wL (ad:Addr){src dst t:TypeId}(hs:c.P.underlying src=some (.pointer t))(hd:c.P.underlying dst=some .unsafePointer)(e:(c.P.info? t).map (fun i=>decide (i.size=0))=some false){y:Operand}
  (g:iB ops j a (.convert src dst y) dt) (k:ev a y= .pointer (some ad)) (l:∀w s cl,cR c w s cl->∃v,w.cell? ad=some v) (h:aE (CK c) fi ops (j+1) n Q (bt a dt (.pointer (some ad))) F (.on p d false)):aE (CK c) fi ops j (n+1) Q a F (.on p d false):=by
 obtain ⟨o,ho,hg,m,rfl⟩:=g
 refine kr ho fun w s φ _ f q=>⟨_,w,#[],s,p,d,false,fun b x cs hb=>?_,f,.refl _ _,q,rfl,wJ,Int.le_refl _,h⟩
 obtain ⟨v,hv⟩:=l w s _ f
 have e1:execOp a.eval o=(do pure (.value (<-convert src dst (.pointer (some ad)))):Sem Next):=by
  unfold execOp
  simp only[m,eJ,k]
 have r:(execOp a.eval o).run c.P w= .ok (.value (.pointer (some ad))) w:=by
  rw[e1];simp[run_convert_to_unsafe hs hd e hv]
 have u:(execOp a.eval o).events c.P w #[]=#[]:=by
  rw[e1];simp[events_convert_to_unsafe hs hd e hv]
 rw[stepG_value ho (cx hg) hb.kind r]
 unfold listed
 rw[u,seen_none]
theorem HW (e:Entry c.P f (Extern.Atomic.loadT (.int .u64)))(g:At ops j a f [.pointer (some (stA c.Wg))] dt){u:Nat}
  (h:∀v:Nat,v<=u->aE (CK c) fi ops (j+1) n Q (bt a dt (.int .u64 ((v:Int)*4294967296+((0:Nat):Int)))) F (.on (if v=0 then .cQ else .look v) d false)):aE (CK c) fi ops j (n+1) Q a F (.on (.look u) d false):=by
 obtain ⟨o,cH,dj,ho,hg,i,hv,rfl⟩:=g
 obtain ⟨y,rfl,k⟩:=k3 hv
 obtain ⟨fn,f1,f2,f3,f4,f5⟩:=e.ex
 refine kr ho fun w s φ _ hs l=>?_
 obtain ⟨v,e1,m,hw⟩:=FO l
 have e2:s.wg=(v:Int)*4294967296+((0:Nat):Int):=by rw[e1];simp only[cW];omega
 exact ⟨_,_,_,s,(if v=0 then .cQ else .look v),d,false,fun b p cs hb=>by rw[<-e2];exact stepG_load_atomic ho (cx hg) hb.kind i f1 f2 f3 f4 .u64 f5 k hs.wg.1,hs,.refl _ _,hw,rfl,wK false rfl,Int.le_refl _,h v m⟩
theorem HX (g:Entry c.P f (Extern.Atomic.loadT (.int .u64)))(i:At ops j a f [.pointer (some (stA c.Wg))] dt)
  (h:aE (CK c) fi ops (j+1) n Q (bt a dt (.int .u64 0)) F (.on .cQ d false)):aE (CK c) fi ops j (n+1) Q a F (.on .cQ d false):=by
 obtain ⟨o,cH,dj,ho,hg,k,hv,rfl⟩:=i
 obtain ⟨y,rfl,l⟩:=k3 hv
 obtain ⟨fn,f1,f2,f3,f4,f5⟩:=g.ex
 refine kr ho fun w s φ _ hs e=>?_
 have e2:s.wg=0:=(z4 e).1
 exact ⟨_,_,_,s,_,d,false,fun b m cs hb=>by rw[<-e2];exact stepG_load_atomic ho (cx hg) hb.kind k f1 f2 f3 f4 .u64 f5 l hs.wg.1,hs,.refl _ _,e,rfl,wK false rfl,Int.le_refl _,h⟩
theorem HY (p:Entry c.P f (Extern.Atomic.casT (.int .u64)))(q:c.Wg≠c.C){v:Nat}(r:0<v)(t:At ops j a f [.pointer (some (stA c.Wg)),.int .u64 ((v:Int)*4294967296+((0:Nat):Int)),.int .u64 ((v:Int)*4294967296+((0:Nat):Int)+1)] dt)
  (u:aE (CK c) fi ops (j+1) n Q (bt a dt (.bool true)) F (.on .reg d false)) (x:aE (CK c) fi ops (j+1) n Q (bt a dt (.bool false)) F (.on (.look (v - 1)) d false)):aE (CK c) fi ops j (n+1) Q a F (.on (.look v) d false):=by
 obtain ⟨o,cH,dj,ho,hg,g,hv,rfl⟩:=t
 obtain ⟨y,z,D,rfl,h,i,k⟩:=Af hv
 obtain ⟨fn,f1,f2,f3,f4,f5⟩:=p.ex
 refine kr ho fun w s φ _ hs l=>?_
 by_cases e:s.wg=(v:Int)*4294967296+((0:Nat):Int)
 .have e1:s.wg=(v:Int)*cW:=by rw[e];simp only[cW];omega
  have hw:=l
  rw[e1] at hw
  have m:=FP hw r
  have e3:(v:Int)*cW+1=(v:Int)*4294967296+((0:Nat):Int)+1:=by simp only[cW];omega
  rw[e3] at m
  exact ⟨.bool true,_,_,{s with wg:=(v:Int)*4294967296+((0:Nat):Int)+1},.reg,d,false,fun b A cs hb=>stepG_cas_hit ho (cx hg) hb.kind g f1 f2 f3 f4 .u64 f5 h i k (by rw[<-e];exact hs.wg.1) hs.wg.2,hs.rM q _,.set _ ny,m,rfl,HR rfl,Int.le_refl _,u⟩
 .have e1:s.wg≠(v:Int)*cW:=fun B=>e (by rw[B];simp only[cW];omega)
  exact ⟨.bool false,_,_,s,.look (v - 1),d,false,fun b A cs hb=>stepG_cas_miss ho (cx hg) hb.kind g f1 f2 f3 f4 .u64 f5 h i k hs.wg.1 hs.wg.2 e,hs,.refl _ _,(FQ l e1).2,rfl,wK false rfl,Int.le_refl _,x⟩
theorem HZ (l:Value)(m:Entry c.P f Extern.Sync.semacquire)(p:c.Wg≠c.C)(q:At ops j a f [.pointer (some (smA c.Wg)),l] dt)
  (h:aE (CK c) fi ops (j+1) n Q (bt a dt (.tuple #[])) F (.on .cQ d false)):aE (CK c) fi ops j (n+1) Q a F (.on .reg d false):=fun b r cs hb t=>by
 obtain ⟨o,cH,dj,ho,hg,g,hv,rfl⟩:=q
 obtain ⟨y,z,rfl,i,_⟩:=q7 hv
 obtain ⟨fn,f1,f2,f3,f4,f5⟩:=m.ex
 rw[List.range'_succ,dc hb.round]
 refine ⟨Bc,dX.act rfl rfl fun w s φ e1 hs k=>?_⟩
 by_cases e:s.ws=0
 .exact .inl ⟨rfl,e,stepG_semacquire_wait ho (cx hg) g f1 f2 f3 f4 f5 (ad:=smA c.Wg) (by simp[eJ,i]) (by rw[hs.ws.1,e])⟩
 .obtain ⟨u,v,hw⟩:=FR k.w e
  have:=h b r cs hb t
  rw[dc hb.round] at this
  exact .inr ⟨_,_,_,{s with ws:=s.ws - 1},.on .cQ d false,stepG_semacquire ho (cx hg) hb.kind g f1 f2 f3 f4 f5 (by simp[eJ,i]) hs.ws.1 e hs.ws.2,hs.Ba p _,.set _ ny,k.group hw rfl rfl,rfl,HT rfl,.inr ⟨by simp only;omega,rfl⟩,this.2⟩
theorem Bf (d:Entry c.P f (Extern.Race.marked .acquire))(e:At ops j a f [.pointer (some (stA c.Wg))] dt)
  (h:aE (CK c) fi ops (j+1) n Q (bt a dt (.tuple #[])) F (.on .cQ 0 true)):aE (CK c) fi ops j (n+1) Q a F (.on .cQ 0 false):=by
 obtain ⟨o,cH,dj,ho,hg,g,hv,rfl⟩:=e
 obtain ⟨y,rfl,i⟩:=k3 hv
 obtain ⟨fn,f1,f2,f3,f4,f5⟩:=d.ex
 exact kr ho fun w s φ _ hs k=>⟨.tuple #[],w,_,s,.cQ,0,true,fun b l cs hb=>stepG_markAt .acquire aB ho (cx hg) hb.kind g f1 f2 f3 f4 f5 (by simp[eJ,i]),hs,.refl _ _,k,rfl,.acq rfl rfl rfl,Int.le_refl _,h⟩
theorem H6 {x:Operand}(k:c.Wg≠c.C)(l:(c.P.funcs[fi]?).any (·.norace)=false)(m:iB ops j a (.call {callee:=.builtin .close,args:=#[x],argTypes:=dj}) dt)(p:ev a x= .chan (some c.C))
  (h:aE (CK c) fi ops (j+1) n Q (bt a dt (.tuple #[])) F (.shut 0)):aE (CK c) fi ops j (n+1) Q a F (.on .cQ 0 true):=fun b q cs hb r=>by
 obtain ⟨o,ho,hg,f,rfl⟩:=m
 rw[List.range'_succ,dc hb.round]
 refine ⟨(fun d e=>by cases e),dX.act rfl rfl fun w s φ e1 hs g=>.inr ?_⟩
 have:=h b q cs hb r
 rw[dc hb.round] at this
 have i:w.heap[c.C]?=some (.chan 0 #[] false s.got.length s.got.length false):=hs.2
 refine ⟨_,_,_,s,.shut 0,stepG_close ho (cx hg) hb.kind f (by simpa [eJ] using p) i (by rw[hb.fn];exact l),⟨?_,?_⟩,⟨rfl,rfl,by simp[World.setChan],.refl _,fun b hb=>?_⟩,g.group g.w rfl rfl,rfl,.close rfl rfl rfl,.inl ?_,this.2⟩
 .have t:=hs.1
  unfold WgAt at*
  simp only[World.setChan]
  rw[Array.getElem?_setIfInBounds_ne (Ne.symm k)]
  exact t
 .simp only[World.setChan]
  have u:c.C<w.heap.size:=(Array.getElem?_eq_some_iff.1 i).1
  rw[Array.getElem?_setIfInBounds_self_of_lt u]
  rfl
 .simp only[World.setChan]
  rw[Array.getElem?_setIfInBounds_ne (fun e=>hb (.inl e.symm))]
 .simp only[mayWake,G,Frame.at,ho,Option.map_some,f]
def wM:Ex->Act->ag->Cl->Prop
 | .exit _,_,_,_=>False
 |_,a,_,cl=>a.defers=[]/\cl= .shut 0
theorem H7 {fn:Func}{cd:Code}{n:Nat}(k:c.P.funcs[f]?=some fn)(m:(fn.name== "runtime.NumGoroutine")=false)(hb:fn.body=some cd)(o:fn.results=#[])(hn:fn.ntmps=n){caps:Array Value}(p:caps.size<=n)
  (h:∀A:Act,sz A=n->A.defers=[]->(∀j,slot A j=caps.getD j undef)->cM (CK c) f cd wM A F (.on (.opn 0) 0 false)):
  dX c (.on (.opn 0) 0 false) (born c.P {target:=.fn (.func f) caps,args:=#[]}) F:=by
 have hM:=CK.en c
 have e0:∀w,stepG c.P false (born c.P {target:=.fn (.func f) caps,args:=#[]}) w= .go (G ((baseD f).at {tmps:=caps++Array.replicate (fn.ntmps - caps.size) undef,defers:=[]} [.code cd]) [gz c.P]) w #[]:=fun w=>by
  have:=Ay (P:=c.P) (w:=w) (caps:=caps) (args:=#[]) k m hb
  simpa using this
 refine dX.act rfl rfl fun w s φ e1 e2 e3=>.inr ⟨_,w,#[],s,_,e0 w,e2,.refl _ _,e3,rfl,wJ,.inr ⟨Int.le_refl _,rfl⟩,?_⟩
 have out:∀(a:Act) (l:List Item) F' (cl':Cl),(a.defers=[]/\cl'= .shut 0)->CK c cl' (G {(baseD f).at a l with mode:=.returning} [gz c.P]) F':=by
  rintro a l F' cl' ⟨k1,rfl⟩
  exact ⟨(fun d e=>by cases e),dX.gone (q:=2) (QuitsD.ctl rfl (fun w=>Az rfl k1 k o) (QuitsD.ctl rfl (fun w=>AA) ⟨rfl,rfl⟩))⟩
 have:=h {tmps:=caps++Array.replicate (fn.ntmps - caps.size) undef,defers:=[]} (by simp[sz,hn];omega) rfl (fun j=>?_) (baseD f) [] [gz c.P] ⟨by simp[baseD],rfl,rfl⟩ fun e a F' aY g=>?_
 .rw[dc rfl] at this;exact this.2
 .simp only[slot,hn,Array.getD_eq_getD_getElem?]
  rcases Nat.lt_or_ge j caps.size with b|b
  .rw[Array.getElem?_append_left b]
  .rw[Array.getElem?_append_right b,Array.getElem?_replicate,Array.getElem?_eq_none b]
   split<;>rfl
 .cases e with
  |normal=>exact (hM aY).move (fun _=>jJ rfl) (out a _ F' aY g)
  |exit i=>exact g.elim
  |ret=>exact fun r=>(hM aY).move (fun _=>stepG_ret' rfl) (out a _ F' aY g)
end
attribute [go_sem] wM
structure Yx where
 Wg:Nat
 C:Nat
 n:Nat
 pay:Nat->Option gB
 mono:∀i R ro aK v,pay i=some R->Ext ro aK->R ro v->R aK v
 base:Nat
 T0:Nat
 F1:ag
 w1:World
inductive Y where
 |free
 |co (x:Yx) (z:Zg) (d:Nat)
structure PG where
 P:Program
 tW:TypeId
 z:Value
abbrev Yx.gy (x:Yx)(T:PG):Gy:=⟨T.P,x.Wg,x.C,T.tW,T.z,x.n,x.pay,x.mono,x.base,x.T0,x.F1,x.w1⟩
def GJ (T:PG)(Φ:Goroutine->ag->Prop):Y->Goroutine->ag->Prop
 | .free=>g9 T.P Φ
 | .co x z d=>dY (x.gy T) (g9 T.P Φ) z d
section
variable {T:PG}{Φ:Goroutine->ag->Prop}{x:Yx}{k m d:Nat}{ops:Array Oper}{j n:Nat}{Q:Act->ag->Y->Prop}{a:Act}{F:ag}{o:Oper}{f fi:FuncId}{dt:Option Tmp}
theorem GJ.closed (T:PG)(Φ:Goroutine->ag->Prop)(y:Y):Closed T.P true (GJ T Φ y):=by
 cases y with
 |free=>exact F2 T.P Φ
 |co x z d=>exact dY.closed (x.gy T) (g9 T.P Φ) z d
theorem GJ.en (T:PG)(Φ:Goroutine->ag->Prop)(y:Y):dS T.P true (GJ T Φ y):=(GJ.closed T Φ y).en
theorem rO (ho:ops[j]?=some o)
  (h:∀(w:World) (s:Sg) (φ:Nat->Ph),Has F w->cR (x.gy T) w s (.none m)->cX x.n φ (.opn m) s.wg s.ws->
   ∃(v:Value) (w':World) (es:Array Event) (s':Sg) (e d':Nat),(∀(b:Frame) (f:List Item) (cs:List Frame),BF fi b->
    stepG T.P true (G (b.at a (.inRegion ops (j::List.range' (j+1) n)::f)) cs) w= .go (G (b.at (a.put o.dst v) (.inRegion ops (List.range' (j+1) n)::f)) cs) w' es)/\cR (x.gy T) w' s' (.none e)/\eH (x.gy T).cy w w'/\cX x.n φ (.opn e) s'.wg s'.ws/\s'.got=s.got/\Ev0 (x.gy T).cy d d' es/\
    s'.ws<=s.ws/\aE (GJ T Φ) fi ops (j+1) n Q (a.put o.dst v) F (.co x (.add k e) d')):aE (GJ T Φ) fi ops j (n+1) Q a F (.co x (.add k m) d):=fun b f cs hb i=>by
 rw[List.range'_succ,dc hb.round]
 refine dY.act (c:=x.gy T) rfl rfl fun w s φ e1 e2 e3=>?_
 obtain ⟨v,w',es,s',e,d',k1,l,p,q,g,r,t,u⟩:=h w s φ e1 e2 e3.w
 have:=u b f cs hb i
 rw[dc hb.round] at this
 exact ⟨_,w',es,s',e,d',k1 b f cs hb,l,p,e3.group q rfl g,g,r,.inr t,this⟩
theorem H8 (c:Entry T.P f (fun _=>do mark .disable;pure Extern.Race.none_)){vals:List Value}(e:At ops j a f vals dt)
  (h:aE (GJ T Φ) fi ops (j+1) n Q (bt a dt (.tuple #[])) F (.co x (.add k m) (d+1))):aE (GJ T Φ) fi ops j (n+1) Q a F (.co x (.add k m) d):=by
 obtain ⟨o,cH,dj,ho,hg,g,_,rfl⟩:=e
 obtain ⟨fn,f1,f2,f3,f4,f5⟩:=c.ex
 exact rO ho fun w s φ _ hs i=>⟨.tuple #[],w,_,s,m,d+1,fun b l cs hb=>stepG_mark0 .disable aB ho (cx hg) hb.kind g f1 f2 f3 f4 f5,hs,.refl _ _,i,rfl,Gi,Int.le_refl _,h⟩
theorem H9 (c:Entry T.P f (Extern.Race.marked .read))(e:At ops j a f [.pointer (some (smA x.Wg))] dt)
  (h:aE (GJ T Φ) fi ops (j+1) n Q (bt a dt (.tuple #[])) F (.co x (.add k m) d)):aE (GJ T Φ) fi ops j (n+1) Q a F (.co x (.add k m) d):=by
 obtain ⟨o,cH,dj,ho,hg,g,hv,rfl⟩:=e
 obtain ⟨y,rfl,i⟩:=k3 hv
 obtain ⟨fn,f1,f2,f3,f4,f5⟩:=c.ex
 exact rO ho fun w s φ _ hs l=>⟨.tuple #[],w,_,s,m,d,fun b p cs hb=>stepG_markAt .read aB ho (cx hg) hb.kind g f1 f2 f3 f4 f5 (by simp[eJ,i]),hs,.refl _ _,l,rfl,Gl (ad:=smA x.Wg) rfl,Int.le_refl _,h⟩
theorem Ia (ad:Addr){src dst t:TypeId}(hs:T.P.underlying src=some (.pointer t))(hd:T.P.underlying dst=some .unsafePointer)(c:(T.P.info? t).map (fun i=>decide (i.size=0))=some false){y:Operand}
  (f:iB ops j a (.convert src dst y) dt) (g:ev a y= .pointer (some ad)) (l:∀w s cl,cR (x.gy T) w s cl->∃v,w.cell? ad=some v) (h:aE (GJ T Φ) fi ops (j+1) n Q (bt a dt (.pointer (some ad))) F (.co x (.add k m) d)):aE (GJ T Φ) fi ops j (n+1) Q a F (.co x (.add k m) d):=by
 obtain ⟨o,ho,hg,p,rfl⟩:=f
 refine rO ho fun w s φ _ e q=>⟨_,w,#[],s,m,d,fun b z cs hb=>?_,e,.refl _ _,q,rfl,Gh,Int.le_refl _,h⟩
 obtain ⟨v,hv⟩:=l w s _ e
 have e1:execOp a.eval o=(do pure (.value (<-convert src dst (.pointer (some ad)))):Sem Next):=by
  unfold execOp
  simp only[p,eJ,g]
 have r:(execOp a.eval o).run T.P w= .ok (.value (.pointer (some ad))) w:=by
  rw[e1];simp[run_convert_to_unsafe hs hd c hv]
 have u:(execOp a.eval o).events T.P w #[]=#[]:=by
  rw[e1];simp[events_convert_to_unsafe hs hd c hv]
 rw[stepG_value ho (cx hg) hb.kind r]
 unfold listed
 rw[u,seen_none]
theorem Ib (c:Entry T.P f (Extern.Atomic.update (Op.intArith .add) .u64 true))(e:x.Wg≠x.C)(hn:x.n<67108864)(g:At ops j a f [.pointer (some (stA x.Wg)),.int .u64 4294967296] dt)
  (h:∀v:Nat,v<=x.n->aE (GJ T Φ) fi ops (j+1) n Q (bt a dt (.int .u64 (((v+1:Nat):Int)*4294967296+((0:Nat):Int)))) F (.co x (.add k 1) d)):aE (GJ T Φ) fi ops j (n+1) Q a F (.co x (.add k 0) d):=by
 obtain ⟨o,cH,dj,ho,hg,i,hv,rfl⟩:=g
 obtain ⟨y,z,rfl,l,m⟩:=q7 hv
 obtain ⟨fn,f1,f2,f3,f4,f5⟩:=c.ex
 refine rO ho fun w s φ _ hs p=>?_
 obtain ⟨v,e1,q,hw⟩:=FL p
 have e2:IntKind.u64.wrap (s.wg+4294967296)=((v+1:Nat):Int)*4294967296+((0:Nat):Int):=by
  rw[e1]
  unfold IntKind.wrap
  simp only[IntKind.bits,IntKind.signed,cW]
  simp
  omega
 have e3:s.wg+cW=((v+1:Nat):Int)*4294967296+((0:Nat):Int):=by rw[e1];simp only[cW];omega
 rw[e3] at hw
 exact ⟨_,_,_,{s with wg:=((v+1:Nat):Int)*4294967296+((0:Nat):Int)},1,d,fun b r cs hb=>by rw[<-e2];exact stepG_add_atomic ho (cx hg) hb.kind i f1 f2 f3 f4 .u64 f5 l m hs.wg.1 hs.wg.2,by rw[<-e2];exact hs.rM e _,.set _ ny,hw,rfl,Gk rfl,Int.le_refl _,h v q⟩
theorem Bg {y:Operand}{f0:FuncId}{dj:Array TypeId}{caps:Array Value}(e:iB ops j a (.go {callee:=.value y,args:=#[],argTypes:=dj}) none)(f:ev a y= .func (.func f0) #[] caps)(b:Frame)(c:List Item)(cs:List Frame)(hb:b.kind≠ .early)(w:World):
  stepG T.P true (G (b.at a (.inRegion ops (j::List.range' (j+1) n)::c)) cs) w= .spawn (G (b.at (a.put none undef) (.inRegion ops (List.range' (j+1) n)::c)) cs) (born T.P {target:=.fn (.func f0) caps,args:=#[]}) w #[]:=by
 obtain ⟨o,ho,hg,g,hd⟩:=e
 have e1:execOp a.eval o=(pure (.spawn {target:=.fn (.func f0) caps,args:=#[]}):Sem Next):=by
  unfold execOp
  have e0:(#[]:Array Value)++Array.map (ev a) #[]=#[]:=aB
  simp only[g,resolve,eJ,f,Deferred.ofValue,e0]
  rfl
 rw[stepG_spawn (P:=T.P) ho (cx hg) hb (d:={target:=.fn (.func f0) caps,args:=#[]}) (by rw[e1];rfl) rfl,hd]
 unfold listed
 rw[e1]
 rw[show ((pure (.spawn {target:=.fn (.func f0) caps,args:=#[]}):Sem Next)).events T.P w #[]=#[] from rfl,seen_none]
theorem Ic (e:k<x.n){y:Operand}{f0:FuncId}{dj:Array TypeId}{caps:Array Value}(f:iB ops j a (.go {callee:=.value y,args:=#[],argTypes:=dj}) none)(g:ev a y= .func (.func f0) #[] caps)
  (hW:dU (x.gy T) k ⟨.idle,.cnt,false,0⟩ (born T.P {target:=.fn (.func f0) caps,args:=#[]}) ⟨F.ro,[]⟩) (h:aE (GJ T Φ) fi ops (j+1) n Q (bt a none undef) F (.co x (.add (k+1) 0) 0)):aE (GJ T Φ) fi ops j (n+1) Q a F (.co x (.add k 1) 0):=fun b d cs hb i=>by
 rw[List.range'_succ,dc hb.round]
 have:=h b d cs hb i
 rw[dc hb.round] at this
 exact dY.spawn (c:=x.gy T) rfl rfl e fun w hw=>⟨_,_,Bg f g b d cs hb.kind w,hW,this⟩
theorem Ie {y:Operand}{f0:FuncId}{dj:Array TypeId}{caps:Array Value}(e:k=x.n)(f:iB ops j a (.go {callee:=.value y,args:=#[],argTypes:=dj}) none)(g:ev a y= .func (.func f0) #[] caps)
  (hW:dX (x.gy T) (.on (.opn 0) 0 false) (born T.P {target:=.fn (.func f0) caps,args:=#[]}) ⟨F.ro,[]⟩) (h:aE (GJ T Φ) fi ops (j+1) n Q (bt a none undef) F (.co x (.je []) 0)):aE (GJ T Φ) fi ops j (n+1) Q a F (.co x (.add k 0) 0):=fun b d cs hb i=>by
 subst e
 rw[List.range'_succ,dc hb.round]
 have:=h b d cs hb i
 rw[dc hb.round] at this
 exact dY.Hy (c:=x.gy T) rfl rfl fun w hw=>⟨_,_,Bg f g b d cs hb.kind w,hW,this⟩
theorem Ig {got:List Nat}{t:TypeId}{y:Operand}(h:iB ops j a (.recv t y true) dt)(k:ev a y= .chan (some x.C)){el:TypeId}{dir:ChanDir}(hu:T.P.underlying t=some (.chan dir el))(l:zeroOf T.P el=some T.z)
  (hv:∀(i:Nat) (v:Value) (R:gB) (aK:Addr->Option Value),i<x.n->i∉got->x.pay i=some R->R aK v->Ext F.ro aK->aE (GJ T Φ) fi ops (j+1) n Q (bt a dt (.tuple #[v,.bool true])) ⟨aK,F.own⟩ (.co x (.je (got++[i])) 0))
  (m:(∀i,i<x.n->(x.pay i).isSome=true->i∈got)->aE (GJ T Φ) fi ops (j+1) n Q (bt a dt (.tuple #[T.z,.bool false])) F .free):aE (GJ T Φ) fi ops j (n+1) Q a F (.co x (.je got) 0):=fun b d cs hb g=>by
 obtain ⟨o,ho,hg,p,rfl⟩:=h
 rw[List.range'_succ,dc hb.round]
 have e:∀u,Go.Conc.served (G (b.at a (.inRegion ops (j::List.range' (j+1) n)::d)) cs) u=G (on b (bt a o.dst u) (.inRegion ops (List.range' (j+1) n)::d)) cs:=fun u=>by
  rw[served_G,dc hb.round]
  simp[ho]
  rfl
 have e1:execOp a.eval o=(do
   let .chan _ e<-underlying t|stuck "receive: channel type expected"
   pure (.comm #[{chan:=.chan (some x.C),send:=none,zero:=<-zeroValue e}] true (.recv true)):Sem Next):=by
  unfold execOp
  simp only[p,eJ,k]
  rfl
 obtain ⟨inf,i1,i2⟩:=Option.bind_eq_some_iff.1 l
 have e2:∀w,(execOp a.eval o).run T.P w= .ok (.comm #[rcase x.C T.z] true (.recv true)) w:=fun w=>by
  rw[e1]
  simp[run_underlying hu,zeroValue,typeInfo,i1,i2,rcase]
 have e3:∀w,(execOp a.eval o).events T.P w #[]=#[]:=fun w=>by
  rw[e1]
  simp[run_underlying hu,zeroValue,typeInfo,i1,i2,rcase]
 refine dY.recv (c:=x.gy T) rfl rfl (fun w=>?_) (fun i v R aK f q r s A=>?_) fun f=>?_
 .rw[stepG_comm (cases:=#[rcase x.C T.z]) (blocking:=true) (shape:=.recv true) (w':=w) ho (cx hg) hb.kind (e2 w)]
  unfold listed
  rw[e3,seen_none]
 .rw[e];exact hv i v R aK f q r s A b d cs hb g
 .rw[e];exact m f b d cs hb g
theorem Ih {cd:Code}{Q:Ex->Act->ag->Y->Prop}{a:Act}{F:ag}(F1:ag)(Wg C n:Nat)(pay:Nat->Option gB)(c:∀i R ro aK v,pay i=some R->Ext ro aK->R ro v->R aK v)
  (hle:Le ⟨F1.ro,(Wg,wgBlock T.tW 0 0)::(C,.chan 0 #[] false 0 0 false)::F1.own⟩ F)
  (h:∀base T0 w1,0<base->Wg≠C->cM (GJ T Φ) fi cd Q a F1 (.co ⟨Wg,C,n,pay,c,base,T0,F1,w1⟩ (.add 0 0) 0)):cM (GJ T Φ) fi cd Q a F .free:=fun b k cs hb d=>
 g9.Hz c rfl rfl hle fun base T0 w1 e f=>h base T0 w1 e f b k cs hb d
theorem Ii (j:Entry T.P f (fun _=>do mark .enable;pure Extern.Race.none_)){b:Frame}{todo:List Item}{cs:List Frame}{e:List Deferred}(l:a.defers=dcall f #[]::e)
  (h:GJ T Φ (.co x (.add k m) d) (G {b.at ⟨a.tmps,e⟩ todo with mode:=.returning} cs) F):GJ T Φ (.co x (.add k m) (d+1)) (G {b.at a todo with mode:=.returning} cs) F:=by
 obtain ⟨fn,f1,f2,f3,f4,f5⟩:=j.ex
 refine dY.act (c:=x.gy T) rfl rfl fun w s φ e1 hs n=>⟨_,w,#[cn .enable],s,m,d,?_,hs,.refl _ _,n,rfl,Gj,.inr (Int.le_refl _),h⟩
 exact stepG_unwind_entry (v:=.tuple #[]) l f1 f2 f3 f4 f5 (by simp[Extern.Race.none_]) (by simp[cn]) (by
  intro y i
  simp[cn] at i
  subst i
  exact ⟨rfl,fun g h=>by cases h⟩)
def rP (f:FuncId)(R:Value->ag->Y->Prop):Ex->Act->ag->Y->Prop
 | .exit _,_,_,_=>False
 |_,a,F,z=>a.defers=[dcall f #[]]/\∃x k m d,z= .co x (.add k m) (d+1)/\R (.tuple #[]) F (.co x (.add k m) d)
theorem di.Ij {f0:FuncId}(p:Entry T.P f (fun _=>do mark .enable;pure Extern.Race.none_)){fn:Func}{cd:Code}{n:Nat}{args:Array Value}{R:Value->ag->Y->Prop}{F:ag}{z:Y}(l:T.P.funcs[f0]?=some fn)(hb:fn.body=some cd)(o:fn.results=#[])(hn:fn.ntmps=n)(u:args.size<=n)
  (h:∀A:Act,sz A=n->A.defers=[]->(∀i,slot A i=args.getD i undef)->cM (GJ T Φ) f0 cd (rP f R) A F z):di T.P (GJ T Φ) f0 args F z R:=by
 intro g cs hR
 let b:Frame:={(default:Frame) with fn:=f0,kind:=.normal}
 have q:b.roundOf=none:=rfl
 have r:Frame.enter T.P f0 args .normal=on b {tmps:=args++Array.replicate (fn.ntmps - args.size) undef,defers:=[]} [.code cd]:=by
  simp[Frame.enter,on,l,hb,b]
  rfl
 rw[r]
 have hM:=GJ.en T Φ
 have leave:∀(c:Act) (todo:List Item) F' (a:Y),(c.defers=[dcall f #[]]/\∃x k m d,a= .co x (.add k m) (d+1)/\R (.tuple #[]) F' (.co x (.add k m) d))->GJ T Φ a (G {on b c todo with mode:=.returning} (g::cs)) F':=by
  intro c todo F' a ⟨hd,x,k,m,d,s,t⟩
  subst s
  rw[dc q]
  refine Ii p hd ((hM _).move (fr':=g.finish (.tuple #[])) (cs':=cs) (fun w=>?_) (hR _ F' _ t))
  exact stepG_leave rfl rfl l (results_none o _ T.P w) (events_results_none o _ _)
 refine h _ (by simp[sz,hn];omega) rfl (fun i=>?_) b [] (g::cs) ⟨by simp[b],rfl,rfl⟩ fun e c F' a j=>?_
 .simp only[slot,hn,Array.getD_eq_getD_getElem?]
  rcases Nat.lt_or_ge i args.size with hi|hi
  .rw[Array.getElem?_append_left hi]
  .rw[Array.getElem?_append_right hi,Array.getElem?_replicate,Array.getElem?_eq_none hi]
   split<;>rfl
 .cases e with
  |normal=>exact (hM a).move (fun _=>jJ rfl) (leave c _ F' a j)
  |exit i=>exact j.elim
  |ret=>exact fun v=>(hM a).move (fun _=>stepG_ret' rfl) (leave c _ F' a j)
theorem fA.Ik {args:Array Value}{ro:Addr->Option Value}{R:Value->ag->Prop}(h:∀Φ,di T.P (GJ T Φ) f args ⟨ro,[]⟩ .free (fun v F' z=>z= .free/\R v F')):fA T.P f args ⟨ro,[]⟩ R:=
 fA.F3 fun Φ c cs hK=>h Φ c cs fun v F' z ⟨a,hR⟩=>by subst a;exact hK v F' hR
end
attribute [go_sem] rP
end Go.Sep
end
section
namespace Go.Proofs.YtcoalekambhghaaGreatDoor
open Go Go.Sep Go.Proofs Go.Conc
open Go.ConcN (upd upd_same)
open Go.ConcM (muA msA)
open Go.ConcR (stA smA)
set_option maxRecDepth 100000
set_option maxHeartbeats 4000000
attribute [local go_sem] Int.reduceBEq Int.reduceBNe muA msA stA smA
noncomputable abbrev TG:PG:=⟨Tryz.prog,160,.slice none 0 0⟩
section
variable {x:Yx}{i:Nat}{st:Bool}{F:ag}
theorem wN (w:World)(s:Sg)(cl:Cl)(h:cR (x.gy TG) w s cl):∃v,w.cell? ⟨x.Wg,0,none⟩=some v:=⟨_,h.wg.1⟩
theorem Bh (w:World)(s:Sg)(cl:Cl)(h:cR (x.gy TG) w s cl):∃v,w.cell? ⟨x.Wg,1,none⟩=some v:=⟨_,h.ws.1⟩
theorem Il (a:x.Wg≠x.C)(hn:x.n<67108864):
  di Tryz.prog (WG (x.gy TG) i) 148 #[.pointer (some (stA x.Wg)),.int .u64 18446744069414584320] F ⟨.idle,.rel,st,1⟩
   (fun r F' aY=>F'=F/\∃v t:Nat,v<=x.n/\t<=1/\r= .int .u64 ((v:Int)*4294967296+(t:Int))/\aY=⟨.idle,if v=0/\t=1 then .ld else .gone,st,1⟩):=by
 have hM:=WG.en (x.gy TG) i
 refine di.go (main:=false) hM Tryz.func148 rfl Tryz.ntmps148 aB fun A b hd hs=>?_
 have c:=hs 0
 have k1:=hs 1
 clear hs
 repeat apply bq (hM _)
 refine mR hM ?_
 refine aE.pure (hM _) 1 (n:=0) _ rfl rfl ?_;apply bw _
 refine aE.nil hM ?_;try simp only[go_sem]
 repeat apply bq (hM _)
 refine mR hM ?_
 refine aE.pure (hM _) 4 (n:=2) _ rfl rfl ?_;apply bw _
 refine HH Ah a hn ⟨_,_,_,rfl,(by first|rfl|simp only[*,go_sem]),rfl,by first|(simp only[*,go_sem];done)|(simp only[*,go_sem];rfl),rfl⟩ (by rfl) aB fun v t hv ht=>?_
 refine aE.pure (hM _) 1 (n:=0) _ rfl rfl ?_;apply bw _
 refine aE.nil hM ?_;try simp only[go_sem]
 refine gx ?_;try simp only[go_sem]
 exact (j9 rfl cY cY ⟨rfl,v,t,hv,ht,rfl,rfl⟩).2
theorem Im:
  di Tryz.prog (WG (x.gy TG) i) 150 #[.pointer (some (stA x.Wg))] F ⟨.idle,.ld,st,1⟩
   (fun r F' aY=>F'=F/\r= .int .u64 1/\aY=⟨.idle,.st,st,1⟩):=by
 have hM:=WG.en (x.gy TG) i
 refine di.go (main:=false) hM Tryz.func150 rfl Tryz.ntmps150 aB fun A a hd hs=>?_
 have b:=hs 0
 clear hs
 repeat apply bq (hM _)
 refine mR hM ?_
 refine aE.pure (hM _) 1 (n:=0) _ rfl rfl ?_;apply bw _
 refine aE.nil hM ?_;try simp only[go_sem]
 repeat apply bq (hM _)
 refine mR hM ?_
 refine aE.pure (hM _) 3 (n:=2) _ rfl rfl ?_;apply bw _
 refine HI vv ⟨_,_,_,rfl,(by first|rfl|simp only[*,go_sem]),rfl,by first|(simp only[*,go_sem];done)|(simp only[*,go_sem];rfl),rfl⟩ (by rfl) aB ?_
 refine aE.pure (hM _) 1 (n:=0) _ rfl rfl ?_;apply bw _
 refine aE.nil hM ?_;try simp only[go_sem]
 refine gx ?_;try simp only[go_sem]
 exact (j9 rfl cY cY ⟨rfl,rfl,rfl⟩).2
theorem Io (a:x.Wg≠x.C):
  di Tryz.prog (WG (x.gy TG) i) 151 #[.pointer (some (stA x.Wg)),.int .u64 0] F ⟨.idle,.st,st,1⟩
   (fun r F' aY=>F'=F/\r= .tuple #[]/\aY=⟨.idle,.sm,st,1⟩):=by
 have hM:=WG.en (x.gy TG) i
 refine di.go (main:=false) hM Tryz.func151 rfl Tryz.ntmps151 aB fun A b hd hs=>?_
 have c:=hs 0
 have k1:=hs 1
 clear hs
 repeat apply bq (hM _)
 refine mR hM ?_
 refine aE.pure (hM _) 4 (n:=1) _ rfl rfl ?_;apply bw _
 refine HJ F9 a ⟨_,_,_,rfl,(by first|rfl|simp only[*,go_sem]),rfl,by first|(simp only[*,go_sem];done)|(simp only[*,go_sem];rfl),rfl⟩ (by rfl) aB ?_
 refine aE.nil hM ?_;try simp only[go_sem]
 exact F4 rfl cY ⟨rfl,rfl,rfl⟩
end
attribute [local go_sem] Int.reduceBEq Int.reduceBNe muA msA stA smA
def Ip (Wg:Nat)(st:Bool)(F:ag)(m:Nat)(a:Act)(F':ag)(ph:Ph):Prop:=
 ∃t8:Int,F'=F/\slot a 0= .pointer (some ⟨Wg,0,none⟩)/\slot a 8= .int .u32 t8/\sz a=117/\a.defers=[dcall 143 #[]]/\((m=1/\t8=1/\ph=⟨.idle,.sm,st,1⟩)\/(m=0/\t8=0/\ph=⟨.idle,.gone,st,1⟩))
theorem Iq {f:FuncId}{R:Value->ag->Ph->Prop}{a:Act}{F:ag}{ph:Ph}{b:Nat}(hd:a.defers=[dcall f #[]])(hg:ph.gp= .gone)(h:ph.deaf=b+1)(hR:R (.tuple #[]) F {ph with deaf:=b}):jz f R .normal a F ph:=⟨hd,hg,b,h,hR⟩
theorem rQ {f:FuncId}{R:Value->ag->Ph->Prop}{a:Act}{F:ag}{ph:Ph}{b:Nat}(hd:a.defers=[dcall f #[]])(hg:ph.gp= .gone)(h:ph.deaf=b+1)(hR:R (.tuple #[]) F {ph with deaf:=b}):jz f R .ret a F ph:=⟨hd,hg,b,h,hR⟩
section
variable {x:Yx}{i:Nat}{st:Bool}{F:ag}
theorem Ir (d:x.Wg≠x.C)(hn:x.n<67108864)(o:(x.pay i).isSome=true->st=true):
  di Tryz.prog (WG (x.gy TG) i) 121 #[.pointer (some (stA x.Wg)),.int .i64 (-1)] F ⟨.idle,.cnt,st,0⟩
   (fun r F' aY=>r= .tuple #[]/\F'=F/\aY=⟨.idle,.gone,st,0⟩):=by
 have hM:=WG.en (x.gy TG) i
 refine di.HM q8 Tryz.func121 rfl rfl Tryz.ntmps121 aB fun A f hd hs=>?_
 have hJ:True:=trivial
 have p:=hs 0
 have k1:=hs 1
 clear hs
 have c1:decide ((-1:Int)<0)=true:=ay
 have c2:decide ((-1:Int)>0)=false:=ay
 repeat apply bq (hM _)
 refine eR (hM _) bB ?_
 repeat apply bq (hM _)
 refine bK hM fun K hK=>?_
 refine aE.pure (hM _) 2 (n:=0) _ rfl rfl ?_;simp only[*,go_sem,-hK,-hM]
 refine aE.nil hM (hK _ _ _ ?_);clear hK K
 repeat apply bq (hM _)
 refine eR (hM _) bB ?_
 repeat apply bq (hM _)
 refine bK hM fun K hK=>?_
 refine aE.pure (hM _) 1 (n:=2) _ rfl rfl ?_;simp only[*,go_sem,-hK,-hM]
 refine HG ⟨x.Wg,0,none⟩ vw o4 vz ⟨_,rfl,cS,rfl,rfl⟩ aB e7 wN ?_
 refine HF F7 ⟨_,_,_,rfl,cS,rfl,eT,rfl⟩ rfl rfl o ?_
 refine aE.nil hM (hK _ _ _ ?_);clear hK K
 repeat apply bq (hM _)
 refine bK hM fun K hK=>?_
 refine HE vu ⟨_,_,_,rfl,cS,rfl,eT,rfl⟩ aB aB ?_
 refine aE.nil hM (hK _ _ _ ?_);clear hK K
 repeat apply bq (hM _)
 refine bK hM fun K hK=>?_
 refine aE.defer (hM _) rfl cS rfl rfl (by simp;rfl) fun c e1 e2 e3=>?_
 have l0:slot c 0= .pointer (some ⟨x.Wg,0,none⟩):=(e1 0).trans bB
 have q:slot c 1= .int .i64 (-1):=(e1 1).trans bB
 replace f:sz c=117:=e2.trans bB
 replace hd:c.defers=[dcall 143 #[]]:=e3.trans bB
 clear e1 e2 e3 p k1
 refine aE.nil hM (hK _ _ _ ?_);clear hK K
 repeat apply bq (hM _)
 refine bK hM fun K hK=>?_
 refine aE.pure (hM _) 1 (n:=0) _ rfl rfl ?_;simp only[*,go_sem,-hK,-hM]
 refine aE.nil hM (hK _ _ _ ?_);clear hK K
 repeat apply bq (hM _)
 refine bK hM fun K hK=>?_
 refine aE.entry (.bool false) (hM _) Ai ⟨_,_,_,rfl,cS,rfl,eT,rfl⟩ ?_
 refine aE.nil hM (hK _ _ _ ?_);clear hK K
 repeat apply bq (hM _)
 refine dW (hM _) bB ?_
 apply dV (hM _)
 have w1:IntKind.u64.wrap (-1)=18446744073709551615:=ay
 have w2:IntKind.u64.wrap (18446744073709551615*2 ^ min 32 64)=18446744069414584320:=ay
 repeat apply bq (hM _)
 refine bK hM fun K hK=>?_
 refine aE.pure (hM _) 6 (n:=2) _ rfl rfl ?_;simp only[*,go_sem,-hK,-hM]
 refine aE.iZ (hM _) rfl cS rfl yw e7 (Il d hn) fun r F' aY hR=>?_
 obtain ⟨rfl,v,t,hv,ht,rfl,rfl⟩:=hR
 obtain ⟨y,b⟩:∃y:Int,y=(v:Int)*4294967296+(t:Int):=⟨_,rfl⟩
 rw[<-b]
 have a1:fq y 2147483648=0:=by show jD y 2147483648=0;rw[b];exact v5 v t ai ht
 have s:fq y 2147483647=(t:Int):=by show jD y 2147483647=(t:Int);rw[b];exact v7 v t ai ht
 have u:y.fdiv (2 ^ min 32 64)=(v:Int):=by rw[b];exact v8 v t ht
 have w:IntKind.i32.wrap (v:Int)=(v:Int):=vl ai ai
 have z:IntKind.u32.wrap (t:Int)=(t:Int):=by
  unfold IntKind.wrap
  simp[IntKind.bits,IntKind.signed]
  omega
 have g:v=0->t=1->((1:Int) != y)=false:=fun e B=>by rw[b,e,B];rfl
 clear b
 refine aE.pure (hM _) 1 (n:=0) _ rfl rfl ?_;simp only[*,go_sem,-hK,-hM]
 refine aE.nil hM (hK _ _ _ ?_);clear hK K
 repeat apply bq (hM _)
 refine bK hM fun K hK=>?_
 refine aE.pure (hM _) 7 (n:=0) _ rfl rfl ?_;simp only[*,go_sem,-hK,-hM]
 refine aE.nil hM (hK _ _ _ ?_);clear hK K
 repeat apply bq (hM _)
 refine dW (hM _) bB ?_
 apply dV (hM _)
 repeat apply bq (hM _)
 refine bK hM fun K hK=>?_
 refine aE.pure (hM _) 4 (n:=0) _ rfl rfl ?_;simp only[*,go_sem,-hK,-hM]
 refine aE.nil hM (hK _ _ _ ?_);clear hK K
 repeat apply bq (hM _)
 refine bK hM fun K hK=>?_
 refine aE.pure (hM _) 4 (n:=0) _ rfl rfl ?_;simp only[*,go_sem,-hK,-hM]
 refine aE.nil hM (hK _ _ _ ?_);clear hK K
 repeat apply bq (hM _)
 refine bK hM fun K hK=>?_
 refine aE.pure (hM _) 10 (n:=0) _ rfl rfl ?_;simp only[*,go_sem,-hK,-hM]
 refine aE.nil hM (hK _ _ _ ?_);clear hK K
 repeat apply bq (hM _)
 refine dW (hM _) bB ?_
 apply dV (hM _)
 have c3:decide ((v:Int)<0)=false:=aB
 repeat apply bq (hM _)
 refine bK hM fun K hK=>?_
 refine aE.pure (hM _) 2 (n:=0) _ rfl rfl ?_;simp only[*,go_sem,-hK,-hM]
 refine aE.nil hM (hK _ _ _ ?_);clear hK K
 repeat apply bq (hM _)
 refine dW (hM _) bB ?_
 apply dV (hM _)
 have k:t=0\/t=1:=ai
 by_cases hC:v=0/\t=1
 ·
  obtain ⟨rfl,rfl⟩:=hC
  have D:((1:Int) != y)=false:=g rfl rfl
  have hg:(if (0:Nat)=0/\(1:Nat)=1 then Gp.ld else Gp.gone)= .ld:=rfl
  rw[hg]
  have E:((1:Nat):Int)=1:=rfl
  clear hg g k hv ht
  repeat apply bq (hM _)
  refine bK hM fun K hK=>?_
  refine aE.pure (hM _) 12 (n:=0) _ rfl rfl ?_;simp only[*,go_sem,-hK,-hM]
  refine aE.nil hM (hK _ _ _ ?_);clear hK K
  repeat apply bq (hM _)
  refine dW (hM _) bB ?_
  apply dV (hM _)
  repeat apply bq (hM _)
  refine bK hM fun K hK=>?_
  refine aE.pure (hM _) 6 (n:=0) _ rfl rfl ?_;simp only[*,go_sem,-hK,-hM]
  refine aE.nil hM (hK _ _ _ ?_);clear hK K
  repeat apply bq (hM _)
  refine dW (hM _) bB ?_
  apply dV (hM _)
  repeat apply bq (hM _)
  refine bK hM fun K hK=>?_
  refine aE.pure (hM _) 3 (n:=3) _ rfl rfl ?_;simp only[*,go_sem,-hK,-hM]
  refine aE.iZ (hM _) rfl cS rfl tj e7 Im fun r F' aY hR=>?_
  obtain ⟨rfl,rfl,rfl⟩:=hR
  refine aE.pure (hM _) 2 (n:=0) _ rfl rfl ?_;simp only[*,go_sem,-hK,-hM]
  refine aE.nil hM (hK _ _ _ ?_);clear hK K
  repeat apply bq (hM _)
  refine dW (hM _) bB ?_
  apply dV (hM _)
  repeat apply bq (hM _)
  refine bK hM fun K hK=>?_
  refine aE.pure (hM _) 3 (n:=1) _ rfl rfl ?_;simp only[*,go_sem,-hK,-hM]
  refine aE.iZ (hM _) rfl cS rfl C1 e7 (Io d) fun r F' aY hR=>?_
  obtain ⟨rfl,rfl,rfl⟩:=hR
  refine aE.nil hM (hK _ _ _ ?_);clear hK K
  repeat apply bq (hM _)
  refine bK hM fun K hK=>?_
  refine aE.pure (hM _) 1 (n:=0) _ rfl rfl ?_;simp only[*,go_sem,-hK,-hM]
  refine aE.nil hM (hK _ _ _ ?_);clear hK K
  repeat apply bq (hM _)
  refine dW (hM _) bB ?_
  apply dV (hM _)
  repeat apply bq (hM _)
  refine j8 hM ?_
  refine q6 hM (Ip x.Wg (st) F') 1 ?_ ?_
  .exact ⟨1,rfl,bB,bB,bB,bB,.inl ⟨rfl,rfl,rfl⟩⟩
  .clear l0 q f hd c1 c2 c3 D a1 s u w z w1 w2 E
   rintro m A G I ⟨t8,rfl,l0,J,f,hd,⟨rfl,rfl,rfl⟩|⟨rfl,rfl,rfl⟩⟩
   .have H:((1:Int) != 0)=true:=rfl
    have w3:IntKind.u32.wrap (1 - 1)=0:=ay
    repeat apply bq (hM _)
    refine bK hM fun K hK=>?_
    refine aE.pure (hM _) 2 (n:=0) _ rfl rfl ?_;simp only[*,go_sem,-hK,-hM]
    refine aE.nil hM (hK _ _ _ ?_);clear hK K
    repeat apply bq (hM _)
    refine eR (hM _) bB ?_
    apply dV (hM _)
    repeat apply bq (hM _)
    refine j8 hM ?_
    repeat apply bq (hM _)
    refine bK hM fun K hK=>?_
    refine aE.pure (hM _) 3 (n:=1) _ rfl rfl ?_;simp only[*,go_sem,-hK,-hM]
    refine HK (.bool false) (.int .i64 0) Gd d ⟨_,_,_,rfl,cS,rfl,eT,rfl⟩ (by rfl) ?_
    refine aE.nil hM (hK _ _ _ ?_);clear hK K
    repeat apply bq (hM _)
    refine bK hM fun K hK=>?_
    refine aE.pure (hM _) 3 (n:=0) _ rfl rfl ?_;simp only[*,go_sem,-hK,-hM]
    refine aE.nil hM (hK _ _ _ ?_);clear hK K
    exact ⟨0,ai,0,rfl,bB,bB,bB,bB,.inr ⟨rfl,rfl,rfl⟩⟩
   .have H:((0:Int) != 0)=false:=rfl
    repeat apply bq (hM _)
    refine bK hM fun K hK=>?_
    refine aE.pure (hM _) 2 (n:=0) _ rfl rfl ?_;simp only[*,go_sem,-hK,-hM]
    refine aE.nil hM (hK _ _ _ ?_);clear hK K
    repeat apply bq (hM _)
    refine dW (hM _) bB ?_
    exact vo (show jz 143 (fun r a aY=>r= .tuple #[]/\a=G/\aY=⟨.idle,.gone,st,0⟩) .normal _ _ _ from Iq bB rfl rfl ⟨rfl,rfl,rfl⟩)
 ·
  rw[if_neg hC]
  have l:(0<v/\decide ((v:Int)>0)=true)\/(v=0/\decide ((v:Int)>0)=false/\((t:Int)==0)=true):=by
   rcases Nat.eq_zero_or_pos v with e|e
   .refine .inr ⟨e,by simp[e],?_⟩
    obtain rfl:t=0:=ai
    rfl
   .exact .inl ⟨e,by simp;omega⟩
  have h:((t:Int) != 0)=false\/((t:Int) != 0)=true:=by cases ((t:Int) != 0)<;>simp
  clear g hC hv ht k
  rcases h with h|h
  .repeat apply bq (hM _)
   refine bK hM fun K hK=>?_
   refine aE.pure (hM _) 12 (n:=0) _ rfl rfl ?_;simp only[*,go_sem,-hK,-hM]
   refine aE.nil hM (hK _ _ _ ?_);clear hK K
   repeat apply bq (hM _)
   refine dW (hM _) bB ?_
   apply dV (hM _)
   rcases l with ⟨_,j⟩|⟨_,j,b2⟩
   .repeat apply bq (hM _)
    refine bK hM fun K hK=>?_
    refine aE.pure (hM _) 6 (n:=0) _ rfl rfl ?_;simp only[*,go_sem,-hK,-hM]
    refine aE.nil hM (hK _ _ _ ?_);clear hK K
    repeat apply bq (hM _)
    refine eR (hM _) bB ?_
    exact gx (show jz 143 (fun r a aY=>r= .tuple #[]/\a=F'/\aY=⟨.idle,.gone,st,0⟩) .ret _ _ _ from rQ bB rfl rfl ⟨rfl,rfl,rfl⟩)
   .repeat apply bq (hM _)
    refine bK hM fun K hK=>?_
    refine aE.pure (hM _) 6 (n:=0) _ rfl rfl ?_;simp only[*,go_sem,-hK,-hM]
    refine aE.nil hM (hK _ _ _ ?_);clear hK K
    repeat apply bq (hM _)
    refine eR (hM _) bB ?_
    exact gx (show jz 143 (fun r a aY=>r= .tuple #[]/\a=F'/\aY=⟨.idle,.gone,st,0⟩) .ret _ _ _ from rQ bB rfl rfl ⟨rfl,rfl,rfl⟩)
  .repeat apply bq (hM _)
   refine bK hM fun K hK=>?_
   refine aE.pure (hM _) 12 (n:=0) _ rfl rfl ?_;simp only[*,go_sem,-hK,-hM]
   refine aE.nil hM (hK _ _ _ ?_);clear hK K
   repeat apply bq (hM _)
   refine dW (hM _) bB ?_
   apply dV (hM _)
   rcases l with ⟨_,j⟩|⟨_,j,b2⟩
   .repeat apply bq (hM _)
    refine bK hM fun K hK=>?_
    refine aE.pure (hM _) 6 (n:=0) _ rfl rfl ?_;simp only[*,go_sem,-hK,-hM]
    refine aE.nil hM (hK _ _ _ ?_);clear hK K
    repeat apply bq (hM _)
    refine eR (hM _) bB ?_
    exact gx (show jz 143 (fun r a aY=>r= .tuple #[]/\a=F'/\aY=⟨.idle,.gone,st,0⟩) .ret _ _ _ from rQ bB rfl rfl ⟨rfl,rfl,rfl⟩)
   .repeat apply bq (hM _)
    refine bK hM fun K hK=>?_
    refine aE.pure (hM _) 6 (n:=0) _ rfl rfl ?_;simp only[*,go_sem,-hK,-hM]
    refine aE.nil hM (hK _ _ _ ?_);clear hK K
    repeat apply bq (hM _)
    refine eR (hM _) bB ?_
    exact gx (show jz 143 (fun r a aY=>r= .tuple #[]/\a=F'/\aY=⟨.idle,.gone,st,0⟩) .ret _ _ _ from rQ bB rfl rfl ⟨rfl,rfl,rfl⟩)
end
attribute [local go_sem] Int.reduceBEq Int.reduceBNe muA msA stA smA
def Bi (x:Yx)(F:ag)(m:Nat)(a:Act)(F':ag)(z:Cl):Prop:=
 ∃u:Nat,u<=m/\u<=x.n/\F'=F/\slot a 0= .pointer (some ⟨x.Wg,0,none⟩)/\sz a=84/\a.defers=[]/\z= .on (.look u) 1 false
section
variable {x:Yx}{F:ag}
theorem It {u:Nat}:
  di Tryz.prog (CK (x.gy TG)) 150 #[.pointer (some (stA x.Wg))] F (.on (.look u) 1 false)
   (fun r F' a=>F'=F/\∃v:Nat,v<=u/\r= .int .u64 ((v:Int)*4294967296+((0:Nat):Int))/\a= .on (if v=0 then .cQ else .look v) 1 false):=by
 have hM:=CK.en (x.gy TG)
 have hJ:True:=trivial
 refine di.go (main:=false) hM Tryz.func150 rfl Tryz.ntmps150 aB fun A b hd hs=>?_
 have c:=hs 0
 clear hs
 repeat apply bq (hM _)
 refine bK hM fun K hK=>?_
 refine aE.pure (hM _) 1 (n:=0) _ rfl rfl ?_;simp only[*,go_sem,-hK,-hM]
 refine aE.nil hM (hK _ _ _ ?_);clear hK K
 repeat apply bq (hM _)
 refine bK hM fun K hK=>?_
 refine aE.pure (hM _) 3 (n:=2) _ rfl rfl ?_;simp only[*,go_sem,-hK,-hM]
 refine HW vv ⟨_,_,_,rfl,cS,rfl,eT,rfl⟩ fun v hv=>?_
 refine aE.pure (hM _) 1 (n:=0) _ rfl rfl ?_;simp only[*,go_sem,-hK,-hM]
 refine aE.nil hM (hK _ _ _ ?_);clear hK K
 exact gx (j9 rfl bB bB ⟨rfl,v,hv,rfl,rfl⟩).2
theorem Iu:
  di Tryz.prog (CK (x.gy TG)) 150 #[.pointer (some (stA x.Wg))] F (.on .cQ 1 false)
   (fun r F' a=>F'=F/\r= .int .u64 0/\a= .on .cQ 1 false):=by
 have hM:=CK.en (x.gy TG)
 have hJ:True:=trivial
 refine di.go (main:=false) hM Tryz.func150 rfl Tryz.ntmps150 aB fun A b hd hs=>?_
 have c:=hs 0
 clear hs
 repeat apply bq (hM _)
 refine bK hM fun K hK=>?_
 refine aE.pure (hM _) 1 (n:=0) _ rfl rfl ?_;simp only[*,go_sem,-hK,-hM]
 refine aE.nil hM (hK _ _ _ ?_);clear hK K
 repeat apply bq (hM _)
 refine bK hM fun K hK=>?_
 refine aE.pure (hM _) 3 (n:=2) _ rfl rfl ?_;simp only[*,go_sem,-hK,-hM]
 refine HX vv ⟨_,_,_,rfl,cS,rfl,eT,rfl⟩ ?_
 refine aE.pure (hM _) 1 (n:=0) _ rfl rfl ?_;simp only[*,go_sem,-hK,-hM]
 refine aE.nil hM (hK _ _ _ ?_);clear hK K
 exact gx (j9 rfl bB bB ⟨rfl,rfl,rfl⟩).2
theorem Iv (b:x.Wg≠x.C){v:Nat}(hv:0<v):
  di Tryz.prog (CK (x.gy TG)) 156 #[.pointer (some (stA x.Wg)),.int .u64 ((v:Int)*4294967296+((0:Nat):Int)),.int .u64 ((v:Int)*4294967296+((0:Nat):Int)+1)] F (.on (.look v) 1 false)
   (fun r F' a=>F'=F/\((r= .bool true/\a= .on .reg 1 false)\/(r= .bool false/\a= .on (.look (v - 1)) 1 false))):=by
 have hM:=CK.en (x.gy TG)
 have hJ:True:=trivial
 refine di.go (main:=false) hM Tryz.func156 rfl Tryz.ntmps156 aB fun A c hd hs=>?_
 have d:=hs 0
 have k1:=hs 1
 have e:=hs 2
 clear hs
 repeat apply bq (hM _)
 refine bK hM fun K hK=>?_
 refine aE.pure (hM _) 1 (n:=0) _ rfl rfl ?_;simp only[*,go_sem,-hK,-hM]
 refine aE.nil hM (hK _ _ _ ?_);clear hK K
 repeat apply bq (hM _)
 refine bK hM fun K hK=>?_
 refine aE.pure (hM _) 5 (n:=2) _ rfl rfl ?_;simp only[*,go_sem,-hK,-hM]
 refine HY F8 b hv ⟨_,_,_,rfl,cS,rfl,eT,rfl⟩ ?_ ?_
 .refine aE.pure (hM _) 1 (n:=0) _ rfl rfl ?_;simp only[*,go_sem,-hK,-hM]
  refine aE.nil hM (hK _ _ _ ?_);clear hK K
  exact gx (j9 rfl bB bB ⟨rfl,.inl ⟨rfl,rfl⟩⟩).2
 .refine aE.pure (hM _) 1 (n:=0) _ rfl rfl ?_;simp only[*,go_sem,-hK,-hM]
  refine aE.nil hM (hK _ _ _ ?_);clear hK K
  exact gx (j9 rfl bB bB ⟨rfl,.inr ⟨rfl,rfl⟩⟩).2
theorem Iw (g:x.Wg≠x.C)(hn:x.n<67108864):
  di Tryz.prog (CK (x.gy TG)) 126 #[.pointer (some (stA x.Wg))] F (.on (.opn 0) 0 false)
   (fun r F' b=>r= .tuple #[]/\F'=F/\b= .on .cQ 0 true):=by
 have hM:=CK.en (x.gy TG)
 have hJ:True:=trivial
 refine di.go (main:=false) hM Tryz.func126 rfl Tryz.ntmps126 aB fun A i hd hs=>?_
 have j:=hs 0
 clear hs
 repeat apply bq (hM _)
 refine eR (hM _) bB ?_
 repeat apply bq (hM _)
 refine bK hM fun K hK=>?_
 refine HU vu ⟨_,_,_,rfl,cS,rfl,eT,rfl⟩ (.look x.n) (fun _ _ _ h=>FN h) ?_
 refine aE.nil hM (hK _ _ _ ?_);clear hK K
 repeat apply bq (hM _)
 refine j8 hM ?_
 refine q6 hM (Bi x F) x.n ?_ ?_
 .exact ⟨x.n,Nat.le_refl _,Nat.le_refl _,rfl,bB,bB,bB,rfl⟩
 .clear i hd j
  rintro m A F' b ⟨u,q,s,rfl,j,i,hd,rfl⟩
  repeat apply bq (hM _)
  refine j8 hM ?_
  repeat apply bq (hM _)
  refine bK hM fun K hK=>?_
  refine aE.pure (hM _) 3 (n:=2) _ rfl rfl ?_;simp only[*,go_sem,-hK,-hM]
  refine aE.iZ (hM _) rfl cS rfl tj e7 It fun r k t hR=>?_
  obtain ⟨rfl,v,hv,rfl,rfl⟩:=hR
  obtain ⟨y,a⟩:∃y:Int,y=(v:Int)*4294967296+((0:Nat):Int):=⟨_,rfl⟩
  rw[<-a]
  have a1:fq y 2147483648=0:=by show jD y 2147483648=0;rw[a];exact v5 v 0 ai ai
  have w:fq y 2147483647=0:=by show jD y 2147483647=0;rw[a];exact v7 v 0 ai ai
  obtain ⟨V,d⟩:∃V:Int,V=(v:Int):=⟨_,rfl⟩
  have z:y.fdiv (2 ^ min 32 64)=V:=by rw[a,d];exact v8 v 0 ai
  have B:IntKind.i32.wrap V=V:=vl ai ai
  have D:IntKind.u32.wrap 0=0:=ay
  have E:IntKind.u64.wrap (y+1)=y+1:=by
   unfold IntKind.wrap
   simp only[IntKind.bits,IntKind.signed]
   simp
   omega
  by_cases e:v=0
  ·
   have c1:(V==0)=true:=by rw[d,e];rfl
   have c:(if v=0 then P0.cQ else .look v)= .cQ:=if_pos e
   rw[c]
   clear c a d hv e
   refine aE.pure (hM _) 1 (n:=0) _ rfl rfl ?_;simp only[*,go_sem,-hK,-hM]
   refine aE.nil hM (hK _ _ _ ?_);clear hK K
   repeat apply bq (hM _)
   refine bK hM fun K hK=>?_
   refine aE.pure (hM _) 4 (n:=0) _ rfl rfl ?_;simp only[*,go_sem,-hK,-hM]
   refine aE.nil hM (hK _ _ _ ?_);clear hK K
   repeat apply bq (hM _)
   refine bK hM fun K hK=>?_
   refine aE.pure (hM _) 4 (n:=0) _ rfl rfl ?_;simp only[*,go_sem,-hK,-hM]
   refine aE.nil hM (hK _ _ _ ?_);clear hK K
   repeat apply bq (hM _)
   refine bK hM fun K hK=>?_
   refine aE.pure (hM _) 2 (n:=0) _ rfl rfl ?_;simp only[*,go_sem,-hK,-hM]
   refine aE.nil hM (hK _ _ _ ?_);clear hK K
   repeat apply bq (hM _)
   refine eR (hM _) bB ?_
   repeat apply bq (hM _)
   refine eR (hM _) bB ?_
   repeat apply bq (hM _)
   refine bK hM fun K hK=>?_
   refine Be q8 ⟨_,_,_,rfl,cS,rfl,eT,rfl⟩ ?_
   refine aE.nil hM (hK _ _ _ ?_);clear hK K
   repeat apply bq (hM _)
   refine bK hM fun K hK=>?_
   refine aE.pure (hM _) 1 (n:=2) _ rfl rfl ?_;simp only[*,go_sem,-hK,-hM]
   refine wL ⟨x.Wg,0,none⟩ vw o4 vz ⟨_,rfl,cS,rfl,rfl⟩ e7 wN ?_
   refine Bf Ag ⟨_,_,_,rfl,cS,rfl,eT,rfl⟩ ?_
   refine aE.nil hM (hK _ _ _ ?_);clear hK K
   repeat apply bq (hM _)
   refine bK hM fun K hK=>?_
   refine aE.pure (hM _) 11 (n:=0) _ rfl rfl ?_;simp only[*,go_sem,-hK,-hM]
   refine aE.nil hM (hK _ _ _ ?_);clear hK K
   repeat apply bq (hM _)
   refine dW (hM _) bB ?_
   apply dV (hM _)
   exact gx (show iY Tryz.prog Tryz.f126 (fun (r:Value) (F':ag) (b:Cl)=>r= .tuple #[]/\F'=k/\b= .on .cQ 0 true) .ret _ _ _ from Ad rfl bB ⟨rfl,rfl,rfl⟩)
  .have c1:(V==0)=false:=by simp;omega
   have c:(if v=0 then P0.cQ else .look v)= .look v:=if_neg e
   rw[c]
   have f:=Iv (F:=k) g (v:=v) ai
   rw[<-a] at f
   clear c a d
   refine aE.pure (hM _) 1 (n:=0) _ rfl rfl ?_;simp only[*,go_sem,-hK,-hM]
   refine aE.nil hM (hK _ _ _ ?_);clear hK K
   repeat apply bq (hM _)
   refine bK hM fun K hK=>?_
   refine aE.pure (hM _) 4 (n:=0) _ rfl rfl ?_;simp only[*,go_sem,-hK,-hM]
   refine aE.nil hM (hK _ _ _ ?_);clear hK K
   repeat apply bq (hM _)
   refine bK hM fun K hK=>?_
   refine aE.pure (hM _) 4 (n:=0) _ rfl rfl ?_;simp only[*,go_sem,-hK,-hM]
   refine aE.nil hM (hK _ _ _ ?_);clear hK K
   repeat apply bq (hM _)
   refine bK hM fun K hK=>?_
   refine aE.pure (hM _) 2 (n:=0) _ rfl rfl ?_;simp only[*,go_sem,-hK,-hM]
   refine aE.nil hM (hK _ _ _ ?_);clear hK K
   repeat apply bq (hM _)
   refine dW (hM _) bB ?_
   apply dV (hM _)
   repeat apply bq (hM _)
   refine bK hM fun K hK=>?_
   refine aE.pure (hM _) 6 (n:=1) _ rfl rfl ?_;simp only[*,go_sem,-hK,-hM]
   refine aE.iZ (hM _) rfl cS rfl C2 e7 f fun r o G hR=>?_
   clear f
   obtain ⟨rfl,⟨rfl,rfl⟩|⟨rfl,rfl⟩⟩:=hR
   ·
    refine aE.nil hM (hK _ _ _ ?_);clear hK K
    repeat apply bq (hM _)
    refine eR (hM _) bB ?_
    repeat apply bq (hM _)
    refine bK hM fun K hK=>?_
    refine aE.pure (hM _) 4 (n:=0) _ rfl rfl ?_;simp only[*,go_sem,-hK,-hM]
    refine aE.nil hM (hK _ _ _ ?_);clear hK K
    repeat apply bq (hM _)
    refine eR (hM _) bB ?_
    repeat apply bq (hM _)
    refine bK hM fun K hK=>?_
    refine aE.pure (hM _) 3 (n:=2) _ rfl rfl ?_;simp only[*,go_sem,-hK,-hM]
    refine wL ⟨x.Wg,1,none⟩ Aj o4 Ak ⟨_,rfl,cS,rfl,rfl⟩ e7 Bh ?_
    refine HV Gb ⟨_,_,_,rfl,cS,rfl,eT,rfl⟩ ?_
    refine aE.nil hM (hK _ _ _ ?_);clear hK K
    repeat apply bq (hM _)
    refine bK hM fun K hK=>?_
    refine aE.pure (hM _) 1 (n:=0) _ rfl rfl ?_;simp only[*,go_sem,-hK,-hM]
    refine aE.nil hM (hK _ _ _ ?_);clear hK K
    repeat apply bq (hM _)
    refine bK hM fun K hK=>?_
    refine aE.pure (hM _) 6 (n:=0) _ rfl rfl ?_;simp only[*,go_sem,-hK,-hM]
    refine aE.nil hM (hK _ _ _ ?_);clear hK K
    repeat apply bq (hM _)
    refine dW (hM _) bB ?_
    apply dV (hM _)
    repeat apply bq (hM _)
    refine bK hM fun K hK=>?_
    refine aE.pure (hM _) 4 (n:=1) _ rfl rfl ?_;simp only[*,go_sem,-hK,-hM]
    refine HZ (.bool false) Gc g ⟨_,_,_,rfl,cS,rfl,eT,rfl⟩ ?_
    refine aE.nil hM (hK _ _ _ ?_);clear hK K
    repeat apply bq (hM _)
    refine bK hM fun K hK=>?_
    refine aE.pure (hM _) 3 (n:=3) _ rfl rfl ?_;simp only[*,go_sem,-hK,-hM]
    refine aE.iZ (hM _) rfl cS rfl tj e7 Iu fun r p H hR=>?_
    obtain ⟨rfl,rfl,rfl⟩:=hR
    refine aE.pure (hM _) 2 (n:=0) _ rfl rfl ?_;simp only[*,go_sem,-hK,-hM]
    refine aE.nil hM (hK _ _ _ ?_);clear hK K
    repeat apply bq (hM _)
    refine eR (hM _) bB ?_
    repeat apply bq (hM _)
    refine bK hM fun K hK=>?_
    refine Be q8 ⟨_,_,_,rfl,cS,rfl,eT,rfl⟩ ?_
    refine aE.nil hM (hK _ _ _ ?_);clear hK K
    repeat apply bq (hM _)
    refine bK hM fun K hK=>?_
    refine aE.pure (hM _) 1 (n:=2) _ rfl rfl ?_;simp only[*,go_sem,-hK,-hM]
    refine wL ⟨x.Wg,0,none⟩ vw o4 vz ⟨_,rfl,cS,rfl,rfl⟩ e7 wN ?_
    refine Bf Ag ⟨_,_,_,rfl,cS,rfl,eT,rfl⟩ ?_
    refine aE.nil hM (hK _ _ _ ?_);clear hK K
    repeat apply bq (hM _)
    refine bK hM fun K hK=>?_
    refine aE.pure (hM _) 1 (n:=0) _ rfl rfl ?_;simp only[*,go_sem,-hK,-hM]
    refine aE.nil hM (hK _ _ _ ?_);clear hK K
    repeat apply bq (hM _)
    refine dW (hM _) bB ?_
    apply dV (hM _)
    exact gx (show iY Tryz.prog Tryz.f126 (fun (r:Value) (F':ag) (b:Cl)=>r= .tuple #[]/\F'=p/\b= .on .cQ 0 true) .ret _ _ _ from Ad rfl bB ⟨rfl,rfl,rfl⟩)
   ·
    refine aE.nil hM (hK _ _ _ ?_);clear hK K
    repeat apply bq (hM _)
    refine dW (hM _) bB ?_
    apply dV (hM _)
    change ∃l,l<m/\Bi x o l _ _ _
    exact ⟨v - 1,ai,v - 1,Nat.le_refl _,ai,rfl,bB,bB,bB,rfl⟩
end
attribute [local go_sem] Int.reduceBEq Int.reduceBNe muA msA stA smA
theorem Ix {f:FuncId}{R:Value->ag->Y->Prop}{a:Act}{F:ag}{x:Yx}{k m d:Nat}(hd:a.defers=[dcall f #[]])(hR:R (.tuple #[]) F (.co x (.add k m) d)):rP f R .ret a F (.co x (.add k m) (d+1)):=⟨hd,x,k,m,d,rfl,hR⟩
def Iy (F:ag)(z:Y)(v:Int)(a:Act)(F':ag)(b:Y):Prop:=
 F'=F/\slot a 1= .int .i64 1/\slot a 7= .int .i32 v/\slot a 8= .int .u32 0/\sz a=117/\a.defers=[dcall 143 #[]]/\b=z
section
variable {Φ:Goroutine->ag->Prop}{x:Yx}{F:ag}{k:Nat}
theorem Iz (a:x.Wg≠x.C)(hn:x.n<67108864):
  di Tryz.prog (GJ TG Φ) 148 #[.pointer (some (stA x.Wg)),.int .u64 4294967296] F (.co x (.add k 0) 1)
   (fun r F' b=>F'=F/\∃v:Nat,v<=x.n/\r= .int .u64 (((v+1:Nat):Int)*4294967296+((0:Nat):Int))/\b= .co x (.add k 1) 1):=by
 have hM:=GJ.en TG Φ
 have hJ:True:=trivial
 refine di.go (main:=true) hM Tryz.func148 rfl Tryz.ntmps148 aB fun A c hd hs=>?_
 have d:=hs 0
 have k1:=hs 1
 clear hs
 repeat apply bq (hM _)
 refine bK hM fun K hK=>?_
 refine aE.pure (hM _) 1 (n:=0) _ rfl rfl ?_;simp only[*,go_sem,-hK,-hM]
 refine aE.nil hM (hK _ _ _ ?_);clear hK K
 repeat apply bq (hM _)
 refine bK hM fun K hK=>?_
 refine aE.pure (hM _) 4 (n:=2) _ rfl rfl ?_;simp only[*,go_sem,-hK,-hM]
 refine Ib Ah a hn ⟨_,_,_,rfl,cS,rfl,eT,rfl⟩ fun v hv=>?_
 refine aE.pure (hM _) 1 (n:=0) _ rfl rfl ?_;simp only[*,go_sem,-hK,-hM]
 refine aE.nil hM (hK _ _ _ ?_);clear hK K
 exact gx (j9 rfl bB bB ⟨rfl,v,hv,rfl,rfl⟩).2
theorem IA (h:x.Wg≠x.C)(hn:x.n<67108864):
  di Tryz.prog (GJ TG Φ) 121 #[.pointer (some (stA x.Wg)),.int .i64 1] F (.co x (.add k 0) 0)
   (fun r F' d=>r= .tuple #[]/\F'=F/\d= .co x (.add k 1) 0):=by
 have hM:=GJ.en TG Φ
 have hJ:True:=trivial
 refine di.Ij q8 Tryz.func121 rfl rfl Tryz.ntmps121 aB fun A e hd hs=>?_
 have i:=hs 0
 have k1:=hs 1
 clear hs
 have c1:decide ((1:Int)<0)=false:=ay
 have c2:decide ((1:Int)>0)=true:=ay
 repeat apply bq (hM _)
 refine eR (hM _) bB ?_
 repeat apply bq (hM _)
 refine bK hM fun K hK=>?_
 refine aE.pure (hM _) 2 (n:=0) _ rfl rfl ?_;simp only[*,go_sem,-hK,-hM]
 refine aE.nil hM (hK _ _ _ ?_);clear hK K
 repeat apply bq (hM _)
 refine dW (hM _) bB ?_
 apply dV (hM _)
 repeat apply bq (hM _)
 refine bK hM fun K hK=>?_
 refine H8 vu ⟨_,_,_,rfl,cS,rfl,eT,rfl⟩ ?_
 refine aE.nil hM (hK _ _ _ ?_);clear hK K
 repeat apply bq (hM _)
 refine bK hM fun K hK=>?_
 refine aE.defer (hM _) rfl cS rfl rfl (by simp;rfl) fun b e1 e2 e3=>?_
 have l0:slot b 0= .pointer (some ⟨x.Wg,0,none⟩):=(e1 0).trans bB
 have f:slot b 1= .int .i64 1:=(e1 1).trans bB
 replace e:sz b=117:=e2.trans bB
 replace hd:b.defers=[dcall 143 #[]]:=e3.trans bB
 clear e1 e2 e3 i k1
 refine aE.nil hM (hK _ _ _ ?_);clear hK K
 repeat apply bq (hM _)
 refine bK hM fun K hK=>?_
 refine aE.pure (hM _) 1 (n:=0) _ rfl rfl ?_;simp only[*,go_sem,-hK,-hM]
 refine aE.nil hM (hK _ _ _ ?_);clear hK K
 repeat apply bq (hM _)
 refine bK hM fun K hK=>?_
 refine aE.entry (.bool false) (hM _) Ai ⟨_,_,_,rfl,cS,rfl,eT,rfl⟩ ?_
 refine aE.nil hM (hK _ _ _ ?_);clear hK K
 repeat apply bq (hM _)
 refine dW (hM _) bB ?_
 apply dV (hM _)
 have w1:IntKind.u64.wrap 1=1:=ay
 have w2:IntKind.u64.wrap (1*2 ^ min 32 64)=4294967296:=ay
 repeat apply bq (hM _)
 refine bK hM fun K hK=>?_
 refine aE.pure (hM _) 6 (n:=2) _ rfl rfl ?_;simp only[*,go_sem,-hK,-hM]
 refine aE.iZ (hM _) rfl cS rfl yw e7 (Iz h hn) fun r F' aY hR=>?_
 obtain ⟨rfl,v,hv,rfl,rfl⟩:=hR
 obtain ⟨y,a⟩:∃y:Int,y=((v+1:Nat):Int)*4294967296+((0:Nat):Int):=⟨_,rfl⟩
 rw[<-a]
 have a1:fq y 2147483648=0:=by show jD y 2147483648=0;rw[a];exact v5 (v+1) 0 ai ai
 have j:fq y 2147483647=0:=by show jD y 2147483647=0;rw[a];exact v7 (v+1) 0 ai ai
 obtain ⟨V,g⟩:∃V:Int,V=((v+1:Nat):Int):=⟨_,rfl⟩
 have l:y.fdiv (2 ^ min 32 64)=V:=by rw[a,g];exact v8 (v+1) 0 ai
 have p:IntKind.i32.wrap V=V:=vl ai ai
 have q:IntKind.u32.wrap 0=0:=ay
 have s:IntKind.i32.wrap 1=1:=ay
 have c3:decide (V<0)=false:=by simp;omega
 have c4:decide (V>0)=true:=by simp;omega
 have c:(V==1)=true\/(V==1)=false:=by cases (V==1)<;>simp
 clear a g hv
 refine aE.pure (hM _) 1 (n:=0) _ rfl rfl ?_;simp only[*,go_sem,-hK,-hM]
 refine aE.nil hM (hK _ _ _ ?_);clear hK K
 repeat apply bq (hM _)
 refine bK hM fun K hK=>?_
 refine aE.pure (hM _) 7 (n:=0) _ rfl rfl ?_;simp only[*,go_sem,-hK,-hM]
 refine aE.nil hM (hK _ _ _ ?_);clear hK K
 repeat apply bq (hM _)
 refine dW (hM _) bB ?_
 apply dV (hM _)
 repeat apply bq (hM _)
 refine bK hM fun K hK=>?_
 refine aE.pure (hM _) 4 (n:=0) _ rfl rfl ?_;simp only[*,go_sem,-hK,-hM]
 refine aE.nil hM (hK _ _ _ ?_);clear hK K
 repeat apply bq (hM _)
 refine bK hM fun K hK=>?_
 refine aE.pure (hM _) 4 (n:=0) _ rfl rfl ?_;simp only[*,go_sem,-hK,-hM]
 refine aE.nil hM (hK _ _ _ ?_);clear hK K
 repeat apply bq (hM _)
 refine bK hM fun K hK=>?_
 refine aE.pure (hM _) 10 (n:=0) _ rfl rfl ?_;simp only[*,go_sem,-hK,-hM]
 refine aE.nil hM (hK _ _ _ ?_);clear hK K
 repeat apply bq (hM _)
 refine GK hM (Iy F' (.co x (.add k 1) 1) V) ?_ ?_
 .rcases c with c|c
  .repeat apply bq (hM _)
   refine eR (hM _) bB ?_
   repeat apply bq (hM _)
   refine bK hM fun K hK=>?_
   refine aE.pure (hM _) 3 (n:=2) _ rfl rfl ?_;simp only[*,go_sem,-hK,-hM]
   refine Ia ⟨x.Wg,1,none⟩ Aj o4 Ak ⟨_,rfl,cS,rfl,rfl⟩ e7 Bh ?_
   refine H9 Ga ⟨_,_,_,rfl,cS,rfl,eT,rfl⟩ ?_
   refine aE.nil hM (hK _ _ _ ?_);clear hK K
   exact AB ⟨rfl,bB,bB,bB,bB,bB,rfl⟩
  .repeat apply bq (hM _)
   refine dW (hM _) bB ?_
   apply dV (hM _)
   exact AB ⟨rfl,bB,bB,bB,bB,bB,rfl⟩
 clear c l0 f e hd a1 j l
 rintro A m t ⟨rfl,f,u,w,e,hd,rfl⟩
 repeat apply bq (hM _)
 refine bK hM fun K hK=>?_
 refine aE.pure (hM _) 2 (n:=0) _ rfl rfl ?_;simp only[*,go_sem,-hK,-hM]
 refine aE.nil hM (hK _ _ _ ?_);clear hK K
 repeat apply bq (hM _)
 refine dW (hM _) bB ?_
 apply dV (hM _)
 repeat apply bq (hM _)
 refine bK hM fun K hK=>?_
 refine aE.pure (hM _) 12 (n:=0) _ rfl rfl ?_;simp only[*,go_sem,-hK,-hM]
 refine aE.nil hM (hK _ _ _ ?_);clear hK K
 repeat apply bq (hM _)
 refine dW (hM _) bB ?_
 apply dV (hM _)
 repeat apply bq (hM _)
 refine bK hM fun K hK=>?_
 refine aE.pure (hM _) 6 (n:=0) _ rfl rfl ?_;simp only[*,go_sem,-hK,-hM]
 refine aE.nil hM (hK _ _ _ ?_);clear hK K
 repeat apply bq (hM _)
 refine eR (hM _) bB ?_
 exact gx (show rP 143 (fun r o d=>r= .tuple #[]/\o=m/\d= .co x (.add k 1) 0) .ret _ _ _ from Ix bB ⟨rfl,rfl,rfl⟩)
end
end Go.Proofs.YtcoalekambhghaaGreatDoor
end
section
namespace Go.Sep
open Go Go.Conc
def pz (ops:Array Oper):Nat->Array Bool->List (List Nat)
 |0,_=>[[]]
 |f+1,listed=>if (Region.ready .any ops listed).isEmpty then [[]] else (Region.ready .any ops listed).flatMap fun i=>(pz ops f (listed.setIfInBounds i true)).map (i::·)
theorem Bj (ops:Array Oper):∀(fuel t:Nat) (listed:Array Bool),Region.linearise.go .any ops fuel t listed []∈pz ops fuel listed
 |0,t,listed=>by simp[Region.linearise.go,pz]
 |fuel+1,t,listed=>by
  simp only[Region.linearise.go]
  change (match (Region.ready .any ops listed)[t % (Region.ready .any ops listed).length]? with
   |some i=>Region.linearise.go .any ops fuel (t/(Region.ready .any ops listed).length) (listed.setIfInBounds i true) [i]
   |none=>[].reverse)∈_
  unfold pz
  cases b:Region.ready .any ops listed with
  |nil=>simp
  |cons x xs=>
   have a:t % (x::xs).length<(x::xs).length:=Nat.mod_lt _ aB
   rw[List.getElem?_eq_getElem a]
   simp only[List.isEmpty_cons,Bool.false_eq_true,if_false,List.mem_flatMap,List.mem_map]
   refine ⟨_,List.getElem_mem a,_,Bj ops fuel (t/(x::xs).length) _,?_⟩
   symm
   rw[linearise_go_acc]
   simp
def iE {S:Type}(JF:S->Goroutine->ag->Prop)(fi:FuncId)(ops:Array Oper)(l:List Nat)(Q:Act->ag->S->Prop)(a:Act)(F:ag)(ph:S):Prop:=
 ∀(b:Frame) (k:List Item) (cs:List Frame),BF fi b->(∀c F' aY,Q c F' aY->JF aY (G (on b c k) cs) F')->JF ph (G (on b a (.inRegion ops l::k)) cs) F
section
variable {P:Program}{main:Bool}{S:Type}{JF:S->Goroutine->ag->Prop}{fi:FuncId}{ops:Array Oper}{a:Act}{F:ag}{ph:S}
theorem IB {Q:Ex->Act->ag->S->Prop}{id:Nat}(hJ:Closed P main (JF ph))(hm:P.follows .mixedOrders=true)(ls:List (List Nat))(c:pz ops ops.size (Array.replicate ops.size false)=ls)(h:∀l∈ls,iE JF fi ops l (Q .normal) a F ph):cM JF fi (.region id ops true) Q a F ph:=fun b k cs hb d=>
 hJ.step fun w hw=>by
  refine ⟨_,_,_,F,r7,.drawn _ _ _,hw.drawn _,aB,?_⟩
  simp only[Region.schedule,hm,Bool.true_or,if_true]
  refine h _ ?_ b k cs hb fun e F' aY f=>d .normal e F' aY f
  rw[<-c]
  exact Bj ops _ _ _
theorem iE.pre {Q:Act->ag->S->Prop}(hJ:Closed P main (JF ph)){e:List Nat}:∀(c:List Nat) (a:Act) (F:ag),eI P (JF ph) ops (fun d F'=>iE JF fi ops e Q d F' ph) c a F->iE JF fi ops (c++e) Q a F ph
 |[],a,F,h=>h
 |i::c,a,F,h=>fun b k cs hb f=>by
  refine se hJ ⟨hb.kind,.inl hb.round⟩ h fun d F' h'=>?_
  exact iE.pre hJ c d F' h' b k cs hb f
theorem wO {J:Goroutine->ag->Prop}{K:Act->ag->Prop}:∀(is:List Nat) (go:Bool) (a:Act) (F:ag),(∀i∈is,i<ops.size)->ej P J ops K (pick ops is) go a F->eI P J ops K is a F
 |[],_,a,F,_,h=>by unfold pick at h;rw[sQ] at h;exact h
 |i::is,go,a,F,hi,h=>by
  have c:i<ops.size:=hi i aB
  have ho:ops[i]?=some ops[i]:=Array.getElem?_eq_getElem c
  have b:∀j∈is,j<ops.size:=fun j d=>hi j (by simp[d])
  show dy P J ops i (eI P J ops K is) a F
  unfold dy
  unfold pick at h
  simp only[ho] at h ⊢
  have h:ej P J ops K (ops[i]::pick ops is) true a F:=by unfold ej at h ⊢;exact h
  rw[sR] at h
  split at h
  .rename_i hg
   rw[if_pos (cx hg)]
   exact gk (lq (fun v F' hv=>wO is _ _ F' b hv) (fun _ _ x=>x)) _ _ (jj h)
  .rename_i hg
   rw[if_neg (by rw[cx hg];simp)]
   exact wO is _ _ F b h
  .exact h.elim
theorem iE.last {Q:Act->ag->S->Prop}(hJ:Closed P main (JF ph))(b:List Nat)(j:Nat)(c:(b.all (· <ops.size))=true)(h:ej P (JF ph) ops (fun d F'=>aE JF fi ops j 1 Q d F' ph) (pick ops b) true a F):iE JF fi ops (b++[j]) Q a F ph:=
 iE.pre hJ b a F (wO b true a F (fun i hi=>by simpa using List.all_eq_true.1 c i hi) h)
theorem IC {Q:Act->ag->S->Prop}{j n:Nat}{d:Option Tmp}(hJ:Closed P main (JF ph)){t el:TypeId}{dir:ChanDir}{inf:TypeInfo}(hu:P.underlying t=some (.chan dir el))(hi:P.info? el=some inf){x:Operand}(e:iB ops j a (.makeChan t x) d)(f:ev a x= .int .i64 0)
  (h:∀b,dx F b->aE JF fi ops (j+1) n Q (bt a d (.chan (some b))) (F.push b (.chan 0 #[] false 0 0 false)) ph):aE JF fi ops j (n+1) Q a F ph:=fun b g cs hb i=>by
 obtain ⟨o,ho,hg,k,rfl⟩:=e
 rw[List.range'_succ,dc hb.round]
 have e1:execOp a.eval o=(do pure (Next.value (<-Instr.makeChan t (.int .i64 0))):Sem Next):=by
  unfold execOp
  simp only[k,eJ,f]
 have e2:Instr.makeChan t (.int .i64 0)=(do
   let .chan _ elem<-underlying t|stuck "MakeChan: channel type expected"
   if (0:Int)<0\/(0:Int)>IntKind.i64.max\/(<-typeInfo elem).bytes*(0:Int)>2 ^ 48 - 112 then runtimePanic (.plain "makechan: size out of range")
   pure (.chan (some (<-newObj (.chan 0 #[] false 0 0 false)))):Sem Value):=rfl
 have c:¬((0:Int)<0\/(0:Int)>IntKind.i64.max\/(inf.bytes:Int)*0>2 ^ 48 - 112):=by
  rw[Int.mul_zero];decide
 refine hJ.step fun w hw=>?_
 have l:(execOp a.eval o).run P w= .ok (.value (.chan (some w.heap.size))) {w with heap:=w.heap.push (.chan 0 #[] false 0 0 false)}:=by
  rw[e1,e2]
  simp only[Sem.run_bind,run_underlying hu,Result.andThen,typeInfo,run_program,hi,Sem.run_pure,if_neg c,run_newObj_alloc]
  rfl
 have m:(execOp a.eval o).events P w #[]=#[]:=by
  rw[e1,e2]
  simp[run_underlying hu,typeInfo,hi,if_neg c,Result.evThen]
 have:=h _ hw.fresh b g cs hb i
 rw[dc hb.round] at this
 refine ⟨_,_,#[],_,?_,dw.push (.chan 0 #[] false 0 0 false),hw.push _,aB,this⟩
 rw[stepG_value ho (cx hg) hb.kind l]
 unfold listed
 rw[m,seen_none]
 rfl
end
end Go.Sep
end
section
namespace Go.Proofs.YtcoalekambhghaaGreatDoor
open Go Go.Sep Go.Proofs Go.Conc
open Go.ConcN (upd upd_same)
open Go.ConcM (muA msA)
open Go.ConcR (stA smA)
set_option maxRecDepth 100000
set_option maxHeartbeats 4000000
attribute [local go_sem] Int.reduceBEq Int.reduceBNe muA msA stA smA
theorem ID:(Tryz.prog.funcs[125]?).any (·.norace)=false:=aS
def gE (bs:Nat->Bool)(ls:Nat->List Int)(i:Nat):Option gB:=if bs i then some (fun ro v=>aG rI ro v (ls i)) else none
theorem wP (bs:Nat->Bool)(ls:Nat->List Int)(i:Nat)(R:gB)(ro aK:Addr->Option Value)(v:Value)(h:gE bs ls i=some R)(a:Ext ro aK)(hR:R ro v):R aK v:=by
 unfold gE at h;split at h
 .cases h;exact hR.mono a
 .cases h
section
variable {x:Yx}{i:Nat}
theorem IE (b:x.Wg≠x.C)(hn:x.n<67108864){ro:Addr->Option Value}{d:Nat}(e:ro ⟨d,0,none⟩=some (.chan (some x.C))):
  dX (x.gy TG) (.on (.opn 0) 0 false) (born Tryz.prog {target:=.fn (.func 125) #[.pointer (some ⟨x.Wg,0,none⟩),.pointer (some ⟨d,0,none⟩)],args:=#[]}) ⟨ro,[]⟩:=by
 have hM:=CK.en (x.gy TG)
 have hJ:True:=trivial
 refine H7 (c:=x.gy TG) Tryz.func125 rfl rfl rfl Tryz.ntmps125 aB fun A f hd hs=>?_
 have g:=hs 0
 have k1:=hs 1
 clear hs
 repeat apply bq (hM _)
 refine bK hM fun K hK=>?_
 refine aE.iZ (hM _) rfl cS rfl C0 e7 (Iw b hn) fun r F' cl' hR=>?_
 obtain ⟨rfl,rfl,rfl⟩:=hR
 refine aE.nil hM (hK _ _ _ ?_);clear hK K
 have a:Go.Sep.Closed Tryz.prog false (CK (x.gy TG) (.on .cQ 0 true)):=CK.closed (x.gy TG) aB
 repeat apply bq (hM _)
 refine bK hM fun K hK=>?_
 refine aE.e6 a 1 (n:=1) _ rfl rfl ?_
 simp only[*,go_sem,-hK,-hM,-hJ,-a]
 refine H6 b ID ⟨_,rfl,cS,rfl,rfl⟩ (by simp only[*,go_sem,-hK,-hM,-hJ,-a]) ?_
 refine aE.nil hM (hK _ _ _ ?_);clear hK K
 exact (show wM .normal _ _ _ from ⟨bB,rfl⟩)
theorem IF (L:x.Wg≠x.C)(hn:x.n<67108864)(Q:i<x.n){ro:Addr->Option Value}{is:Int->Option Bool}{f:FuncId}{s uc:Array Value}
  (m:aP Tryz.prog f=true/\∀(aK:Addr->Option Value),Ext ro aK->∀(y:Int) (z:Bool),is y=some z->aF Tryz.prog f (s++#[.int .u64 y]++uc) ⟨aK,[]⟩ (fun v _=>v= .bool z))
  {b3 t u:Nat} (M:ro ⟨b3,0,none⟩=some (.func (.func f) s uc)) (p:ro ⟨t,0,none⟩=some (.chan (some x.C))) (N:ro ⟨u,0,none⟩=some (.int .u64 i))
  {bs:Nat->Bool} {ls:Nat->List Int} (h:is i=some (bs i)) (d:oz i=some (ls i)) (j:x.pay=gE bs ls):
  dU (x.gy TG) i ⟨.idle,.cnt,false,0⟩ (born Tryz.prog {target:=.fn (.func 122) #[.pointer (some ⟨x.Wg,0,none⟩),.pointer (some ⟨b3,0,none⟩),.pointer (some ⟨u,0,none⟩),.pointer (some ⟨t,0,none⟩)],args:=#[]}) ⟨ro,[]⟩:=by
 have hM:=WG.en (x.gy TG) i
 have hJ:True:=trivial
 refine HO (c:=x.gy TG) (i:=i) (fd:=123) (v:=.pointer (some ⟨x.Wg,0,none⟩)) Tryz.func122 rfl rfl rfl Tryz.ntmps122 aB Tryz.func123 rfl rfl rfl Tryz.ntmps123 aB ?_ ?_
 .intro st F O A q hd hs
  have o:=hs 0
  clear hs h M p N m d
  repeat apply bq (hM _)
  refine bK hM fun K hK=>?_
  refine aE.pure (hM _) 1 (n:=1) _ rfl rfl ?_;simp only[*,go_sem,-hK,-hM]
  refine aE.iZ (hM _) rfl rfl rfl yu (by simp only[*,go_sem,stA]) (Ir L hn O) fun v F' aY hR=>?_
  obtain ⟨rfl,rfl,rfl⟩:=hR
  refine aE.nil hM (hK _ _ _ ?_);clear hK K
  exact ⟨bB,rfl⟩
 .intro w q hd hs
  have o:=hs 0
  have k1:=hs 1
  have B:=hs 2
  have D:=hs 3
  clear hs
  repeat apply bq (hM _)
  refine bK hM fun K hK=>?_
  refine aE.defer (hM _) (vals:=#[.pointer (some ⟨x.Wg,0,none⟩)]) rfl (by rfl) rfl rfl (by simp only[List.map_toArray,List.map_cons,List.map_nil];rw[show w.eval (.tmp 0)=slot w 0 from rfl,o];rfl) fun A e1 e2 e3=>?_
  replace o:=(e1 0).trans o
  replace k1:=(e1 1).trans k1
  replace B:=(e1 2).trans B
  replace D:=(e1 3).trans D
  replace q:sz A=10:=e2.trans q
  rw[hd] at e3
  replace hd:=e3
  clear e1 e2 e3
  refine aE.nil hM (hK _ _ _ ?_);clear hK K
  have b:Go.Sep.Closed Tryz.prog false (WG (x.gy TG) i ⟨.idle,.cnt,false,0⟩):=dU.closed (x.gy TG) i _ rfl
  repeat apply bq (hM _)
  refine bK hM fun K hK=>?_
  refine aE.e6 b 3 (n:=0) _ rfl rfl ?_
  have P:=m.1
  simp only[*,go_sem,-hK,-hM,-hJ,-b,-h,-d,-j]
  refine bl b _ (m.2 _ (fun a v h=>aX a v h) _ _ h) ?_
  clear m P
  try simp only[*,go_sem,-hK,-hM,-hJ,-b,-h,-d,-j]
  refine aE.nil hM (hK _ _ _ ?_);clear hK K
  have g:x.pay i=if bs i then some (fun ro v=>aG rI ro v (ls i)) else none:=by rw[j];rfl
  cases E:bs i
  .repeat apply bq (hM _)
   refine dW (hM _) bB ?_
   apply dV (hM _)
   exact ⟨bB,false,rfl,fun e=>by rw[show (x.gy TG).pay i=x.pay i from rfl,g,E] at e;simp at e⟩
  .repeat apply bq (hM _)
   refine eR (hM _) bB ?_
   rw[E,if_pos rfl] at g
   refine IB b mixed [[0,1,2,3],[1,0,2,3],[1,2,0,3]] aS fun l G=>?_
   simp only[List.mem_cons,List.not_mem_nil,or_false] at G
   rcases G with rfl|rfl|rfl
   .refine iE.last b [0,1,2] 3 ay ?_
    simp only[*,go_sem,-hM,-hJ,-b,-h,-d,-j,-g]
    refine cV b _ (tS _ d) fun v H r I hR=>?_
    obtain ⟨J,rfl,k⟩:=hR
    refine wI (R:=fun ro v=>aG rI ro v (ls i)) g k ⟨_,rfl,by rfl,rfl,rfl⟩ (by simp only[*,go_sem,-hM,-hJ,-b]) (by simp only[*,go_sem,-hM,-hJ,-b]) rfl rfl rfl ?_
    refine aE.nil hM ?_
    exact (show pq _ _ _ _ .normal _ _ _ from ⟨bB,true,rfl,fun _=>rfl⟩)
   .refine iE.last b [1,0,2] 3 ay ?_
    simp only[*,go_sem,-hM,-hJ,-b,-h,-d,-j,-g]
    refine cV b _ (tS _ d) fun v H r I hR=>?_
    obtain ⟨J,rfl,k⟩:=hR
    refine wI (R:=fun ro v=>aG rI ro v (ls i)) g k ⟨_,rfl,by rfl,rfl,rfl⟩ (by simp only[*,go_sem,-hM,-hJ,-b]) (by simp only[*,go_sem,-hM,-hJ,-b]) rfl rfl rfl ?_
    refine aE.nil hM ?_
    exact (show pq _ _ _ _ .normal _ _ _ from ⟨bB,true,rfl,fun _=>rfl⟩)
   .refine iE.last b [1,2,0] 3 ay ?_
    simp only[*,go_sem,-hM,-hJ,-b,-h,-d,-j,-g]
    refine cV b _ (tS _ d) fun v H r I hR=>?_
    obtain ⟨J,rfl,k⟩:=hR
    replace p:=r _ _ p
    apply aQ
    simp only[*,go_sem,-hM,-hJ,-b,-h,-d,-j,-g]
    refine wI (R:=fun ro v=>aG rI ro v (ls i)) g k ⟨_,rfl,by rfl,rfl,rfl⟩ (by simp only[*,go_sem,-hM,-hJ,-b]) (by simp only[*,go_sem,-hM,-hJ,-b]) rfl rfl rfl ?_
    refine aE.nil hM ?_
    exact (show pq _ _ _ _ .normal _ _ _ from ⟨bB,true,rfl,fun _=>rfl⟩)
end
end Go.Proofs.YtcoalekambhghaaGreatDoor
end
section
namespace Go.Proofs.YtcoalekambhghaaGreatDoor
open Go Go.Sep Go.Proofs Go.Conc
open Go.ConcN (upd upd_same)
open Go.ConcM (muA msA)
open Go.ConcR (stA smA wgBlock)
set_option maxRecDepth 100000
set_option maxHeartbeats 4000000
attribute [local go_sem] Int.reduceBEq Int.reduceBNe muA msA stA smA
theorem Bl:Tryz.prog.underlying 150=some (.chan .both 25):=aS
theorem IG:Tryz.prog.info? 25=some ((Tryz.prog.info? 25).getD default):=aS
theorem II {ro:Addr->Option Value}{b2 b3 a C W:Nat}{f e b c d:Obj}(j:bT (keys [(W,d),(a,b),(C,c),(b3,e),(b2,f)]))(i:aW ro [(W,d),(a,b),(C,c),(b3,e),(b2,f)]):
  ∃g,Ext ro g/\Le ⟨g,[(W,d),(C,c)]⟩ ⟨ro,[(W,d),(a,b),(C,c),(b3,e),(b2,f)]⟩/\
   (∀off v,cellOf e off=some v->g ⟨b3,off,none⟩=some v)/\(∀off v,cellOf b off=some v->g ⟨a,off,none⟩=some v):=by
 have hd:=j.1
 simp only[keys,List.map_cons,List.map_nil,List.nodup_cons,List.mem_cons,List.not_mem_nil,not_or] at hd
 obtain ⟨⟨w1,w2,w3,w4,-⟩,⟨e1,e2,e3,-⟩,⟨c1,c2,-⟩,⟨a1,-⟩,-⟩:=hd
 have r3:∀off sp,ro ⟨b3,off,sp⟩=none:=i b3 (by simp[keys])
 have k:∀off sp,ro ⟨a,off,sp⟩=none:=i a (by simp[keys])
 clear i j
 let s1:=bZ ro b3 e
 let s2:=bZ s1 a b
 have x1:Ext ro s1:=gq _ _ _
 have x2:Ext s1 s2:=gq _ _ _
 have t5:∀off sp,s1 ⟨a,off,sp⟩=none:=fun off sp=>Am (k off sp) e2
 have l:Le ⟨ro,[(W,d),(a,b),(C,c),(b3,e)]⟩ ⟨ro,[(W,d),(a,b),(C,c),(b3,e),(b2,f)]⟩:=Le.sub (by
  show List.Sublist ([(W,d),(a,b),(C,c),(b3,e)]:List (Nat×Obj)) ([(W,d),(a,b),(C,c),(b3,e)]++[(b2,f)])
  exact List.sublist_append_left _ _)
 have k1:Le ⟨s1,[(W,d),(a,b),(C,c)]⟩ ⟨ro,[(W,d),(a,b),(C,c),(b3,e)]⟩:=
  kG (by simp[lk, *]) aB (by simp[aN,Ne.symm, *])
 have m:Le ⟨s2,[(W,d),(C,c)]⟩ ⟨s1,[(W,d),(a,b),(C,c)]⟩:=
  kG (by simp[lk, *]) aB (by simp[aN,Ne.symm, *])
 exact ⟨s2,x1.trans x2,(m.trans k1).trans l,fun off v h=>x2 _ _ ((ew r3).trans h),fun off v h=>(ew t5).trans h⟩
def Bm (x:Yx)(c:Addr->Option Value)(b3 d:Nat)(m:Nat)(a:Act)(F:ag)(y:Y):Prop:=
 ∃(i:Nat) (b:Addr->Option Value),m=x.n - i/\i<=x.n/\F=⟨b,[]⟩/\Ext c b/\slot a 3= .pointer (some ⟨b3,0,none⟩)/\slot a 4= .slice none 0 0/\slot a 5= .pointer (some ⟨d,0,none⟩)/\slot a 6= .pointer (some ⟨x.Wg,0,none⟩)/\slot a 15= .int .u64 x.n/\slot a 16= .int .u64 i/\sz a=37/\a.defers=[]/\y= .co x (.add i 0) 0
def Bn (x:Yx)(e:Addr->Option Value)(m:Nat)(a:Act)(F:ag)(y:Y):Prop:=
 ∃(got:List Nat) (L:List (List Int)) (b:Addr->Option Value) (d:Option Addr) (c:Nat) (own:List (Nat×Obj)),m=x.n - got.length/\got.Nodup/\(∀i∈got,i<x.n/\(x.pay i).isSome=true)/\got.map dG=L/\Ext e b/\F=⟨b,own⟩/\bA (rL rI) b 25 (.slice d L.length c) L own/\L.length<=c/\
  slot a 8= .slice d L.length c/\slot a 23= .chan (some x.C)/\slot a 4= .slice none 0 0/\sz a=37/\a.defers=[]/\y= .co x (.je got) 0
section
variable {n:Nat}{r:List Int}
theorem IJ {ro:Addr->Option Value}(du dv:Int)(d:Option Addr)(dC:Nat)(is:Int->Option Bool){f:FuncId}{X uc:Array Value}
  (Z:aP Tryz.prog f=true/\∀(aK:Addr->Option Value),Ext ro aK->∀(y:Int) (z:Bool),is y=some z->aF Tryz.prog f (X++#[.int .u64 y]++uc) ⟨aK,[]⟩ (fun v _=>v= .bool z))
  (h:u5 is n=some r):
  oe Tryz.prog 75 #[.agg #[.int .i64 du,.int .i64 dv,.slice d n dC],.func (.func f) X uc] ro (fun v aK=>∃a7,v=a7/\aG rI aK a7 r):=by
 refine fA.Ik (T:=TG) fun Φ=>?_
 unfold u5 at h
 by_cases ab:n<=4
 case neg=>rw[if_neg ab] at h;cases h
 rw[if_pos ab] at h
 obtain ⟨ks,ad,h⟩:=av h
 obtain ⟨N,G⟩:∃N:Nat,N=2 ^ n:=⟨_,rfl⟩
 rw[<-G] at ad
 obtain ⟨H,a8⟩:=zB ad
 have g1:N<=16:=by
  rw[G]
  exact Nat.le_trans (Nat.pow_le_pow_right ay ab) ay
 have dE:IntKind.u64.wrap (1*2 ^ min n 64)=(N:Int):=by
  rw[G]
  have:n=0\/n=1\/n=2\/n=3\/n=4:=ai
  rcases this with rfl|rfl|rfl|rfl|rfl<;>decide
 have hM:=GJ.en TG Φ
 have hJ:=fun (y:Y) (_:(0:Nat)=0)=>GJ.closed TG Φ y
 have g2:¬((n:Int)<0):=ai
 refine di.go (main:=true) hM Tryz.func75 rfl Tryz.ntmps75 aB fun A I hd hs=>?_
 have dT:=hs 0
 have k1:=hs 1
 clear hs ad G
 have g:=hJ .free rfl
 repeat apply bq (hM _)
 refine bK hM fun K hK=>?_
 refine aE.e6 (hJ _ rfl) 3 (n:=0) _ rfl rfl ?_;apply fJ _
 intro b2 f2;have r2:=aT f2;have a9:=aU f2
 try simp only[aN] at a9
 try simp only[*,go_sem,-hK,-hM,-hJ,-h,-g]
 intro b3 f3;have r3:=aT f3;have n3:=aU f3
 try simp only[aN] at n3
 try simp only[*,go_sem,-hK,-hM,-hJ,-h,-g]
 refine aE.nil hM (hK _ _ _ ?_);clear hK K
 repeat apply bq (hM _)
 refine bK hM fun K hK=>?_
 refine IC (n:=2) g Bl IG ⟨_,rfl,cS,rfl,rfl⟩ rfl fun J ae=>?_
 have ea:=aT ae;have ba:=aU ae
 try simp only[aN] at ba
 refine aE.e6 (hJ _ rfl) 2 (n:=0) _ rfl rfl ?_;apply fJ _
 intro M f5;have eb:=aT f5;have bb:=aU f5
 try simp only[aN] at bb
 try simp only[*,go_sem,-hK,-hM,-hJ,-h,-g]
 refine aE.nil hM (hK _ _ _ ?_);clear hK K
 repeat apply bq (hM _)
 refine bK hM fun K hK=>?_
 refine aE.e6 (hJ _ rfl) 1 (n:=0) _ rfl rfl ?_;apply fJ _
 intro C al;have ec:=aT al;have bc:=aU al
 try simp only[aN] at bc
 try simp only[*,go_sem,-hK,-hM,-hJ,-h,-g]
 refine aE.nil hM (hK _ _ _ ?_);clear hK K
 repeat apply bq (hM _)
 refine bK hM fun K hK=>?_
 refine aE.e6 (hJ _ rfl) 6 (n:=0) _ rfl rfl ?_;apply fJ _
 refine aE.nil hM (hK _ _ _ ?_);clear hK K
 refine vC g fun nd no=>?_
 obtain ⟨u,bd,hle,bj,bk⟩:=II nd no
 clear nd no
 have ed:∀i:Nat,i<N->is (i:Int)=some ((is (i:Int)).getD false):=H
 refine Ih (T:=TG) (Φ:=Φ) ⟨u,[]⟩ C J N (gE (fun i=>(is (i:Int)).getD false) dG) (wP _ _) hle ?_
 intro base T0 w1 g3 ao
 clear hle
 have ar:N<67108864:=ai
 have bm:=bj 0 (.func (.func f) X uc) rfl
 have O:=bk 0 (.chan (some J)) rfl
 clear bj bk f2 f3 f5 ae al a9 n3 bb ba bc r2 r3 eb ea ec
 repeat apply bq (hM _)
 refine j8 hM ?_
 refine q6 hM (Bm (⟨C,J,N,gE (fun i=>(is (i:Int)).getD false) dG,wP _ _,base,T0,⟨u,[]⟩,w1⟩:Yx) u b3 M) N ?_ ?_
 .exact ⟨0,u,rfl,Nat.zero_le _,rfl,Ext.refl _,bB,bB,bB,bB,bB,bB,bB,bB,rfl⟩
 clear dT k1 I hd
 rintro m A F' bo ⟨i,k,rfl,hi,rfl,o,eh,br,et,ev,eQ,eS,I,hd,rfl⟩
 have hi:i<=N:=hi
 rcases Nat.lt_or_ge i N with P|e0
 .have c1:decide ((i:Int)<(N:Int))=true:=by simp;omega
  have g4:IntKind.u64.wrap ((i:Int)+1)=((i+1:Nat):Int):=by
   unfold IntKind.wrap
   simp[IntKind.bits,IntKind.signed]
   omega
  repeat apply bq (hM _)
  refine bK hM fun K hK=>?_
  refine aE.e6 (hJ _ rfl) 1 (n:=0) _ rfl rfl ?_;apply fJ _
  refine aE.nil hM (hK _ _ _ ?_);clear hK K
  repeat apply bq (hM _)
  refine eR (hM _) bB ?_
  apply dV (hM _)
  repeat apply bq (hM _)
  refine j8 hM ?_
  repeat apply bq (hM _)
  refine bK hM fun K hK=>?_
  refine aE.e6 (hJ _ rfl) 3 (n:=0) _ rfl rfl ?_;apply fJ _
  intro w f7;have e1:=aT f7;have bs:=aU f7
  try simp only[aN] at bs
  try simp only[*,go_sem,-hK,-hM,-hJ,-h,-g]
  refine aE.nil hM (hK _ _ _ ?_);clear hK K
  refine vC (hJ _ rfl) fun nd no=>?_
  have t7:∀off sp,k ⟨w,off,sp⟩=none:=fun off sp=>no w (by simp[keys]) off sp
  obtain ⟨Q,S⟩:∃q,q=bZ k w (.cells #[.int .u64 (i:Int)] 82):=⟨_,rfl⟩
  have hle:Le ⟨Q,[]⟩ ⟨k,[(w,.cells #[.int .u64 (i:Int)] 82)]⟩:=by rw[S];exact kG (by simp[lk]) aB trivial
  have U:Ext k Q:=by rw[S];exact gq _ _ _
  have e3:Q ⟨w,0,none⟩=some (.int .u64 (i:Int)):=by rw[S];exact (ew t7).trans rfl
  clear nd no f7 e1 bs t7 S
  refine Gm (hJ _ rfl) hle ?_
  clear hle
  repeat apply bq (hM _)
  refine bK hM fun K hK=>?_
  refine aE.iZ (hM _) rfl cS rfl yu e7 (IA ao ar) fun v F' bo hR=>?_
  obtain ⟨rfl,rfl,rfl⟩:=hR
  refine aE.nil hM (hK _ _ _ ?_);clear hK K
  repeat apply bq (hM _)
  refine bK hM fun K hK=>?_
  refine aE.e6 (hJ _ rfl) 1 (n:=1) _ rfl rfl ?_;apply fJ _
  refine Ic (caps:=#[.pointer (some ⟨C,0,none⟩),.pointer (some ⟨b3,0,none⟩),.pointer (some ⟨w,0,none⟩),.pointer (some ⟨M,0,none⟩)]) (f0:=122) P ⟨_,rfl,cS,rfl,rfl⟩ e7 ?_ ?_
  .exact IF (is:=is) ao ar P ⟨Z.1,fun aK fa=>Z.2 aK (((bd.trans o).trans U).trans fa)⟩ (U _ _ (o _ _ bm)) (U _ _ (o _ _ O)) e3 (H i P) (E7 i ai) rfl
  refine aE.nil hM (hK _ _ _ ?_);clear hK K
  repeat apply bq (hM _)
  refine bK hM fun K hK=>?_
  refine aE.e6 (hJ _ rfl) 2 (n:=0) _ rfl rfl ?_;apply fJ _
  refine aE.nil hM (hK _ _ _ ?_);clear hK K
  change ∃D,D<N - i/\Bm _ u b3 M D _ _ _
  exact ⟨N - (i+1),ai,i+1,Q,rfl,P,rfl,o.trans U,bB,bB,bB,bB,bB,bB,bB,bB,rfl⟩
 .have c1:decide ((i:Int)<(N:Int))=false:=by simp;omega
  obtain rfl:i=N:=ai
  repeat apply bq (hM _)
  refine bK hM fun K hK=>?_
  refine aE.e6 (hJ _ rfl) 1 (n:=0) _ rfl rfl ?_;apply fJ _
  refine aE.nil hM (hK _ _ _ ?_);clear hK K
  repeat apply bq (hM _)
  refine dW (hM _) bB ?_
  refine vo ?_
  simp only[go_sem]
  repeat apply bq (hM _)
  refine bK hM fun K hK=>?_
  refine aE.e6 (hJ _ rfl) 1 (n:=1) _ rfl rfl ?_;apply fJ _
  refine Ie (caps:=#[.pointer (some ⟨C,0,none⟩),.pointer (some ⟨M,0,none⟩)]) (f0:=125) rfl ⟨_,rfl,cS,rfl,rfl⟩ e7 ?_ ?_
  .exact IE ao ar (o _ _ O)
  refine aE.nil hM (hK _ _ _ ?_);clear hK K
  repeat apply bq (hM _)
  refine bK hM fun K hK=>?_
  refine aE.e6 (hJ _ rfl) 1 (n:=0) _ rfl rfl ?_;apply fJ _
  refine aE.nil hM (hK _ _ _ ?_);clear hK K
  repeat apply bq (hM _)
  refine bK hM fun K hK=>?_
  have fb:=o _ _ O
  refine aE.e6 (hJ _ rfl) 1 (n:=0) _ rfl rfl ?_;apply fJ _
  refine aE.nil hM (hK _ _ _ ?_);clear hK K
  clear eh et ev eQ eS c1 e0 bm O fb
  repeat apply bq (hM _)
  refine j8 hM ?_
  refine q6 hM (Bn (⟨C,J,i,gE (fun i=>(is (i:Int)).getD false) dG,wP _ _,base,T0,⟨u,[]⟩,w1⟩:Yx) k) i ?_ ?_
  .exact ⟨[],[],k,none,0,[],rfl,List.nodup_nil,(fun j V=>by cases V),rfl,Ext.refl _,rfl,bA.nil _ _ _,Nat.le_refl _,bB,bB,bB,bB,bB,rfl⟩
  clear I hd br
  rintro m A F' bo ⟨got,L,g7,d3,c3,own,rfl,a0,E,p,b0,rfl,hg,ha,hc,fc,br,I,hd,rfl⟩
  repeat apply bq (hM _)
  refine bK hM fun K hK=>?_
  refine Ig ⟨_,rfl,cS,rfl,rfl⟩ e7 Bl yg ?_ ?_
  .intro j v R aK V b1 hR b4 a2
   have hb:(is (j:Int)).getD false=true/\R=fun ro v=>aG rI ro v (dG j):=by
    have hR:gE (fun i=>(is (i:Int)).getD false) dG j=some R:=hR
    unfold gE at hR
    split at hR
    .rename_i e;exact ⟨e,(Option.some.inj hR).symm⟩
    .cases hR
   obtain ⟨hb,rfl⟩:=hb
   have ca:aG rI aK v (dG j):=b4
   obtain ⟨d9,cb,rfl,hf,hh,-⟩:=id ca
   clear hR b4
   refine aE.e6 (hJ _ rfl) 1 (n:=0) _ rfl rfl ?_;apply fJ _
   refine aE.nil hM (hK _ _ _ ?_);clear hK K
   repeat apply bq (hM _)
   refine eR (hM _) bB ?_
   apply dV (hM _)
   repeat apply bq (hM _)
   refine j8 hM ?_
   repeat apply bq (hM _)
   refine bK hM fun K hK=>?_
   refine aE.e6 (hJ _ rfl) 2 (n:=0) _ rfl rfl ?_;apply fJ _
   refine aE.nil hM (hK _ _ _ ?_);clear hK K
   refine vC (hJ _ rfl) fun nd no=>?_
   replace hg:=hg.mono a2 no
   clear no
   have hlen:got.length<i:=by
    have:=zA i (got++[j]) (List.nodup_append.2 ⟨a0,aB,fun a a3 b hb e=>by simp at hb;subst hb;subst e;exact b1 a3⟩) (fun y c=>by
     rcases List.mem_append.1 c with c|c
     .exact (E y c).1
     .simp at c;subst c;exact V)
    simp at this
    omega
   repeat apply bq (hM _)
   refine bK hM fun K hK=>?_
   refine aE.e6 (hJ _ rfl) 5 (n:=0) _ rfl rfl ?_;apply fJ _
   intro fg f45;have fh:=aT f45;have cc:=aU f45
   have fi:=bT.cons cc nd
   try simp only[aN] at cc
   try simp only[*,go_sem,-hK,-hM,-hJ,-h,-g]
   refine kJ (bz:=own) (r:=(rL rI)) (l:=L) (x:=dG j) (cs:=#[.slice d9 (dG j).length cb]) (e2:=25) [(fg,.cells #[.slice d9 (dG j).length cb] 25)] [] (by first|rfl|simp only[bE]|(simp only[bE];rfl)) hg fi (by rw[<-p];simp;omega) ⟨_,rfl,ca⟩ (by simp only[*,go_sem,-hK,-hM,-hJ,-h,-g]) fh rfl rfl yt yt CO yg rfl CP ay ay (fun hj cd cf fj fl hk=>?_)
   simp only[bE] at fl
   subst fj
   obtain ⟨d53,fp,rfl,fr⟩:=cf.len
   refine ⟨⟨aK,cd⟩,Le.sub (List.sublist_cons_self _ _),?_⟩
   apply aQ
   try simp only[*,go_sem,-hK,-hM,-hJ,-h,-g,-p]
   refine aE.nil hM (hK _ _ _ ?_);clear hK K
   change ∃D,D<i - got.length/\Bn _ k D _ _ _
   exact ⟨i - (got++[j]).length,by simp;omega,got++[j],L++[dG j],aK,d53,fp,cd,rfl,List.nodup_append.2 ⟨a0,aB,fun a a3 b hb e=>by simp at hb;subst hb;subst e;exact b1 a3⟩,fun y c=>(by
     rcases List.mem_append.1 c with c|c
     .exact E y c
     .simp at c;subst c;exact ⟨V,by show (gE (fun i=>(is (i:Int)).getD false) dG y).isSome=true;unfold gE;rw[if_pos hb];rfl⟩),by rw[<-p];simp,b0.trans a2,rfl,cf,fr,bB,bB,bB,bB,bB,rfl⟩
  .intro ck
   refine aE.e6 (hJ _ rfl) 1 (n:=0) _ rfl rfl ?_;apply fJ _
   refine aE.nil hM (hK _ _ _ ?_);clear hK K
   repeat apply bq (hM _)
   refine dW (hM _) bB ?_
   refine vo ?_
   simp only[go_sem]
   have hJ:=g
   clear g
   refine cM.of hJ ?_
   repeat apply af hJ
   refine aO hJ fun cl=>?_
   obtain ⟨cv,fs,hl,cy,c0⟩:=hg.iN (own:=own) [] [] [] aB rfl cl (aW.nil _)
   clear cl
   refine cG (F:=⟨cv,[]⟩) hJ c0 ?_
   obtain ⟨hn,ho,ft⟩:=cy.op
   clear hg c0
   have a4:∀y,y∈got↔y∈ks:=fun y=>by
    rw[a8]
    constructor
    .intro c
     obtain ⟨B,s⟩:=E y c
     refine ⟨B,?_⟩
     have s:(gE (fun i=>(is (i:Int)).getD false) dG y).isSome=true:=s
     unfold gE at s
     split at s
     .rename_i e
      have e:(is (y:Int)).getD false=true:=e
      rw[H y B,e]
     .cases s
    .rintro ⟨B,s⟩
     exact ck y B (by show (gE (fun i=>(is (i:Int)).getD false) dG y).isSome=true;unfold gE;rw[if_pos (show (is (y:Int)).getD false=true by rw[s];rfl)];rfl)
   cases ks with
   |nil=>simp at h
   |cons x0 ks=>
    have h:some (dG (eX ks x0))=some r:=h
    have h:=Option.some.inj h
    cases got with
    |nil=>exact absurd ((a4 x0).2 aB) aB
    |cons g0 got=>
     have W:∀y∈g0::got,y<16:=fun y c=>by have:=(E y c).1;have:y<i:=this;omega
     have a5:=Fb got g0 (W g0 aB) fun y c=>W y (by simp[c])
     have da:dG (eX got g0)=r:=by rw[<-h,Fa (x':=x0) (l':=ks) W a4]
     rw[da] at a5
     have db:L[0]?=some (dG g0):=by rw[<-p];rfl
     have a6:kH L 1 (L.length:Int)=some (got.map dG):=by
      rw[<-p]
      unfold kH
      rw[if_pos ⟨ay,by simp;omega,Int.le_refl _⟩]
      simp only[Int.toNat_natCast,List.take_length]
      rfl
     have hp:1<=L.length:=by rw[<-p];simp
     obtain ⟨T,dd⟩:∃T,T=got.map dG:=⟨_,rfl⟩
     rw[<-dd] at a6 a5
     clear dd p a4 W da ck E a0 a8 H ed dE h hM Z fc
     refine cB hJ mixed 5 ⟨cv,[]⟩ cY aS ?_
     have hq:(0:Int)<=0:=Int.le_refl _
     have hr:(0:Int)<(L.length:Int):=ai
     obtain ⟨ht,hv,fu,fv,df⟩:=ft _ _ db
     obtain ⟨hx,rfl,dk⟩:=fv
     obtain ⟨hy,hz,rfl,hA,hB,hD⟩:=id dk
     cases fu
     have fw:=df 0 _ rfl
     simp only[go_sem] at fw
     clear df db
     obtain ⟨hE,hF,hG,dp⟩:=yb a6
     have dq:(1:Int).toNat<=((L.length:Int)).toNat:=ai
     have fx:((L.length:Int)).toNat<=c3:=ai
     have hH:0<=((L.length:Int)):=ai
     obtain ⟨hI,fz,gg,ds⟩:=aG.yd cy (1:Int).toNat ((L.length:Int)).toNat dq ai dp
     simp only[go_sem] at fz gg dq fx
     obtain ⟨_,_,gj,hL,hN,hP⟩:=id ds;cases gj
     clear dp a6
     try apply bw _
     refine cV hJ _ (D8 (oB:=128) (qu:=#[]) (qv:=#[]) l8 ⟨by simp only[go_sem],fun hQ a2 y0 _ B _ _ gl gn h=>by simp only[go_sem];exact D7 y0 gl B gn h⟩ (dG g0) dk T ds a5) fun v gp dt hS hR=>?_
     obtain ⟨hT,rfl,gy⟩:=hR
     have hV:=iQ (l:=[]) dt (aW.nil _)
     refine ⟨cY,?_⟩
     refine s3 ?_
     try apply bw _
     apply aI
     exact (j9 (t:=4) rfl cY cY ⟨rfl,gp,((((bd.trans o).trans b0).trans fs).trans dt),Le.refl _,_,rfl,gy⟩).2
end
end Go.Proofs.YtcoalekambhghaaGreatDoor
end
section
namespace Go.Proofs.YtcoalekambhghaaGreatDoor
open Go Go.Sep Go.Proofs
set_option maxRecDepth 100000
def wQ (u0:aH)(a:Int->Option Bool):Option (List Int):=u5 a u0.aj.length
theorem Bo {ro:Addr->Option Value}(u0:aH){s1:Value}(e:aG bJ ro s1 u0.aj)(a:Int->Option Bool){bN:FuncId}{bP bQ:Array Value}
  (f:aP Tryz.prog bN=true/\∀(aK:Addr->Option Value),Ext ro aK->∀(y0:Int) (z:Bool),a y0=some z->aF Tryz.prog bN (bP++#[.int .u64 y0]++bQ) ⟨aK,[]⟩ (fun v _=>v= .bool z)) {r:List Int} (h:wQ u0 a=some r):
  oe Tryz.prog 75 #[.agg #[.int .i64 u0.steps,.int .i64 u0.an,s1],.func (.func bN) bP bQ] ro (fun v aK=>∃b,v=b/\aG rI aK b r):=by
 obtain ⟨d,c,rfl,-,-,-⟩:=id e
 exact IJ u0.steps u0.an d c a f h
end Go.Proofs.YtcoalekambhghaaGreatDoor
end
section
namespace Go.Proofs.YtcoalekambhghaaGreatDoor
open Go Go.Sep Go.Proofs
set_option maxRecDepth 100000
set_option maxHeartbeats 4000000
def rR (u0:Int)(a:aH)(w1:Int):Option Bool:=
 ak (mW a (td w1 u0)) fun b=>some (!b)
theorem IK {ro:Addr->Option Value}(u0:Int)(a:aH){b:Nat}(f:ro ⟨b,0,none⟩=some (.int .i64 a.steps))(g:ro ⟨b,1,none⟩=some (.int .i64 a.an)){s1:Value}(c:aG bJ ro s1 a.aj)(i:ro ⟨b,2,none⟩=some (s1))(w1:Int){d:Nat}(j:ro ⟨d,0,none⟩=some (.int .u64 w1)){r:Bool}(h:rR u0 a w1=some r):aF Tryz.prog 94 #[.int .u64 u0,.pointer (some ⟨b,0,none⟩),.pointer (some ⟨d,0,none⟩)] ⟨ro,[]⟩ (fun v _=>v= .bool r):=by
 obtain ⟨d3,c4,rfl,k,l,m⟩:=id c;unfold rR at h;refine aF.go Tryz.func94 rfl Tryz.ntmps94 Tryz.results94 aB fun main J hJ A n hd hs=>?_;have o:=hs 0;have k1:=hs 1;have p:=hs 2;clear hs;refine af hJ ?_;refine ah hJ ?_;apply aa _;refine af hJ ?_;refine ah hJ ?_;have h':=av h;clear h;obtain ⟨q,e,h⟩:=h';apply aa _;refine bl hJ _ (vE a (c.mono aX) (td w1 u0) e) (aQ ?_);try apply aa _
 have h':=Option.some.inj h;clear h;subst h';refine aI ?_;simp only[*,go_sem]
def rS (u0:aH):Option ((List Int)×Int):=
 ak (fE u0) fun a=>cond ((a != 0)) (some (([]:(List Int)),a)) (ak (wQ u0 (mW u0)) fun b=>some (b,0))
theorem Bp {ro:Addr->Option Value}(b:dB ro)(u0:aH){s1:Value}(a:aG bJ ro s1 u0.aj){r:((List Int)×Int)}(h:rS u0=some r):oe Tryz.prog 24 #[.agg #[.int .i64 u0.steps,.int .i64 u0.an,s1]] ro (fun v aK=>∃f,v= .tuple #[f,.int .i64 r.2]/\aG rI aK f r.1):=by
 obtain ⟨d3,c4,rfl,q,s,g⟩:=id a;unfold rS at h;refine fA.go Tryz.func24 rfl Tryz.ntmps24 Tryz.results24 aB fun Φ hJ A t hd hs=>?_;have u:=hs 0;clear hs;refine af hJ ?_;refine ah hJ ?_;apply aa _;intro j f8;have k:=aT f8;have l:=aU f8;try simp only[aN] at l
 try apply aa _
 refine af hJ ?_;refine af hJ ?_;refine ah hJ ?_;have h':=av h;clear h;obtain ⟨w,m,h⟩:=h';apply aa _;refine bl hJ _ (jv (b.mono aX) u0 (a.mono aX) m) (aQ ?_);try apply aa _
 refine af hJ ?_;refine ah hJ ?_;apply aa _;have h':=aD h;clear h;rcases h' with ⟨c,h⟩|⟨c,h⟩
 .try simp only[Int.ofNat_lt] at c
  refine aL hJ au ?_;refine af hJ ?_;refine ah hJ ?_;apply aa _;have h':=Option.some.inj h;clear h;subst h';refine aI ?_;apply bw _;exact ⟨_,Ext.refl _,Le.sub (List.nil_sublist _),_,rfl,aG.nil _ _⟩
 try simp only[Int.ofNat_lt] at c
 refine aM hJ au ?_;refine aR hJ ?_;refine af hJ ?_;refine ah hJ ?_;have h':=av h;clear h;obtain ⟨x,n,h⟩:=h';apply aa _;refine og _ (Bo (bN:=76) (bP:=#[.agg #[.int .i64 u0.steps,.int .i64 u0.an,.slice d3 u0.aj.length c4]]) (bQ:=#[]) u0 a (mW u0) ⟨by simp only[go_sem],fun y o y0 _ h=>by simp only[go_sem];exact vE u0 (a.mono o) y0 h⟩ n) fun v p d e hR=>?_;obtain ⟨z,rfl,i⟩:=hR;have e:aW p ((j,.cells #[.int .i64 u0.steps,.int .i64 u0.an,.slice d3 u0.aj.length c4] 24)::[]):=e;replace a:=a.mono d;clear g;obtain ⟨_,_,g⟩:=a.op;replace k:=e.hd;replace b:=b.mono d;obtain ⟨d19,B,rfl,C,D,E⟩:=id i;refine aQ ?_;try apply aa _
 have h':=Option.some.inj h;clear h;subst h';refine aI ?_;apply bw _;exact ⟨_,d,Le.sub (List.nil_sublist _),_,rfl,i⟩
def wR (u0:aH):Option ((List Int)×Int):=
 ak (fE u0) fun a=>cond ((a != 0)) (some (([]:(List Int)),a)) (ak (mW u0 0) fun b=>cond (b) (some (([]:(List Int)),0)) (ak (jl 1 (u0.aj.length:Int)) fun c=>ak (wQ u0 (fun y0=>rR y0 u0 (IntKind.u64.wrap (c - 1)))) fun d=>some (d,0)))
theorem IL {ro:Addr->Option Value}(f:dB ro)(u0:aH){s1:Value}(a:aG bJ ro s1 u0.aj){r:((List Int)×Int)}(h:wR u0=some r):oe Tryz.prog 41 #[.agg #[.int .i64 u0.steps,.int .i64 u0.an,s1]] ro (fun v aK=>∃E,v= .tuple #[E,.int .i64 r.2]/\aG rI aK E r.1):=by
 obtain ⟨d3,c4,rfl,W,X,k⟩:=id a;unfold wR at h;refine fA.go Tryz.func41 rfl Tryz.ntmps41 Tryz.results41 aB fun Φ hJ A Y hd hs=>?_;have Z:=hs 0;clear hs;refine af hJ ?_;refine ah hJ ?_;apply aa _;intro g f8;have p:=aT f8;have N:=aU f8;try simp only[aN] at N
 try apply aa _
 refine af hJ ?_;refine af hJ ?_;refine ah hJ ?_;have h':=av h;clear h;obtain ⟨ab,O,h⟩:=h';apply aa _;refine bl hJ _ (jv (f.mono aX) u0 (a.mono aX) O) (aQ ?_);try apply aa _
 refine af hJ ?_;refine ah hJ ?_;apply aa _;have h':=aD h;clear h;rcases h' with ⟨B,h⟩|⟨B,h⟩
 .try simp only[Int.ofNat_lt] at B
  refine aL hJ au ?_;refine af hJ ?_;refine ah hJ ?_;apply aa _;have h':=Option.some.inj h;clear h;subst h';refine aI ?_;apply bw _;exact ⟨_,Ext.refl _,Le.sub (List.nil_sublist _),_,rfl,aG.nil _ _⟩
 try simp only[Int.ofNat_lt] at B
 refine aM hJ au ?_;refine aR hJ ?_;refine af hJ ?_;refine ah hJ ?_;apply aa _;intro c f12;have t:=aT f12;have P:=aU f12;try simp only[aN] at P
 try apply aa _
 refine af hJ ?_;refine af hJ ?_;refine ah hJ ?_;have h':=av h;clear h;obtain ⟨ad,Q,h⟩:=h';apply aa _;refine bl hJ _ (vE u0 (a.mono aX) 0 Q) ?_;try apply aa _
 have h':=aD h;clear h;rcases h' with ⟨C,h⟩|⟨C,h⟩
 .try simp only[Int.ofNat_lt] at C
  refine aL hJ au ?_;refine af hJ ?_;refine ah hJ ?_;apply aa _;have h':=Option.some.inj h;clear h;subst h';refine aI ?_;apply bw _;exact ⟨_,Ext.refl _,Le.sub (List.nil_sublist _),_,rfl,aG.nil _ _⟩
 try simp only[Int.ofNat_lt] at C
 refine aM hJ au ?_;refine aR hJ ?_;refine af hJ ?_;refine ah hJ ?_;have h':=av h;clear h;obtain ⟨d,G,h⟩:=h';obtain ⟨ae,R⟩:=lH G;clear G;try simp only[go_sem] at R
 try apply aa _
 intro e f18;have u:=aT f18;have S:=aU f18;try simp only[aN] at S
 try apply aa _
 refine af hJ ?_;refine aO hJ fun H=>?_;obtain ⟨w,q,I⟩:=gL (b:=c) (o:=(.cells #[.int .i64 u0.steps,.int .i64 u0.an,.slice d3 u0.aj.length c4] 87)) [(e,.cells #[.int .u64 (IntKind.u64.wrap (d - 1))] 82)] ((g,.cells #[.int .i64 u0.steps,.int .i64 u0.an,.slice d3 u0.aj.length c4] 24)::[]) H t (aW.cons u (aW.cons p (aW.nil _)));clear H;have l:bZ ro c (.cells #[.int .i64 u0.steps,.int .i64 u0.an,.slice d3 u0.aj.length c4] 87) ⟨c,0,none⟩=some (.int .i64 u0.steps):=by rw[ew t];rfl
 have m:bZ ro c (.cells #[.int .i64 u0.steps,.int .i64 u0.an,.slice d3 u0.aj.length c4] 87) ⟨c,1,none⟩=some (.int .i64 u0.an):=by rw[ew t];rfl
 have n:bZ ro c (.cells #[.int .i64 u0.steps,.int .i64 u0.an,.slice d3 u0.aj.length c4] 87) ⟨c,2,none⟩=some (.slice d3 u0.aj.length c4):=by rw[ew t];rfl
 generalize bZ ro c (.cells #[.int .i64 u0.steps,.int .i64 u0.an,.slice d3 u0.aj.length c4] 87)=x at w q I l m n;refine cG (F:=⟨x,(e,.cells #[.int .u64 (IntKind.u64.wrap (d - 1))] 82)::(g,.cells #[.int .i64 u0.steps,.int .i64 u0.an,.slice d3 u0.aj.length c4] 24)::[]⟩) hJ I ?_;have q:aW x ((e,.cells #[.int .u64 (IntKind.u64.wrap (d - 1))] 82)::(g,.cells #[.int .i64 u0.steps,.int .i64 u0.an,.slice d3 u0.aj.length c4] 24)::[]):=q;replace a:=a.mono w;clear k;obtain ⟨_,_,k⟩:=a.op;replace u:=q.hd;replace p:=q.tl.hd;replace f:=f.mono w;refine aO hJ fun J=>?_;obtain ⟨i,y,K⟩:=gL (b:=e) (o:=(.cells #[.int .u64 (IntKind.u64.wrap (d - 1))] 82)) [] ((g,.cells #[.int .i64 u0.steps,.int .i64 u0.an,.slice d3 u0.aj.length c4] 24)::[]) J u (aW.cons p (aW.nil _));clear J;have z:bZ x e (.cells #[.int .u64 (IntKind.u64.wrap (d - 1))] 82) ⟨e,0,none⟩=some (.int .u64 (IntKind.u64.wrap (d - 1))):=by rw[ew u];rfl
 generalize bZ x e (.cells #[.int .u64 (IntKind.u64.wrap (d - 1))] 82)=L at i y K z;refine cG (F:=⟨L,(g,.cells #[.int .i64 u0.steps,.int .i64 u0.an,.slice d3 u0.aj.length c4] 24)::[]⟩) hJ K ?_;have y:aW L ((g,.cells #[.int .i64 u0.steps,.int .i64 u0.an,.slice d3 u0.aj.length c4] 24)::[]):=y;replace a:=a.mono i;clear k;obtain ⟨_,_,k⟩:=a.op;replace p:=y.hd;replace f:=f.mono i;replace l:=i _ _ l;replace m:=i _ _ m;replace n:=i _ _ n;refine ah hJ ?_;have h':=av h;clear h;obtain ⟨al,T,h⟩:=h';apply aa _;refine og _ (Bo (bN:=94) (bP:=#[]) (bQ:=#[.pointer (some ⟨c,0,none⟩),.pointer (some ⟨e,0,none⟩)]) u0 a (fun y0=>rR y0 u0 (IntKind.u64.wrap (d - 1))) ⟨by simp only[go_sem],fun ao s y0 ar U=>by simp only[go_sem];exact IK y0 u0 (s _ _ l) (s _ _ m) (a.mono s) (s _ _ n) (IntKind.u64.wrap (d - 1)) (s _ _ z) U⟩ T) fun v V j D hR=>?_;obtain ⟨a0,rfl,M⟩:=hR;have D:aW V ((g,.cells #[.int .i64 u0.steps,.int .i64 u0.an,.slice d3 u0.aj.length c4] 24)::[]):=D;replace a:=a.mono j;clear k;obtain ⟨_,_,k⟩:=a.op;replace p:=D.hd;replace f:=f.mono j;replace l:=j _ _ l;replace m:=j _ _ m;replace n:=j _ _ n;replace z:=j _ _ z;obtain ⟨d40,a2,rfl,a3,a4,a5⟩:=id M;refine aQ ?_;try apply aa _
 have h':=Option.some.inj h;clear h;subst h';refine aI ?_;apply bw _;exact ⟨_,((w).trans i).trans j,Le.sub (List.nil_sublist _),_,rfl,M⟩
end Go.Proofs.YtcoalekambhghaaGreatDoor
end

/- A part of the proof: QS9. -/
import Derived.Test.YtcoalekambhghaaGreatDoorQS8
import Derived.Conc.AtomicLaws2
import Derived.Conc.WgArith
set_option linter.all false
section
namespace Go.Sep
open Go Go.Conc
open Go.ConcN (sumTo upd upd_ne upd_same)
open Go.ConcM (MuAt muA msA muBlock OsLater)
open Go.ConcR (WgAt wgBlock stA smA)
theorem aE.entry {P:Program}{main:Bool}{S:Type}{JF:S->Goroutine->ag->Prop}{fi f:FuncId}{ops:Array Oper}{j n:Nat}{Q:Act->ag->S->Prop}{a:Act}{F:ag}{ph:S}{d:Option Tmp}(v:Value)(hM:dS P main (JF ph))(e:Entry P f (fun _=>pure v))
  {vals:List Value} (g:At ops j a f vals d) (h:aE JF fi ops (j+1) n Q (bt a d v) F ph):aE JF fi ops j (n+1) Q a F ph:=fun b c cs hb i=>by
 obtain ⟨fn,f1,f2,f3,f4,f5⟩:=e.ex
 obtain ⟨o,cH,dj,ho,hg,k,_,rfl⟩:=g
 rw[List.range'_succ,dc hb.round]
 refine hM.move (fr':=b.at (a.put o.dst v) (.inRegion ops (List.range' (j+1) n)::c)) (fun w=>stepG_entry_pure v ho (cx hg) hb.kind k f1 f2 f3 f4 f5) (by rw[<-dc hb.round];exact h b c cs hb i)
theorem aE.shr {P:Program}{main:Bool}{S:Type}{JF:S->Goroutine->ag->Prop}{fi:FuncId}{ops:Array Oper}{j n:Nat}{Q:Act->ag->S->Prop}{a:Act}{F:ag}{ph:S}{d:Option Tmp}{t e:TypeId}{k b:IntKind}{u m:Int}(v:Int)(hM:dS P main (JF ph)){x y:Operand}
  (f:iB ops j a (.binOp .shr t x y e) d) (g:ev a x= .int k u) (i:ev a y= .int b m) (hm:0<=m) (hv:u.fdiv (2 ^ min m.toNat k.bits)=v) (h:aE JF fi ops (j+1) n Q (bt a d (.int k v)) F ph):aE JF fi ops j (n+1) Q a F ph:=by
 obtain ⟨o,ho,hg,l,rfl⟩:=f
 have c:¬m<0:=ai
 have e1:execOp a.eval o=(do eqGuard .shr t x y (.int k u) (.int b m);pure (.value (<-binOp .shr t (.int k u) (.int b m))):Sem Next):=by
  unfold execOp
  simp only[l,eJ,g,i]
  simp
 refine aE.plain hM (.int k v) ho hg (fun w=>?_) (fun w=>?_) h
 .rw[e1];subst hv;simp[eqGuard,binOp,Op.shift,c]
 .rw[e1];subst hv;simp[eqGuard,binOp,Op.shift,c]
end Go.Sep
end
section
namespace Go.Sep
open Go Go.Conc
def q9 (op:BinOp)(u v:Value):Option Value:=match op with
 | .shl=>match u,v with
  | .int k a,.int _ b=>if b<0 then none else some (.int k (k.wrap (a*2 ^ min b.toNat k.bits)))
  |_,_=>none
 | .shr=>match u,v with
  | .int k a,.int _ b=>if b<0 then none else some (.int k (a.fdiv (2 ^ min b.toNat k.bits)))
  |_,_=>none
 |_=>lB op u v
def mS (P:Program)(op:Op)(a:Act):Option Value:=match op with
 | .move x| .assign x=>some (ev a x)
 | .nilCheck x=>match ev a x with
  | .pointer (some ad)=>some (.pointer (some ad))
  |_=>none
 | .pick c x y=>match ev a c with
  | .bool b=>some (if b then ev a x else ev a y)
  |_=>none
 | .binOp op t x y _=>q9 op (ev a x) (ev a y)
 | .unOp op _ x=>kB op (ev a x)
 | .convert src dst x=>kD P src dst (ev a x)
 | .fieldAddr s x n=>match ev a x with
  | .pointer (some ad)=>match dn P s n with
   |some k=>some (.pointer (some (ad.add k)))
   |none=>none
  |_=>none
 |_=>none
theorem Ge {P:Program}{op:BinOp}{t:TypeId}{x y:Operand}{u v r:Value}(h:q9 op u v=some r)(w:World):
  (do eqGuard op t x y u v;pure (.value (<-binOp op t u v)):Sem Next).run P w= .ok (.value r) w/\(do eqGuard op t x y u v;pure (.value (<-binOp op t u v)):Sem Next).events P w #[]=#[]:=by
 unfold q9 at h
 split at h
 .split at h
  case h_2=>cases h
  split at h
  .cases h
  .rename_i hb;cases h;simp[eqGuard,binOp,Op.shift,hb]
 .split at h
  case h_2=>cases h
  split at h
  .cases h
  .rename_i hb;cases h;simp[eqGuard,binOp,Op.shift,hb]
 .rename_i n1 c
  unfold lB at h
  split at h
  case h_3=>cases h
  case h_2=>
   rename_i a b
   cases op<;>simp only[reduceCtorEq] at h<;>(cases h;simp[eqGuard,binOp,Op.stringOp,ByteArray.toList_eq])
  rename_i k a e b
  split at h
  case isFalse=>cases h
  rename_i d
  subst d
  cases op<;>simp only[binOp,ne_eq,not_true_eq_false,if_false,Op.intArith,Op.intDiv,Op.intCmp,Op.intBits,Op.shift,eqGuard] at h ⊢<;>first
   |(cases h;done)
   |(exact absurd rfl n1)
   |(exact absurd rfl c)
   |(cases h;simp;done)
   |(split at h
     .cases h
     .rename_i hb;cases h;simp[hb])
theorem Al {P:Program}{o:Oper}{a:Act}{v:Value}(h:mS P o.op a=some v)(w:World):(execOp a.eval o).run P w= .ok (.value v) w/\(execOp a.eval o).events P w #[]=#[]:=by
 obtain ⟨dst,op,type,pos,after,guard⟩:=o;unfold execOp;simp only[eJ] at h ⊢;unfold mS at h;cases op<;>simp only[reduceCtorEq] at h ⊢
 case move x=>cases h;simp
 case assign x=>cases h;simp
 case nilCheck x=>
  split at h
  .rename_i ad e;cases h;simp[e]
  .cases h
 case pick c x y=>
  split at h
  .rename_i b hb;cases h;simp[hb,asBool]
  .cases h
 case binOp op t x y r=>have:=Ge (P:=P) (t:=t) (x:=x) (y:=y) h w;simpa using this
 case unOp op t x=>
  revert h;cases ev a x<;>cases op<;>simp only[kB,reduceCtorEq,false_implies,Option.some.injEq]<;>intro h<;>subst h<;>simp[Op.unary,Op.intArith]
 case convert src dst x=>
  revert h;cases e:ev a x<;>simp only[kD,reduceCtorEq,false_implies];intro h;split at h
  .rename_i k1 A i j;cases h;simp[convert,run_underlying i,run_underlying j,Conv.intToInt]
  .cases h
 case fieldAddr s x n=>
  split at h
  case h_2=>cases h
  rename_i ad l;split at h
  case h_2=>cases h
  rename_i k d;cases h;unfold dn at d;split at d
  case h_2=>cases d
  rename_i B g;split at d
  case h_2=>cases d
  rename_i f p;split at d
  case h_2=>cases d
  rename_i m hm;cases d;obtain ⟨inf,q,u⟩:=Option.map_eq_some_iff.1 hm;have z:Instr.sureAddr (.pointer (some ad))=(Pure.pure ad:Sem Addr):=rfl;simp[Instr.fieldAt,run_underlying g,g,p,l,z,fieldPlace,Go.sizeOf,typeInfo,q,u,Result.andThen,Result.evThen]
def hO (P:Program)(ops:Array Oper)(K:Act->Prop):List Oper->Act->Prop
 |[],a=>K a
 |o::rest,a=>match cA ops o a with
  |some true=>match mS P o.op a with
   |some v=>hO P ops K rest (bt a o.dst v)
   |none=>False
  |some false=>hO P ops K rest (bt a o.dst undef)
  |none=>False
theorem Gf {P:Program}{ops:Array Oper}{K:Act->Prop}{a:Act}:hO P ops K [] a=K a:=(Eq.refl _).trans (Eq.refl _)
theorem Gg {P:Program}{ops:Array Oper}{K:Act->Prop}{o:Oper}{rest:List Oper}{a:Act}:hO P ops K (o::rest) a=match cA ops o a with
  |some true=>match mS P o.op a with
   |some v=>hO P ops K rest (bt a o.dst v)
   |none=>False
  |some false=>hO P ops K rest (bt a o.dst undef)
  |none=>False:=(Eq.refl _).trans (Eq.refl _)
attribute [go_sem] Gf Gg mS q9
section
variable {P:Program}{main:Bool}{S:Type}{JF:S->Goroutine->ag->Prop}{fi:FuncId}{ops:Array Oper}{F:ag}{ph:S}{Q:Act->ag->S->Prop}
theorem vA (hM:dS P main (JF ph)):∀(l:List Oper) (i n:Nat) (a:Act),(∀j o,l[j]?=some o->ops[i+j]?=some o)->hO P ops (fun b=>aE JF fi ops (i+l.length) n Q b F ph) l a->aE JF fi ops i (l.length+n) Q a F ph
 |[],i,n,a,_,h=>by rw[List.length_nil,Nat.zero_add];exact h
 |o::rest,i,n,a,f,h=>by
  have ho:ops[i]?=some o:=f 0 o rfl
  have g:∀j x,rest[j]?=some x->ops[i+1+j]?=some x:=fun j x k=>by rw[Nat.add_assoc,Nat.add_comm 1 j];exact f (j+1) x k
  have e:(o::rest).length+n=(rest.length+n)+1:=by rw[List.length_cons];omega
  have e2:∀b,aE JF fi ops (i+(o::rest).length) n Q b F ph->aE JF fi ops (i+1+rest.length) n Q b F ph:=fun b x=>by
   rw[show i+1+rest.length=i+(o::rest).length by rw[List.length_cons];omega];exact x
  rw[e]
  have mono:∀(l:List Oper) (a:Act) {K c:Act->Prop},(∀a,K a->c a)->hO P ops K l a->hO P ops c l a:=by
   intro l
   induction l with
   |nil=>intro a K c d h;exact d a h
   |cons o l ih=>
    intro a K c d h
    unfold hO at h ⊢
    cases hg:cA ops o a with
    |none=>rw[hg] at h;exact h.elim
    |some t=>
     rw[hg] at h
     cases t with
     |false=>exact ih _ d h
     |true=>
      simp only at h ⊢
      cases hv:mS P o.op a with
      |none=>rw[hv] at h;exact h.elim
      |some v=>rw[hv] at h;exact ih _ d h
  unfold hO at h
  split at h
  .rename_i hg
   split at h
   .rename_i v hv
    exact aE.plain hM v ho hg (fun w=>(Al hv w).1) (fun w=>(Al hv w).2) (vA hM rest (i+1) n _ g (mono _ _ e2 h))
   .exact h.elim
  .rename_i hg
   exact aE.skip hM ho hg (vA hM rest (i+1) n _ g (mono _ _ e2 h))
  .exact h.elim
theorem aE.pure (hM:dS P main (JF ph))(m:Nat){i n:Nat}{a:Act}(l:List Oper)(c:(ops.toList.drop i).take m=l)(hm:l.length=m)(h:hO P ops (fun d=>aE JF fi ops (i+m) n Q d F ph) l a):aE JF fi ops i (m+n) Q a F ph:=by
 subst hm;refine vA hM l i n a (fun j o b=>?_) h;rw[<-c] at b;have e:j<l.length:=by
  rcases Nat.lt_or_ge j l.length with x|x
  .exact x
  .rw[c,List.getElem?_eq_none x] at b;cases b
 rw[List.getElem?_take,if_pos e,List.getElem?_drop] at b;simpa using b
end
end Go.Sep
end
section
namespace Go.Sep
open Go Go.Conc
open Go.ConcN (sumTo upd upd_ne upd_same)
open Go.ConcM (MuAt muA msA muBlock OsLater)
open Go.ConcR (WgAt wgBlock stA smA)
section
variable {c:Cy}{i:Nat}{ph:Ph}{ops:Array Oper}{j n:Nat}{Q:Act->ag->Ph->Prop}{a:Act}{F:ag}{f fi:FuncId}{d:Option Tmp}
theorem Inv.group {k:Nat}{φ:Nat->Ph}{p0:P0}{s:Sh}(h:Inv c.n c.bs k φ p0 s)(hi:i<c.n)(he:φ i=ph)(a:ph.gp≠ .new)(b:ph.gp≠ .cnt){gp:Gp}(d:gp≠ .new){wg ws:Int}
  (hw:cX c.n (upd φ i {ph with gp:=gp}) p0 wg ws):Inv c.n c.bs k (upd φ i {ph with gp:=gp}) p0 {s with wg:=wg,ws:=ws}:=by
 obtain ⟨C,S,W,L,m,hm⟩:=h.m
 refine h.gh hi he a d ⟨C,S,W,L,m,z1 hm hi _ (.inl (by rw[he]))⟩ hw ?_ (fun _=>?_)
 .have:=h.i.all i hi
  rw[he] at this
  exact (F6 this).symm
 .have:=h.i.done i hi (by rw[he];exact b) (by rw[he];exact a)
  rw[he] at this
  exact this
end
end Go.Sep
end
section
namespace Go.Sep
open Go Go.Conc
open Go.ConcN (sumTo upd upd_ne upd_same)
theorem aE.defer {P:Program}{main:Bool}{S:Type}{JF:S->Goroutine->ag->Prop}{fi f:FuncId}{ops:Array Oper}{j n:Nat}{Q:Act->ag->S->Prop}{a:Act}{F:ag}{ph:S}(hM:dS P main (JF ph)){o:Oper}{cH:Array Operand}{dj:Array TypeId}{vals:Array Value}
  (ho:ops[j]?=some o) (hg:cA ops o a=some true) (e:o.op= .defer {callee:=.value (.func f),args:=cH,argTypes:=dj}) (hd:o.dst=none) (hv:cH.map a.eval=vals)
  (h:∀c:Act,(∀i,slot c i=slot a i)->sz c=sz a->c.defers=dcall f vals::a.defers->aE JF fi ops (j+1) n Q c F ph):aE JF fi ops j (n+1) Q a F ph:=fun b d cs hb g=>by
 rw[List.range'_succ,dc hb.round]
 refine hM.move (fr':=b.at (Act.put ⟨a.tmps,dcall f (cH.map a.eval)::a.defers⟩ o.dst undef) (.inRegion ops (List.range' (j+1) n)::d)) (fun w=>stepG_defer ho (cx hg) hb.kind e) ?_
 rw[<-dc hb.round,hd,hv]
 exact h ⟨a.tmps,dcall f vals::a.defers⟩ (fun _=>rfl) rfl rfl b d cs hb g
section
variable {c:Cy}{i:Nat}{ph:Ph}{F:ag}{f:FuncId}
def jz (f:FuncId)(R:Value->ag->Ph->Prop):Ex->Act->ag->Ph->Prop
 | .exit _,_,_,_=>False
 |_,a,F,ph=>a.defers=[dcall f #[]]/\ph.gp= .gone/\∃b,ph.deaf=b+1/\R (.tuple #[]) F {ph with deaf:=b}
def vB (R:ag->Ph->Prop):Ex->Act->ag->Ph->Prop
 | .exit _,_,_,_=>False
 |_,a,F,ph=>a.defers=[]/\R F ph
end
attribute [go_sem] jz vB
end Go.Sep
end
section
namespace Go.Sep
open Go Go.Conc
open Go.ConcN (sumTo upd upd_ne upd_same)
open Go.ConcM (MuAt muA msA muBlock OsLater)
open Go.ConcR (WgAt wgBlock stA smA)
section
variable {d:Nat}
theorem Gh {c:Cy}:Ev0 c d d #[]:=⟨aB,rfl⟩
theorem Gi {c:Cy}:Ev0 c d (d+1) #[cn .disable]:=⟨fun e he=>by simp at he;exact .inl he,rfl⟩
theorem Gj {c:Cy}:Ev0 c (d+1) d #[cn .enable]:=⟨fun e he=>by simp at he;exact .inr (.inl he),rfl⟩
theorem Gk {c:Cy}{ad:Addr}(h:ad.block=c.Wg):Ev0 c d d #[⟨.cell ad,false,true⟩,⟨.cell ad,true,true⟩]:=
 ⟨fun e he=>by simp at he;rcases he with he|he<;>exact .inr (.inr ⟨ad,h,.inl ⟨_,he⟩⟩),by simp[deafBehind]⟩
theorem Gl {c:Cy}{ad:Addr}(h:ad.block=c.Wg):Ev0 c d d #[cn (.read ad)]:=⟨fun e he=>by simp at he;exact .inr (.inr ⟨ad,h,.inr (.inl he)⟩),by simp[deafBehind,cn]⟩
end
end Go.Sep
end
section
namespace Go.Sep
open Go Go.Conc
variable {P:Program}
section
variable {Φ:Goroutine->ag->Prop}{fi:FuncId}
theorem Gm {P:Program}{main:Bool}{S:Type}{JF:S->Goroutine->ag->Prop}{ph:S}(hJ:Closed P main (JF ph)){c:Code}{Q:Ex->Act->ag->S->Prop}{a:Act}{F F':ag}(hle:Le F F')(h:cM JF fi c Q a F ph):cM JF fi c Q a F' ph:=
 fun b k cs hb d=>hJ.mono hle (h b k cs hb d)
theorem vC {P:Program}{main:Bool}{S:Type}{JF:S->Goroutine->ag->Prop}{ph:S}(hJ:Closed P main (JF ph)){c:Code}{Q:Ex->Act->ag->S->Prop}{a:Act}{F:ag}(h:bT (keys F.own)->aW F.ro F.own->cM JF fi c Q a F ph):cM JF fi c Q a F ph:=by
 intro b k cs hb d;by_cases hw:∃w,Has F w
 .obtain ⟨w,hw⟩:=hw;refine h ⟨hw.nodup⟩ (fun b hb off sp=>?_) b k cs hb d;cases e:F.ro ⟨b,off,sp⟩ with
  |none=>rfl
  |some v=>exact absurd hb (hw.apart _ v e)
 .exact hJ.step fun w f=>absurd ⟨w,f⟩ hw
end
theorem Am {ro:Addr->Option Value}{b a off:Nat}{sp:Option Nat}{o:Obj}(h:ro ⟨a,off,sp⟩=none)(c:a≠b):bZ ro b o ⟨a,off,sp⟩=none:=by simp[bZ,h,c]
theorem An {ro:Addr->Option Value}{a b2:Nat}{b c:Obj}(f:bT (keys [(b2,c),(a,b)]))(e:aW ro [(b2,c),(a,b)]):
  ∃d,Ext ro d/\Le ⟨d,[]⟩ ⟨ro,[(b2,c),(a,b)]⟩/\(∀off v,cellOf b off=some v->d ⟨a,off,none⟩=some v)/\(∀off v,cellOf c off=some v->d ⟨b2,off,none⟩=some v):=by
 have hd:=f.1
 simp only[keys,List.map_cons,List.map_nil,List.nodup_cons,List.mem_cons,List.not_mem_nil,not_or] at hd
 have r1:∀off sp,ro ⟨a,off,sp⟩=none:=e a (by simp[keys])
 have r2:∀off sp,ro ⟨b2,off,sp⟩=none:=e b2 (by simp[keys])
 have g:b2≠a:=by obtain ⟨⟨z,-⟩,-⟩:=hd;exact z
 have t2:∀off sp,bZ ro a b ⟨b2,off,sp⟩=none:=fun off sp=>Am (r2 off sp) g
 have k1:Le ⟨bZ ro a b,[(b2,c)]⟩ ⟨ro,[(b2,c),(a,b)]⟩:=kG (by simp[lk, *]) aB (by simp[aN,Ne.symm, *])
 have i:Le ⟨bZ (bZ ro a b) b2 c,[]⟩ ⟨bZ ro a b,[(b2,c)]⟩:=kG (by simp only[lk];simp) aB trivial
 exact ⟨_,(gq _ _ _).trans (gq _ _ _),i.trans k1,fun off v h=>gq _ _ _ _ _ ((ew r1).trans h),fun off v h=>(ew t2).trans h⟩
end Go.Sep
end
section
namespace Go.Proofs.YtcoalekambhghaaGreatDoor
open Go Go.Sep Go.Proofs
set_option maxRecDepth 100000
set_option maxHeartbeats 4000000
theorem Gn {ro:Addr->Option Value}(u0:aH)(bits:Int){s2:Value}(d:aG bJ ro s2 u0.aj){b2 h:Nat}(e:ro ⟨b2,0,none⟩=some (.int .i64 u0.steps))(f:ro ⟨b2,1,none⟩=some (.int .i64 u0.an))(g:ro ⟨b2,2,none⟩=some s2)(i:ro ⟨h,0,none⟩=some (.int .u64 bits)):
  kK Tryz.prog 139 #[] #[.pointer (some ⟨b2,0,none⟩),.pointer (some ⟨h,0,none⟩)] bg.v (oM u0 bits) ro:=by
 refine ⟨by simp only[go_sem],fun aK b σ step I p q r k s c s' a main J hJ own l=>?_⟩
 replace d:=d.mono b
 replace e:=b _ _ e
 replace f:=b _ _ f
 replace g:=b _ _ g
 replace i:=b _ _ i
 refine de.go hJ Tryz.func139 rfl Tryz.ntmps139 Tryz.results139 aB fun A t hd hs=>?_
 have u:=hs 0
 have k1:=hs 1
 have w:=hs 2
 clear hs
 repeat refine af hJ ?_
 refine ah hJ ?_
 try simp only[*,go_sem,-a]
 intro b3 f3;have r3:=aT f3;have n3:=aU f3
 try simp only[*,go_sem,-a]
 repeat refine af hJ ?_
 refine ah hJ ?_
 try simp only[*,go_sem,-a]
 intro b4 f4;have m:=aT f4;have j:=aU f4
 simp only[aN] at j
 try simp only[*,go_sem,-a]
 repeat refine af hJ ?_
 refine ah hJ ?_
 try simp only[*,go_sem,-a]
 repeat refine af hJ ?_
 refine ah hJ ?_
 try simp only[*,go_sem,-a]
 refine de.less hJ ((Es u0 d k (b2:=b2) (b3:=b3) (b4:=b4) e f g j.1 m r3 6 0 ⟨⟨0,0,0,0⟩,⟨0,0,0,0⟩,bits⟩ s c s' a main J hJ own l).mono ?_)
 rintro v F' ⟨n,hle,rfl,o⟩
 exact ⟨_,hle,n,Le.sub (List.sublist_append_right _ _),o⟩
theorem Ao {ro:Addr->Option Value}(u0:aH){s2:Value}(e:aG bJ ro s2 u0.aj)(b:Int){r:List (Option bg)}(h:qL u0 b=some r):
  eK Tryz.prog 120 #[.agg #[.int .i64 u0.steps,.int .i64 u0.an,s2],.int .u64 b] ro (fun v aK=>∃f a c,v= .func (.func f) a c/\kK Tryz.prog f a c bg.v r aK):=by
 obtain rfl:oM u0 b=r:=Option.some.inj h
 clear h
 obtain ⟨ad,cap,rfl,le,n,-⟩:=id e
 refine aF.go Tryz.func120 rfl Tryz.ntmps120 Tryz.results120 aB fun main J hJ A o hd hs=>?_
 have p:=hs 0
 have k1:=hs 1
 clear hs
 repeat refine af hJ ?_
 refine ah hJ ?_
 apply bw _
 intro b2 f2;have r2:=aT f2;have q:=aU f2
 try apply bw _
 intro s g;have j:=aT g;have k:=aU g
 simp only[aN] at k
 try apply bw _
 repeat refine af hJ ?_
 refine ah hJ ?_
 apply bw _
 repeat refine af hJ ?_
 refine aO hJ fun nd=>?_
 obtain ⟨l,i,hle,d,m⟩:=An nd (aW.cons j (aW.cons r2 (aW.nil _)))
 refine aI ?_
 apply bw _
 exact ⟨l,i,hle,_,_,_,rfl,Gn u0 b (e.mono i) (d 0 _ rfl) (d 1 _ rfl) (d 2 _ rfl) (m 0 _ rfl)⟩
def mT (x:bg)(st:List bg):Option (Fl (List bg) Unit):=ak (jk st ([x])) fun y=>some (.nx y)
def o5 (u0:List bg)(a:List (Option bg)):Option (List bg):=ak (js mT a u0) fun o=>aJ o (fun st=>some st) (fun _ _=>none) (fun _=>none)
theorem Gq {ro:Addr->Option Value}{bz:List (Nat×Obj)}(u0:List bg){q:Value}(s:bA gY ro 84 q u0 bz)(t:List (Option bg)){bN:FuncId}{bP bQ:Array Value}(E:kK Tryz.prog bN bP bQ bg.v t ro){r:List bg}(h:o5 u0 t=some r):
  aF Tryz.prog 119 #[q,.func (.func bN) bP bQ] ⟨ro,bz⟩ (fun v G=>∃u,bA gY ro 84 v r u/\Le ⟨ro,u⟩ G):=by
 unfold o5 at h
 obtain ⟨d0,F,rfl,H⟩:=s.len
 refine aF.yW Tryz.func119 rfl Tryz.ntmps119 Tryz.results119 aB fun main J hJ A I hd hs=>?_
 have K:=hs 0
 have k1:=hs 1
 clear hs
 refine af hJ ?_
 refine ah hJ ?_
 apply aa _
 intro e f1;have r1:=aT f1;have n1:=aU f1
 try apply aa _
 refine af hJ ?_
 refine af hJ ?_
 refine ah hJ ?_
 apply aa _
 have h':=av h;clear h;obtain ⟨ab,L,m⟩:=h';have h:=True.intro
 refine yT hJ bg.v cY E aS aS (ρ:=Unit) (fun (j:List bg) M=>∃(d7:Option Addr) (b:Nat) (c:List (Nat×Obj)),M=(e,.cells #[.slice d7 j.length b] 105)::c/\bA gY ro 84 (.slice d7 j.length b) j c/\j.length<=b) (f:=mT) L ?_ ?_ ay ?_ ?_
 .exact ⟨d0,F,bz,rfl,s,H⟩
 .rintro d4 n g N v6 x2 ad h main J hJ _ ⟨d7,b,c,rfl,o,O⟩
  unfold mT at h
  try dsimp only at h
  generalize i:lS _ _ _=k
  have ae:sz k=13:=by rw[<-i,yS];simp only[*,go_sem]
  have al:k.defers=[]:=by rw[<-i];rfl
  have ao:slot k 2= .pointer (some ⟨e,0,none⟩):=by rw[<-i,qh];simp only[*,go_sem]
  have ar:slot k 7= .agg #[.int .i64 x2.ax.e0,.int .i64 x2.ax.e1,.int .i64 x2.ax.e2,.int .i64 x2.ax.e3,.int .i64 x2.az.e0,.int .i64 x2.az.e1,.int .i64 x2.az.e2,.int .i64 x2.az.e3,.int .u64 x2.an]:=by rw[<-i,qh];simp only[*,go_sem]
  clear i I hd K k1
  refine jS hJ fun d a=>?_
  replace a:aW ro ((n,.loop g)::(d4,.deferred (some []))::(e,.cells #[.slice d7 v6.length b] 105)::c):=a
  have r3:=a.hd
  have a0:=a.tl.hd
  have r1:=a.tl.tl.hd
  clear a
  replace d:=d.nd
  simp only[keys,List.map_cons,List.map_nil,List.map_append,List.cons_append,List.nil_append,List.nodup_cons,List.mem_cons,List.mem_append,List.not_mem_nil,or_false,not_or] at d
  refine aO hJ fun P=>?_
  refine ah hJ ?_
  apply aa _
  intro w f17;have a2:=aT f17;have y:=aU f17
  have a3:=bT.cons y P
  try simp only[aN] at y
  try apply aa _
  simp only[qd,go_sem]
  refine ⟨g,cY,N,?_⟩
  try apply aa _
  refine bf hJ ?_
  refine aO hJ fun Q=>?_
  refine ah hJ ?_
  have h':=av h;clear h;obtain ⟨a4,R,h⟩:=h'
  obtain ⟨S,z⟩:=oa R
  apply aa _
  intro B f20;have T:=aT f20;have C:=aU f20
  have U:=bT.cons C Q
  try simp only[aN] at C
  try apply aa _
  refine kJ (r:=gY) (l:=v6) (x:=x2) (cs:=#[.int .i64 x2.ax.e0,.int .i64 x2.ax.e1,.int .i64 x2.ax.e2,.int .i64 x2.ax.e3,.int .i64 x2.az.e0,.int .i64 x2.az.e1,.int .i64 x2.az.e2,.int .i64 x2.az.e3,.int .u64 x2.an]) (e2:=84) [(B,.cells #[.int .i64 x2.ax.e0,.int .i64 x2.ax.e1,.int .i64 x2.ax.e2,.int .i64 x2.ax.e3,.int .i64 x2.az.e0,.int .i64 x2.az.e1,.int .i64 x2.az.e2,.int .i64 x2.az.e3,.int .u64 x2.an] 84),(w,.cells #[.int .i64 x2.ax.e0,.int .i64 x2.ax.e1,.int .i64 x2.ax.e2,.int .i64 x2.ax.e3,.int .i64 x2.az.e0,.int .i64 x2.az.e1,.int .i64 x2.az.e2,.int .i64 x2.az.e3,.int .u64 x2.an] 84),(n,.loop {g with state:=.busy}),(d4,.deferred (some [])),(e,.cells #[.slice d7 v6.length b] 105)] [] (by first|rfl|simp only[bE]|(simp only[bE];rfl)) o U S rfl au T rfl rfl yq yq CU CW rfl CV ay ay (fun a5 D p c V a6=>?_)
  simp only[bE] at V
  subst c
  rw[<-z] at p;clear z
  obtain ⟨d28,W,rfl,X⟩:=p.len
  refine ⟨⟨ro,(B,.cells #[.int .i64 x2.ax.e0,.int .i64 x2.ax.e1,.int .i64 x2.ax.e2,.int .i64 x2.ax.e3,.int .i64 x2.az.e0,.int .i64 x2.az.e1,.int .i64 x2.az.e2,.int .i64 x2.az.e3,.int .u64 x2.an] 84)::(w,.cells #[.int .i64 x2.ax.e0,.int .i64 x2.ax.e1,.int .i64 x2.ax.e2,.int .i64 x2.ax.e3,.int .i64 x2.az.e0,.int .i64 x2.az.e1,.int .i64 x2.az.e2,.int .i64 x2.az.e3,.int .u64 x2.an] 84)::(n,.loop {g with state:=.busy})::(d4,.deferred (some []))::(e,.cells #[.slice d7 v6.length b] 105)::D⟩,Le.refl _,?_⟩
  refine aQ ?_
  try apply aa _
  have h':=Option.some.inj h;clear h;subst h'
  simp only[tB,lQ,go_sem]
  refine ⟨{g with state:=.busy},cY,?_⟩
  apply bw _
  refine ⟨_,Le.sub (List.Sublist.cons _ (List.Sublist.cons _ (List.Sublist.refl _))),rfl,d28,W,D,rfl,p,X⟩
 .rintro d49 Y Z _ v6 ⟨d7,b,c,rfl,o,O⟩ d a
  replace a:aW ro ((Y,.loop Z)::(d49,.deferred (some []))::(e,.cells #[.slice d7 v6.length b] 105)::c):=a
  have a7:=a.hd
  have a8:=a.tl.hd
  have r1:=a.tl.tl.hd
  clear a
  replace d:=d.nd
  simp only[keys,List.map_cons,List.map_nil,List.map_append,List.cons_append,List.nil_append,List.nodup_cons,List.mem_cons,List.mem_append,List.not_mem_nil,or_false,not_or] at d
  refine ⟨fun ho=>?_,fun k1 ho=>?_⟩
  .subst ho;have h:=m;dsimp only[aJ] at h
   refine af hJ ?_
   refine ah hJ ?_
   apply aa _
   have h':=Option.some.inj h;clear h;subst h'
   refine aI ?_
   apply bw _
   exact ⟨c,o,Le.sub (List.Sublist.cons _ (List.Sublist.cons _ (List.Sublist.cons _ (List.Sublist.refl _))))⟩
  subst ho;have h:=m;dsimp only[aJ] at h
  cases h
 intro k1 a9 ho;subst ho;have h:=m;dsimp only[aJ] at h
 cases h
def mU (u0:aH)(a:Int)(st:((List bg)×Int)):Option (Fl ((List bg)×Int) (List bg)):=
 cond (decide (st.2<a)) (ak (jU st.2) fun b=>cond (decide (b<=u0.an)) (ak (qL u0 st.2) fun c=>ak (o5 st.1 c) fun d=>some (.nx (d,(IntKind.u64.wrap (st.2+1))))) (some (.nx (st.1,(IntKind.u64.wrap (st.2+1)))))) (some (.bk (st.1,st.2)))
def mV (u0:aH):Option (List bg):=
 ak (jl 1 (u0.aj.length:Int)) fun a=>ak (aZ (mU u0 a) fu (([]:List bg),0)) fun o=>aJ o (fun b=>some b.1) (fun _ _=>none) (fun r=>some r)
theorem Ap {ro:Addr->Option Value}(u0:aH){s1:Value}(a:aG bJ ro s1 u0.aj){r:(List bg)}(h:mV u0=some r):eK Tryz.prog 74 #[.agg #[.int .i64 u0.steps,.int .i64 u0.an,s1]] ro (fun v aK=>∃B,v=B/\aG gY aK B r):=by
 obtain ⟨d3,c4,rfl,ar,a0,f⟩:=id a;unfold mV at h;refine aF.go Tryz.func74 rfl Tryz.ntmps74 Tryz.results74 aB fun main J hJ A N hd hs=>?_;have O:=hs 0;clear hs;refine af hJ ?_;refine ah hJ ?_;apply aa _;intro b f8;have n:=aT f8;have P:=aU f8;try simp only[aN] at P
 try apply aa _
 refine af hJ ?_;refine ah hJ ?_;apply aa _;refine af hJ ?_;refine af hJ ?_;refine ah hJ ?_;have h':=av h;clear h;obtain ⟨C,D,h⟩:=h';obtain ⟨a2,Q⟩:=lH D;clear D;try simp only[go_sem] at Q
 try apply aa _
 refine bf hJ ?_;have h':=av h;clear h;obtain ⟨R,i,S⟩:=h';have h:=True.intro;refine bO hJ [3,4,10,11,12,13,14,15,16,17,18,19,20,21,22,23,24] (fun m E F'=>∃(c:Addr->Option Value) (d12:Option Addr) (j:Nat) (d:List (Nat×Obj)) (v11:(List bg)) (e:Int),aZ (mU u0 C) m (v11,e)=some R/\F'=⟨c,(b,.cells #[.int .i64 u0.steps,.int .i64 u0.an,.slice d3 u0.aj.length c4] 87)::d⟩/\Ext ro c/\bA gY c 84 (.slice d12 v11.length j) v11 d/\v11.length<=j/\slot E 3= .slice d12 v11.length j/\slot E 10= .int .u64 e) fu ?_ ?_
 .refine ⟨ro,none,0,[],([]:List bg),0,i,rfl,Ext.refl _,bA.nil _ _ _,Nat.le_refl _,?_⟩;simp only[*,go_sem,-h]
 rintro o k F' g ⟨c,d12,j,d,v11,e,i,rfl,p,l,T,a3,a4⟩;have h:=True.intro;refine jS hJ fun _ t=>?_;have t:aW c ((b,.cells #[.int .i64 u0.steps,.int .i64 u0.an,.slice d3 u0.aj.length c4] 87)::d):=t;replace a:=a.mono p;clear f;obtain ⟨_,_,f⟩:=a.op;replace n:=t.hd;have a5:sz k=26:=by rw[g.size];simp only[*,go_sem,-h]
 have a6:k.defers=[]:=by rw[g.defers];simp only[*,go_sem,-h]
 have a7:slot k 1= .pointer (some ⟨b,0,none⟩):=by rw[g.aA 1 ay];simp only[*,go_sem,-h]
 have a8:slot k 2= .slice none 0 0:=by rw[g.aA 2 ay];simp only[*,go_sem,-h]
 have a9:slot k 9= .int .u64 C:=by rw[g.aA 9 ay];simp only[*,go_sem,-h]
 clear g N hd O;obtain _|o:=o
 .exact absurd i (by simp only[aZ,reduceCtorEq,not_false_eq_true])
 have h':=av i;clear i h;obtain ⟨ba,h,q⟩:=h';unfold mU at h;try dsimp only at h
 refine af hJ ?_;refine aO hJ fun bb=>?_;refine ah hJ ?_;apply aa _;refine af hJ ?_;have h':=aD h;clear h;rcases h' with ⟨u,h⟩|⟨u,h⟩
 .try simp only[Int.ofNat_lt] at u
  refine aL hJ au ?_;refine aR hJ ?_;refine af hJ ?_;refine bf hJ ?_;refine af hJ ?_;refine aO hJ fun bc=>?_;refine ah hJ ?_;apply aa _;refine af hJ ?_;refine aO hJ fun bd=>?_;refine cB hJ mixed 6 ⟨c,[(b,.cells #[.int .i64 u0.steps,.int .i64 u0.an,.slice d3 u0.aj.length c4] 87)]⟩ au aS ?_;have h':=av h;clear h;obtain ⟨bj,U,h⟩:=h';apply aa _;refine ⟨_,dI hJ fun F hF=>y6 e U,ef ?_⟩;try apply aa _
  have h':=aD h;clear h;rcases h' with ⟨w,h⟩|⟨w,h⟩
  ·(try simp only[Int.ofNat_lt] at w);refine aL hJ au ?_;refine aO hJ fun bk=>?_;refine ah hJ ?_;have h':=av h;clear h;obtain ⟨V,W,h⟩:=h';apply aa _;refine cV hJ _ (Ao u0 a e W) fun v x y s hR=>?_;obtain ⟨bm,bo,br,rfl,X⟩:=hR;have s:aW x ((b,.cells #[.int .i64 u0.steps,.int .i64 u0.an,.slice d3 u0.aj.length c4] 87)::d):=s;replace a:=a.mono y;clear f;obtain ⟨_,_,f⟩:=a.op;replace n:=s.hd;replace l:=l.mono y s.tl;refine aQ ?_;have h':=av h;clear h;obtain ⟨Y,Z,h⟩:=h';(try apply aa _);refine dA hJ (bz:=d) [(b,.cells #[.int .i64 u0.steps,.int .i64 u0.an,.slice d3 u0.aj.length c4] 87)] [] (by first|rfl|simp only[bE]|(simp only[bE];rfl)) _ (Gq v11 l V X Z) (fun bs G H ab ad b0=>?_);simp only[bE] at ad;subst ab;obtain ⟨d46,ae,rfl,al⟩:=H.len;refine ⟨⟨x,(b,.cells #[.int .i64 u0.steps,.int .i64 u0.an,.slice d3 u0.aj.length c4] 87)::G⟩,Le.refl _,?_⟩;refine aQ ?_;(try apply aa _);refine aO hJ fun b1=>?_;refine ah hJ ?_;apply aa _;have h':=Option.some.inj h;clear h;subst h';have h:=True.intro;(try apply aa _);refine ⟨o,Nat.lt_succ_self _,_,Le.sub (List.Sublist.refl _),x,d46,ae,G,Y,(IntKind.u64.wrap (e+1)),q,rfl,(p.trans y),H,al,?_⟩;simp only[*,go_sem,-h]
  try simp only[Int.ofNat_lt] at w
  refine aM hJ au ?_;refine aR hJ ?_;refine aO hJ fun b2=>?_;refine ah hJ ?_;apply aa _;have h':=Option.some.inj h;clear h;subst h';have h:=True.intro;try apply aa _
  refine ⟨o,Nat.lt_succ_self _,_,Le.sub (List.Sublist.refl _),c,d12,j,d,v11,(IntKind.u64.wrap (e+1)),q,rfl,p,l,T,?_⟩;simp only[*,go_sem,-h]
 try simp only[Int.ofNat_lt] at u
 refine aM hJ au ?_;refine bM ?_;simp only[go_sem];have h':=Option.some.inj h;clear h;subst h';have h':=Option.some.inj q;clear q;subst h';have h:=S;dsimp only[aJ] at h;refine af hJ ?_;refine aO hJ fun b3=>?_;refine ah hJ ?_;apply aa _;have h':=Option.some.inj h;clear h;subst h';refine aO hJ fun I=>?_;obtain ⟨K,L,z,M,ao⟩:=l.iN ((b,.cells #[.int .i64 u0.steps,.int .i64 u0.an,.slice d3 u0.aj.length c4] 87)::[]) [(b,.cells #[.int .i64 u0.steps,.int .i64 u0.an,.slice d3 u0.aj.length c4] 87)] [] (by first|rfl|simp only[bE]|(simp only[bE];rfl)) (by first|rfl|simp only[bE]|(simp only[bE];rfl)) I (aW.cons n (aW.nil _));clear I;refine cG (F:=⟨K,(b,.cells #[.int .i64 u0.steps,.int .i64 u0.an,.slice d3 u0.aj.length c4] 87)::[]⟩) hJ ao ?_;obtain ⟨b4,ca,cb⟩:=M.op;have z:aW K ((b,.cells #[.int .i64 u0.steps,.int .i64 u0.an,.slice d3 u0.aj.length c4] 87)::[]):=z;replace a:=a.mono L;clear f;obtain ⟨_,_,f⟩:=a.op;replace n:=z.hd;refine aI ?_;apply bw _;exact ⟨_,(p).trans L,Le.sub (List.nil_sublist _),_,rfl,M⟩
def vD (a:bg)(st:Bool):Option (Fl Bool Unit):=
 some (.br 1000000000 true)
def mW (u0:aH)(a:Int):Option Bool:=
 ak (qL u0 a) fun b=>ak (js (vD) b false) fun o=>aJ o (fun d=>some false) (fun k c=>cond (k==1000000000) (some c) (none)) (fun _=>none)
theorem vE {ro:Addr->Option Value}(u0:aH){s1:Value}(d:aG bJ ro s1 u0.aj)(l:Int){r:Bool}(h:mW u0 l=some r):aF Tryz.prog 76 #[.agg #[.int .i64 u0.steps,.int .i64 u0.an,s1],.int .u64 l] ⟨ro,[]⟩ (fun v _=>v= .bool r):=by
 obtain ⟨d3,c4,rfl,O,P,u⟩:=id d;unfold mW at h;refine aF.yW Tryz.func76 rfl Tryz.ntmps76 Tryz.results76 aB fun main J hJ A y hd hs=>?_;have z:=hs 0;have k1:=hs 1;clear hs;refine af hJ ?_;refine ah hJ ?_;apply aa _;intro i f8;have m:=aT f8;have B:=aU f8;try simp only[aN] at B
 intro e f9;have n:=aT f9;have C:=aU f9;try simp only[aN] at C
 try apply aa _
 refine af hJ ?_;refine af hJ ?_;refine ah hJ ?_;have h':=av h;clear h;obtain ⟨Q,D,h⟩:=h';apply aa _;refine cV hJ _ (Ao u0 d l D) fun v o E j hR=>?_;obtain ⟨R,S,T,rfl,F⟩:=hR;have j:aW o ((e,.cells #[.bool false] 4)::(i,.cells #[.int .i64 u0.steps,.int .i64 u0.an,.slice d3 u0.aj.length c4] 87)::[]):=j;replace d:=d.mono E;clear u;obtain ⟨_,_,u⟩:=d.op;replace n:=j.hd;replace m:=j.tl.hd;try apply aa _
 have h':=av h;clear h;obtain ⟨U,G,p⟩:=h';have h:=True.intro;refine yT hJ bg.v cY F aS aS (ρ:=Unit) (fun (H:Bool) I=>I=(e,.cells #[.bool H] 4)::(i,.cells #[.int .i64 u0.steps,.int .i64 u0.an,.slice d3 u0.aj.length c4] 87)::[]) (f:=vD) G ?_ ?_ ay ?_ ?_
 .exact rfl
 .rintro d17 K q L s b V h main J hJ _ rfl;unfold vD at h;try dsimp only at h
  generalize g:lS _ _ _=k;have W:sz k=9:=by rw[<-g,yS];simp only[*,go_sem]
  have X:k.defers=[]:=by rw[<-g];rfl
  have Y:slot k 4= .pointer (some ⟨e,0,none⟩):=by rw[<-g,qh];simp only[*,go_sem]
  have Z:slot k 8= .agg #[.int .i64 b.ax.e0,.int .i64 b.ax.e1,.int .i64 b.ax.e2,.int .i64 b.ax.e3,.int .i64 b.az.e0,.int .i64 b.az.e1,.int .i64 b.az.e2,.int .i64 b.az.e3,.int .u64 b.an]:=by rw[<-g,qh];simp only[*,go_sem]
  clear g y hd z k1;refine jS hJ fun c a=>?_;replace a:aW o ((K,.loop q)::(d17,.deferred (some []))::(e,.cells #[.bool s] 4)::(i,.cells #[.int .i64 u0.steps,.int .i64 u0.an,.slice d3 u0.aj.length c4] 87)::[]):=a;have ab:=a.hd;have ad:=a.tl.hd;have n:=a.tl.tl.hd;have m:=a.tl.tl.tl.hd;clear a;replace c:=c.nd;simp only[keys,List.map_cons,List.map_nil,List.map_append,List.cons_append,List.nil_append,List.nodup_cons,List.mem_cons,List.mem_append,List.not_mem_nil,or_false,not_or] at c;refine aR hJ ?_;simp only[qd,go_sem];refine ⟨q,cY,L,?_⟩;try apply aa _
  refine bf hJ ?_;refine af hJ ?_;refine ah hJ ?_;apply aa _;refine aI ?_;have h':=Option.some.inj h;clear h;subst h';simp only[tB,lQ,go_sem];refine ⟨{q with state:=.busy},cY,?_⟩;apply bw _;refine ⟨_,Le.sub (List.Sublist.refl _),rfl,rfl⟩
 .rintro d179 M N _ s rfl c a;replace a:aW o ((M,.loop N)::(d179,.deferred (some []))::(e,.cells #[.bool s] 4)::(i,.cells #[.int .i64 u0.steps,.int .i64 u0.an,.slice d3 u0.aj.length c4] 87)::[]):=a;have ae:=a.hd;have al:=a.tl.hd;have n:=a.tl.tl.hd;have m:=a.tl.tl.tl.hd;clear a;replace c:=c.nd;simp only[keys,List.map_cons,List.map_nil,List.map_append,List.cons_append,List.nil_append,List.nodup_cons,List.mem_cons,List.mem_append,List.not_mem_nil,or_false,not_or] at c;refine ⟨fun ho=>?_,fun k1 ho=>?_⟩
  .subst ho;have h:=p;dsimp only[aJ] at h;refine af hJ ?_;refine ah hJ ?_;apply aa _;have h':=Option.some.inj h;clear h;subst h';refine aO hJ fun t=>?_;replace t:=t.nd;(try simp only[keys,List.map_cons,List.map_nil,List.map_append,List.cons_append,List.nil_append,List.nodup_cons,List.mem_cons,List.mem_append,List.not_mem_nil,or_false,not_or] at t);refine aI ?_;simp only[*,go_sem]
  subst ho;have h:=p;dsimp only[aJ] at h;have h':=aD h;clear h;rcases h' with ⟨w,h⟩|⟨w,h⟩
  .obtain rfl:k1=1000000000:=by simpa using w
   unfold tF;rw[if_pos (show (1000000000:Nat)=qg from rfl)];have h':=Option.some.inj h;clear h;subst h';simp only[*,go_sem]
  cases h
 intro k1 ao ho;subst ho;have h:=p;dsimp only[aJ] at h;have h':=aD h;clear h;rcases h' with ⟨x,h⟩|⟨x,h⟩
 .obtain rfl:k1=1000000000:=by simpa using x
  decide
 cases h
def gP (u0:aH)(c:(aH->Option Bool)):Option (dF×Int):=
 ak (fE u0) fun a=>cond ((a != 0)) (some ((⟨(⟨0,0,([]:(List bp))⟩:aH),([]:(List bg))⟩:dF),a)) (ak (c u0) fun d=>cond (!d) (some ((⟨(⟨0,0,([]:(List bp))⟩:aH),([]:(List bg))⟩:dF),6)) (ak (mV u0) fun b=>cond (((b.length:Int)==0)) (some ((⟨(⟨0,0,([]:(List bp))⟩:aH),([]:(List bg))⟩:dF),9)) (some ((⟨u0,b⟩:dF),0))))
theorem jA {ro:Addr->Option Value}(e:dB ro)(u0:aH){s1:Value}(b:aG bJ ro s1 u0.aj)(j:(aH->Option Bool)){bN:FuncId}{bP bQ:Array Value}(o:aP Tryz.prog bN=true/\∀(aK:Addr->Option Value),Ext ro aK->∀(y0:aH) (k:Value) (z:Bool),aG bJ aK k y0.aj->j y0=some z->aF Tryz.prog bN (bP++#[.agg #[.int .i64 y0.steps,.int .i64 y0.an,k]]++bQ) ⟨aK,[]⟩ (fun v _=>v= .bool z)){r:(dF×Int)}(h:gP u0 j=some r):eK Tryz.prog 66 #[.agg #[.int .i64 u0.steps,.int .i64 u0.an,s1],.func (.func bN) bP bQ] ro (fun v aK=>∃l w1,v= .tuple #[.agg #[.int .i64 r.1.round.steps,.int .i64 r.1.round.an,l,w1],.int .i64 r.2]/\aG bJ aK l r.1.round.aj/\aG gY aK w1 r.1.bG):=by
 obtain ⟨d3,c4,rfl,G,H,m⟩:=id b;unfold gP at h;refine aF.go Tryz.func66 rfl Tryz.ntmps66 Tryz.results66 aB fun main J hJ A I hd hs=>?_;have K:=hs 0;have k1:=hs 1;clear hs;refine af hJ ?_;refine ah hJ ?_;apply aa _;intro p f8;have q:=aT f8;have s:=aU f8;try simp only[aN] at s
 intro t f9;have u:=aT f9;have w:=aU f9;try simp only[aN] at w
 try apply aa _
 refine af hJ ?_;refine af hJ ?_;refine ah hJ ?_;have h':=av h;clear h;obtain ⟨L,x,h⟩:=h';apply aa _;refine bl hJ _ (jv (e.mono aX) u0 (b.mono aX) x) (aQ ?_);try apply aa _
 refine af hJ ?_;refine ah hJ ?_;apply aa _;have h':=aD h;clear h;rcases h' with ⟨f,h⟩|⟨f,h⟩
 .try simp only[Int.ofNat_lt] at f
  refine aL hJ au ?_;refine af hJ ?_;refine ah hJ ?_;apply aa _;have h':=Option.some.inj h;clear h;subst h';refine aI ?_;apply bw _;exact ⟨_,Ext.refl _,Le.sub (List.nil_sublist _),_,_,rfl,aG.nil _ _,aG.nil _ _⟩
 try simp only[Int.ofNat_lt] at f
 refine aM hJ au ?_;refine aR hJ ?_;refine af hJ ?_;refine ah hJ ?_;apply aa _;intro y f13;have B:=aT f13;have C:=aU f13;try simp only[aN] at C
 try apply aa _
 refine af hJ ?_;refine af hJ ?_;refine ah hJ ?_;have h':=av h;clear h;obtain ⟨M,D,h⟩:=h';apply aa _;refine bl hJ _ (o.2 _ (fun a v h=>aX a v h) u0 _ _ (b.mono aX) D) (aQ ?_);try apply aa _
 have h':=aD h;clear h;rcases h' with ⟨g,h⟩|⟨g,h⟩
 .try simp only[Int.ofNat_lt] at g
  refine aL hJ au ?_;refine af hJ ?_;refine ah hJ ?_;apply aa _;have h':=Option.some.inj h;clear h;subst h';refine aI ?_;apply bw _;exact ⟨_,Ext.refl _,Le.sub (List.nil_sublist _),_,_,rfl,aG.nil _ _,aG.nil _ _⟩
 try simp only[Int.ofNat_lt] at g
 refine aM hJ au ?_;refine aR hJ ?_;refine af hJ ?_;refine af hJ ?_;refine ah hJ ?_;have h':=av h;clear h;obtain ⟨N,E,h⟩:=h';apply aa _;refine cV hJ _ (Ap u0 b E) fun v F d c hR=>?_;obtain ⟨O,rfl,n⟩:=hR;have c:aW F ((y,.cells #[.int .i64 u0.steps,.int .i64 u0.an,.slice d3 u0.aj.length c4,.slice none 0 0] 107)::(t,.cells #[.int .i64 0,.int .i64 0,.slice none 0 0,.slice none 0 0] 107)::(p,.cells #[.int .i64 u0.steps,.int .i64 u0.an,.slice d3 u0.aj.length c4] 24)::[]):=c;replace b:=b.mono d;clear m;obtain ⟨_,_,m⟩:=b.op;replace B:=c.hd;replace u:=c.tl.hd;replace q:=c.tl.tl.hd;replace e:=e.mono d;obtain ⟨d24,P,rfl,Q,R,S⟩:=id n;refine aQ ?_;try apply aa _
 refine af hJ ?_;refine ah hJ ?_;apply aa _;have h':=aD h;clear h;rcases h' with ⟨i,h⟩|⟨i,h⟩
 .try simp only[Int.ofNat_lt] at i
  refine aL hJ au ?_;refine af hJ ?_;refine ah hJ ?_;apply aa _;have h':=Option.some.inj h;clear h;subst h';refine aI ?_;apply bw _;exact ⟨_,d,Le.sub (List.nil_sublist _),_,_,rfl,aG.nil _ _,aG.nil _ _⟩
 try simp only[Int.ofNat_lt] at i
 refine aM hJ au ?_;refine aR hJ ?_;refine af hJ ?_;refine ah hJ ?_;apply aa _;have h':=Option.some.inj h;clear h;subst h';refine aI ?_;apply bw _;exact ⟨_,d,Le.sub (List.nil_sublist _),_,_,rfl,b,n⟩
def mX (u0:aH):Option (Int×Int):=
 ak (fE u0) fun a=>cond ((a != 0)) (some (0,a)) (ak (mV u0) fun b=>some ((b.length:Int),0))
theorem rf {ro:Addr->Option Value}(b:dB ro)(u0:aH){s1:Value}(a:aG bJ ro s1 u0.aj){r:(Int×Int)}(h:mX u0=some r):aF Tryz.prog 23 #[.agg #[.int .i64 u0.steps,.int .i64 u0.an,s1]] ⟨ro,[]⟩ (fun v _=>v= .tuple #[.int .i64 r.1,.int .i64 r.2]):=by
 obtain ⟨d3,c4,rfl,o,p,e⟩:=id a;unfold mX at h;refine aF.go Tryz.func23 rfl Tryz.ntmps23 Tryz.results23 aB fun main J hJ A q hd hs=>?_;have s:=hs 0;clear hs;refine af hJ ?_;refine ah hJ ?_;apply aa _;intro g f8;have i:=aT f8;have j:=aU f8;try simp only[aN] at j
 try apply aa _
 refine af hJ ?_;refine af hJ ?_;refine ah hJ ?_;have h':=av h;clear h;obtain ⟨t,k,h⟩:=h';apply aa _;refine bl hJ _ (jv (b.mono aX) u0 (a.mono aX) k) (aQ ?_);try apply aa _
 refine af hJ ?_;refine ah hJ ?_;apply aa _;have h':=aD h;clear h;rcases h' with ⟨c,h⟩|⟨c,h⟩
 .try simp only[Int.ofNat_lt] at c
  refine aL hJ au ?_;refine af hJ ?_;refine ah hJ ?_;apply aa _;have h':=Option.some.inj h;clear h;subst h';refine aI ?_;simp only[*,go_sem]
 try simp only[Int.ofNat_lt] at c
 refine aM hJ au ?_;refine aR hJ ?_;refine af hJ ?_;refine ah hJ ?_;have h':=av h;clear h;obtain ⟨u,l,h⟩:=h';apply aa _;refine cV hJ _ (Ap u0 a l) fun v m f d hR=>?_;obtain ⟨w,rfl,n⟩:=hR;have d:aW m ((g,.cells #[.int .i64 u0.steps,.int .i64 u0.an,.slice d3 u0.aj.length c4] 24)::[]):=d;replace a:=a.mono f;clear e;obtain ⟨_,_,e⟩:=a.op;replace i:=d.hd;replace b:=b.mono f;obtain ⟨d19,x,rfl,y,z,B⟩:=id n;refine aQ ?_;try apply aa _
 have h':=Option.some.inj h;clear h;subst h';refine aI ?_;simp only[*,go_sem]
def k4 (u0:aH):Option (Int×Int):=
 ak (gP u0 gZ) fun a=>cond ((a.2 != 0)) (some (0,a.2)) (ak (kO a.1 (kP a.1.round)) fun b=>some (b,0))
theorem vF {ro:Addr->Option Value}(c:dB ro)(u0:aH){s1:Value}(b:aG bJ ro s1 u0.aj){r:(Int×Int)}(h:k4 u0=some r):aF Tryz.prog 18 #[.agg #[.int .i64 u0.steps,.int .i64 u0.an,s1]] ⟨ro,[]⟩ (fun v _=>v= .tuple #[.int .i64 r.1,.int .i64 r.2]):=by
 obtain ⟨d3,c4,rfl,x,y,g⟩:=id b;unfold k4 at h;refine aF.go Tryz.func18 rfl Tryz.ntmps18 Tryz.results18 aB fun main J hJ A z hd hs=>?_;have B:=hs 0;clear hs;refine af hJ ?_;refine ah hJ ?_;apply aa _;intro l f8;have m:=aT f8;have n:=aU f8;try simp only[aN] at n
 try apply aa _
 refine af hJ ?_;refine ah hJ ?_;have h':=av h;clear h;obtain ⟨a,o,h⟩:=h';apply aa _;refine cV hJ _ (jA c (bN:=67) (bP:=#[]) (bQ:=#[]) u0 b gZ ⟨by simp only[go_sem],fun p i y0 _ _ q h=>by simp only[go_sem];exact qx y0 q h⟩ o) fun v s j d hR=>?_;obtain ⟨C,D,rfl,e,k⟩:=hR;have d:aW s ((l,.cells #[.int .i64 u0.steps,.int .i64 u0.an,.slice d3 u0.aj.length c4] 24)::[]):=d;replace b:=b.mono j;clear g;obtain ⟨_,_,g⟩:=b.op;replace m:=d.hd;replace c:=c.mono j;obtain ⟨d16,t,rfl,E,F,G⟩:=id e;obtain ⟨d23,H,rfl,I,K,L⟩:=id k;refine aQ ?_;try apply aa _
 intro M f28;have N:=aT f28;have u:=aU f28;try simp only[aN] at u
 try apply aa _
 refine af hJ ?_;refine af hJ ?_;refine ah hJ ?_;apply aa _;have h':=aD h;clear h;rcases h' with ⟨f,h⟩|⟨f,h⟩
 .try simp only[Int.ofNat_lt] at f
  refine aL hJ au ?_;refine af hJ ?_;refine ah hJ ?_;apply aa _;have h':=Option.some.inj h;clear h;subst h';refine aI ?_;simp only[*,go_sem]
 try simp only[Int.ofNat_lt] at f
 refine aM hJ au ?_;refine aR hJ ?_;refine af hJ ?_;refine ah hJ ?_;have h':=av h;clear h;obtain ⟨O,w,h⟩:=h';apply aa _;refine bl hJ _ (tU (bN:=69) (bP:=#[.agg #[.int .i64 a.1.round.steps,.int .i64 a.1.round.an,.slice d16 a.1.round.aj.length t]]) (bQ:=#[]) a.1 (e.mono aX) (k.mono aX) (kP a.1.round) ⟨by simp only[go_sem],fun p i y0 _ h=>by simp only[go_sem];exact Ea a.1.round ((e.mono aX).mono i) y0 h⟩ w) (aQ ?_);try apply aa _
 have h':=Option.some.inj h;clear h;subst h';refine aI ?_;simp only[*,go_sem]
def mY (a:(dF×Int))(b:Int)(i47:Nat)(c:bg)(st:Unit):Option (Fl Unit ((List Int)×Int)):=
 ak (ju a.1.round c b) fun d=>cond (d) (some (.br 1 ())) (some (.nx ()))
def mZ (u0:aH)(a:(dF×Int))(st:((List Int)×Int)):Option (Fl ((List Int)×Int) ((List Int)×Int)):=
 cond (decide (st.2<u0.steps)) (ak (bX (mY a st.2) 0 a.1.bG ()) fun o=>aJ o (fun c=>ak (jk st.1 ([st.2])) fun b=>some (.nx (b,(IntKind.i64.wrap (st.2+1))))) (fun _ d=>some (.nx (st.1,(IntKind.i64.wrap (st.2+1))))) (fun r=>some (.rt r))) (some (.bk (st.1,st.2)))
def m0 (u0:aH):Option ((List Int)×Int):=
 ak (gP u0 gZ) fun a=>cond ((a.2 != 0)) (some (([]:(List Int)),a.2)) (ak (aZ (mZ u0 a) fu (([]:List Int),0)) fun o=>aJ o (fun b=>some (b.1,0)) (fun _ _=>none) (fun r=>some r))
theorem Aq {ro:Addr->Option Value}(t:dB ro)(u0:aH){s1:Value}(j:aG bJ ro s1 u0.aj){r:((List Int)×Int)}(h:m0 u0=some r):eK Tryz.prog 19 #[.agg #[.int .i64 u0.steps,.int .i64 u0.an,s1]] ro (fun v aK=>∃V,v= .tuple #[V,.int .i64 r.2]/\aG rI aK V r.1):=by
 obtain ⟨d3,c4,rfl,ea,eb,C⟩:=id j;unfold m0 at h;refine aF.go Tryz.func19 rfl Tryz.ntmps19 Tryz.results19 aB fun main J hJ A bd hd hs=>?_;have bj:=hs 0;clear hs;refine af hJ ?_;refine ah hJ ?_;apply aa _;intro g f8;have L:=aT f8;have bk:=aU f8;try simp only[aN] at bk
 try apply aa _
 refine BV hJ ?_;refine af hJ ?_;refine ah hJ ?_;have h':=av h;clear h;obtain ⟨a,bm,h⟩:=h';apply aa _;refine cV hJ _ (jA t (bN:=67) (bP:=#[]) (bQ:=#[]) u0 j gZ ⟨by simp only[go_sem],fun ec ed y0 _ _ bo h=>by simp only[go_sem];exact qx y0 bo h⟩ bm) fun v u D M hR=>?_;obtain ⟨eh,et,rfl,w,E⟩:=hR;have M:aW u ((g,.cells #[.int .i64 u0.steps,.int .i64 u0.an,.slice d3 u0.aj.length c4] 24)::[]):=M;replace j:=j.mono D;clear C;obtain ⟨_,_,C⟩:=j.op;replace L:=M.hd;replace t:=t.mono D;obtain ⟨d16,k,rfl,ev,eQ,W⟩:=id w;obtain ⟨d23,i,rfl,eS,br,N⟩:=id E;refine aQ ?_;try apply aa _
 intro e f28;have X:=aT f28;have bs:=aU f28;try simp only[aN] at bs
 try apply aa _
 refine af hJ ?_;refine af hJ ?_;refine ah hJ ?_;apply aa _;have h':=aD h;clear h;rcases h' with ⟨O,h⟩|⟨O,h⟩
 .try simp only[Int.ofNat_lt] at O
  refine aL hJ au ?_;refine af hJ ?_;refine ah hJ ?_;apply aa _;have h':=Option.some.inj h;clear h;subst h';refine aI ?_;apply bw _;exact ⟨_,D,Le.sub (List.nil_sublist _),_,rfl,aG.nil _ _⟩
 try simp only[Int.ofNat_lt] at O
 refine aM hJ au ?_;refine aR hJ ?_;refine af hJ ?_;refine ah hJ ?_;apply aa _;refine af hJ ?_;refine BU hJ ?_;refine af hJ ?_;refine af hJ ?_;refine ah hJ ?_;apply aa _;refine bf hJ ?_;have h':=av h;clear h;obtain ⟨b0,y,b1⟩:=h';have h:=True.intro;refine bO hJ [6,7,9,20,21,22,23,24,25,26,27,28,29,30,31,32,33,34,35,36,37,38,39,40] (fun m G F'=>∃(d31:Option Addr) (s:Nat) (z:List (Nat×Obj)) (v30:(List Int)) (d:Int),aZ (mZ u0 a) m (v30,d)=some b0/\F'=⟨u,(e,.cells #[.int .i64 a.1.round.steps,.int .i64 a.1.round.an,.slice d16 a.1.round.aj.length k,.slice d23 a.1.bG.length i] 107)::(g,.cells #[.int .i64 u0.steps,.int .i64 u0.an,.slice d3 u0.aj.length c4] 24)::z⟩/\bA rI u 3 (.slice d31 v30.length s) v30 z/\v30.length<=s/\slot G 6= .slice d31 v30.length s/\slot G 20= .int .i64 d) fu ?_ ?_
 .refine ⟨none,0,[],([]:List Int),0,y,rfl,bA.nil _ _ _,Nat.le_refl _,?_⟩;simp only[*,go_sem,-h]
 rintro H p F' q ⟨d31,s,z,v30,d,y,rfl,P,b2,b3,b4⟩;have h:=True.intro;have ca:sz p=42:=by rw[q.size];simp only[*,go_sem,-h]
 have cb:p.defers=[]:=by rw[q.defers];simp only[*,go_sem,-h]
 have cc:slot p 2= .slice none 0 0:=by rw[q.aA 2 ay];simp only[*,go_sem,-h]
 have cd:slot p 3= .int .i64 0:=by rw[q.aA 3 ay];simp only[*,go_sem,-h]
 have cf:slot p 4= .pointer (some ⟨e,0,none⟩):=by rw[q.aA 4 ay];simp only[*,go_sem,-h]
 have ck:slot p 19= .int .i64 u0.steps:=by rw[q.aA 19 ay];simp only[*,go_sem,-h]
 clear q bd hd bj;obtain _|H:=H
 .exact absurd y (by simp only[aZ,reduceCtorEq,not_false_eq_true])
 have h':=av y;clear y h;obtain ⟨e0,h,I⟩:=h';unfold mZ at h;try dsimp only at h
 refine af hJ ?_;refine aO hJ fun e1=>?_;refine ah hJ ?_;apply aa _;refine af hJ ?_;have h':=aD h;clear h;rcases h' with ⟨Q,h⟩|⟨Q,h⟩
 .try simp only[Int.ofNat_lt] at Q
  refine aL hJ au ?_;refine aR hJ ?_;refine af hJ ?_;refine bf hJ ?_;refine af hJ ?_;refine aO hJ fun e3=>?_;refine ah hJ ?_;apply aa _;refine af hJ ?_;refine af hJ ?_;refine aO hJ fun fa=>?_;refine ah hJ ?_;apply aa _;refine bf hJ ?_;have h':=av h;clear h;obtain ⟨cl,o,Y⟩:=h';have h:=True.intro;refine bO hJ [9,26,27,28,29,30,31,32,33,34,35] (fun m G F'=>∃(i47:Nat),m=a.1.bG.length - i47/\i47<=a.1.bG.length/\bX (mY a d) i47 (a.1.bG.drop i47) ()=some cl/\F'=⟨u,(e,.cells #[.int .i64 a.1.round.steps,.int .i64 a.1.round.an,.slice d16 a.1.round.aj.length k,.slice d23 a.1.bG.length i] 107)::(g,.cells #[.int .i64 u0.steps,.int .i64 u0.an,.slice d3 u0.aj.length c4] 24)::z⟩/\slot G 26= .int .i64 (i47:Int)) a.1.bG.length ?_ ?_
  .refine ⟨0,(Nat.sub_zero _).symm,Nat.zero_le _,o,rfl,?_⟩;simp only[*,go_sem,-h]
  rintro m2 c F' b ⟨i47,rfl,fb,o,rfl,fc⟩;have h:=True.intro;have fg:sz c=42:=by rw[b.size];simp only[*,go_sem,-h]
  have fh:c.defers=[]:=by rw[b.defers];simp only[*,go_sem,-h]
  have fi:slot c 2= .slice none 0 0:=by rw[b.aA 2 ay];simp only[*,go_sem,-h]
  have fj:slot c 3= .int .i64 0:=by rw[b.aA 3 ay];simp only[*,go_sem,-h]
  have fl:slot c 4= .pointer (some ⟨e,0,none⟩):=by rw[b.aA 4 ay];simp only[*,go_sem,-h]
  have fp:slot c 6= .slice d31 v30.length s:=by rw[b.aA 6 ay];simp only[*,go_sem,-h]
  have fr:slot c 7= .int .i64 d:=by rw[b.aA 7 ay];simp only[*,go_sem,-h]
  have fs:slot c 19= .int .i64 u0.steps:=by rw[b.aA 19 ay];simp only[*,go_sem,-h]
  have ft:slot c 20= .int .i64 d:=by rw[b.aA 20 ay];simp only[*,go_sem,-h]
  have fv:slot c 21= .bool true:=by rw[b.aA 21 ay];simp only[*,go_sem,-h]
  have fw:slot c 22= .int .i64 d:=by rw[b.aA 22 ay];simp only[*,go_sem,-h]
  have fx:slot c 23= .pointer (some ⟨e,3,none⟩):=by rw[b.aA 23 ay];simp only[*,go_sem,-h]
  have fz:slot c 24= .slice d23 a.1.bG.length i:=by rw[b.aA 24 ay];simp only[*,go_sem,-h]
  have gg:slot c 25= .int .i64 (a.1.bG.length:Int):=by rw[b.aA 25 ay];simp only[*,go_sem,-h]
  have gj:cq [6,7,9,20,21,22,23,24,25,26,27,28,29,30,31,32,33,34,35,36,37,38,39,40] c p:=(b.eg ay).trans au;clear b ca cb cc cd cf ck b3 b4;refine af hJ ?_;refine ah hJ ?_;apply aa _;refine af hJ ?_;rcases Nat.lt_or_ge i47 a.1.bG.length with cv|Z
  .refine aL hJ au ?_;refine aR hJ ?_;obtain ⟨ab,R⟩:∃x,a.1.bG[i47]?=some x:=⟨_,List.getElem?_eq_getElem cv⟩
   rw[ey R] at o;have h':=av o;clear o h;obtain ⟨gl,h,S⟩:=h';unfold mY at h;(try dsimp only at h);obtain ⟨gn,cy,c0,da,f⟩:=N _ _ R;obtain rfl:cy=ab.cells:=da;cases c0;have ad:=f 0 _ rfl;simp only[go_sem] at ad;have ae:=f 1 _ rfl;simp only[go_sem] at ae;have al:=f 2 _ rfl;simp only[go_sem] at al;have ao:=f 3 _ rfl;simp only[go_sem] at ao;have ar:=f 4 _ rfl;simp only[go_sem] at ar;have a0:=f 5 _ rfl;simp only[go_sem] at a0;have a2:=f 6 _ rfl;simp only[go_sem] at a2;have a3:=f 7 _ rfl;simp only[go_sem] at a3;have a4:=f 8 _ rfl;simp only[go_sem] at a4;clear f R;refine af hJ ?_;refine bf hJ ?_;refine af hJ ?_;refine aO hJ fun db=>?_;refine ah hJ ?_;apply aa _;intro gp f56;have gy:=aT f56;have a5:=aU f56;have g0:=bT.cons a5 db;(try simp only[aN] at a5);(try apply aa _);refine af hJ ?_;refine aO hJ fun g1=>?_;refine ah hJ ?_;have h':=av h;clear h;obtain ⟨g2,dd,h⟩:=h';apply aa _;refine bl hJ _ (tV a.1.round (w.mono aX) ab d dd) ?_;(try apply aa _);have h':=aD h;clear h;rcases h' with ⟨T,h⟩|⟨T,h⟩
   ·(try simp only[Int.ofNat_lt] at T);refine aL hJ au ?_;refine bM ?_;simp only[go_sem];have h':=Option.some.inj h;clear h;subst h';have h':=Option.some.inj S;clear S;subst h';have h:=Y;dsimp only[aJ] at h;clear ad ae al ao ar a0 a2 a3 a4;refine aO hJ fun g3=>?_;refine ah hJ ?_;apply aa _;have h':=Option.some.inj h;clear h;subst h';have h:=True.intro;(try apply aa _);refine ⟨H,Nat.lt_succ_self _,_,Le.sub (List.Sublist.cons _ (List.Sublist.refl _)),d31,s,z,v30,(IntKind.i64.wrap (d+1)),I,rfl,P,b2,?_⟩;simp only[*,go_sem,-h]
   (try simp only[Int.ofNat_lt] at T);refine aM hJ au ?_;refine aR hJ ?_;have h':=Option.some.inj h;clear h;subst h';have h:=True.intro;have g4:=dH (n:=i47) (by have:=br;omega);refine ah hJ ?_;apply aa _;refine ⟨a.1.bG.length - (i47+1),ai,_,Le.sub (List.Sublist.cons _ (List.Sublist.refl _)),i47+1,rfl,ai,S,rfl,?_⟩;simp only[*,go_sem,-h]
  have g7:=Nat.not_lt.2 Z;refine aM hJ au ?_;rw[List.drop_eq_nil_of_le Z] at o;have h':=Option.some.inj o;clear o h;subst h';have h:=Y;dsimp only[aJ] at h;refine bM ?_;simp only[go_sem];refine aO hJ fun df=>?_;refine ah hJ ?_;have h':=av h;clear h;obtain ⟨dk,dp,h⟩:=h';obtain ⟨dq,a6⟩:=oa dp;apply aa _;intro a7 f64;have ds:=aT f64;have a8:=aU f64;have dt:=bT.cons a8 df;try simp only[aN] at a8
  try apply aa _
  refine kJ (r:=rI) (l:=v30) (x:=d) (cs:=#[.int .i64 d]) (e2:=3) [(a7,.cells #[.int .i64 d] 3),(e,.cells #[.int .i64 a.1.round.steps,.int .i64 a.1.round.an,.slice d16 a.1.round.aj.length k,.slice d23 a.1.bG.length i] 107),(g,.cells #[.int .i64 u0.steps,.int .i64 u0.an,.slice d3 u0.aj.length c4] 24)] [] (by first|rfl|simp only[bE]|(simp only[bE];rfl)) P dt dq rfl au ds rfl rfl lN lN tg p8 rfl th ay ay (fun ha a9 U du dv hc=>?_);simp only[bE] at dv;subst du;rw[<-a6] at U;clear a6;obtain ⟨d72,dC,rfl,dE⟩:=U.len;refine ⟨⟨u,(a7,.cells #[.int .i64 d] 3)::(e,.cells #[.int .i64 a.1.round.steps,.int .i64 a.1.round.an,.slice d16 a.1.round.aj.length k,.slice d23 a.1.bG.length i] 107)::(g,.cells #[.int .i64 u0.steps,.int .i64 u0.an,.slice d3 u0.aj.length c4] 24)::a9⟩,Le.refl _,?_⟩;refine aQ ?_;try apply aa _
  refine aO hJ fun hf=>?_;refine ah hJ ?_;apply aa _;have h':=Option.some.inj h;clear h;subst h';have h:=True.intro;try apply aa _
  refine ⟨H,Nat.lt_succ_self _,_,Le.sub (List.Sublist.cons _ (List.Sublist.refl _)),d72,dC,a9,dk,(IntKind.i64.wrap (d+1)),I,rfl,U,dE,?_⟩;simp only[*,go_sem,-h]
 try simp only[Int.ofNat_lt] at Q
 refine aM hJ au ?_;refine bM ?_;simp only[go_sem];have h':=Option.some.inj h;clear h;subst h';have h':=Option.some.inj I;clear I;subst h';have h:=b1;dsimp only[aJ] at h;refine af hJ ?_;refine aO hJ fun hg=>?_;refine ah hJ ?_;apply aa _;have h':=Option.some.inj h;clear h;subst h';refine aO hJ fun ba=>?_;obtain ⟨bb,B,K,bc,dT⟩:=P.iN ((e,.cells #[.int .i64 a.1.round.steps,.int .i64 a.1.round.an,.slice d16 a.1.round.aj.length k,.slice d23 a.1.bG.length i] 107)::(g,.cells #[.int .i64 u0.steps,.int .i64 u0.an,.slice d3 u0.aj.length c4] 24)::[]) [(e,.cells #[.int .i64 a.1.round.steps,.int .i64 a.1.round.an,.slice d16 a.1.round.aj.length k,.slice d23 a.1.bG.length i] 107),(g,.cells #[.int .i64 u0.steps,.int .i64 u0.an,.slice d3 u0.aj.length c4] 24)] [] (by first|rfl|simp only[bE]|(simp only[bE];rfl)) (by first|rfl|simp only[bE]|(simp only[bE];rfl)) ba (aW.cons X (aW.cons L (aW.nil _)));clear ba;refine cG (F:=⟨bb,(e,.cells #[.int .i64 a.1.round.steps,.int .i64 a.1.round.an,.slice d16 a.1.round.aj.length k,.slice d23 a.1.bG.length i] 107)::(g,.cells #[.int .i64 u0.steps,.int .i64 u0.an,.slice d3 u0.aj.length c4] 24)::[]⟩) hJ dT ?_;obtain ⟨hh,hi,hj⟩:=bc.op;have K:aW bb ((e,.cells #[.int .i64 a.1.round.steps,.int .i64 a.1.round.an,.slice d16 a.1.round.aj.length k,.slice d23 a.1.bG.length i] 107)::(g,.cells #[.int .i64 u0.steps,.int .i64 u0.an,.slice d3 u0.aj.length c4] 24)::[]):=K;replace w:=w.mono B;clear W;obtain ⟨_,_,W⟩:=w.op;replace E:=E.mono B;clear N;obtain ⟨_,_,N⟩:=E.op;replace j:=j.mono B;clear C;obtain ⟨_,_,C⟩:=j.op;replace X:=K.hd;replace L:=K.tl.hd;replace t:=t.mono B;refine aI ?_;apply bw _;exact ⟨_,(D).trans B,Le.sub (List.nil_sublist _),_,rfl,bc⟩
def vG (i32:Nat)(i50:Nat)(b:bg)(st:(Int×(List (Int×Int)))):Option (Fl (Int×(List (Int×Int))) (Int×Int×Int)):=
 ak (bh.get b.az (i32:Int)) fun a=>some (.nx ((if st.1<((cE (cC st.2 a (IntKind.i64.wrap (((cE st.2 a).getD 0)+1))) a).getD 0) then ((cE (cC st.2 a (IntKind.i64.wrap (((cE st.2 a).getD 0)+1))) a).getD 0) else st.1),(cC st.2 a (IntKind.i64.wrap (((cE st.2 a).getD 0)+1)))))
def vH (b:(dF×Int))(i32:Nat)(c:bp)(st:(Int×Int)):Option (Fl (Int×Int) (Int×Int×Int)):=
 ak (bX (vG i32) 0 b.1.bG (0,([]:(List (Int×Int))))) fun o=>aJ o (fun a=>cond (decide (a.1<st.2)) (some (.nx ((i32:Int),a.1))) (some (.nx (st.1,st.2)))) (fun _ _=>none) (fun r=>some (.rt r))
def vI (u0:aH):Option (Int×Int×Int):=
 ak (gP u0 gZ) fun a=>cond ((a.2 != 0)) (some (0,0,a.2)) (ak (bX (vH a) 0 u0.aj ((-1),(a.1.bG.length:Int))) fun o=>aJ o (fun b=>some (b.1,b.2,0)) (fun _ _=>none) (fun r=>some r))
theorem Gs {ro:Addr->Option Value}(C:dB ro)(u0:aH){s1:Value}(u:aG bJ ro s1 u0.aj){r:(Int×Int×Int)}(h:vI u0=some r):aF Tryz.prog 49 #[.agg #[.int .i64 u0.steps,.int .i64 u0.an,s1]] ⟨ro,[]⟩ (fun v _=>v= .tuple #[.int .i64 r.1,.int .i64 r.2.1,.int .i64 r.2.2]):=by
 obtain ⟨d3,c4,rfl,dp,M,D⟩:=id u;unfold vI at h;refine aF.go Tryz.func49 rfl Tryz.ntmps49 Tryz.results49 aB fun main J hJ A S hd hs=>?_;have T:=hs 0;clear hs;refine af hJ ?_;refine ah hJ ?_;apply aa _;intro y f8;have U:=aT f8;have V:=aU f8;try simp only[aN] at V
 try apply aa _
 refine af hJ ?_;refine ah hJ ?_;have h':=av h;clear h;obtain ⟨a,W,h⟩:=h';apply aa _;refine cV hJ _ (jA C (bN:=67) (bP:=#[]) (bQ:=#[]) u0 u gZ ⟨by simp only[go_sem],fun dq ds y0 _ _ X h=>by simp only[go_sem];exact qx y0 X h⟩ W) fun v z N E hR=>?_;obtain ⟨dt,du,rfl,Y,Z⟩:=hR;have E:aW z ((y,.cells #[.int .i64 u0.steps,.int .i64 u0.an,.slice d3 u0.aj.length c4] 24)::[]):=E;replace u:=u.mono N;clear D;obtain ⟨_,_,D⟩:=u.op;replace U:=E.hd;replace C:=C.mono N;obtain ⟨d16,F,rfl,dv,dC,dE⟩:=id Y;obtain ⟨d23,B,rfl,dT,ab,ad⟩:=id Z;refine aQ ?_;try apply aa _
 intro o f28;have ea:=aT f28;have ae:=aU f28;try simp only[aN] at ae
 try apply aa _
 refine af hJ ?_;refine af hJ ?_;refine ah hJ ?_;apply aa _;have h':=aD h;clear h;rcases h' with ⟨G,h⟩|⟨G,h⟩
 .try simp only[Int.ofNat_lt] at G
  refine aL hJ au ?_;refine af hJ ?_;refine ah hJ ?_;apply aa _;have h':=Option.some.inj h;clear h;subst h';refine aI ?_;simp only[*,go_sem]
 try simp only[Int.ofNat_lt] at G
 refine aM hJ au ?_;refine aR hJ ?_;refine af hJ ?_;refine cB hJ mixed 5 ⟨z,[(o,.cells #[.int .i64 a.1.round.steps,.int .i64 a.1.round.an,.slice d16 a.1.round.aj.length F,.slice d23 a.1.bG.length B] 107),(y,.cells #[.int .i64 u0.steps,.int .i64 u0.an,.slice d3 u0.aj.length c4] 24)]⟩ au aS ?_;apply aa _;refine af hJ ?_;refine af hJ ?_;refine ah hJ ?_;apply aa _;refine bf hJ ?_;have h':=av h;clear h;obtain ⟨al,i,ao⟩:=h';have h:=True.intro;refine bO hJ [2,3,6,7,8,10,25,26,27,28,29,30,31,32,33,34,35,36,37,38,39,40,41,42,43,44,45,46,47,48,49,50,51,52,53,54,55,56,57] (fun m p F'=>∃(i32:Nat) (v30:Int) (w:Int),m=u0.aj.length - i32/\i32<=u0.aj.length/\bX (vH a) i32 (u0.aj.drop i32) (v30,w)=some al/\F'=⟨z,(o,.cells #[.int .i64 a.1.round.steps,.int .i64 a.1.round.an,.slice d16 a.1.round.aj.length F,.slice d23 a.1.bG.length B] 107)::(y,.cells #[.int .i64 u0.steps,.int .i64 u0.an,.slice d3 u0.aj.length c4] 24)::[]⟩/\slot p 25= .int .i64 (i32:Int)/\slot p 2= .int .i64 v30/\slot p 3= .int .i64 w) u0.aj.length ?_ ?_
 .refine ⟨0,(-1),(a.1.bG.length:Int),(Nat.sub_zero _).symm,Nat.zero_le _,i,rfl,?_⟩;simp only[*,go_sem,-h]
 rintro eb q F' s ⟨i32,v30,w,rfl,ec,i,rfl,ar,a0,a2⟩;have h:=True.intro;have a3:sz q=60:=by rw[s.size];simp only[*,go_sem,-h]
 have a4:q.defers=[]:=by rw[s.defers];simp only[*,go_sem,-h]
 have a5:slot q 4= .int .i64 a.2:=by rw[s.aA 4 ay];simp only[*,go_sem,-h]
 have a6:slot q 5= .pointer (some ⟨o,0,none⟩):=by rw[s.aA 5 ay];simp only[*,go_sem,-h]
 have a7:slot q 24= .int .i64 (u0.aj.length:Int):=by rw[s.aA 24 ay];simp only[*,go_sem,-h]
 clear s S hd T;refine af hJ ?_;refine ah hJ ?_;apply aa _;refine af hJ ?_;rcases Nat.lt_or_ge i32 u0.aj.length with a8|O
 .refine aL hJ au ?_;refine aR hJ ?_;obtain ⟨ed,H⟩:∃x,u0.aj[i32]?=some x:=⟨_,List.getElem?_eq_getElem a8⟩
  rw[ey H] at i;have h':=av i;clear i h;obtain ⟨eh,h,P⟩:=h';unfold vH at h;try dsimp only at h
  obtain ⟨a9,et,ba,bb,j⟩:=D _ _ H;obtain ⟨ev,rfl,bc⟩:=bb;obtain ⟨d41,eQ,rfl,eS,fa,fb⟩:=id bc;cases ba;have bd:=j 0 _ rfl;simp only[go_sem] at bd;have bj:=j 1 _ rfl;simp only[go_sem] at bj;have bk:=j 2 _ rfl;simp only[go_sem] at bk;have bm:=j 3 _ rfl;simp only[go_sem] at bm;have bo:=j 4 _ rfl;simp only[go_sem] at bo;have br:=j 5 _ rfl;simp only[go_sem] at br;have bs:=j 6 _ rfl;simp only[go_sem] at bs;clear j H;refine af hJ ?_;refine bf hJ ?_;refine af hJ ?_;refine ah hJ ?_;apply aa _;refine af hJ ?_;refine ah hJ ?_;apply aa _;refine DR fun I f47=>?_;have fc:=aT f47;have b0:=aU f47;try simp only[aN] at b0
  refine aQ ?_;try apply aa _
  refine af hJ ?_;refine af hJ ?_;refine ah hJ ?_;apply aa _;refine bf hJ ?_;have h':=av h;clear h;obtain ⟨b1,k,b2⟩:=h';have h:=True.intro;refine bO hJ [8,10,32,33,34,35,36,37,38,39,40,41,42,43,44,45,46,47,48,49,50,51] (fun m p F'=>∃(i50:Nat) (t:Int) (e:(List (Int×Int))),m=a.1.bG.length - i50/\i50<=a.1.bG.length/\bX (vG i32) i50 (a.1.bG.drop i50) (t,e)=some b1/\F'=⟨z,(I,ot e)::(o,.cells #[.int .i64 a.1.round.steps,.int .i64 a.1.round.an,.slice d16 a.1.round.aj.length F,.slice d23 a.1.bG.length B] 107)::(y,.cells #[.int .i64 u0.steps,.int .i64 u0.an,.slice (some a9) u0.aj.length c4] 24)::[]⟩/\slot p 32= .int .i64 (i50:Int)/\slot p 8= .int .i64 t) a.1.bG.length ?_ ?_
  .refine ⟨0,0,([]:(List (Int×Int))),(Nat.sub_zero _).symm,Nat.zero_le _,k,rfl,?_⟩;simp only[*,go_sem,-h]
  rintro m2 c F' b ⟨i50,t,e,rfl,fg,k,rfl,fh,fi⟩;have h:=True.intro;have fj:sz c=60:=by rw[b.size];simp only[*,go_sem,-h]
  have fl:c.defers=[]:=by rw[b.defers];simp only[*,go_sem,-h]
  have fp:slot c 2= .int .i64 v30:=by rw[b.aA 2 ay];simp only[*,go_sem,-h]
  have fr:slot c 3= .int .i64 w:=by rw[b.aA 3 ay];simp only[*,go_sem,-h]
  have fs:slot c 4= .int .i64 a.2:=by rw[b.aA 4 ay];simp only[*,go_sem,-h]
  have ft:slot c 5= .pointer (some ⟨o,0,none⟩):=by rw[b.aA 5 ay];simp only[*,go_sem,-h]
  have fu:slot c 6= .int .i64 (i32:Int):=by rw[b.aA 6 ay];simp only[*,go_sem,-h]
  have fv:slot c 7= .map (some I):=by rw[b.aA 7 ay];simp only[*,go_sem,-h]
  have fw:slot c 24= .int .i64 (u0.aj.length:Int):=by rw[b.aA 24 ay];simp only[*,go_sem,-h]
  have fx:slot c 25= .int .i64 (i32:Int):=by rw[b.aA 25 ay];simp only[*,go_sem,-h]
  have fz:slot c 26= .bool true:=by rw[b.aA 26 ay];simp only[*,go_sem,-h]
  have gg:slot c 27= .int .i64 (i32:Int):=by rw[b.aA 27 ay];simp only[*,go_sem,-h]
  have gj:slot c 28= .map (some I):=by rw[b.aA 28 ay];simp only[*,go_sem,-h]
  have gl:slot c 29= .pointer (some ⟨o,3,none⟩):=by rw[b.aA 29 ay];simp only[*,go_sem,-h]
  have gn:slot c 30= .slice d23 a.1.bG.length B:=by rw[b.aA 30 ay];simp only[*,go_sem,-h]
  have gp:slot c 31= .int .i64 (a.1.bG.length:Int):=by rw[b.aA 31 ay];simp only[*,go_sem,-h]
  have gy:cq [2,3,6,7,8,10,25,26,27,28,29,30,31,32,33,34,35,36,37,38,39,40,41,42,43,44,45,46,47,48,49,50,51,52,53,54,55,56,57] c q:=(b.eg ay).trans au;clear b a3 a4 a5 a6 a7 a0 a2 ar;refine af hJ ?_;refine ah hJ ?_;apply aa _;refine af hJ ?_;rcases Nat.lt_or_ge i50 a.1.bG.length with b3|Q
  .refine aL hJ au ?_;refine aR hJ ?_;obtain ⟨d,K⟩:∃x,a.1.bG[i50]?=some x:=⟨_,List.getElem?_eq_getElem b3⟩
   rw[ey K] at k;have h':=av k;clear k h;obtain ⟨g0,h,b4⟩:=h';unfold vG at h;(try dsimp only at h);obtain ⟨g1,ca,cb,cc,g⟩:=ad _ _ K;obtain rfl:ca=d.cells:=cc;cases cb;have cd:=g 0 _ rfl;simp only[go_sem] at cd;have cf:=g 1 _ rfl;simp only[go_sem] at cf;have ck:=g 2 _ rfl;simp only[go_sem] at ck;have cl:=g 3 _ rfl;simp only[go_sem] at cl;have cv:=g 4 _ rfl;simp only[go_sem] at cv;have cy:=g 5 _ rfl;simp only[go_sem] at cy;have c0:=g 6 _ rfl;simp only[go_sem] at c0;have da:=g 7 _ rfl;simp only[go_sem] at da;have db:=g 8 _ rfl;simp only[go_sem] at db;clear g K;refine af hJ ?_;refine bf hJ ?_;refine af hJ ?_;refine ah hJ ?_;apply aa _;intro g2 f58;have g3:=aT f58;have dd:=aU f58;(try simp only[aN] at dd);(try apply aa _);refine af hJ ?_;refine ah hJ ?_;have h':=av h;clear h;obtain ⟨f,R,h⟩:=h';obtain ⟨g4,g7,-⟩:=bh.get_some R;have df:([.int .i64 d.ax.e0,.int .i64 d.ax.e1,.int .i64 d.ax.e2,.int .i64 d.ax.e3,.int .i64 d.az.e0,.int .i64 d.az.e1,.int .i64 d.az.e2,.int .i64 d.az.e3,.int .u64 d.an]:List Value)[4+((i32:Int):Int).toNat]?=some (.int .i64 f):=bh.qm [.int .i64 d.ax.e0,.int .i64 d.ax.e1,.int .i64 d.ax.e2,.int .i64 d.ax.e3] [.int .u64 d.an] R;(try simp only[go_sem] at df);(try apply aa _);refine y3 (l:=e) au ?_;(try refine aQ ?_);(try apply aa _);refine DT (l:=e) (v:=IntKind.i64.wrap (((cE e f).getD 0)+1)) au ?_;(try refine aQ ?_);(try apply aa _);refine ah hJ ?_;apply aa _;refine y3 (l:=(cC e f (IntKind.i64.wrap (((cE e f).getD 0)+1)))) au ?_;(try refine aQ ?_);(try apply aa _);have h':=Option.some.inj h;clear h;subst h';have h:=True.intro;have ha:=dH (n:=i50) (by have:=ab;omega);refine ah hJ ?_;apply aa _;refine ⟨a.1.bG.length - (i50+1),ai,_,Le.sub (List.Sublist.cons _ (List.Sublist.refl _)),i50+1,(if t<((cE (cC e f (IntKind.i64.wrap (((cE e f).getD 0)+1))) f).getD 0) then ((cE (cC e f (IntKind.i64.wrap (((cE e f).getD 0)+1))) f).getD 0) else t),(cC e f (IntKind.i64.wrap (((cE e f).getD 0)+1))),rfl,ai,b4,rfl,?_⟩;simp only[*,go_sem,-h]
  have hc:=Nat.not_lt.2 Q;refine aM hJ au ?_;rw[List.drop_eq_nil_of_le Q] at k;have h':=Option.some.inj k;clear k h;subst h';have h:=b2;dsimp only[aJ] at h;refine bM ?_;simp only[go_sem];refine af hJ ?_;refine ah hJ ?_;apply aa _;have h':=aD h;clear h;rcases h' with ⟨L,h⟩|⟨L,h⟩
  ·(try simp only[Int.ofNat_lt] at L);refine aL hJ au ?_;refine ah hJ ?_;apply aa _;have h':=Option.some.inj h;clear h;subst h';have h:=True.intro;have dk:=dH (n:=i32) (by have:=M;omega);refine ah hJ ?_;apply aa _;refine ⟨u0.aj.length - (i32+1),ai,_,Le.sub (List.Sublist.cons _ (List.Sublist.refl _)),i32+1,(i32:Int),t,rfl,ai,P,rfl,?_⟩;simp only[*,go_sem,-h]
  try simp only[Int.ofNat_lt] at L
  refine aM hJ au ?_;refine aR hJ ?_;have h':=Option.some.inj h;clear h;subst h';have h:=True.intro;have dk:=dH (n:=i32) (by have:=M;omega);refine ah hJ ?_;apply aa _;refine ⟨u0.aj.length - (i32+1),ai,_,Le.sub (List.Sublist.cons _ (List.Sublist.refl _)),i32+1,v30,w,rfl,ai,P,rfl,?_⟩;simp only[*,go_sem,-h]
 have hf:=Nat.not_lt.2 O;refine aM hJ au ?_;rw[List.drop_eq_nil_of_le O] at i;have h':=Option.some.inj i;clear i h;subst h';have h:=ao;dsimp only[aJ] at h;refine bM ?_;simp only[go_sem];refine af hJ ?_;refine ah hJ ?_;apply aa _;have h':=Option.some.inj h;clear h;subst h';refine aI ?_;simp only[*,go_sem]
def m3 (u0:aH)(b:Int):Option (Int×Int):=
 ak (gP u0 (fun y0=>kQ y0 b)) fun a=>cond ((a.2 != 0)) (some (0,a.2)) (ak (kO a.1 (fun y0=>oE y0 a.1 b)) fun c=>some (c,0))
theorem Ar {ro:Addr->Option Value}(f:dB ro)(u0:aH){s1:Value}(d:aG bJ ro s1 u0.aj)(a:Int){r:(Int×Int)}(h:m3 u0 a=some r):aF Tryz.prog 20 #[.agg #[.int .i64 u0.steps,.int .i64 u0.an,s1],.int .i64 a] ⟨ro,[]⟩ (fun v _=>v= .tuple #[.int .i64 r.1,.int .i64 r.2]):=by
 obtain ⟨d3,c4,rfl,O,P,i⟩:=id d;unfold m3 at h;refine aF.go Tryz.func20 rfl Tryz.ntmps20 Tryz.results20 aB fun main J hJ A Q hd hs=>?_;have R:=hs 0;have k1:=hs 1;clear hs;refine af hJ ?_;refine ah hJ ?_;apply aa _;intro j f8;have l:=aT f8;have C:=aU f8;try simp only[aN] at C
 intro e f9;have x:=aT f9;have D:=aU f9;try simp only[aN] at D
 try apply aa _
 refine af hJ ?_;refine aO hJ fun y=>?_;obtain ⟨m,k,z⟩:=gL (b:=e) (o:=(.cells #[.int .i64 a] 3)) [] ((j,.cells #[.int .i64 u0.steps,.int .i64 u0.an,.slice d3 u0.aj.length c4] 24)::[]) y x (aW.cons l (aW.nil _));clear y;have g:bZ ro e (.cells #[.int .i64 a] 3) ⟨e,0,none⟩=some (.int .i64 a):=by rw[ew x];rfl
 generalize bZ ro e (.cells #[.int .i64 a] 3)=B at m k z g;refine cG (F:=⟨B,(j,.cells #[.int .i64 u0.steps,.int .i64 u0.an,.slice d3 u0.aj.length c4] 24)::[]⟩) hJ z ?_;have k:aW B ((j,.cells #[.int .i64 u0.steps,.int .i64 u0.an,.slice d3 u0.aj.length c4] 24)::[]):=k;replace d:=d.mono m;clear i;obtain ⟨_,_,i⟩:=d.op;replace l:=k.hd;replace f:=f.mono m;refine ah hJ ?_;have h':=av h;clear h;obtain ⟨n,E,h⟩:=h';apply aa _;refine cV hJ _ (jA f (bN:=71) (bP:=#[]) (bQ:=#[.pointer (some ⟨e,0,none⟩)]) u0 d (fun y0=>kQ y0 a) ⟨by simp only[go_sem],fun G c y0 _ H I p=>by simp only[go_sem];exact Ed y0 I a (c _ _ g) p⟩ E) fun v K q s hR=>?_;obtain ⟨S,T,rfl,t,u⟩:=hR;have s:aW K ((j,.cells #[.int .i64 u0.steps,.int .i64 u0.an,.slice d3 u0.aj.length c4] 24)::[]):=s;replace d:=d.mono q;clear i;obtain ⟨_,_,i⟩:=d.op;replace l:=s.hd;replace f:=f.mono q;replace g:=q _ _ g;obtain ⟨d41,U,rfl,V,W,X⟩:=id t;obtain ⟨d48,Y,rfl,Z,ab,ad⟩:=id u;refine aQ ?_;try apply aa _
 intro L f53;have ae:=aT f53;have M:=aU f53;try simp only[aN] at M
 try apply aa _
 refine af hJ ?_;refine af hJ ?_;refine ah hJ ?_;apply aa _;have h':=aD h;clear h;rcases h' with ⟨w,h⟩|⟨w,h⟩
 .try simp only[Int.ofNat_lt] at w
  refine aL hJ au ?_;refine af hJ ?_;refine ah hJ ?_;apply aa _;have h':=Option.some.inj h;clear h;subst h';refine aI ?_;simp only[*,go_sem]
 try simp only[Int.ofNat_lt] at w
 refine aM hJ au ?_;refine aR hJ ?_;refine af hJ ?_;refine ah hJ ?_;have h':=av h;clear h;obtain ⟨al,N,h⟩:=h';apply aa _;refine bl hJ _ (tU (bN:=73) (bP:=#[]) (bQ:=#[.pointer (some ⟨L,0,none⟩),.pointer (some ⟨e,0,none⟩)]) n.1 (t.mono aX) (u.mono aX) (fun y0=>oE y0 n.1 a) ⟨by simp only[go_sem],fun G c y0 H p=>by simp only[go_sem];exact Eb y0 n.1 (c _ _ (by simp only[ag.dz,go_sem, *,-h])) (c _ _ (by simp only[ag.dz,go_sem, *,-h])) ((t.mono aX).mono c) (c _ _ (by simp only[ag.dz,go_sem, *,-h])) ((u.mono aX).mono c) (c _ _ (by simp only[ag.dz,go_sem, *,-h])) a (c _ _ (aX _ _ g)) p⟩ N) (aQ ?_);try apply aa _
 have h':=Option.some.inj h;clear h;subst h';refine aI ?_;simp only[*,go_sem]
def vJ (u0:aH)(b:Int):Option (Int×Int):=
 ak (gP u0 (fun y0=>qE y0 b)) fun a=>cond ((a.2 != 0)) (some (0,a.2)) (ak (kO a.1 (fun y0=>qF y0 b)) fun c=>some (c,0))
theorem Gt {ro:Addr->Option Value}(e:dB ro)(u0:aH){s1:Value}(c:aG bJ ro s1 u0.aj)(a:Int){r:(Int×Int)}(h:vJ u0 a=some r):aF Tryz.prog 45 #[.agg #[.int .i64 u0.steps,.int .i64 u0.an,s1],.int .i64 a] ⟨ro,[]⟩ (fun v _=>v= .tuple #[.int .i64 r.1,.int .i64 r.2]):=by
 obtain ⟨d3,c4,rfl,N,O,g⟩:=id c;unfold vJ at h;refine aF.go Tryz.func45 rfl Tryz.ntmps45 Tryz.results45 aB fun main J hJ A P hd hs=>?_;have Q:=hs 0;have k1:=hs 1;clear hs;refine af hJ ?_;refine ah hJ ?_;apply aa _;intro i f8;have k:=aT f8;have B:=aU f8;try simp only[aN] at B
 intro d f9;have t:=aT f9;have C:=aU f9;try simp only[aN] at C
 try apply aa _
 refine af hJ ?_;refine aO hJ fun u=>?_;obtain ⟨l,j,w⟩:=gL (b:=d) (o:=(.cells #[.int .i64 a] 3)) [] ((i,.cells #[.int .i64 u0.steps,.int .i64 u0.an,.slice d3 u0.aj.length c4] 24)::[]) u t (aW.cons k (aW.nil _));clear u;have f:bZ ro d (.cells #[.int .i64 a] 3) ⟨d,0,none⟩=some (.int .i64 a):=by rw[ew t];rfl
 generalize bZ ro d (.cells #[.int .i64 a] 3)=x at l j w f;refine cG (F:=⟨x,(i,.cells #[.int .i64 u0.steps,.int .i64 u0.an,.slice d3 u0.aj.length c4] 24)::[]⟩) hJ w ?_;have j:aW x ((i,.cells #[.int .i64 u0.steps,.int .i64 u0.an,.slice d3 u0.aj.length c4] 24)::[]):=j;replace c:=c.mono l;clear g;obtain ⟨_,_,g⟩:=c.op;replace k:=j.hd;replace e:=e.mono l;refine ah hJ ?_;have h':=av h;clear h;obtain ⟨D,E,h⟩:=h';apply aa _;refine cV hJ _ (jA e (bN:=102) (bP:=#[]) (bQ:=#[.pointer (some ⟨d,0,none⟩)]) u0 c (fun y0=>qE y0 a) ⟨by simp only[go_sem],fun G m y0 _ H I n=>by simp only[go_sem];exact Ei y0 I a (m _ _ f) n⟩ E) fun v K p q hR=>?_;obtain ⟨R,S,rfl,y,z⟩:=hR;have q:aW K ((i,.cells #[.int .i64 u0.steps,.int .i64 u0.an,.slice d3 u0.aj.length c4] 24)::[]):=q;replace c:=c.mono p;clear g;obtain ⟨_,_,g⟩:=c.op;replace k:=q.hd;replace e:=e.mono p;replace f:=p _ _ f;obtain ⟨d41,T,rfl,U,V,W⟩:=id y;obtain ⟨d48,X,rfl,Y,Z,ab⟩:=id z;refine aQ ?_;try apply aa _
 intro ad f53;have ae:=aT f53;have L:=aU f53;try simp only[aN] at L
 try apply aa _
 refine af hJ ?_;refine af hJ ?_;refine ah hJ ?_;apply aa _;have h':=aD h;clear h;rcases h' with ⟨s,h⟩|⟨s,h⟩
 .try simp only[Int.ofNat_lt] at s
  refine aL hJ au ?_;refine af hJ ?_;refine ah hJ ?_;apply aa _;have h':=Option.some.inj h;clear h;subst h';refine aI ?_;simp only[*,go_sem]
 try simp only[Int.ofNat_lt] at s
 refine aM hJ au ?_;refine aR hJ ?_;refine af hJ ?_;refine ah hJ ?_;have h':=av h;clear h;obtain ⟨al,M,h⟩:=h';apply aa _;refine bl hJ _ (tU (bN:=103) (bP:=#[]) (bQ:=#[.pointer (some ⟨d,0,none⟩)]) D.1 (y.mono aX) (z.mono aX) (fun y0=>qF y0 a) ⟨by simp only[go_sem],fun G m y0 H n=>by simp only[go_sem];exact Ej y0 a (m _ _ (aX _ _ f)) n⟩ M) (aQ ?_);try apply aa _
 have h':=Option.some.inj h;clear h;subst h';refine aI ?_;simp only[*,go_sem]
def ri (u0:aH):Option (aH×Int):=
 ak (gP u0 gZ) fun a=>cond ((a.2 != 0)) (some ((⟨0,0,([]:(List bp))⟩:aH),a.2)) (some (u0,0))
theorem vK {ro:Addr->Option Value}(d:dB ro)(u0:aH){s1:Value}(a:aG bJ ro s1 u0.aj){r:(aH×Int)}(h:ri u0=some r):eK Tryz.prog 82 #[.agg #[.int .i64 u0.steps,.int .i64 u0.an,s1]] ro (fun v aK=>∃f,v= .tuple #[.agg #[.int .i64 r.1.steps,.int .i64 r.1.an,f],.int .i64 r.2]/\aG bJ aK f r.1.aj):=by
 obtain ⟨d3,c4,rfl,w,x,g⟩:=id a;unfold ri at h;refine aF.go Tryz.func82 rfl Tryz.ntmps82 Tryz.results82 aB fun main J hJ A y hd hs=>?_;have z:=hs 0;clear hs;refine af hJ ?_;refine ah hJ ?_;apply aa _;intro i f8;have j:=aT f8;have k:=aU f8;try simp only[aN] at k
 intro l f9;have m:=aT f9;have n:=aU f9;try simp only[aN] at n
 try apply aa _
 refine af hJ ?_;refine af hJ ?_;refine ah hJ ?_;have h':=av h;clear h;obtain ⟨B,o,h⟩:=h';apply aa _;refine cV hJ _ (jA d (bN:=67) (bP:=#[]) (bQ:=#[]) u0 a gZ ⟨by simp only[go_sem],fun C D y0 _ _ p h=>by simp only[go_sem];exact qx y0 p h⟩ o) fun v q b c hR=>?_;obtain ⟨E,F,rfl,s,t⟩:=hR;have c:aW q ((l,.cells #[.int .i64 0,.int .i64 0,.slice none 0 0] 24)::(i,.cells #[.int .i64 u0.steps,.int .i64 u0.an,.slice d3 u0.aj.length c4] 24)::[]):=c;replace a:=a.mono b;clear g;obtain ⟨_,_,g⟩:=a.op;replace m:=c.hd;replace j:=c.tl.hd;replace d:=d.mono b;obtain ⟨d17,G,rfl,H,I,K⟩:=id s;obtain ⟨d24,L,rfl,M,N,O⟩:=id t;refine aQ ?_;try apply aa _
 intro P f29;have Q:=aT f29;have u:=aU f29;try simp only[aN] at u
 try apply aa _
 refine af hJ ?_;refine ah hJ ?_;apply aa _;have h':=aD h;clear h;rcases h' with ⟨e,h⟩|⟨e,h⟩
 .try simp only[Int.ofNat_lt] at e
  refine aL hJ au ?_;refine af hJ ?_;refine ah hJ ?_;apply aa _;have h':=Option.some.inj h;clear h;subst h';refine aI ?_;apply bw _;exact ⟨_,b,Le.sub (List.nil_sublist _),_,rfl,aG.nil _ _⟩
 try simp only[Int.ofNat_lt] at e
 refine aM hJ au ?_;refine aR hJ ?_;refine af hJ ?_;refine ah hJ ?_;apply aa _;have h':=Option.some.inj h;clear h;subst h';refine aI ?_;apply bw _;exact ⟨_,b,Le.sub (List.nil_sublist _),_,rfl,a⟩
def vL (a:(bg->Option Int))(i23:Nat)(b:bg)(st:(List Int)):Option (Fl (List Int) (List Int)):=
 ak (a b) fun c=>ak (jk st ([c])) fun d=>some (.nx d)
def rj (u0:dF)(a:(bg->Option Int)):Option (List Int):=
 ak (bX (vL a) 0 u0.bG ([]:List Int)) fun o=>aJ o (fun b=>ak (uM b) fun c=>ak (uN c.2) fun d=>some d) (fun _ _=>none) (fun r=>some r)
theorem As {ro:Addr->Option Value}(u0:dF){s1:Value}(p:aG bJ ro s1 u0.round.aj){G:Value}(q:aG gY ro G u0.bG)(u:(bg->Option Int)){bN:FuncId}{bP bQ:Array Value}(Z:aP Tryz.prog bN=true/\∀(aK:Addr->Option Value),Ext ro aK->∀(y0:bg) (z:Int),u y0=some z->aF Tryz.prog bN (bP++#[y0.v]++bQ) ⟨aK,[]⟩ (fun v _=>v= .int .i64 z)){r:(List Int)}(h:rj u0 u=some r):eK Tryz.prog 98 #[.agg #[.int .i64 u0.round.steps,.int .i64 u0.round.an,s1,G],.func (.func bN) bP bQ] ro (fun v aK=>∃H,v=H/\aG rI aK H r):=by
 obtain ⟨d3,c4,rfl,cy,c0,I⟩:=id p;obtain ⟨d10,c,rfl,da,ab,w⟩:=id q;unfold rj at h;refine aF.go Tryz.func98 rfl Tryz.ntmps98 Tryz.results98 aB fun main J hJ A ad hd hs=>?_;have ae:=hs 0;have k1:=hs 1;clear hs;refine af hJ ?_;refine ah hJ ?_;apply aa _;intro d f15;have K:=aT f15;have al:=aU f15;try simp only[aN] at al
 try apply aa _
 refine af hJ ?_;refine ah hJ ?_;apply aa _;refine af hJ ?_;refine af hJ ?_;refine ah hJ ?_;apply aa _;refine bf hJ ?_;have h':=av h;clear h;obtain ⟨ao,f,ar⟩:=h';have h:=True.intro;refine bO hJ [5,7,11,12,13,14,15,16,17,18,19,20,21] (fun m L F'=>∃(i23:Nat) (d17:Option Addr) (s:Nat) (y:List (Nat×Obj)) (g:(List Int)),m=u0.bG.length - i23/\i23<=u0.bG.length/\bX (vL u) i23 (u0.bG.drop i23) g=some ao/\F'=⟨ro,(d,.cells #[.int .i64 u0.round.steps,.int .i64 u0.round.an,.slice d3 u0.round.aj.length c4,.slice d10 u0.bG.length c] 107)::y⟩/\bA rI ro 3 (.slice d17 g.length s) g y/\g.length<=s/\slot L 11= .int .i64 (i23:Int)/\slot L 5= .slice d17 g.length s) u0.bG.length ?_ ?_
 .refine ⟨0,none,0,[],([]:List Int),(Nat.sub_zero _).symm,Nat.zero_le _,f,rfl,bA.nil _ _ _,Nat.le_refl _,?_⟩;simp only[*,go_sem,-h]
 rintro db j F' i ⟨i23,d17,s,y,g,rfl,dd,f,rfl,M,df,dk,dp⟩;have h:=True.intro;have dq:sz j=26:=by rw[i.size];simp only[*,go_sem,-h]
 have ds:j.defers=[]:=by rw[i.defers];simp only[*,go_sem,-h]
 have dt:slot j 1= .func (.func bN) bP bQ:=by rw[i.aA 1 ay];simp only[*,go_sem,-h]
 have du:slot j 4= .slice none 0 0:=by rw[i.aA 4 ay];simp only[*,go_sem,-h]
 have dv:slot j 9= .slice d10 u0.bG.length c:=by rw[i.aA 9 ay];simp only[*,go_sem,-h]
 have dC:slot j 10= .int .i64 (u0.bG.length:Int):=by rw[i.aA 10 ay];simp only[*,go_sem,-h]
 clear i ad hd ae k1;refine af hJ ?_;refine ah hJ ?_;apply aa _;refine af hJ ?_;rcases Nat.lt_or_ge i23 u0.bG.length with a0|N
 .refine aL hJ au ?_;refine aR hJ ?_;obtain ⟨b,B⟩:∃x,u0.bG[i23]?=some x:=⟨_,List.getElem?_eq_getElem a0⟩
  rw[ey B] at f;have h':=av f;clear f h;obtain ⟨dE,h,a2⟩:=h';unfold vL at h;try dsimp only at h
  obtain ⟨O,a3,a4,a5,e⟩:=w _ _ B;obtain rfl:a3=b.cells:=a5;cases a4;have a6:=e 0 _ rfl;simp only[go_sem] at a6;have a7:=e 1 _ rfl;simp only[go_sem] at a7;have a8:=e 2 _ rfl;simp only[go_sem] at a8;have a9:=e 3 _ rfl;simp only[go_sem] at a9;have ba:=e 4 _ rfl;simp only[go_sem] at ba;have bb:=e 5 _ rfl;simp only[go_sem] at bb;have bc:=e 6 _ rfl;simp only[go_sem] at bc;have bd:=e 7 _ rfl;simp only[go_sem] at bd;have bj:=e 8 _ rfl;simp only[go_sem] at bj;clear e B;refine af hJ ?_;refine bf hJ ?_;refine af hJ ?_;refine aO hJ fun bk=>?_;refine ah hJ ?_;apply aa _;intro P f32;have dT:=aT f32;have Q:=aU f32;have ea:=bT.cons Q bk;try simp only[aN] at Q
  try apply aa _
  refine aO hJ fun bm=>?_;refine ah hJ ?_;have h':=av h;clear h;obtain ⟨t,bo,h⟩:=h';apply aa _;refine bl hJ _ (Z.2 _ (fun a v h=>aX a v h) b _ bo) (aQ ?_);have h':=av h;clear h;obtain ⟨br,bs,h⟩:=h';obtain ⟨b0,R⟩:=oa bs;try apply aa _
  intro S f37;have b1:=aT f37;have T:=aU f37;have b2:=bT.cons T bm;try simp only[aN] at T
  try apply aa _
  refine kJ (r:=rI) (l:=g) (x:=t) (cs:=#[.int .i64 t]) (e2:=3) [(S,.cells #[.int .i64 t] 3),(P,.cells #[.int .i64 b.ax.e0,.int .i64 b.ax.e1,.int .i64 b.ax.e2,.int .i64 b.ax.e3,.int .i64 b.az.e0,.int .i64 b.az.e1,.int .i64 b.az.e2,.int .i64 b.az.e3,.int .u64 b.an] 84),(d,.cells #[.int .i64 u0.round.steps,.int .i64 u0.round.an,.slice d3 u0.round.aj.length c4,.slice (some O) u0.bG.length c] 107)] [] (by first|rfl|simp only[bE]|(simp only[bE];rfl)) M b2 b0 rfl au b1 rfl rfl lN lN tg p8 rfl th ay ay (fun eb U C k o ec=>?_);simp only[bE] at o;subst k;rw[<-R] at C;clear R;obtain ⟨d45,b3,rfl,b4⟩:=C.len;refine ⟨⟨ro,(S,.cells #[.int .i64 t] 3)::(P,.cells #[.int .i64 b.ax.e0,.int .i64 b.ax.e1,.int .i64 b.ax.e2,.int .i64 b.ax.e3,.int .i64 b.az.e0,.int .i64 b.az.e1,.int .i64 b.az.e2,.int .i64 b.az.e3,.int .u64 b.an] 84)::(d,.cells #[.int .i64 u0.round.steps,.int .i64 u0.round.an,.slice d3 u0.round.aj.length c4,.slice (some O) u0.bG.length c] 107)::U⟩,Le.refl _,?_⟩;refine aQ ?_;try apply aa _
  have h':=Option.some.inj h;clear h;subst h';have h:=True.intro;have ed:=dH (n:=i23) (by have:=ab;omega);refine ah hJ ?_;apply aa _;refine ⟨u0.bG.length - (i23+1),ai,_,Le.sub (List.Sublist.cons _ (List.Sublist.cons _ (List.Sublist.refl _))),i23+1,d45,b3,U,br,rfl,ai,a2,rfl,C,b4,?_⟩;simp only[*,go_sem,-h]
 have eh:=Nat.not_lt.2 N;refine aM hJ au ?_;rw[List.drop_eq_nil_of_le N] at f;have h':=Option.some.inj f;clear f h;subst h';have h:=ar;dsimp only[aJ] at h;refine bM ?_;simp only[go_sem];refine af hJ ?_;refine aO hJ fun et=>?_;refine ah hJ ?_;have h':=av h;clear h;obtain ⟨ca,cb,h⟩:=h';apply aa _;refine dA hJ [(d,.cells #[.int .i64 u0.round.steps,.int .i64 u0.round.an,.slice d3 u0.round.aj.length c4,.slice d10 u0.bG.length c] 107)] [] (by first|rfl|simp only[bE]|(simp only[bE];rfl)) _ (EL g M cb) (fun ev cc cd k o eQ=>?_);obtain ⟨rfl,cf⟩:=cd;simp only[bE] at o;subst k;refine ⟨⟨ro,(d,.cells #[.int .i64 u0.round.steps,.int .i64 u0.round.an,.slice d3 u0.round.aj.length c4,.slice d10 u0.bG.length c] 107)::cc⟩,Le.refl _,?_⟩;try apply aa _
 refine af hJ ?_;refine aO hJ fun eS=>?_;refine ah hJ ?_;have h':=av h;clear h;obtain ⟨fa,ck,h⟩:=h';apply aa _;refine dA hJ [(d,.cells #[.int .i64 u0.round.steps,.int .i64 u0.round.an,.slice d3 u0.round.aj.length c4,.slice d10 u0.bG.length c] 107)] [] (by first|rfl|simp only[bE]|(simp only[bE];rfl)) _ (EM ca.2 cf ck) (fun fb cl V k o fc=>?_);simp only[bE] at o;subst k;obtain ⟨d62,fg,rfl,fh⟩:=V.len;refine ⟨⟨ro,(d,.cells #[.int .i64 u0.round.steps,.int .i64 u0.round.an,.slice d3 u0.round.aj.length c4,.slice d10 u0.bG.length c] 107)::cl⟩,Le.refl _,?_⟩;refine aQ ?_;try apply aa _
 have h':=Option.some.inj h;clear h;subst h';refine aO hJ fun W=>?_;obtain ⟨X,D,E,Y,cv⟩:=V.iN ((d,.cells #[.int .i64 u0.round.steps,.int .i64 u0.round.an,.slice d3 u0.round.aj.length c4,.slice d10 u0.bG.length c] 107)::[]) [(d,.cells #[.int .i64 u0.round.steps,.int .i64 u0.round.an,.slice d3 u0.round.aj.length c4,.slice d10 u0.bG.length c] 107)] [] (by first|rfl|simp only[bE]|(simp only[bE];rfl)) (by first|rfl|simp only[bE]|(simp only[bE];rfl)) W (aW.cons K (aW.nil _));clear W;refine cG (F:=⟨X,(d,.cells #[.int .i64 u0.round.steps,.int .i64 u0.round.an,.slice d3 u0.round.aj.length c4,.slice d10 u0.bG.length c] 107)::[]⟩) hJ cv ?_;obtain ⟨fi,fj,fl⟩:=Y.op;have E:aW X ((d,.cells #[.int .i64 u0.round.steps,.int .i64 u0.round.an,.slice d3 u0.round.aj.length c4,.slice d10 u0.bG.length c] 107)::[]):=E;replace q:=q.mono D;clear w;obtain ⟨_,_,w⟩:=q.op;replace p:=p.mono D;clear I;obtain ⟨_,_,I⟩:=p.op;replace K:=E.hd;refine aI ?_;apply bw _;exact ⟨_,D,Le.sub (List.nil_sublist _),_,rfl,Y⟩
def vM (u0:aH)(b:Int):Option ((List Int)×Int):=
 ak (gP u0 (fun y0=>qA y0 b)) fun a=>cond ((a.2 != 0)) (some (([]:(List Int)),a.2)) (ak (rj a.1 (fun y0=>qB y0 b)) fun c=>some (c,0))
theorem Gu {ro:Addr->Option Value}(d:dB ro)(u0:aH){s1:Value}(a:aG bJ ro s1 u0.aj)(c:Int){r:((List Int)×Int)}(h:vM u0 c=some r):eK Tryz.prog 43 #[.agg #[.int .i64 u0.steps,.int .i64 u0.an,s1],.int .i64 c] ro (fun v aK=>∃z,v= .tuple #[z,.int .i64 r.2]/\aG rI aK z r.1):=by
 obtain ⟨d3,c4,rfl,Y,Z,f⟩:=id a;unfold vM at h;refine aF.go Tryz.func43 rfl Tryz.ntmps43 Tryz.results43 aB fun main J hJ A ab hd hs=>?_;have ad:=hs 0;have k1:=hs 1;clear hs;refine af hJ ?_;refine ah hJ ?_;apply aa _;intro j f8;have q:=aT f8;have K:=aU f8;try simp only[aN] at K
 intro g f9;have B:=aT f9;have L:=aU f9;try simp only[aN] at L
 try apply aa _
 refine af hJ ?_;refine aO hJ fun C=>?_;obtain ⟨k,s,D⟩:=gL (b:=g) (o:=(.cells #[.int .i64 c] 3)) [] ((j,.cells #[.int .i64 u0.steps,.int .i64 u0.an,.slice d3 u0.aj.length c4] 24)::[]) C B (aW.cons q (aW.nil _));clear C;have e:bZ ro g (.cells #[.int .i64 c] 3) ⟨g,0,none⟩=some (.int .i64 c):=by rw[ew B];rfl
 generalize bZ ro g (.cells #[.int .i64 c] 3)=E at k s D e;refine cG (F:=⟨E,(j,.cells #[.int .i64 u0.steps,.int .i64 u0.an,.slice d3 u0.aj.length c4] 24)::[]⟩) hJ D ?_;have s:aW E ((j,.cells #[.int .i64 u0.steps,.int .i64 u0.an,.slice d3 u0.aj.length c4] 24)::[]):=s;replace a:=a.mono k;clear f;obtain ⟨_,_,f⟩:=a.op;replace q:=s.hd;replace d:=d.mono k;refine ah hJ ?_;have h':=av h;clear h;obtain ⟨l,M,h⟩:=h';apply aa _;refine cV hJ _ (jA d (bN:=96) (bP:=#[]) (bQ:=#[.pointer (some ⟨g,0,none⟩)]) u0 a (fun y0=>qA y0 c) ⟨by simp only[go_sem],fun N u y0 _ O P w=>by simp only[go_sem];exact Ee y0 P c (u _ _ e) w⟩ M) fun v Q m x hR=>?_;obtain ⟨ae,al,rfl,n,p⟩:=hR;have x:aW Q ((j,.cells #[.int .i64 u0.steps,.int .i64 u0.an,.slice d3 u0.aj.length c4] 24)::[]):=x;replace a:=a.mono m;clear f;obtain ⟨_,_,f⟩:=a.op;replace q:=x.hd;replace d:=d.mono m;replace e:=m _ _ e;obtain ⟨d41,R,rfl,ao,ar,G⟩:=id n;obtain ⟨d48,S,rfl,a0,a2,H⟩:=id p;refine aQ ?_;try apply aa _
 intro T f53;have U:=aT f53;have V:=aU f53;try simp only[aN] at V
 try apply aa _
 refine af hJ ?_;refine af hJ ?_;refine ah hJ ?_;apply aa _;have h':=aD h;clear h;rcases h' with ⟨y,h⟩|⟨y,h⟩
 .try simp only[Int.ofNat_lt] at y
  refine aL hJ au ?_;refine af hJ ?_;refine ah hJ ?_;apply aa _;have h':=Option.some.inj h;clear h;subst h';refine aI ?_;apply bw _;exact ⟨_,(k).trans m,Le.sub (List.nil_sublist _),_,rfl,aG.nil _ _⟩
 try simp only[Int.ofNat_lt] at y
 refine aM hJ au ?_;refine aR hJ ?_;refine af hJ ?_;refine ah hJ ?_;have h':=av h;clear h;obtain ⟨a3,W,h⟩:=h';apply aa _;refine cV hJ _ (As (bN:=99) (bP:=#[]) (bQ:=#[.pointer (some ⟨g,0,none⟩)]) l.1 n p (fun y0=>qB y0 c) ⟨by simp only[go_sem],fun N u y0 O w=>by simp only[go_sem];exact Ef y0 c (u _ _ e) w⟩ W) fun v X i t hR=>?_;obtain ⟨a4,rfl,I⟩:=hR;have t:aW X ((T,.cells #[.int .i64 l.1.round.steps,.int .i64 l.1.round.an,.slice d41 l.1.round.aj.length R,.slice d48 l.1.bG.length S] 107)::(j,.cells #[.int .i64 u0.steps,.int .i64 u0.an,.slice d3 u0.aj.length c4] 24)::[]):=t;replace a:=a.mono i;clear f;obtain ⟨_,_,f⟩:=a.op;replace n:=n.mono i;clear G;obtain ⟨_,_,G⟩:=n.op;replace p:=p.mono i;clear H;obtain ⟨_,_,H⟩:=p.op;replace U:=t.hd;replace q:=t.tl.hd;replace d:=d.mono i;replace e:=i _ _ e;obtain ⟨d62,a5,rfl,a6,a7,a8⟩:=id I;refine aQ ?_;try apply aa _
 have h':=Option.some.inj h;clear h;subst h';refine aI ?_;apply bw _;exact ⟨_,((k).trans m).trans i,Le.sub (List.nil_sublist _),_,rfl,I⟩
def vN (u0:aH)(b:Int):Option ((List Int)×Int):=
 ak (gP u0 (fun y0=>qC y0 b)) fun a=>cond ((a.2 != 0)) (some (([]:(List Int)),a.2)) (ak (rj a.1 (fun y0=>qD y0 b)) fun c=>some (c,0))
theorem Gv {ro:Addr->Option Value}(d:dB ro)(u0:aH){s1:Value}(a:aG bJ ro s1 u0.aj)(c:Int){r:((List Int)×Int)}(h:vN u0 c=some r):eK Tryz.prog 44 #[.agg #[.int .i64 u0.steps,.int .i64 u0.an,s1],.int .i64 c] ro (fun v aK=>∃z,v= .tuple #[z,.int .i64 r.2]/\aG rI aK z r.1):=by
 obtain ⟨d3,c4,rfl,Y,Z,f⟩:=id a;unfold vN at h;refine aF.go Tryz.func44 rfl Tryz.ntmps44 Tryz.results44 aB fun main J hJ A ab hd hs=>?_;have ad:=hs 0;have k1:=hs 1;clear hs;refine af hJ ?_;refine ah hJ ?_;apply aa _;intro j f8;have q:=aT f8;have K:=aU f8;try simp only[aN] at K
 intro g f9;have B:=aT f9;have L:=aU f9;try simp only[aN] at L
 try apply aa _
 refine af hJ ?_;refine aO hJ fun C=>?_;obtain ⟨k,s,D⟩:=gL (b:=g) (o:=(.cells #[.int .i64 c] 3)) [] ((j,.cells #[.int .i64 u0.steps,.int .i64 u0.an,.slice d3 u0.aj.length c4] 24)::[]) C B (aW.cons q (aW.nil _));clear C;have e:bZ ro g (.cells #[.int .i64 c] 3) ⟨g,0,none⟩=some (.int .i64 c):=by rw[ew B];rfl
 generalize bZ ro g (.cells #[.int .i64 c] 3)=E at k s D e;refine cG (F:=⟨E,(j,.cells #[.int .i64 u0.steps,.int .i64 u0.an,.slice d3 u0.aj.length c4] 24)::[]⟩) hJ D ?_;have s:aW E ((j,.cells #[.int .i64 u0.steps,.int .i64 u0.an,.slice d3 u0.aj.length c4] 24)::[]):=s;replace a:=a.mono k;clear f;obtain ⟨_,_,f⟩:=a.op;replace q:=s.hd;replace d:=d.mono k;refine ah hJ ?_;have h':=av h;clear h;obtain ⟨l,M,h⟩:=h';apply aa _;refine cV hJ _ (jA d (bN:=100) (bP:=#[]) (bQ:=#[.pointer (some ⟨g,0,none⟩)]) u0 a (fun y0=>qC y0 c) ⟨by simp only[go_sem],fun N u y0 _ O P w=>by simp only[go_sem];exact Eg y0 P c (u _ _ e) w⟩ M) fun v Q m x hR=>?_;obtain ⟨ae,al,rfl,n,p⟩:=hR;have x:aW Q ((j,.cells #[.int .i64 u0.steps,.int .i64 u0.an,.slice d3 u0.aj.length c4] 24)::[]):=x;replace a:=a.mono m;clear f;obtain ⟨_,_,f⟩:=a.op;replace q:=x.hd;replace d:=d.mono m;replace e:=m _ _ e;obtain ⟨d41,R,rfl,ao,ar,G⟩:=id n;obtain ⟨d48,S,rfl,a0,a2,H⟩:=id p;refine aQ ?_;try apply aa _
 intro T f53;have U:=aT f53;have V:=aU f53;try simp only[aN] at V
 try apply aa _
 refine af hJ ?_;refine af hJ ?_;refine ah hJ ?_;apply aa _;have h':=aD h;clear h;rcases h' with ⟨y,h⟩|⟨y,h⟩
 .try simp only[Int.ofNat_lt] at y
  refine aL hJ au ?_;refine af hJ ?_;refine ah hJ ?_;apply aa _;have h':=Option.some.inj h;clear h;subst h';refine aI ?_;apply bw _;exact ⟨_,(k).trans m,Le.sub (List.nil_sublist _),_,rfl,aG.nil _ _⟩
 try simp only[Int.ofNat_lt] at y
 refine aM hJ au ?_;refine aR hJ ?_;refine af hJ ?_;refine ah hJ ?_;have h':=av h;clear h;obtain ⟨a3,W,h⟩:=h';apply aa _;refine cV hJ _ (As (bN:=101) (bP:=#[]) (bQ:=#[.pointer (some ⟨g,0,none⟩)]) l.1 n p (fun y0=>qD y0 c) ⟨by simp only[go_sem],fun N u y0 O w=>by simp only[go_sem];exact Eh y0 c (u _ _ e) w⟩ W) fun v X i t hR=>?_;obtain ⟨a4,rfl,I⟩:=hR;have t:aW X ((T,.cells #[.int .i64 l.1.round.steps,.int .i64 l.1.round.an,.slice d41 l.1.round.aj.length R,.slice d48 l.1.bG.length S] 107)::(j,.cells #[.int .i64 u0.steps,.int .i64 u0.an,.slice d3 u0.aj.length c4] 24)::[]):=t;replace a:=a.mono i;clear f;obtain ⟨_,_,f⟩:=a.op;replace n:=n.mono i;clear G;obtain ⟨_,_,G⟩:=n.op;replace p:=p.mono i;clear H;obtain ⟨_,_,H⟩:=p.op;replace U:=t.hd;replace q:=t.tl.hd;replace d:=d.mono i;replace e:=i _ _ e;obtain ⟨d62,a5,rfl,a6,a7,a8⟩:=id I;refine aQ ?_;try apply aa _
 have h':=Option.some.inj h;clear h;subst h';refine aI ?_;apply bw _;exact ⟨_,((k).trans m).trans i,Le.sub (List.nil_sublist _),_,rfl,I⟩
def o6 (u0 a:Int):Option (Int->Option Bool):=some fun y=>oC y u0 a
theorem Au {ro:Addr->Option Value}(u0 b:Int){r:Int->Option Bool}(h:o6 u0 b=some r):
  eK Tryz.prog 113 #[.int .i64 u0,.int .i64 b] ro (fun v aK=>∃f a c,v= .func (.func f) a c/\aP Tryz.prog f=true/\∀(d:Addr->Option Value),Ext aK d->∀(y0:Int) (z:Bool),r y0=some z->aF Tryz.prog f (a++#[.int .i64 y0]++c) ⟨d,[]⟩ (fun v _=>v= .bool z)):=by
 obtain rfl:(fun y=>oC y u0 b)=r:=Option.some.inj h
 clear h
 refine aF.go Tryz.func113 rfl Tryz.ntmps113 Tryz.results113 aB fun main J hJ A q hd hs=>?_
 have s:=hs 0
 have k1:=hs 1
 clear hs
 repeat refine af hJ ?_
 refine ah hJ ?_
 apply bw _
 intro b2 f2;have r2:=aT f2;have t:=aU f2
 try apply bw _
 intro u e;have i:=aT e;have j:=aU e
 simp only[aN] at j
 try apply bw _
 repeat refine af hJ ?_
 refine ah hJ ?_
 apply bw _
 repeat refine af hJ ?_
 refine aO hJ fun nd=>?_
 obtain ⟨k,l,hle,m,n⟩:=An nd (aW.cons i (aW.cons r2 (aW.nil _)))
 refine aI ?_
 apply bw _
 refine ⟨k,l,hle,_,_,_,rfl,by simp only[go_sem],fun d g y z o=>?_⟩
 have g0:=g _ _ (m 0 (.int .i64 u0) rfl)
 have p:=g _ _ (n 0 (.int .i64 b) rfl)
 simp only[go_sem]
 exact D9 y u0 g0 b p o
def o7 (a:(Int->Option Bool))(i9:Nat)(b:Int)(st:Int):Option (Fl Int Int):=
 ak (a b) fun c=>cond (c) (some (.rt (i9:Int))) (some (.nx st))
def rm (u0:(List Int))(a:(Int->Option Bool)):Option Int:=
 ak (bX (o7 a) 0 u0 0) fun o=>aJ o (fun b=>some (-1)) (fun _ _=>none) (fun r=>some r)
theorem Gw {ro:Addr->Option Value}(u0:(List Int)){s1:Value}(s:aG rI ro s1 u0)(f:(Int->Option Bool)){bN:FuncId}{bP bQ:Array Value}(t:aP Tryz.prog bN=true/\∀(aK:Addr->Option Value),Ext ro aK->∀(y0:Int) (z:Bool),f y0=some z->aF Tryz.prog bN (bP++#[.int .i64 y0]++bQ) ⟨aK,[]⟩ (fun v _=>v= .bool z)){r:Int}(h:rm u0 f=some r):aF Tryz.prog 137 #[s1,.func (.func bN) bP bQ] ⟨ro,[]⟩ (fun v _=>v= .int .i64 r):=by
 obtain ⟨d3,c4,rfl,K,u,w⟩:=id s;unfold rm at h;refine aF.go Tryz.func137 rfl Tryz.ntmps137 Tryz.results137 aB fun main J hJ A y hd hs=>?_;have B:=hs 0;have k1:=hs 1;clear hs;refine af hJ ?_;refine ah hJ ?_;apply aa _;refine af hJ ?_;refine af hJ ?_;refine ah hJ ?_;apply aa _;refine bf hJ ?_;have h':=av h;clear h;obtain ⟨C,b,k⟩:=h';have h:=True.intro;refine bO hJ [4,5,8,9,10,11,12,13,14,15,16,17,18] (fun m l F'=>∃(i9:Nat) (e:Int),m=u0.length - i9/\i9<=u0.length/\bX (o7 f) i9 (u0.drop i9) e=some C/\F'=⟨ro,[]⟩/\slot l 8= .int .i64 (i9:Int)/\slot l 4= .int .i64 e) u0.length ?_ ?_
 .refine ⟨0,0,(Nat.sub_zero _).symm,Nat.zero_le _,b,rfl,?_⟩;simp only[*,go_sem,-h]
 rintro L d F' c ⟨i9,e,rfl,M,b,rfl,N,O⟩;have h:=True.intro;have P:sz d=19:=by rw[c.size];simp only[*,go_sem,-h]
 have Q:d.defers=[]:=by rw[c.defers];simp only[*,go_sem,-h]
 have R:slot d 0= .slice d3 u0.length c4:=by rw[c.aA 0 ay];simp only[*,go_sem,-h]
 have S:slot d 1= .func (.func bN) bP bQ:=by rw[c.aA 1 ay];simp only[*,go_sem,-h]
 have T:slot d 7= .int .i64 (u0.length:Int):=by rw[c.aA 7 ay];simp only[*,go_sem,-h]
 clear c y hd B k1;refine af hJ ?_;refine ah hJ ?_;apply aa _;refine af hJ ?_;rcases Nat.lt_or_ge i9 u0.length with D|o
 .refine aL hJ au ?_;refine aR hJ ?_;obtain ⟨p,g⟩:∃x,u0[i9]?=some x:=⟨_,List.getElem?_eq_getElem D⟩
  rw[ey g] at b;have h':=av b;clear b h;obtain ⟨U,h,i⟩:=h';unfold o7 at h;try dsimp only at h
  obtain ⟨V,E,F,G,q⟩:=w _ _ g;obtain rfl:E=[.int .i64 p]:=G;cases F;have H:=q 0 _ rfl;simp only[go_sem] at H;clear q g;refine af hJ ?_;refine bf hJ ?_;refine af hJ ?_;refine ah hJ ?_;apply aa _;refine af hJ ?_;refine ah hJ ?_;have h':=av h;clear h;obtain ⟨W,I,h⟩:=h';apply aa _;refine bl hJ _ (t.2 _ (fun a v h=>aX a v h) p _ I) ?_;try apply aa _
  have h':=aD h;clear h;rcases h' with ⟨j,h⟩|⟨j,h⟩
  ·(try simp only[Int.ofNat_lt] at j);refine aL hJ au ?_;refine af hJ ?_;refine ah hJ ?_;apply aa _;have h':=Option.some.inj h;clear h;subst h';have h':=Option.some.inj i;clear i;subst h';have h:=k;dsimp only[aJ] at h;have h':=Option.some.inj h;clear h;subst h';refine aI ?_;simp only[*,go_sem]
  try simp only[Int.ofNat_lt] at j
  refine aM hJ au ?_;refine aR hJ ?_;have h':=Option.some.inj h;clear h;subst h';have h:=True.intro;have X:=dH (n:=i9) (by have:=u;omega);refine ah hJ ?_;apply aa _;refine ⟨u0.length - (i9+1),ai,_,Le.sub (List.Sublist.refl _),i9+1,e,rfl,ai,i,rfl,?_⟩;simp only[*,go_sem,-h]
 have Y:=Nat.not_lt.2 o;refine aM hJ au ?_;rw[List.drop_eq_nil_of_le o] at b;have h':=Option.some.inj b;clear b h;subst h';have h:=k;dsimp only[aJ] at h;refine bM ?_;simp only[go_sem];refine af hJ ?_;refine ah hJ ?_;apply aa _;have h':=Option.some.inj h;clear h;subst h';refine aI ?_;simp only[*,go_sem]
def m4 (u0:(List Int))(a:(Int->Option Bool)):Option Bool:=
 ak (rm u0 a) fun b=>some (decide (0<=b))
theorem Av {ro:Addr->Option Value}(u0:(List Int)){s1:Value}(b:aG rI ro s1 u0)(a:(Int->Option Bool)){bN:FuncId}{bP bQ:Array Value}(c:aP Tryz.prog bN=true/\∀(aK:Addr->Option Value),Ext ro aK->∀(y0:Int) (z:Bool),a y0=some z->aF Tryz.prog bN (bP++#[.int .i64 y0]++bQ) ⟨aK,[]⟩ (fun v _=>v= .bool z)){r:Bool}(h:m4 u0 a=some r):aF Tryz.prog 115 #[s1,.func (.func bN) bP bQ] ⟨ro,[]⟩ (fun v _=>v= .bool r):=by
 obtain ⟨d3,c4,rfl,f,g,i⟩:=id b;unfold m4 at h;refine aF.go Tryz.func115 rfl Tryz.ntmps115 Tryz.results115 aB fun main J hJ A j hd hs=>?_;have k:=hs 0;have k1:=hs 1;clear hs;refine af hJ ?_;refine ah hJ ?_;apply aa _;refine af hJ ?_;refine ah hJ ?_;have h':=av h;clear h;obtain ⟨l,d,h⟩:=h';apply aa _;refine bl hJ _ (Gw (bN:=bN) (bP:=bP) (bQ:=bQ) u0 (b.mono aX) a ⟨c.1,fun _ e=>c.2 _ (Ext.trans aX e)⟩ d) (aQ ?_);try apply aa _
 have h':=Option.some.inj h;clear h;subst h';refine aI ?_;simp only[*,go_sem]
def m5 (u0:aH)(a:b7):Option (bg×Int):=
 cond (((a.ax.length:Int) != (u0.aj.length:Int))) (some ((⟨(⟨0,0,0,0⟩:bh),(⟨0,0,0,0⟩:bh),0⟩:bg),2)) (cond (((a.az.length:Int) != (u0.aj.length:Int))) (some ((⟨(⟨0,0,0,0⟩:bh),(⟨0,0,0,0⟩:bh),0⟩:bg),2)) (ak (o6 0 (IntKind.i64.wrap (u0.steps - 1))) fun c=>ak (m4 a.ax c) fun d=>cond (d) (some ((⟨(⟨0,0,0,0⟩:bh),(⟨0,0,0,0⟩:bh),0⟩:bg),1)) (ak (o6 (-3) 3) fun e=>ak (m4 a.az e) fun f=>cond (f) (some ((⟨(⟨0,0,0,0⟩:bh),(⟨0,0,0,0⟩:bh),0⟩:bg),1)) (ak (ov a.an (u0.aj.length:Int)) fun b=>cond ((b != 0)) (some ((⟨(⟨0,0,0,0⟩:bh),(⟨0,0,0,0⟩:bh),0⟩:bg),b)) (ak (ow a.an) fun g=>some ((⟨(⟨(a.ax.getD 0 0),(a.ax.getD 1 0),(a.ax.getD 2 0),(a.ax.getD 3 0)⟩:bh),(⟨(a.az.getD 0 0),(a.az.getD 1 0),(a.az.getD 2 0),(a.az.getD 3 0)⟩:bh),g⟩:bg),0))))))
theorem Aw {ro:Addr->Option Value}(u0:aH){s1:Value}(q:aG bJ ro s1 u0.aj)(a:b7){T:Value}(j:aG rI ro T a.ax){U:Value}(k:aG rI ro U a.az){V:Value}(m:aG rI ro V a.an){r:(bg×Int)}(h:m5 u0 a=some r):aF Tryz.prog 52 #[.agg #[.int .i64 u0.steps,.int .i64 u0.an,s1],.agg #[T,U,V]] ⟨ro,[]⟩ (fun v _=>v= .tuple #[r.1.v,.int .i64 r.2]):=by
 obtain ⟨d3,c4,rfl,bj,bk,F⟩:=id q;obtain ⟨d10,n,rfl,bm,bo,G⟩:=id j;obtain ⟨d17,o,rfl,br,bs,H⟩:=id k;obtain ⟨d24,p,rfl,b0,b1,I⟩:=id m;unfold m5 at h;refine aF.go Tryz.func52 rfl Tryz.ntmps52 Tryz.results52 aB fun main J hJ A L hd hs=>?_;have M:=hs 0;have k1:=hs 1;clear hs;refine af hJ ?_;refine ah hJ ?_;apply aa _;intro f f29;have s:=aT f29;have Z:=aU f29;try simp only[aN] at Z
 intro g f30;have t:=aT f30;have ab:=aU f30;try simp only[aN] at ab
 intro i f31;have u:=aT f31;have ad:=aU f31;try simp only[aN] at ad
 try apply aa _
 refine af hJ ?_;refine ah hJ ?_;apply aa _;refine af hJ ?_;refine bf hJ ?_;refine af hJ ?_;refine ah hJ ?_;have h':=aD h;clear h;rcases h' with ⟨N,h⟩|⟨N,h⟩
 .try simp only[Int.ofNat_lt] at N
  try apply aa _
  refine aL hJ au ?_;refine af hJ ?_;refine ah hJ ?_;apply aa _;have h':=Option.some.inj h;clear h;subst h';refine aI ?_;simp only[*,go_sem]
 try simp only[Int.ofNat_lt] at N
 try apply aa _
 have h':=aD h;clear h;rcases h' with ⟨O,h⟩|⟨O,h⟩
 .try simp only[Int.ofNat_lt] at O
  refine aL hJ au ?_;refine af hJ ?_;refine ah hJ ?_;apply aa _;have h':=Option.some.inj h;clear h;subst h';refine aI ?_;simp only[*,go_sem]
 try simp only[Int.ofNat_lt] at O
 refine aM hJ au ?_;refine af hJ ?_;refine fC hJ mixed [] (.pure 0 (.rd 1 (.pure 2 (.pure 3 (.pure 4 (.rd 5 (.pure 6 (.one 7 (.one 8 (.pure 9 (.pure 10 (.rd 11 (.pure 12 (.one 13 (.one 14 (.pure 15 (.pure 16 .done))))))))))))))))) ⟨ro,[(i,.cells #[.int .i64 0,.int .i64 0,.int .i64 0,.int .i64 0,.int .i64 0,.int .i64 0,.int .i64 0,.int .i64 0,.int .u64 0] 84),(g,.cells #[.slice d10 a.ax.length n,.slice d17 a.az.length o,.slice d24 a.an.length p] 27),(f,.cells #[.int .i64 u0.steps,.int .i64 u0.an,.slice d3 u0.aj.length c4] 87)]⟩ au aS ?_;have h':=av h;clear h;obtain ⟨ae,al,h⟩:=h';apply aa _;refine cV hJ _ (Au 0 (IntKind.i64.wrap (u0.steps - 1)) al) fun v ao w C hR=>?_;obtain ⟨ar,a0,a2,rfl,D⟩:=hR;have b2:=u;have b3:=t;have b4:=s;have C:aW ao ((i,.cells #[.int .i64 0,.int .i64 0,.int .i64 0,.int .i64 0,.int .i64 0,.int .i64 0,.int .i64 0,.int .i64 0,.int .u64 0] 84)::(g,.cells #[.slice d10 a.ax.length n,.slice d17 a.az.length o,.slice d24 a.an.length p] 27)::(f,.cells #[.int .i64 u0.steps,.int .i64 u0.an,.slice d3 u0.aj.length c4] 87)::[]):=C;replace q:=q.mono w;clear F;obtain ⟨_,_,F⟩:=q.op;replace j:=j.mono w;clear G;obtain ⟨_,_,G⟩:=j.op;replace k:=k.mono w;clear H;obtain ⟨_,_,H⟩:=k.op;replace m:=m.mono w;clear I;obtain ⟨_,_,I⟩:=m.op;replace u:=C.hd;replace t:=C.tl.hd;replace s:=C.tl.tl.hd;have ca:=iQ (l:=[(i,.cells #[.int .i64 0,.int .i64 0,.int .i64 0,.int .i64 0,.int .i64 0,.int .i64 0,.int .i64 0,.int .i64 0,.int .u64 0] 84),(g,.cells #[.slice d10 a.ax.length n,.slice d17 a.az.length o,.slice d24 a.an.length p] 27),(f,.cells #[.int .i64 u0.steps,.int .i64 u0.an,.slice d3 u0.aj.length c4] 87)]) w (aW.cons u (aW.cons t (aW.cons s (aW.nil _))));refine ⟨au,?_⟩;refine iw ?_;have h':=av h;clear h;obtain ⟨cb,a3,h⟩:=h';try apply aa _
 refine bl hJ _ (Av (bN:=ar) (bP:=a0) (bQ:=a2) a.ax (j.mono aX) ae ⟨D.1,fun _ P=>D.2 _ (Ext.trans aX P)⟩ a3) ⟨au,iw ?_⟩;have h':=aD h;clear h;rcases h' with ⟨Q,h⟩|⟨Q,h⟩
 .try simp only[Int.ofNat_lt] at Q
  try apply aa _
  refine aL hJ au ?_;refine af hJ ?_;generalize b:bt _ _ _=x;have cc:sz x=73:=by rw[<-b];simp only[*,go_sem,-h,-b]
  have cd:x.defers=[]:=by rw[<-b];simp only[*,go_sem,-h,-b]
  have cf:slot x 2= .pointer (some ⟨f,0,none⟩):=by rw[<-b];simp only[*,go_sem,-h,-b]
  have ck:slot x 3= .pointer (some ⟨g,0,none⟩):=by rw[<-b];simp only[*,go_sem,-h,-b]
  have cl:slot x 4= .pointer (some ⟨i,0,none⟩):=by rw[<-b];simp only[*,go_sem,-h,-b]
  have cv:slot x 5= .int .i64 0:=by rw[<-b];simp only[*,go_sem,-h,-b]
  clear b L hd M k1;refine ah hJ ?_;apply aa _;have h':=Option.some.inj h;clear h;subst h';refine aI ?_;simp only[*,go_sem]
 try simp only[Int.ofNat_lt] at Q
 have h':=av h;clear h;obtain ⟨a4,a5,h⟩:=h';try apply aa _
 refine cV hJ _ (Au (-3) 3 a5) fun v K y E hR=>?_;obtain ⟨a6,a7,a8,rfl,W⟩:=hR;have cy:=u;have c0:=t;have da:=s;have E:aW K ((i,.cells #[.int .i64 0,.int .i64 0,.int .i64 0,.int .i64 0,.int .i64 0,.int .i64 0,.int .i64 0,.int .i64 0,.int .u64 0] 84)::(g,.cells #[.slice d10 a.ax.length n,.slice d17 a.az.length o,.slice d24 a.an.length p] 27)::(f,.cells #[.int .i64 u0.steps,.int .i64 u0.an,.slice d3 u0.aj.length c4] 87)::[]):=E;replace q:=q.mono y;clear F;obtain ⟨_,_,F⟩:=q.op;replace j:=j.mono y;clear G;obtain ⟨_,_,G⟩:=j.op;replace k:=k.mono y;clear H;obtain ⟨_,_,H⟩:=k.op;replace m:=m.mono y;clear I;obtain ⟨_,_,I⟩:=m.op;replace u:=E.hd;replace t:=E.tl.hd;replace s:=E.tl.tl.hd;replace D:=And.intro D.1 fun X (a9:Ext K X)=>D.2 X (y.trans a9);have db:=iQ (l:=[(i,.cells #[.int .i64 0,.int .i64 0,.int .i64 0,.int .i64 0,.int .i64 0,.int .i64 0,.int .i64 0,.int .i64 0,.int .u64 0] 84),(g,.cells #[.slice d10 a.ax.length n,.slice d17 a.az.length o,.slice d24 a.an.length p] 27),(f,.cells #[.int .i64 u0.steps,.int .i64 u0.an,.slice d3 u0.aj.length c4] 87)]) (w.trans y) (aW.cons u (aW.cons t (aW.cons s (aW.nil _))));refine ⟨au,?_⟩;refine iw ?_;have h':=av h;clear h;obtain ⟨dd,ba,h⟩:=h';try apply aa _
 refine bl hJ _ (Av (bN:=a6) (bP:=a7) (bQ:=a8) a.az (k.mono aX) a4 ⟨W.1,fun _ P=>W.2 _ (Ext.trans aX P)⟩ ba) ⟨au,iw ?_⟩;try apply aa _
 have h':=aD h;clear h;rcases h' with ⟨R,h⟩|⟨R,h⟩
 .try simp only[Int.ofNat_lt] at R
  refine aL hJ au ?_;refine af hJ ?_;generalize c:bt _ _ _=z;have df:sz z=73:=by rw[<-c];simp only[*,go_sem,-h,-c]
  have dk:z.defers=[]:=by rw[<-c];simp only[*,go_sem,-h,-c]
  have dp:slot z 2= .pointer (some ⟨f,0,none⟩):=by rw[<-c];simp only[*,go_sem,-h,-c]
  have dq:slot z 3= .pointer (some ⟨g,0,none⟩):=by rw[<-c];simp only[*,go_sem,-h,-c]
  have ds:slot z 4= .pointer (some ⟨i,0,none⟩):=by rw[<-c];simp only[*,go_sem,-h,-c]
  have dt:slot z 5= .int .i64 0:=by rw[<-c];simp only[*,go_sem,-h,-c]
  clear c L hd M k1;refine ah hJ ?_;apply aa _;have h':=Option.some.inj h;clear h;subst h';refine aI ?_;simp only[*,go_sem]
 try simp only[Int.ofNat_lt] at R
 refine aM hJ au ?_;refine aR hJ ?_;refine af hJ ?_;refine af hJ ?_;generalize d:bt _ _ _=B;have du:sz B=73:=by rw[<-d];simp only[*,go_sem,-h,-d]
 have dv:B.defers=[]:=by rw[<-d];simp only[*,go_sem,-h,-d]
 have dC:slot B 2= .pointer (some ⟨f,0,none⟩):=by rw[<-d];simp only[*,go_sem,-h,-d]
 have dE:slot B 3= .pointer (some ⟨g,0,none⟩):=by rw[<-d];simp only[*,go_sem,-h,-d]
 have dT:slot B 4= .pointer (some ⟨i,0,none⟩):=by rw[<-d];simp only[*,go_sem,-h,-d]
 have ea:slot B 5= .int .i64 0:=by rw[<-d];simp only[*,go_sem,-h,-d]
 clear d L hd M k1;refine ah hJ ?_;have h':=av h;clear h;obtain ⟨eb,bb,h⟩:=h';apply aa _;refine bl hJ _ (DZ a.an (m.mono aX) (u0.aj.length:Int) bb) (aQ ?_);try apply aa _
 refine af hJ ?_;refine ah hJ ?_;apply aa _;have h':=aD h;clear h;rcases h' with ⟨S,h⟩|⟨S,h⟩
 .try simp only[Int.ofNat_lt] at S
  refine aL hJ au ?_;refine af hJ ?_;refine ah hJ ?_;apply aa _;have h':=Option.some.inj h;clear h;subst h';refine aI ?_;simp only[*,go_sem]
 try simp only[Int.ofNat_lt] at S
 refine aM hJ au ?_;refine aR hJ ?_;refine af hJ ?_;refine ah hJ ?_;have h':=av h;clear h;obtain ⟨Y,bc,h⟩:=h';apply aa _;refine bl hJ _ (D1 a.an (m.mono aX) bc) (aQ ?_);try apply aa _
 intro ec f66;have ed:=aT f66;have bd:=aU f66;try simp only[aN] at bd
 try apply aa _
 refine af hJ ?_;refine cB hJ mixed 4 ⟨K,[(i,.cells #[.int .i64 0,.int .i64 0,.int .i64 0,.int .i64 0,.int .i64 0,.int .i64 0,.int .i64 0,.int .i64 0,.int .u64 0] 84),(g,.cells #[.slice d10 a.ax.length n,.slice d17 a.az.length o,.slice d24 a.an.length p] 27),(f,.cells #[.int .i64 u0.steps,.int .i64 u0.an,.slice d3 u0.aj.length c4] 87)]⟩ au aS ?_;apply aa _;refine zl (e:=3) (pre:=[]) (bD:=(i,.cells #[.int .i64 0,.int .i64 0,.int .i64 0,.int .i64 0,.int .i64 0,.int .i64 0,.int .i64 0,.int .i64 0,.int .u64 0] 84)::(g,.cells #[.slice d10 a.ax.length n,.slice d17 a.az.length o,.slice d24 a.an.length p] 27)::(f,.cells #[.int .i64 u0.steps,.int .i64 u0.an,.slice d3 u0.aj.length c4] 87)::[]) [] [.int .i64 0,.int .i64 0,.int .i64 0,.int .i64 0,.int .u64 Y] 0 rfl rfl aS aS j (by simp only[aN,keys,List.map_nil,List.not_mem_nil,not_false_eq_true]) ?_;refine ⟨by simp only[List.nil_append,go_sem, *,-h],?_⟩;try apply aa _
 refine af hJ ?_;refine cB hJ mixed 4 ⟨K,[(i,.cells #[.int .i64 0,.int .i64 0,.int .i64 0,.int .i64 0,.int .i64 0,.int .i64 0,.int .i64 0,.int .i64 0,.int .u64 0] 84),(g,.cells #[.slice d10 a.ax.length n,.slice d17 a.az.length o,.slice d24 a.an.length p] 27),(f,.cells #[.int .i64 u0.steps,.int .i64 u0.an,.slice d3 u0.aj.length c4] 87)]⟩ au aS ?_;apply aa _;refine zl (e:=3) (pre:=[]) (bD:=(i,.cells #[.int .i64 0,.int .i64 0,.int .i64 0,.int .i64 0,.int .i64 0,.int .i64 0,.int .i64 0,.int .i64 0,.int .u64 0] 84)::(g,.cells #[.slice d10 a.ax.length n,.slice d17 a.az.length o,.slice d24 a.an.length p] 27)::(f,.cells #[.int .i64 u0.steps,.int .i64 u0.an,.slice d3 u0.aj.length c4] 87)::[]) [.int .i64 (a.ax.getD 0 0),.int .i64 (a.ax.getD 1 0),.int .i64 (a.ax.getD 2 0),.int .i64 (a.ax.getD 3 0)] [.int .u64 Y] 4 rfl rfl aS aS k (by simp only[aN,keys,List.map_nil,List.not_mem_nil,not_false_eq_true]) ?_;refine ⟨by simp only[List.nil_append,go_sem, *,-h],?_⟩;try apply aa _
 refine af hJ ?_;refine ah hJ ?_;apply aa _;have h':=Option.some.inj h;clear h;subst h';refine aI ?_;simp only[*,go_sem]
def k5 (u0:aH)(f:b7)(a:Int)(c:Int):Option (aV×Int):=
 ak (fE u0) fun d=>cond ((d != 0)) (some ((⟨0,0⟩:aV),d)) (ak (m5 u0 f) fun b=>cond ((b.2 != 0)) (some ((⟨0,0⟩:aV),b.2)) (ak (fD a 0 (IntKind.i64.wrap ((u0.aj.length:Int) - 1))) fun g=>cond (!g) (some ((⟨0,0⟩:aV),6)) (ak (bI u0.aj a) fun e=>ak (fD c 0 (IntKind.i64.wrap ((e.marks.length:Int) - 1))) fun h=>cond (!h) (some ((⟨0,0⟩:aV),6)) (ak (bI e.marks c) fun i=>ak (kN u0 b.1 a i) fun j=>some (j,0)))))
theorem vO {ro:Addr->Option Value}(N:dB ro)(u0:aH){s1:Value}(m:aG bJ ro s1 u0.aj)(e:b7){C:Value}(D:aG rI ro C e.ax){E:Value}(G:aG rI ro E e.az){H:Value}(I:aG rI ro H e.an)(k:Int)(l:Int){r:(aV×Int)}(h:k5 u0 e k l=some r):aF Tryz.prog 11 #[.agg #[.int .i64 u0.steps,.int .i64 u0.an,s1],.agg #[C,E,H],.int .i64 k,.int .i64 l] ⟨ro,[]⟩ (fun v _=>v= .tuple #[r.1.v,.int .i64 r.2]):=by
 obtain ⟨d3,c4,rfl,br,bs,O⟩:=id m;obtain ⟨d10,P,rfl,b0,b1,b2⟩:=id D;obtain ⟨d17,Q,rfl,b3,b4,ca⟩:=id G;obtain ⟨d24,R,rfl,cb,cc,cd⟩:=id I;unfold k5 at h;refine aF.go Tryz.func11 rfl Tryz.ntmps11 Tryz.results11 aB fun main J hJ A q hd hs=>?_;have s:=hs 0;have k1:=hs 1;have t:=hs 2;have u:=hs 3;clear hs;refine af hJ ?_;refine ah hJ ?_;apply aa _;intro n f29;have cf:=aT f29;have S:=aU f29;try simp only[aN] at S
 intro T f30;have ck:=aT f30;have U:=aU f30;try simp only[aN] at U
 intro w f31;have cl:=aT f31;have V:=aU f31;try simp only[aN] at V
 try apply aa _
 refine af hJ ?_;refine af hJ ?_;refine ah hJ ?_;have h':=av h;clear h;obtain ⟨cv,W,h⟩:=h';apply aa _;refine bl hJ _ (jv (N.mono aX) u0 (m.mono aX) W) (aQ ?_);try apply aa _
 refine af hJ ?_;refine ah hJ ?_;apply aa _;have h':=aD h;clear h;rcases h' with ⟨x,h⟩|⟨x,h⟩
 .try simp only[Int.ofNat_lt] at x
  refine aL hJ au ?_;refine af hJ ?_;refine ah hJ ?_;apply aa _;have h':=Option.some.inj h;clear h;subst h';refine aI ?_;simp only[*,go_sem]
 try simp only[Int.ofNat_lt] at x
 refine aM hJ au ?_;refine aR hJ ?_;refine af hJ ?_;refine ah hJ ?_;have h':=av h;clear h;obtain ⟨d,X,h⟩:=h';apply aa _;refine bl hJ _ (Aw u0 (m.mono aX) e (D.mono aX) (G.mono aX) (I.mono aX) X) (aQ ?_);try apply aa _
 intro o f37;have cy:=aT f37;have Y:=aU f37;try simp only[aN] at Y
 try apply aa _
 refine af hJ ?_;refine af hJ ?_;refine ah hJ ?_;apply aa _;have h':=aD h;clear h;rcases h' with ⟨y,h⟩|⟨y,h⟩
 .try simp only[Int.ofNat_lt] at y
  refine aL hJ au ?_;refine af hJ ?_;refine ah hJ ?_;apply aa _;have h':=Option.some.inj h;clear h;subst h';refine aI ?_;simp only[*,go_sem]
 try simp only[Int.ofNat_lt] at y
 refine aM hJ au ?_;refine aR hJ ?_;refine af hJ ?_;refine af hJ ?_;refine ah hJ ?_;have h':=av h;clear h;obtain ⟨c0,Z,h⟩:=h';apply aa _;refine bl hJ _ (gM k 0 (IntKind.i64.wrap ((u0.aj.length:Int) - 1)) Z) (aQ ?_);have h':=aD h;clear h;rcases h' with ⟨z,h⟩|⟨z,h⟩
 .try simp only[Int.ofNat_lt] at z
  try apply aa _
  refine aL hJ au ?_;refine af hJ ?_;generalize a:bt _ _ _=f;have da:sz f=65:=by rw[<-a];simp only[*,go_sem,-h,-a]
  have db:f.defers=[]:=by rw[<-a];simp only[*,go_sem,-h,-a]
  have dd:slot f 2= .int .i64 k:=by rw[<-a];simp only[*,go_sem,-h,-a]
  have df:slot f 3= .int .i64 l:=by rw[<-a];simp only[*,go_sem,-h,-a]
  have dk:slot f 4= .pointer (some ⟨n,0,none⟩):=by rw[<-a];simp only[*,go_sem,-h,-a]
  have dp:slot f 8= .pointer (some ⟨w,0,none⟩):=by rw[<-a];simp only[*,go_sem,-h,-a]
  have dq:slot f 9= .int .i64 0:=by rw[<-a];simp only[*,go_sem,-h,-a]
  have ds:slot f 11= .pointer (some ⟨o,0,none⟩):=by rw[<-a];simp only[*,go_sem,-h,-a]
  clear a q hd s k1 t u;refine ah hJ ?_;apply aa _;have h':=Option.some.inj h;clear h;subst h';refine aI ?_;simp only[*,go_sem]
 try simp only[Int.ofNat_lt] at z
 have h':=av h;clear h;obtain ⟨ab,ad,h⟩:=h';obtain ⟨dt,du,K⟩:=cI ad;obtain ⟨ae,dv,al,ao,g⟩:=O _ _ K;obtain ⟨dC,rfl,ar⟩:=ao;obtain ⟨d46,dE,rfl,dT,ea,a0⟩:=id ar;cases al;have a2:=g 0 _ rfl;simp only[go_sem] at a2;have a3:=g 1 _ rfl;simp only[go_sem] at a3;have a4:=g 2 _ rfl;simp only[go_sem] at a4;have a5:=g 3 _ rfl;simp only[go_sem] at a5;have a6:=g 4 _ rfl;simp only[go_sem] at a6;have a7:=g 5 _ rfl;simp only[go_sem] at a7;have a8:=g 6 _ rfl;simp only[go_sem] at a8;clear g K;have h':=av h;clear h;obtain ⟨eb,a9,h⟩:=h';try apply aa _
 refine bl hJ _ (gM l 0 (IntKind.i64.wrap ((ab.marks.length:Int) - 1)) a9) (aQ ?_);try apply aa _
 have h':=aD h;clear h;rcases h' with ⟨B,h⟩|⟨B,h⟩
 .try simp only[Int.ofNat_lt] at B
  refine aL hJ au ?_;refine af hJ ?_;generalize b:bt _ _ _=i;have ec:sz i=65:=by rw[<-b];simp only[*,go_sem,-h,-b]
  have ed:i.defers=[]:=by rw[<-b];simp only[*,go_sem,-h,-b]
  have eh:slot i 2= .int .i64 k:=by rw[<-b];simp only[*,go_sem,-h,-b]
  have et:slot i 3= .int .i64 l:=by rw[<-b];simp only[*,go_sem,-h,-b]
  have ev:slot i 4= .pointer (some ⟨n,0,none⟩):=by rw[<-b];simp only[*,go_sem,-h,-b]
  have eQ:slot i 8= .pointer (some ⟨w,0,none⟩):=by rw[<-b];simp only[*,go_sem,-h,-b]
  have eS:slot i 9= .int .i64 0:=by rw[<-b];simp only[*,go_sem,-h,-b]
  have fa:slot i 11= .pointer (some ⟨o,0,none⟩):=by rw[<-b];simp only[*,go_sem,-h,-b]
  clear b q hd s k1 t u;refine ah hJ ?_;apply aa _;have h':=Option.some.inj h;clear h;subst h';refine aI ?_;simp only[*,go_sem]
 try simp only[Int.ofNat_lt] at B
 refine aM hJ au ?_;refine aR hJ ?_;refine af hJ ?_;generalize c:bt _ _ _=j;have fb:sz j=65:=by rw[<-c];simp only[*,go_sem,-h,-c]
 have fc:j.defers=[]:=by rw[<-c];simp only[*,go_sem,-h,-c]
 have fg:slot j 2= .int .i64 k:=by rw[<-c];simp only[*,go_sem,-h,-c]
 have fh:slot j 3= .int .i64 l:=by rw[<-c];simp only[*,go_sem,-h,-c]
 have fi:slot j 4= .pointer (some ⟨n,0,none⟩):=by rw[<-c];simp only[*,go_sem,-h,-c]
 have fj:slot j 8= .pointer (some ⟨w,0,none⟩):=by rw[<-c];simp only[*,go_sem,-h,-c]
 have fl:slot j 9= .int .i64 0:=by rw[<-c];simp only[*,go_sem,-h,-c]
 have fp:slot j 11= .pointer (some ⟨o,0,none⟩):=by rw[<-c];simp only[*,go_sem,-h,-c]
 clear c q hd s k1 t u;refine cB hJ mixed 14 ⟨ro,[(o,.cells #[.int .i64 d.1.ax.e0,.int .i64 d.1.ax.e1,.int .i64 d.1.ax.e2,.int .i64 d.1.ax.e3,.int .i64 d.1.az.e0,.int .i64 d.1.az.e1,.int .i64 d.1.az.e2,.int .i64 d.1.az.e3,.int .u64 d.1.an] 84),(T,.cells #[.slice d10 e.ax.length P,.slice d17 e.az.length Q,.slice d24 e.an.length R] 27),(n,.cells #[.int .i64 u0.steps,.int .i64 u0.an,.slice (some ae) u0.aj.length c4] 24)]⟩ au aS ?_;have h':=av h;clear h;obtain ⟨L,ba,h⟩:=h';obtain ⟨fr,fs,M⟩:=cI ba;obtain ⟨ft,bb,bc,bd,p⟩:=a0 _ _ M;obtain rfl:bb=L.cells:=bd;cases bc;have bj:=p 0 _ rfl;simp only[go_sem] at bj;have bk:=p 1 _ rfl;simp only[go_sem] at bk;have bm:=p 2 _ rfl;simp only[go_sem] at bm;clear p M;have h':=av h;clear h;obtain ⟨fu,bo,h⟩:=h';try apply aa _
 refine ⟨_,dI hJ fun F hF=>tT u0 (m.mono (fW hF)) d.1 k L bo,?_⟩;try apply aa _
 have h':=Option.some.inj h;clear h;subst h';refine aI ?_;simp only[*,go_sem]
def m6 (d:(bg×Int))(i41:Nat)(a:bp)(st:bg):Option (Fl bg (Bool×Int)):=
 ak (bh.get d.1.ax (i41:Int)) fun b=>ak (bh.get st.ax (i41:Int)) fun _x60=>ak (bh.setAt st.ax (i41:Int) (if a.from_.high<(if b<a.from_.low then a.from_.low else b) then a.from_.high else (if b<a.from_.low then a.from_.low else b))) fun e=>ak (bh.get d.1.az (i41:Int)) fun c=>ak (bh.get st.az (i41:Int)) fun _x68=>ak (bh.setAt st.az (i41:Int) (if a.aC.high<(if c<a.aC.low then a.aC.low else c) then a.aC.high else (if c<a.aC.low then a.aC.low else c))) fun f=>some (.nx (⟨e,f,st.an⟩:bg))
def kg (u0:aH)(d:b7):Option (Bool×Int):=
 ak (fE u0) fun c=>cond ((c != 0)) (some (false,c)) (ak (m5 u0 d) fun a=>cond ((a.2 != 0)) (some (false,a.2)) (ak (bX (m6 a) 0 u0.aj a.1) fun o=>aJ o (fun b=>cond (((b.ax.e0==a.1.ax.e0)&&((b.ax.e1==a.1.ax.e1)&&((b.ax.e2==a.1.ax.e2)&&((b.ax.e3==a.1.ax.e3)&&((b.az.e0==a.1.az.e0)&&((b.az.e1==a.1.az.e1)&&((b.az.e2==a.1.az.e2)&&((b.az.e3==a.1.az.e3)&&(b.an==a.1.an)))))))))) (cond (((b.ax.e0==a.1.ax.e0)&&((b.ax.e1==a.1.ax.e1)&&((b.ax.e2==a.1.ax.e2)&&(b.ax.e3==a.1.ax.e3))))) (ak (jU a.1.an) fun e=>cond (decide (e<=u0.an)) (ak (iy u0 a.1) fun f=>some (f,0)) (some (false,0))) (some (false,0))) (some (false,0))) (fun _ _=>none) (fun r=>some r)))
theorem rq {ro:Addr->Option Value}(W:dB ro)(u0:aH){s1:Value}(t:aG bJ ro s1 u0.aj)(d:b7){L:Value}(M:aG rI ro L d.ax){N:Value}(O:aG rI ro N d.az){P:Value}(Q:aG rI ro P d.an){r:(Bool×Int)}(h:kg u0 d=some r):aF Tryz.prog 13 #[.agg #[.int .i64 u0.steps,.int .i64 u0.an,s1],.agg #[L,N,P]] ⟨ro,[]⟩ (fun v _=>v= .tuple #[.bool r.1,.int .i64 r.2]):=by
 obtain ⟨d3,c4,rfl,cl,X,Y⟩:=id t;obtain ⟨d10,u,rfl,cv,cy,c0⟩:=id M;obtain ⟨d17,w,rfl,da,db,dd⟩:=id O;obtain ⟨d24,y,rfl,df,dk,dp⟩:=id Q;unfold kg at h;refine aF.go Tryz.func13 rfl Tryz.ntmps13 Tryz.results13 aB fun main J hJ A Z hd hs=>?_;have ab:=hs 0;have k1:=hs 1;clear hs;refine af hJ ?_;refine ah hJ ?_;apply aa _;intro k f29;have dq:=aT f29;have ad:=aU f29;try simp only[aN] at ad
 intro z f30;have ds:=aT f30;have ae:=aU f30;try simp only[aN] at ae
 try apply aa _
 refine af hJ ?_;refine af hJ ?_;refine ah hJ ?_;have h':=av h;clear h;obtain ⟨dt,al,h⟩:=h';apply aa _;refine bl hJ _ (jv (W.mono aX) u0 (t.mono aX) al) (aQ ?_);try apply aa _
 refine af hJ ?_;refine ah hJ ?_;apply aa _;have h':=aD h;clear h;rcases h' with ⟨C,h⟩|⟨C,h⟩
 .try simp only[Int.ofNat_lt] at C
  refine aL hJ au ?_;refine af hJ ?_;refine ah hJ ?_;apply aa _;have h':=Option.some.inj h;clear h;subst h';refine aI ?_;simp only[*,go_sem]
 try simp only[Int.ofNat_lt] at C
 refine aM hJ au ?_;refine aR hJ ?_;refine af hJ ?_;refine ah hJ ?_;apply aa _;intro l f34;have du:=aT f34;have ao:=aU f34;try simp only[aN] at ao
 try apply aa _
 refine af hJ ?_;refine ah hJ ?_;have h':=av h;clear h;obtain ⟨a,ar,h⟩:=h';apply aa _;refine bl hJ _ (Aw u0 (t.mono aX) d (M.mono aX) (O.mono aX) (Q.mono aX) ar) (aQ ?_);try apply aa _
 intro o f37;have dv:=aT f37;have a0:=aU f37;try simp only[aN] at a0
 try apply aa _
 refine af hJ ?_;refine af hJ ?_;refine ah hJ ?_;apply aa _;have h':=aD h;clear h;rcases h' with ⟨D,h⟩|⟨D,h⟩
 .try simp only[Int.ofNat_lt] at D
  refine aL hJ au ?_;refine af hJ ?_;refine ah hJ ?_;apply aa _;have h':=Option.some.inj h;clear h;subst h';refine aI ?_;simp only[*,go_sem]
 try simp only[Int.ofNat_lt] at D
 refine aM hJ au ?_;refine aR hJ ?_;refine af hJ ?_;refine ah hJ ?_;apply aa _;intro E f39;have dC:=aT f39;have a2:=aU f39;try simp only[aN] at a2
 try apply aa _
 refine af hJ ?_;refine af hJ ?_;refine ah hJ ?_;apply aa _;refine bf hJ ?_;have h':=av h;clear h;obtain ⟨a3,i,a4⟩:=h';have h:=True.intro;refine bO hJ [11,12,33,34,35,36,37,38,39,40,41,42,43,44,45,46,47,48,49,50,51,52,53,54,55,56,57,58,59,60,61,62,63,64,65,66,67,68] (fun m a5 F'=>∃(i41:Nat) (b:bg),m=u0.aj.length - i41/\i41<=u0.aj.length/\bX (m6 a) i41 (u0.aj.drop i41) b=some a3/\F'=⟨ro,(E,.cells #[.int .i64 b.ax.e0,.int .i64 b.ax.e1,.int .i64 b.ax.e2,.int .i64 b.ax.e3,.int .i64 b.az.e0,.int .i64 b.az.e1,.int .i64 b.az.e2,.int .i64 b.az.e3,.int .u64 b.an] 84)::(o,.cells #[.int .i64 a.1.ax.e0,.int .i64 a.1.ax.e1,.int .i64 a.1.ax.e2,.int .i64 a.1.ax.e3,.int .i64 a.1.az.e0,.int .i64 a.1.az.e1,.int .i64 a.1.az.e2,.int .i64 a.1.az.e3,.int .u64 a.1.an] 84)::(l,.cells #[.int .i64 u0.steps,.int .i64 u0.an,.slice d3 u0.aj.length c4] 87)::(z,.cells #[.slice d10 d.ax.length u,.slice d17 d.az.length w,.slice d24 d.an.length y] 27)::(k,.cells #[.int .i64 u0.steps,.int .i64 u0.an,.slice d3 u0.aj.length c4] 24)::[]⟩/\slot a5 33= .int .i64 (i41:Int)) u0.aj.length ?_ ?_
 .refine ⟨0,a.1,(Nat.sub_zero _).symm,Nat.zero_le _,i,rfl,?_⟩;simp only[*,go_sem,-h]
 rintro dE g F' f ⟨i41,b,rfl,dT,i,rfl,ea⟩;have h:=True.intro;have eb:sz g=92:=by rw[f.size];simp only[*,go_sem,-h]
 have ec:g.defers=[]:=by rw[f.defers];simp only[*,go_sem,-h]
 have ed:slot g 2= .pointer (some ⟨k,0,none⟩):=by rw[f.aA 2 ay];simp only[*,go_sem,-h]
 have eh:slot g 4= .bool false:=by rw[f.aA 4 ay];simp only[*,go_sem,-h]
 have et:slot g 5= .int .i64 0:=by rw[f.aA 5 ay];simp only[*,go_sem,-h]
 have ev:slot g 7= .pointer (some ⟨l,0,none⟩):=by rw[f.aA 7 ay];simp only[*,go_sem,-h]
 have eQ:slot g 8= .pointer (some ⟨o,0,none⟩):=by rw[f.aA 8 ay];simp only[*,go_sem,-h]
 have eS:slot g 10= .pointer (some ⟨E,0,none⟩):=by rw[f.aA 10 ay];simp only[*,go_sem,-h]
 have fa:slot g 31= .slice d3 u0.aj.length c4:=by rw[f.aA 31 ay];simp only[*,go_sem,-h]
 have fb:slot g 32= .int .i64 (u0.aj.length:Int):=by rw[f.aA 32 ay];simp only[*,go_sem,-h]
 clear f Z hd ab k1;refine af hJ ?_;refine ah hJ ?_;apply aa _;refine af hJ ?_;rcases Nat.lt_or_ge i41 u0.aj.length with a6|R
 .refine aL hJ au ?_;refine aR hJ ?_;obtain ⟨c,G⟩:∃x,u0.aj[i41]?=some x:=⟨_,List.getElem?_eq_getElem a6⟩
  rw[ey G] at i;have h':=av i;clear i h;obtain ⟨fc,h,a7⟩:=h';unfold m6 at h;try dsimp only at h
  obtain ⟨B,fg,a8,a9,j⟩:=Y _ _ G;obtain ⟨fh,rfl,ba⟩:=a9;obtain ⟨d50,S,rfl,fi,fj,fl⟩:=id ba;cases a8;have bb:=j 0 _ rfl;simp only[go_sem] at bb;have bc:=j 1 _ rfl;simp only[go_sem] at bc;have bd:=j 2 _ rfl;simp only[go_sem] at bd;have bj:=j 3 _ rfl;simp only[go_sem] at bj;have bk:=j 4 _ rfl;simp only[go_sem] at bk;have bm:=j 5 _ rfl;simp only[go_sem] at bm;have bo:=j 6 _ rfl;simp only[go_sem] at bo;clear j G;refine af hJ ?_;refine bf hJ ?_;refine af hJ ?_;refine ah hJ ?_;apply aa _;intro T f56;have fp:=aT f56;have br:=aU f56;try simp only[aN] at br
  try apply aa _
  refine af hJ ?_;refine cB hJ mixed 15 ⟨ro,[(T,.cells #[.string ⟨⟨c.name⟩⟩,.int .i64 c.from_.low,.int .i64 c.from_.high,.int .i64 c.wide,.int .i64 c.aC.low,.int .i64 c.aC.high,.slice d50 c.marks.length S] 56),(o,.cells #[.int .i64 a.1.ax.e0,.int .i64 a.1.ax.e1,.int .i64 a.1.ax.e2,.int .i64 a.1.ax.e3,.int .i64 a.1.az.e0,.int .i64 a.1.az.e1,.int .i64 a.1.az.e2,.int .i64 a.1.az.e3,.int .u64 a.1.an] 84),(l,.cells #[.int .i64 u0.steps,.int .i64 u0.an,.slice (some B) u0.aj.length c4] 87),(z,.cells #[.slice d10 d.ax.length u,.slice d17 d.az.length w,.slice d24 d.an.length y] 27),(k,.cells #[.int .i64 u0.steps,.int .i64 u0.an,.slice (some B) u0.aj.length c4] 24)]⟩ au aS ?_;have h':=av h;clear h;obtain ⟨p,U,h⟩:=h';obtain ⟨fr,fs,-⟩:=bh.get_some U;have bs:([.int .i64 a.1.ax.e0,.int .i64 a.1.ax.e1,.int .i64 a.1.ax.e2,.int .i64 a.1.ax.e3,.int .i64 a.1.az.e0,.int .i64 a.1.az.e1,.int .i64 a.1.az.e2,.int .i64 a.1.az.e3,.int .u64 a.1.an]:List Value)[((i41:Int):Int).toNat]?=some (.int .i64 p):=bh.oq [.int .i64 a.1.az.e0,.int .i64 a.1.az.e1,.int .i64 a.1.az.e2,.int .i64 a.1.az.e3,.int .u64 a.1.an] U;try simp only[go_sem] at bs
  have h':=av h;clear h;obtain ⟨_x60,b0,h⟩:=h';obtain ⟨ft,fu,-⟩:=bh.get_some b0;have b1:((i41:Int):Int).toNat<4:=ai;have b2:0+((i41:Int):Int).toNat<9:=ai;try simp only[go_sem] at b1
  try simp only[go_sem] at b2
  have h':=av h;clear h;obtain ⟨e,b3,h⟩:=h';have fv:(([.int .i64 b.ax.e0,.int .i64 b.ax.e1,.int .i64 b.ax.e2,.int .i64 b.ax.e3,.int .i64 b.az.e0,.int .i64 b.az.e1,.int .i64 b.az.e2,.int .i64 b.az.e3,.int .u64 b.an]:List Value).set (i41) (.int .i64 (if c.from_.high<(if p<c.from_.low then c.from_.low else p) then c.from_.high else (if p<c.from_.low then c.from_.low else p)))).toArray=#[.int .i64 e.e0,.int .i64 e.e1,.int .i64 e.e2,.int .i64 e.e3,.int .i64 b.az.e0,.int .i64 b.az.e1,.int .i64 b.az.e2,.int .i64 b.az.e3,.int .u64 b.an]:=bh.zm b3 [] [.int .i64 b.az.e0,.int .i64 b.az.e1,.int .i64 b.az.e2,.int .i64 b.az.e3,.int .u64 b.an] aB;try apply aa _
  refine cB hJ mixed 15 ⟨ro,[(T,.cells #[.string ⟨⟨c.name⟩⟩,.int .i64 c.from_.low,.int .i64 c.from_.high,.int .i64 c.wide,.int .i64 c.aC.low,.int .i64 c.aC.high,.slice d50 c.marks.length S] 56),(o,.cells #[.int .i64 a.1.ax.e0,.int .i64 a.1.ax.e1,.int .i64 a.1.ax.e2,.int .i64 a.1.ax.e3,.int .i64 a.1.az.e0,.int .i64 a.1.az.e1,.int .i64 a.1.az.e2,.int .i64 a.1.az.e3,.int .u64 a.1.an] 84),(l,.cells #[.int .i64 u0.steps,.int .i64 u0.an,.slice (some B) u0.aj.length c4] 87),(z,.cells #[.slice d10 d.ax.length u,.slice d17 d.az.length w,.slice d24 d.an.length y] 27),(k,.cells #[.int .i64 u0.steps,.int .i64 u0.an,.slice (some B) u0.aj.length c4] 24)]⟩ au aS ?_;have h':=av h;clear h;obtain ⟨q,V,h⟩:=h';obtain ⟨fw,fx,-⟩:=bh.get_some V;have b4:([.int .i64 a.1.ax.e0,.int .i64 a.1.ax.e1,.int .i64 a.1.ax.e2,.int .i64 a.1.ax.e3,.int .i64 a.1.az.e0,.int .i64 a.1.az.e1,.int .i64 a.1.az.e2,.int .i64 a.1.az.e3,.int .u64 a.1.an]:List Value)[4+((i41:Int):Int).toNat]?=some (.int .i64 q):=bh.qm [.int .i64 a.1.ax.e0,.int .i64 a.1.ax.e1,.int .i64 a.1.ax.e2,.int .i64 a.1.ax.e3] [.int .u64 a.1.an] V;try simp only[go_sem] at b4
  have h':=av h;clear h;obtain ⟨_x68,ca,h⟩:=h';obtain ⟨fz,gg,-⟩:=bh.get_some ca;have cb:((i41:Int):Int).toNat<4:=ai;have cc:4+((i41:Int):Int).toNat<9:=ai;try simp only[go_sem] at cb
  try simp only[go_sem] at cc
  have h':=av h;clear h;obtain ⟨s,cd,h⟩:=h';have gj:(([.int .i64 e.e0,.int .i64 e.e1,.int .i64 e.e2,.int .i64 e.e3,.int .i64 b.az.e0,.int .i64 b.az.e1,.int .i64 b.az.e2,.int .i64 b.az.e3,.int .u64 b.an]:List Value).set (4+i41) (.int .i64 (if c.aC.high<(if q<c.aC.low then c.aC.low else q) then c.aC.high else (if q<c.aC.low then c.aC.low else q)))).toArray=#[.int .i64 e.e0,.int .i64 e.e1,.int .i64 e.e2,.int .i64 e.e3,.int .i64 s.e0,.int .i64 s.e1,.int .i64 s.e2,.int .i64 s.e3,.int .u64 b.an]:=bh.zm cd [.int .i64 e.e0,.int .i64 e.e1,.int .i64 e.e2,.int .i64 e.e3] [.int .u64 b.an] aB;try apply aa _
  have h':=Option.some.inj h;clear h;subst h';have h:=True.intro;have gl:=dH (n:=i41) (by have:=X;omega);refine ah hJ ?_;apply aa _;refine ⟨u0.aj.length - (i41+1),ai,_,Le.sub (List.Sublist.cons _ (List.Sublist.refl _)),i41+1,(⟨e,s,b.an⟩:bg),rfl,ai,a7,rfl,?_⟩;simp only[*,go_sem,-h]
 have gn:=Nat.not_lt.2 R;refine aM hJ au ?_;rw[List.drop_eq_nil_of_le R] at i;have h':=Option.some.inj i;clear i h;subst h';have h:=a4;dsimp only[aJ] at h;refine bM ?_;simp only[go_sem];refine af hJ ?_;refine cB hJ mixed 25 ⟨ro,[(E,.cells #[.int .i64 b.ax.e0,.int .i64 b.ax.e1,.int .i64 b.ax.e2,.int .i64 b.ax.e3,.int .i64 b.az.e0,.int .i64 b.az.e1,.int .i64 b.az.e2,.int .i64 b.az.e3,.int .u64 b.an] 84),(o,.cells #[.int .i64 a.1.ax.e0,.int .i64 a.1.ax.e1,.int .i64 a.1.ax.e2,.int .i64 a.1.ax.e3,.int .i64 a.1.az.e0,.int .i64 a.1.az.e1,.int .i64 a.1.az.e2,.int .i64 a.1.az.e3,.int .u64 a.1.an] 84),(l,.cells #[.int .i64 u0.steps,.int .i64 u0.an,.slice d3 u0.aj.length c4] 87),(z,.cells #[.slice d10 d.ax.length u,.slice d17 d.az.length w,.slice d24 d.an.length y] 27),(k,.cells #[.int .i64 u0.steps,.int .i64 u0.an,.slice d3 u0.aj.length c4] 24)]⟩ au aS ?_;have h':=aD h;clear h;rcases h' with ⟨H,h⟩|⟨H,h⟩
 .try simp only[Int.ofNat_lt] at H
  have h':=aD h;clear h;rcases h' with ⟨I,h⟩|⟨I,h⟩
  ·(try simp only[Int.ofNat_lt] at I);have h':=av h;clear h;obtain ⟨gp,cf,h⟩:=h';(try apply aa _);refine ⟨_,dI hJ fun F hF=>y6 a.1.an cf,ef ?_⟩;have h':=aD h;clear h;rcases h' with ⟨K,h⟩|⟨K,h⟩
   ·(try simp only[Int.ofNat_lt] at K);have h':=av h;clear h;obtain ⟨gy,ck,h⟩:=h';(try apply aa _);refine ⟨_,dI hJ fun F hF=>ze u0 (t.mono (fW hF)) a.1 ck,ef ?_⟩;(try apply aa _);have h':=Option.some.inj h;clear h;subst h';refine aI ?_;simp only[*,go_sem]
   (try simp only[Int.ofNat_lt] at K);(try apply aa _);have h':=Option.some.inj h;clear h;subst h';refine aI ?_;simp only[*,go_sem]
  try simp only[Int.ofNat_lt] at I
  try apply aa _
  have h':=Option.some.inj h;clear h;subst h';refine aI ?_;simp only[*,go_sem]
 try simp only[Int.ofNat_lt] at H
 try apply aa _
 have h':=Option.some.inj h;clear h;subst h';refine aI ?_;simp only[*,go_sem]
def vQ (b:(List bp))(st:(Int×(List bp))):Option (Fl (Int×(List bp)) aH):=
 cond (decide (st.1<(b.length:Int))) (ak (bI st.2 st.1) fun a=>ak (oO a.marks) fun c=>some (.nx ((IntKind.i64.wrap (st.1+1)),(st.2.set (st.1).toNat (⟨a.name,a.from_,a.wide,a.aC,c⟩:bp))))) (some (.bk (st.1,st.2)))
def ru (u0:aH):Option aH:=
 ak (uO u0.aj) fun a=>ak (aZ (vQ a) fu (0,a)) fun o=>aJ o (fun b=>some (⟨u0.steps,u0.an,b.2⟩:aH)) (fun _ _=>none) (fun r=>some r)
theorem Ax {ro:Addr->Option Value}(u0:aH){s1:Value}(R:aG bJ ro s1 u0.aj){r:aH}(h:ru u0=some r):aF Tryz.prog 80 #[.agg #[.int .i64 u0.steps,.int .i64 u0.an,s1]] ⟨ro,[]⟩ (fun v G=>∃aK z,Ext ro aK/\Le ⟨aK,z⟩ G/\∃S,v= .agg #[.int .i64 r.steps,.int .i64 r.an,S]/\bA bJ aK 56 S r.aj z):=by
 obtain ⟨d3,c4,rfl,b0,b1,b2⟩:=id R;unfold ru at h;refine aF.go Tryz.func80 rfl Tryz.ntmps80 Tryz.results80 aB fun main J hJ A a6 hd hs=>?_;have a7:=hs 0;clear hs;refine af hJ ?_;refine ah hJ ?_;apply aa _;intro c f8;have K:=aT f8;have a8:=aU f8;try simp only[aN] at a8
 intro d f9;have L:=aT f9;have a9:=aU f9;try simp only[aN] at a9
 try apply aa _
 refine af hJ ?_;refine aO hJ fun b3=>?_;refine ah hJ ?_;have h':=av h;clear h;obtain ⟨b,ba,h⟩:=h';apply aa _;refine dA hJ (bz:=[]) [(d,.cells #[.int .i64 0,.int .i64 0,.slice none 0 0] 24),(c,.cells #[.int .i64 u0.steps,.int .i64 u0.an,.slice d3 u0.aj.length c4] 24)] [] (by first|rfl|simp only[bE]|(simp only[bE];rfl)) _ (EO u0.aj R ba) (fun b4 T U z bb ca=>?_);simp only[bE] at bb;subst z;obtain ⟨d17,e,rfl,cb⟩:=U.len;refine ⟨⟨ro,(d,.cells #[.int .i64 0,.int .i64 0,.slice none 0 0] 24)::(c,.cells #[.int .i64 u0.steps,.int .i64 u0.an,.slice d3 u0.aj.length c4] 24)::T⟩,Le.refl _,?_⟩;refine aQ ?_;try apply aa _
 refine af hJ ?_;refine af hJ ?_;refine aO hJ fun cc=>?_;refine ah hJ ?_;apply aa _;refine bf hJ ?_;have h':=av h;clear h;obtain ⟨bc,t,bd⟩:=h';have h:=True.intro;refine bO hJ [3,4,12,13,14,15,16,17,18,19,20,21,22,23,24,25] (fun m bj F'=>∃(n:Addr->Option Value) (B:List (Nat×Obj)) (f:Int) (u:(List bp)),aZ (vQ b) m (f,u)=some bc/\F'=⟨n,(d,.cells #[.int .i64 0,.int .i64 0,.slice none 0 0] 24)::(c,.cells #[.int .i64 u0.steps,.int .i64 u0.an,.slice d17 b.length e] 24)::B⟩/\Ext ro n/\bA bJ n 56 (.slice d17 b.length e) u B/\slot bj 12= .int .i64 f) fu ?_ ?_
 .refine ⟨ro,T,0,b,t,rfl,Ext.refl _,U,?_⟩;simp only[*,go_sem,-h]
 rintro M p F' j ⟨n,B,f,u,t,rfl,V,q,cd⟩;have h:=True.intro;refine jS hJ fun _ C=>?_;have C:aW n ((d,.cells #[.int .i64 0,.int .i64 0,.slice none 0 0] 24)::(c,.cells #[.int .i64 u0.steps,.int .i64 u0.an,.slice d17 b.length e] 24)::B):=C;replace L:=C.hd;replace K:=C.tl.hd;have cf:sz p=27:=by rw[j.size];simp only[*,go_sem,-h]
 have ck:p.defers=[]:=by rw[j.defers];simp only[*,go_sem,-h]
 have cl:slot p 1= .pointer (some ⟨c,0,none⟩):=by rw[j.aA 1 ay];simp only[*,go_sem,-h]
 have cv:slot p 2= .pointer (some ⟨d,0,none⟩):=by rw[j.aA 2 ay];simp only[*,go_sem,-h]
 have cy:slot p 10= .slice d17 b.length e:=by rw[j.aA 10 ay];simp only[*,go_sem,-h]
 have c0:slot p 11= .int .i64 (b.length:Int):=by rw[j.aA 11 ay];simp only[*,go_sem,-h]
 clear j a6 hd a7;obtain _|M:=M
 .exact absurd t (by simp only[aZ,reduceCtorEq,not_false_eq_true])
 have h':=av t;clear t h;obtain ⟨da,h,N⟩:=h';unfold vQ at h;try dsimp only at h
 refine af hJ ?_;refine aO hJ fun db=>?_;refine ah hJ ?_;apply aa _;refine af hJ ?_;have h':=aD h;clear h;rcases h' with ⟨O,h⟩|⟨O,h⟩
 .try simp only[Int.ofNat_lt] at O
  refine aL hJ au ?_;refine aR hJ ?_;refine af hJ ?_;refine bf hJ ?_;refine af hJ ?_;refine aO hJ fun W=>?_;refine ah hJ ?_;have h':=av h;clear h;obtain ⟨a,bk,h⟩:=h';obtain ⟨dd,df,X⟩:=cI bk;have dk:f<((b.length:Nat):Int):=by have:=q.count;omega
  obtain ⟨g,P,dp,rfl,rfl,dq,bm,i⟩:=q.tr X;obtain ⟨ds,rfl,w⟩:=bm;obtain ⟨d40,x,rfl,dt,du,Y⟩:=id w;have bo:=W.nd;simp only[keys,List.map_cons,List.map_nil,List.map_append,List.cons_append,List.nil_append,List.nodup_cons,List.mem_cons,List.mem_append,List.not_mem_nil,or_false,not_or] at bo;have Z:=i 0 _ rfl;simp only[go_sem] at Z;have dv:=(Array.getElem?_eq_some_iff.1 Z).1;have ab:=i 1 _ rfl;simp only[go_sem] at ab;have dC:=(Array.getElem?_eq_some_iff.1 ab).1;have ad:=i 2 _ rfl;simp only[go_sem] at ad;have dE:=(Array.getElem?_eq_some_iff.1 ad).1;have ae:=i 3 _ rfl;simp only[go_sem] at ae;have dT:=(Array.getElem?_eq_some_iff.1 ae).1;have al:=i 4 _ rfl;simp only[go_sem] at al;have ea:=(Array.getElem?_eq_some_iff.1 al).1;have ao:=i 5 _ rfl;simp only[go_sem] at ao;have eb:=(Array.getElem?_eq_some_iff.1 ao).1;have ar:=i 6 _ rfl;simp only[go_sem] at ar;have ec:=(Array.getElem?_eq_some_iff.1 ar).1;try apply aa _
  intro D f47;have a0:=aT f47;have a2:=aU f47;have ed:=bT.cons a2 W;try simp only[aN] at a2
  try apply aa _
  refine aO hJ fun eh=>?_;refine cB hJ mixed 5 ⟨n,[(D,.cells #[.string ⟨⟨a.name⟩⟩,.int .i64 a.from_.low,.int .i64 a.from_.high,.int .i64 a.wide,.int .i64 a.aC.low,.int .i64 a.aC.high,.slice d40 a.marks.length x] 56),(d,.cells #[.int .i64 0,.int .i64 0,.slice none 0 0] 24),(c,.cells #[.int .i64 u0.steps,.int .i64 u0.an,.slice (some ⟨g,0,none⟩) b.length e] 24)]⟩ au aS ?_;have h':=av h;clear h;obtain ⟨k,br,h⟩:=h';apply aa _;refine cV hJ _ (EN a.marks w br) fun v E H s hR=>?_;obtain ⟨et,rfl,a3⟩:=hR;have s:aW E ((D,.cells #[.string ⟨⟨a.name⟩⟩,.int .i64 a.from_.low,.int .i64 a.from_.high,.int .i64 a.wide,.int .i64 a.aC.low,.int .i64 a.aC.high,.slice d40 a.marks.length x] 56)::(d,.cells #[.int .i64 0,.int .i64 0,.slice none 0 0] 24)::(c,.cells #[.int .i64 u0.steps,.int .i64 u0.an,.slice (some ⟨g,0,none⟩) b.length e] 24)::[(g,Obj.cells P 56)]):=s;replace w:=w.mono H;clear Y;obtain ⟨_,_,Y⟩:=w.op;replace a0:=s.hd;replace L:=s.tl.hd;replace K:=s.tl.tl.hd;replace q:=q.mono H s.tl.tl.tl;obtain ⟨d69,I,rfl,ev,eQ,eS⟩:=id a3;have e0:=iQ (l:=[(D,.cells #[.string ⟨⟨a.name⟩⟩,.int .i64 a.from_.low,.int .i64 a.from_.high,.int .i64 a.wide,.int .i64 a.aC.low,.int .i64 a.aC.high,.slice d40 a.marks.length x] 56),(d,.cells #[.int .i64 0,.int .i64 0,.slice none 0 0] 24),(c,.cells #[.int .i64 u0.steps,.int .i64 u0.an,.slice (some ⟨g,0,none⟩) b.length e] 24)]) H (aW.cons a0 (aW.cons L (aW.cons K (aW.nil _))));refine ⟨au,?_⟩;refine s3 ?_;have a4:bA bJ E 56 (.slice (some ⟨g,0,none⟩) b.length e) (u.set (f).toNat (⟨a.name,a.from_,a.wide,a.aC,k⟩:bp)) [(g,Obj.cells (bR P ((f).toNat*7+6) [.slice d69 k.length I]) 56)]:=by have bs:=q.part (y:=(⟨a.name,a.from_,a.wide,a.aC,k⟩:bp)) X 6 [.slice d69 k.length I] [.string ⟨⟨a.name⟩⟩,.int .i64 a.from_.low,.int .i64 a.from_.high,.int .i64 a.wide,.int .i64 a.aC.low,.int .i64 a.aC.high,.slice d40 a.marks.length x] [.string ⟨⟨a.name⟩⟩,.int .i64 a.from_.low,.int .i64 a.from_.high,.int .i64 a.wide,.int .i64 a.aC.low,.int .i64 a.aC.high,.slice d69 k.length I] i rfl rfl aB ⟨_,rfl,a3⟩;exact bs
  try apply aa _
  obtain ⟨a5,Q⟩:∃o,o=(bR P ((f).toNat*7+6) [.slice d69 k.length I]):=⟨_,rfl⟩
  refine cG (F:=⟨E,(D,.cells #[.string ⟨⟨a.name⟩⟩,.int .i64 a.from_.low,.int .i64 a.from_.high,.int .i64 a.wide,.int .i64 a.aC.low,.int .i64 a.aC.high,.slice d40 a.marks.length x] 56)::(d,.cells #[.int .i64 0,.int .i64 0,.slice none 0 0] 24)::(c,.cells #[.int .i64 u0.steps,.int .i64 u0.an,.slice (some ⟨g,0,none⟩) b.length e] 24)::[(g,Obj.cells a5 56)]⟩) hJ (by rw[Q];exact Le.refl _) ?_;rw[<-Q] at a4;clear Q;refine aO hJ fun e1=>?_;refine ah hJ ?_;apply aa _;have h':=Option.some.inj h;clear h;subst h';have h:=True.intro;try apply aa _
  refine ⟨M,Nat.lt_succ_self _,_,Le.sub (List.Sublist.cons _ (List.Sublist.refl _)),E,[(g,Obj.cells a5 56)],(IntKind.i64.wrap (f+1)),(u.set (f).toNat (⟨a.name,a.from_,a.wide,a.aC,k⟩:bp)),N,rfl,(V.trans H),a4,?_⟩;simp only[*,go_sem,-h]
 try simp only[Int.ofNat_lt] at O
 refine aM hJ au ?_;refine bM ?_;simp only[go_sem];have h':=Option.some.inj h;clear h;subst h';have h':=Option.some.inj N;clear N;subst h';have h:=bd;dsimp only[aJ] at h;refine af hJ ?_;refine aO hJ fun e2=>?_;refine ah hJ ?_;apply aa _;have h':=Option.some.inj h;clear h;subst h';refine aI ?_;apply bw _;exact ⟨_,_,V,Le.sub (.cons _ (.cons _ (List.Sublist.refl _))),_,rfl,q⟩
def vR (u0:aH)(a:bp):Option (aH×Int):=
 ak (fE u0) fun c=>cond ((c != 0)) (some ((⟨0,0,([]:(List bp))⟩:aH),c)) (ak (ru u0) fun b=>ak (oO a.marks) fun e=>ak (jk b.aj ([(⟨a.name,a.from_,a.wide,a.aC,e⟩:bp)])) fun f=>ak (ri (⟨b.steps,b.an,f⟩:aH)) fun d=>some (d.1,d.2))
theorem vS {ro:Addr->Option Value}(m:dB ro)(u0:aH){s1:Value}(e:aG bJ ro s1 u0.aj)(a:bp){X:Value}(j:aG dO ro X a.marks){r:(aH×Int)}(h:vR u0 a=some r):eK Tryz.prog 28 #[.agg #[.int .i64 u0.steps,.int .i64 u0.an,s1],.agg #[.string ⟨⟨a.name⟩⟩,.int .i64 a.from_.low,.int .i64 a.from_.high,.int .i64 a.wide,.int .i64 a.aC.low,.int .i64 a.aC.high,X]] ro (fun v aK=>∃Y,v= .tuple #[.agg #[.int .i64 r.1.steps,.int .i64 r.1.an,Y],.int .i64 r.2]/\aG bJ aK Y r.1.aj):=by
 obtain ⟨d3,c4,rfl,b1,b2,n⟩:=id e;obtain ⟨d10,Q,rfl,b3,b4,o⟩:=id j;unfold vR at h;refine aF.go Tryz.func28 rfl Tryz.ntmps28 Tryz.results28 aB fun main J hJ A ca hd hs=>?_;have cb:=hs 0;have k1:=hs 1;clear hs;refine af hJ ?_;refine ah hJ ?_;apply aa _;intro f f15;have y:=aT f15;have a4:=aU f15;try simp only[aN] at a4
 intro g f16;have z:=aT f16;have a5:=aU f16;try simp only[aN] at a5
 intro i f17;have B:=aT f17;have a6:=aU f17;try simp only[aN] at a6
 try apply aa _
 refine af hJ ?_;refine af hJ ?_;refine ah hJ ?_;have h':=av h;clear h;obtain ⟨cc,a7,h⟩:=h';apply aa _;refine bl hJ _ (jv (m.mono aX) u0 (e.mono aX) a7) (aQ ?_);try apply aa _
 refine af hJ ?_;refine ah hJ ?_;apply aa _;have h':=aD h;clear h;rcases h' with ⟨U,h⟩|⟨U,h⟩
 .try simp only[Int.ofNat_lt] at U
  refine aL hJ au ?_;refine af hJ ?_;refine ah hJ ?_;apply aa _;have h':=Option.some.inj h;clear h;subst h';refine aI ?_;apply bw _;exact ⟨_,Ext.refl _,Le.sub (List.nil_sublist _),_,rfl,aG.nil _ _⟩
 try simp only[Int.ofNat_lt] at U
 refine aM hJ au ?_;refine aR hJ ?_;refine af hJ ?_;refine ah hJ ?_;have h':=av h;clear h;obtain ⟨b,a8,h⟩:=h';apply aa _;refine zo hJ _ (Ax u0 e a8) [(i,.cells #[.int .i64 0,.int .i64 0,.slice none 0 0] 24),(g,.cells #[.string ⟨⟨a.name⟩⟩,.int .i64 a.from_.low,.int .i64 a.from_.high,.int .i64 a.wide,.int .i64 a.aC.low,.int .i64 a.aC.high,.slice d10 a.marks.length Q] 56),(f,.cells #[.int .i64 u0.steps,.int .i64 u0.an,.slice d3 u0.aj.length c4] 24)] [] (by first|rfl|simp only[bE]|(simp only[bE];rfl)) fun v Z C R G hR H I a9=>?_;obtain ⟨cd,rfl,K⟩:=hR;simp only[bE] at I;subst H;have G:aW Z ((i,.cells #[.int .i64 0,.int .i64 0,.slice none 0 0] 24)::(g,.cells #[.string ⟨⟨a.name⟩⟩,.int .i64 a.from_.low,.int .i64 a.from_.high,.int .i64 a.wide,.int .i64 a.aC.low,.int .i64 a.aC.high,.slice d10 a.marks.length Q] 56)::(f,.cells #[.int .i64 u0.steps,.int .i64 u0.an,.slice d3 u0.aj.length c4] 24)::[]):=G;replace e:=e.mono R;clear n;obtain ⟨_,_,n⟩:=e.op;replace j:=j.mono R;clear o;obtain ⟨_,_,o⟩:=j.op;replace B:=G.hd;replace z:=G.tl.hd;replace y:=G.tl.tl.hd;replace m:=m.mono R;obtain ⟨d27,p,rfl,cf⟩:=K.len;refine aQ ?_;try apply aa _
 intro k f34;have L:=aT f34;have ab:=aU f34;have ck:=bT.cons ab a9;try simp only[aN] at ab
 try apply aa _
 refine af hJ ?_;refine aO hJ fun cl=>?_;refine ah hJ ?_;have h':=av h;clear h;obtain ⟨c,ba,h⟩:=h';apply aa _;refine dA hJ (bz:=[]) [(k,.cells #[.int .i64 b.steps,.int .i64 b.an,.slice d27 b.aj.length p] 24),(i,.cells #[.int .i64 0,.int .i64 0,.slice none 0 0] 24),(g,.cells #[.string ⟨⟨a.name⟩⟩,.int .i64 a.from_.low,.int .i64 a.from_.high,.int .i64 a.wide,.int .i64 a.aC.low,.int .i64 a.aC.high,.slice d10 a.marks.length Q] 56),(f,.cells #[.int .i64 u0.steps,.int .i64 u0.an,.slice d3 u0.aj.length c4] 24)] C (by first|rfl|simp only[bE]|(simp only[bE];rfl)) _ (zn a.marks j ba) (fun cv bb ad H I cy=>?_);simp only[bE] at I;subst H;obtain ⟨d43,d,rfl,c0⟩:=ad.len;refine ⟨⟨Z,(k,.cells #[.int .i64 b.steps,.int .i64 b.an,.slice d27 b.aj.length p] 24)::(i,.cells #[.int .i64 0,.int .i64 0,.slice none 0 0] 24)::(g,.cells #[.string ⟨⟨a.name⟩⟩,.int .i64 a.from_.low,.int .i64 a.from_.high,.int .i64 a.wide,.int .i64 a.aC.low,.int .i64 a.aC.high,.slice d10 a.marks.length Q] 56)::(f,.cells #[.int .i64 u0.steps,.int .i64 u0.an,.slice d3 u0.aj.length c4] 24)::(bb++C)⟩,Le.refl _,?_⟩;refine aQ ?_;try apply aa _
 refine af hJ ?_;refine aO hJ fun ae=>?_;obtain ⟨V,M,s,q,bc⟩:=ad.iN ((k,.cells #[.int .i64 b.steps,.int .i64 b.an,.slice d27 b.aj.length p] 24)::(i,.cells #[.int .i64 0,.int .i64 0,.slice none 0 0] 24)::(g,.cells #[.string ⟨⟨a.name⟩⟩,.int .i64 a.from_.low,.int .i64 a.from_.high,.int .i64 a.wide,.int .i64 a.aC.low,.int .i64 a.aC.high,.slice d43 c.length d] 56)::(f,.cells #[.int .i64 u0.steps,.int .i64 u0.an,.slice d3 u0.aj.length c4] 24)::C) [(k,.cells #[.int .i64 b.steps,.int .i64 b.an,.slice d27 b.aj.length p] 24),(i,.cells #[.int .i64 0,.int .i64 0,.slice none 0 0] 24),(g,.cells #[.string ⟨⟨a.name⟩⟩,.int .i64 a.from_.low,.int .i64 a.from_.high,.int .i64 a.wide,.int .i64 a.aC.low,.int .i64 a.aC.high,.slice d43 c.length d] 56),(f,.cells #[.int .i64 u0.steps,.int .i64 u0.an,.slice d3 u0.aj.length c4] 24)] C (by first|rfl|simp only[bE]|(simp only[bE];rfl)) (by first|rfl|simp only[bE]|(simp only[bE];rfl)) ae (aW.cons L (aW.cons B (aW.cons z (aW.cons y (K.Db)))));clear ae;refine cG (F:=⟨V,(k,.cells #[.int .i64 b.steps,.int .i64 b.an,.slice d27 b.aj.length p] 24)::(i,.cells #[.int .i64 0,.int .i64 0,.slice none 0 0] 24)::(g,.cells #[.string ⟨⟨a.name⟩⟩,.int .i64 a.from_.low,.int .i64 a.from_.high,.int .i64 a.wide,.int .i64 a.aC.low,.int .i64 a.aC.high,.slice d43 c.length d] 56)::(f,.cells #[.int .i64 u0.steps,.int .i64 u0.an,.slice d3 u0.aj.length c4] 24)::C⟩) hJ bc ?_;obtain ⟨da,db,S⟩:=q.op;have s:aW V ((k,.cells #[.int .i64 b.steps,.int .i64 b.an,.slice d27 b.aj.length p] 24)::(i,.cells #[.int .i64 0,.int .i64 0,.slice none 0 0] 24)::(g,.cells #[.string ⟨⟨a.name⟩⟩,.int .i64 a.from_.low,.int .i64 a.from_.high,.int .i64 a.wide,.int .i64 a.aC.low,.int .i64 a.aC.high,.slice d43 c.length d] 56)::(f,.cells #[.int .i64 u0.steps,.int .i64 u0.an,.slice d3 u0.aj.length c4] 24)::C):=s;replace e:=e.mono M;clear n;obtain ⟨_,_,n⟩:=e.op;replace j:=j.mono M;clear o;obtain ⟨_,_,o⟩:=j.op;replace L:=s.hd;replace B:=s.tl.hd;replace z:=s.tl.tl.hd;replace y:=s.tl.tl.tl.hd;replace K:=K.mono M s.tl.tl.tl.tl;replace m:=m.mono M;refine aO hJ fun bd=>?_;refine ah hJ ?_;have h':=av h;clear h;obtain ⟨D,bj,h⟩:=h';obtain ⟨bk,al⟩:=oa bj;apply aa _;intro t f69;have T:=aT f69;have ao:=aU f69;have bm:=bT.cons ao bd;try simp only[aN] at ao
 try apply aa _
 refine kJ (r:=bJ) (l:=b.aj) (x:=(⟨a.name,a.from_,a.wide,a.aC,c⟩:bp)) (cs:=#[.string ⟨⟨a.name⟩⟩,.int .i64 a.from_.low,.int .i64 a.from_.high,.int .i64 a.wide,.int .i64 a.aC.low,.int .i64 a.aC.high,.slice d43 c.length d]) (e2:=56) [(t,.cells #[.string ⟨⟨a.name⟩⟩,.int .i64 a.from_.low,.int .i64 a.from_.high,.int .i64 a.wide,.int .i64 a.aC.low,.int .i64 a.aC.high,.slice d43 c.length d] 56),(k,.cells #[.int .i64 b.steps,.int .i64 b.an,.slice d27 b.aj.length p] 24),(i,.cells #[.int .i64 0,.int .i64 0,.slice none 0 0] 24),(g,.cells #[.string ⟨⟨a.name⟩⟩,.int .i64 a.from_.low,.int .i64 a.from_.high,.int .i64 a.wide,.int .i64 a.aC.low,.int .i64 a.aC.high,.slice d43 c.length d] 56),(f,.cells #[.int .i64 u0.steps,.int .i64 u0.an,.slice d3 u0.aj.length c4] 24)] [] (by first|rfl|simp only[bE]|(simp only[bE];rfl)) K bm bk ⟨_,rfl,q⟩ au T rfl rfl p9 p9 yl yo rfl ym ay ay (fun dd bo W H I df=>?_);simp only[bE] at I;subst H;rw[<-al] at W;clear al;obtain ⟨d77,N,rfl,dk⟩:=W.len;refine ⟨⟨V,(t,.cells #[.string ⟨⟨a.name⟩⟩,.int .i64 a.from_.low,.int .i64 a.from_.high,.int .i64 a.wide,.int .i64 a.aC.low,.int .i64 a.aC.high,.slice d43 c.length d] 56)::(k,.cells #[.int .i64 b.steps,.int .i64 b.an,.slice d27 b.aj.length p] 24)::(i,.cells #[.int .i64 0,.int .i64 0,.slice none 0 0] 24)::(g,.cells #[.string ⟨⟨a.name⟩⟩,.int .i64 a.from_.low,.int .i64 a.from_.high,.int .i64 a.wide,.int .i64 a.aC.low,.int .i64 a.aC.high,.slice d43 c.length d] 56)::(f,.cells #[.int .i64 u0.steps,.int .i64 u0.an,.slice d3 u0.aj.length c4] 24)::bo⟩,Le.refl _,?_⟩;refine aQ ?_;try apply aa _
 refine af hJ ?_;refine aO hJ fun ar=>?_;obtain ⟨a0,O,u,P,br⟩:=W.iN ((t,.cells #[.string ⟨⟨a.name⟩⟩,.int .i64 a.from_.low,.int .i64 a.from_.high,.int .i64 a.wide,.int .i64 a.aC.low,.int .i64 a.aC.high,.slice d43 c.length d] 56)::(k,.cells #[.int .i64 b.steps,.int .i64 b.an,.slice d77 D.length N] 24)::(i,.cells #[.int .i64 0,.int .i64 0,.slice none 0 0] 24)::(g,.cells #[.string ⟨⟨a.name⟩⟩,.int .i64 a.from_.low,.int .i64 a.from_.high,.int .i64 a.wide,.int .i64 a.aC.low,.int .i64 a.aC.high,.slice d43 c.length d] 56)::(f,.cells #[.int .i64 u0.steps,.int .i64 u0.an,.slice d3 u0.aj.length c4] 24)::[]) [(t,.cells #[.string ⟨⟨a.name⟩⟩,.int .i64 a.from_.low,.int .i64 a.from_.high,.int .i64 a.wide,.int .i64 a.aC.low,.int .i64 a.aC.high,.slice d43 c.length d] 56),(k,.cells #[.int .i64 b.steps,.int .i64 b.an,.slice d77 D.length N] 24),(i,.cells #[.int .i64 0,.int .i64 0,.slice none 0 0] 24),(g,.cells #[.string ⟨⟨a.name⟩⟩,.int .i64 a.from_.low,.int .i64 a.from_.high,.int .i64 a.wide,.int .i64 a.aC.low,.int .i64 a.aC.high,.slice d43 c.length d] 56),(f,.cells #[.int .i64 u0.steps,.int .i64 u0.an,.slice d3 u0.aj.length c4] 24)] [] (by first|rfl|simp only[bE]|(simp only[bE];rfl)) (by first|rfl|simp only[bE]|(simp only[bE];rfl)) ar (aW.cons T (aW.cons L (aW.cons B (aW.cons z (aW.cons y (aW.nil _))))));clear ar;refine cG (F:=⟨a0,(t,.cells #[.string ⟨⟨a.name⟩⟩,.int .i64 a.from_.low,.int .i64 a.from_.high,.int .i64 a.wide,.int .i64 a.aC.low,.int .i64 a.aC.high,.slice d43 c.length d] 56)::(k,.cells #[.int .i64 b.steps,.int .i64 b.an,.slice d77 D.length N] 24)::(i,.cells #[.int .i64 0,.int .i64 0,.slice none 0 0] 24)::(g,.cells #[.string ⟨⟨a.name⟩⟩,.int .i64 a.from_.low,.int .i64 a.from_.high,.int .i64 a.wide,.int .i64 a.aC.low,.int .i64 a.aC.high,.slice d43 c.length d] 56)::(f,.cells #[.int .i64 u0.steps,.int .i64 u0.an,.slice d3 u0.aj.length c4] 24)::[]⟩) hJ br ?_;obtain ⟨dp,dq,a2⟩:=P.op;have u:aW a0 ((t,.cells #[.string ⟨⟨a.name⟩⟩,.int .i64 a.from_.low,.int .i64 a.from_.high,.int .i64 a.wide,.int .i64 a.aC.low,.int .i64 a.aC.high,.slice d43 c.length d] 56)::(k,.cells #[.int .i64 b.steps,.int .i64 b.an,.slice d77 D.length N] 24)::(i,.cells #[.int .i64 0,.int .i64 0,.slice none 0 0] 24)::(g,.cells #[.string ⟨⟨a.name⟩⟩,.int .i64 a.from_.low,.int .i64 a.from_.high,.int .i64 a.wide,.int .i64 a.aC.low,.int .i64 a.aC.high,.slice d43 c.length d] 56)::(f,.cells #[.int .i64 u0.steps,.int .i64 u0.an,.slice d3 u0.aj.length c4] 24)::[]):=u;replace e:=e.mono O;clear n;obtain ⟨_,_,n⟩:=e.op;replace j:=j.mono O;clear o;obtain ⟨_,_,o⟩:=j.op;replace q:=q.mono O;clear S;obtain ⟨_,_,S⟩:=q.op;replace T:=u.hd;replace L:=u.tl.hd;replace B:=u.tl.tl.hd;replace z:=u.tl.tl.tl.hd;replace y:=u.tl.tl.tl.tl.hd;replace m:=m.mono O;refine ah hJ ?_;have h':=av h;clear h;obtain ⟨ds,bs,h⟩:=h';apply aa _;refine cV hJ _ (vK m (⟨b.steps,b.an,D⟩:aH) P bs) fun v b0 E w hR=>?_;obtain ⟨dt,rfl,a3⟩:=hR;have w:aW b0 ((t,.cells #[.string ⟨⟨a.name⟩⟩,.int .i64 a.from_.low,.int .i64 a.from_.high,.int .i64 a.wide,.int .i64 a.aC.low,.int .i64 a.aC.high,.slice d43 c.length d] 56)::(k,.cells #[.int .i64 b.steps,.int .i64 b.an,.slice d77 D.length N] 24)::(i,.cells #[.int .i64 0,.int .i64 0,.slice none 0 0] 24)::(g,.cells #[.string ⟨⟨a.name⟩⟩,.int .i64 a.from_.low,.int .i64 a.from_.high,.int .i64 a.wide,.int .i64 a.aC.low,.int .i64 a.aC.high,.slice d43 c.length d] 56)::(f,.cells #[.int .i64 u0.steps,.int .i64 u0.an,.slice d3 u0.aj.length c4] 24)::[]):=w;replace e:=e.mono E;clear n;obtain ⟨_,_,n⟩:=e.op;replace j:=j.mono E;clear o;obtain ⟨_,_,o⟩:=j.op;replace P:=P.mono E;clear a2;obtain ⟨_,_,a2⟩:=P.op;replace q:=q.mono E;clear S;obtain ⟨_,_,S⟩:=q.op;replace T:=w.hd;replace L:=w.tl.hd;replace B:=w.tl.tl.hd;replace z:=w.tl.tl.tl.hd;replace y:=w.tl.tl.tl.tl.hd;replace m:=m.mono E;obtain ⟨d99,du,rfl,dv,dC,dE⟩:=id a3;refine aQ ?_;try apply aa _
 have h':=Option.some.inj h;clear h;subst h';refine aI ?_;apply bw _;exact ⟨_,(((R).trans M).trans O).trans E,Le.sub (List.nil_sublist _),_,rfl,a3⟩
theorem Gx {ro:Addr->Option Value}{b off:Nat}:aF Tryz.prog 91 #[.pointer (some ⟨b,off,none⟩)] ⟨ro,[]⟩ (fun v _=>v= .pointer (some ⟨b,off+1,none⟩)):=by
 refine aF.go Tryz.func91 rfl Tryz.ntmps91 Tryz.results91 aB fun main J hJ A a hd hs=>?_;have c:=hs 0;clear hs;repeat refine af hJ ?_
 refine ah hJ ?_;apply bw _;repeat refine af hJ ?_
 refine ah hJ ?_;apply bw _;refine aI ?_;simp only[*,go_sem]
theorem ry {α:Type}{l:List α}{i:Nat}{x y:α}(h:l[i]?=some x):(l.set i y)[i]?=some y:=by
 rw[List.getElem?_set_self (List.getElem?_eq_some_iff.1 h).1]
def vT (u0:aH)(c:Int)(b:bS)(g:Int)(h:Int):Option (aH×Int):=
 ak (fE u0) fun e=>cond ((e != 0)) (some ((⟨0,0,([]:(List bp))⟩:aH),e)) (ak (mc u0 c) fun i=>cond (!i) (some ((⟨0,0,([]:(List bp))⟩:aH),6)) (cond (decide (b.low<g)) (some ((⟨0,0,([]:(List bp))⟩:aH),1)) (cond (decide (b.high<b.low)) (some ((⟨0,0,([]:(List bp))⟩:aH),1)) (cond (decide (h<b.high)) (some ((⟨0,0,([]:(List bp))⟩:aH),1)) (ak (ru u0) fun d=>ak (bI d.aj c) fun a=>cond (decide ((if b.high<a.from_.high then b.high else a.from_.high)<(if a.from_.low<b.low then b.low else a.from_.low))) (some ((⟨0,0,([]:(List bp))⟩:aH),9)) (ak (ri (⟨d.steps,d.an,((d.aj.set (c).toNat (⟨a.name,(⟨(if a.from_.low<b.low then b.low else a.from_.low),a.from_.high⟩:bS),a.wide,a.aC,a.marks⟩:bp)).set (c).toNat (⟨a.name,(⟨(if a.from_.low<b.low then b.low else a.from_.low),(if b.high<a.from_.high then b.high else a.from_.high)⟩:bS),a.wide,a.aC,a.marks⟩:bp))⟩:aH)) fun f=>some (f.1,f.2)))))))
theorem Gz {ro:Addr->Option Value}(m:dB ro)(u0:aH){s1:Value}(f:aG bJ ro s1 u0.aj)(e:Int)(b:bS)(bb:Int)(bc:Int){r:(aH×Int)}(h:vT u0 e b bb bc=some r):eK Tryz.prog 86 #[.agg #[.int .i64 u0.steps,.int .i64 u0.an,s1],.int .i64 e,.agg #[.int .i64 b.low,.int .i64 b.high],.int .i64 bb,.int .i64 bc,.func (.func 91) #[] #[]] ro (fun v aK=>∃bd,v= .tuple #[.agg #[.int .i64 r.1.steps,.int .i64 r.1.an,bd],.int .i64 r.2]/\aG bJ aK bd r.1.aj):=by
 obtain ⟨d3,c4,rfl,hq,hr,n⟩:=id f;unfold vT at h;refine aF.go Tryz.func86 rfl Tryz.ntmps86 Tryz.results86 aB fun main J hJ A ht hd hs=>?_;have hv:=hs 0;have k1:=hs 1;have hx:=hs 2;have hy:=hs 3;have hz:=hs 4;have hA:=hs 5;clear hs;refine af hJ ?_;refine ah hJ ?_;apply aa _;intro i f8;have s:=aT f8;have dp:=aU f8;try simp only[aN] at dp
 intro j f9;have t:=aT f9;have dq:=aU f9;try simp only[aN] at dq
 intro k f10;have u:=aT f10;have ds:=aU f10;try simp only[aN] at ds
 try apply aa _
 refine af hJ ?_;refine af hJ ?_;refine ah hJ ?_;have h':=av h;clear h;obtain ⟨hB,dt,h⟩:=h';apply aa _;refine bl hJ _ (jv (m.mono aX) u0 (f.mono aX) dt) (aQ ?_);try apply aa _
 refine af hJ ?_;refine ah hJ ?_;apply aa _;have h':=aD h;clear h;rcases h' with ⟨ao,h⟩|⟨ao,h⟩
 .try simp only[Int.ofNat_lt] at ao
  refine aL hJ au ?_;refine af hJ ?_;refine ah hJ ?_;apply aa _;have h':=Option.some.inj h;clear h;subst h';refine aI ?_;apply bw _;exact ⟨_,Ext.refl _,Le.sub (List.nil_sublist _),_,rfl,aG.nil _ _⟩
 try simp only[Int.ofNat_lt] at ao
 refine aM hJ au ?_;refine aR hJ ?_;refine af hJ ?_;refine bf hJ ?_;refine af hJ ?_;refine ah hJ ?_;have h':=av h;clear h;obtain ⟨hD,du,h⟩:=h';apply aa _;refine bl hJ _ (qz u0 (f.mono aX) e du) (aQ ?_);try apply aa _
 have h':=aD h;clear h;rcases h' with ⟨ar,h⟩|⟨ar,h⟩
 .try simp only[Int.ofNat_lt] at ar
  refine aL hJ au ?_;refine af hJ ?_;refine ah hJ ?_;apply aa _;have h':=Option.some.inj h;clear h;subst h';refine aI ?_;apply bw _;exact ⟨_,Ext.refl _,Le.sub (List.nil_sublist _),_,rfl,aG.nil _ _⟩
 try simp only[Int.ofNat_lt] at ar
 refine aM hJ au ?_;refine af hJ ?_;refine ah hJ ?_;have h':=aD h;clear h;rcases h' with ⟨a0,h⟩|⟨a0,h⟩
 .try simp only[Int.ofNat_lt] at a0
  try apply aa _
  refine aL hJ au ?_;refine af hJ ?_;refine ah hJ ?_;apply aa _;have h':=Option.some.inj h;clear h;subst h';refine aI ?_;apply bw _;exact ⟨_,Ext.refl _,Le.sub (List.nil_sublist _),_,rfl,aG.nil _ _⟩
 try simp only[Int.ofNat_lt] at a0
 have h':=aD h;clear h;rcases h' with ⟨a2,h⟩|⟨a2,h⟩
 .try simp only[Int.ofNat_lt] at a2
  try apply aa _
  refine aL hJ au ?_;refine af hJ ?_;refine ah hJ ?_;apply aa _;have h':=Option.some.inj h;clear h;subst h';refine aI ?_;apply bw _;exact ⟨_,Ext.refl _,Le.sub (List.nil_sublist _),_,rfl,aG.nil _ _⟩
 try simp only[Int.ofNat_lt] at a2
 try apply aa _
 have h':=aD h;clear h;rcases h' with ⟨a3,h⟩|⟨a3,h⟩
 .try simp only[Int.ofNat_lt] at a3
  refine aL hJ au ?_;refine af hJ ?_;refine ah hJ ?_;apply aa _;have h':=Option.some.inj h;clear h;subst h';refine aI ?_;apply bw _;exact ⟨_,Ext.refl _,Le.sub (List.nil_sublist _),_,rfl,aG.nil _ _⟩
 try simp only[Int.ofNat_lt] at a3
 refine aM hJ au ?_;refine aR hJ ?_;refine af hJ ?_;refine ah hJ ?_;have h':=av h;clear h;obtain ⟨c,dv,h⟩:=h';apply aa _;refine zo hJ _ (Ax u0 f dv) [(k,.cells #[.int .i64 0,.int .i64 0,.slice none 0 0] 24),(j,.cells #[.int .i64 b.low,.int .i64 b.high] 53),(i,.cells #[.int .i64 u0.steps,.int .i64 u0.an,.slice d3 u0.aj.length c4] 24)] [] (by first|rfl|simp only[bE]|(simp only[bE];rfl)) fun v p hE D Q hR dC dE dT=>?_;obtain ⟨hF,rfl,W⟩:=hR;simp only[bE] at dE;subst dC;have Q:aW p ((k,.cells #[.int .i64 0,.int .i64 0,.slice none 0 0] 24)::(j,.cells #[.int .i64 b.low,.int .i64 b.high] 53)::(i,.cells #[.int .i64 u0.steps,.int .i64 u0.an,.slice d3 u0.aj.length c4] 24)::[]):=Q;replace f:=f.mono D;clear n;obtain ⟨_,_,n⟩:=f.op;replace u:=Q.hd;replace t:=Q.tl.hd;replace s:=Q.tl.tl.hd;replace m:=m.mono D;obtain ⟨d26,g,rfl,hG⟩:=W.len;refine aQ ?_;try apply aa _
 intro l f33;have E:=aT f33;have bj:=aU f33;have hH:=bT.cons bj dT;try simp only[aN] at bj
 try apply aa _
 refine af hJ ?_;refine aO hJ fun ea=>?_;refine ah hJ ?_;have h':=av h;clear h;obtain ⟨a,eb,h⟩:=h';obtain ⟨hI,hK,R⟩:=cI eb;obtain ⟨d,G,hL,rfl,rfl,hM,ec,q⟩:=W.tr R;obtain ⟨hN,rfl,a4⟩:=ec;obtain ⟨d39,X,rfl,hP,hQ,hS⟩:=id a4;have ed:=ea.nd;simp only[keys,List.map_cons,List.map_nil,List.map_append,List.cons_append,List.nil_append,List.nodup_cons,List.mem_cons,List.mem_append,List.not_mem_nil,or_false,not_or] at ed;have bk:=q 0 _ rfl;simp only[go_sem] at bk;have hT:=(Array.getElem?_eq_some_iff.1 bk).1;have bm:=q 1 _ rfl;simp only[go_sem] at bm;have hV:=(Array.getElem?_eq_some_iff.1 bm).1;have bo:=q 2 _ rfl;simp only[go_sem] at bo;have hX:=(Array.getElem?_eq_some_iff.1 bo).1;have br:=q 3 _ rfl;simp only[go_sem] at br;have hY:=(Array.getElem?_eq_some_iff.1 br).1;have bs:=q 4 _ rfl;simp only[go_sem] at bs;have hZ:=(Array.getElem?_eq_some_iff.1 bs).1;have b0:=q 5 _ rfl;simp only[go_sem] at b0;have h0:=(Array.getElem?_eq_some_iff.1 b0).1;have b1:=q 6 _ rfl;simp only[go_sem] at b1;have h1:=(Array.getElem?_eq_some_iff.1 b1).1;try apply aa _
 refine bl hJ _ Gx (aQ ?_);try apply aa _
 refine af hJ ?_;refine aO hJ fun h2=>?_;refine fC hJ mixed [] (.pure 0 (.pure 1 (.pure 2 (.pure 3 (.pure 4 (.pure 6 (.rd 7 (.pure 9 (.pure 10 (.pure 11 (.pure 13 (.rd 14 (.two 5 (.pure 8 (.one 12 (.pure 15 (.pure 16 (.pure 17 (.one 18 (.pure 19 (.pure 20 (.one 21 .done))))))))) 12 (.pure 15 (.one 5 (.pure 8 (.pure 16 (.pure 17 (.one 18 (.pure 19 (.pure 20 (.one 21 .done)))))))))))))))))))))) ⟨p,[(l,.cells #[.int .i64 c.steps,.int .i64 c.an,.slice (some ⟨d,0,none⟩) c.aj.length g] 24),(k,.cells #[.int .i64 0,.int .i64 0,.slice none 0 0] 24),(j,.cells #[.int .i64 b.low,.int .i64 b.high] 53),(i,.cells #[.int .i64 u0.steps,.int .i64 u0.an,.slice d3 u0.aj.length c4] 24)]⟩ au aS ?_;apply aa _;refine tA ?_ ?_
 .have b2:bA bJ p 56 (.slice (some ⟨d,0,none⟩) c.aj.length g) (c.aj.set (e).toNat (⟨a.name,(⟨(if a.from_.low<b.low then b.low else a.from_.low),a.from_.high⟩:bS),a.wide,a.aC,a.marks⟩:bp)) [(d,Obj.cells (bR G ((e).toNat*7+1) [.int .i64 (if a.from_.low<b.low then b.low else a.from_.low)]) 56)]:=by have w:=W.part (y:=(⟨a.name,(⟨(if a.from_.low<b.low then b.low else a.from_.low),a.from_.high⟩:bS),a.wide,a.aC,a.marks⟩:bp)) R 1 [.int .i64 (if a.from_.low<b.low then b.low else a.from_.low)] [.string ⟨⟨a.name⟩⟩,.int .i64 a.from_.low,.int .i64 a.from_.high,.int .i64 a.wide,.int .i64 a.aC.low,.int .i64 a.aC.high,.slice d39 a.marks.length X] [.string ⟨⟨a.name⟩⟩,.int .i64 (if a.from_.low<b.low then b.low else a.from_.low),.int .i64 a.from_.high,.int .i64 a.wide,.int .i64 a.aC.low,.int .i64 a.aC.high,.slice d39 a.marks.length X] q rfl rfl aB ⟨_,rfl,a4⟩;exact w
  have a5:=ry (y:=(⟨a.name,(⟨(if a.from_.low<b.low then b.low else a.from_.low),a.from_.high⟩:bS),a.wide,a.aC,a.marks⟩:bp)) R;obtain ⟨h3,eh,x⟩:=b2.eL a5;obtain ⟨h4,rfl,b3⟩:=eh;obtain ⟨d168,b4,rfl,h5,h6,h7⟩:=id b3;have et:=x 0 _ rfl;simp only[go_sem] at et;have ev:=x 1 _ rfl;simp only[go_sem] at ev;have eQ:=x 2 _ rfl;simp only[go_sem] at eQ;have eS:=x 3 _ rfl;simp only[go_sem] at eS;have e0:=x 4 _ rfl;simp only[go_sem] at e0;have e1:=x 5 _ rfl;simp only[go_sem] at e1;have Y:bA bJ p 56 (.slice (some ⟨d,0,none⟩) c.aj.length g) ((c.aj.set (e).toNat (⟨a.name,(⟨(if a.from_.low<b.low then b.low else a.from_.low),a.from_.high⟩:bS),a.wide,a.aC,a.marks⟩:bp)).set (e).toNat (⟨a.name,(⟨(if a.from_.low<b.low then b.low else a.from_.low),(if b.high<a.from_.high then b.high else a.from_.high)⟩:bS),a.wide,a.aC,a.marks⟩:bp)) [(d,Obj.cells (bR (bR G ((e).toNat*7+1) [.int .i64 (if a.from_.low<b.low then b.low else a.from_.low)]) ((e).toNat*7+2) [.int .i64 (if b.high<a.from_.high then b.high else a.from_.high)]) 56)]:=by have w:=b2.part (y:=(⟨a.name,(⟨(if a.from_.low<b.low then b.low else a.from_.low),(if b.high<a.from_.high then b.high else a.from_.high)⟩:bS),a.wide,a.aC,a.marks⟩:bp)) a5 2 [.int .i64 (if b.high<a.from_.high then b.high else a.from_.high)] [.string ⟨⟨a.name⟩⟩,.int .i64 (if a.from_.low<b.low then b.low else a.from_.low),.int .i64 a.from_.high,.int .i64 a.wide,.int .i64 a.aC.low,.int .i64 a.aC.high,.slice d168 a.marks.length b4] [.string ⟨⟨a.name⟩⟩,.int .i64 (if a.from_.low<b.low then b.low else a.from_.low),.int .i64 (if b.high<a.from_.high then b.high else a.from_.high),.int .i64 a.wide,.int .i64 a.aC.low,.int .i64 a.aC.high,.slice d168 a.marks.length b4] x rfl rfl aB ⟨_,rfl,b3⟩;exact w
  have ca:=ry (y:=(⟨a.name,(⟨(if a.from_.low<b.low then b.low else a.from_.low),(if b.high<a.from_.high then b.high else a.from_.high)⟩:bS),a.wide,a.aC,a.marks⟩:bp)) a5;obtain ⟨h8,e2,H⟩:=Y.eL ca;obtain ⟨h9,rfl,e3⟩:=e2;obtain ⟨d178,ib,rfl,ih,ik,il⟩:=id e3;have fa:=H 0 _ rfl;simp only[go_sem] at fa;have fb:=H 1 _ rfl;simp only[go_sem] at fb;have fc:=H 2 _ rfl;simp only[go_sem] at fc;have fg:=H 3 _ rfl;simp only[go_sem] at fg;have fh:=H 4 _ rfl;simp only[go_sem] at fh;have fi:=H 5 _ rfl;simp only[go_sem] at fi;apply aa _;refine af hJ ?_;refine af hJ ?_;obtain ⟨cb,a6⟩:∃o,o=(bR (bR G ((e).toNat*7+1) [.int .i64 (if a.from_.low<b.low then b.low else a.from_.low)]) ((e).toNat*7+2) [.int .i64 (if b.high<a.from_.high then b.high else a.from_.high)]):=⟨_,rfl⟩
  refine cG (F:=⟨p,(l,.cells #[.int .i64 c.steps,.int .i64 c.an,.slice (some ⟨d,0,none⟩) c.aj.length g] 24)::(k,.cells #[.int .i64 0,.int .i64 0,.slice none 0 0] 24)::(j,.cells #[.int .i64 b.low,.int .i64 b.high] 53)::(i,.cells #[.int .i64 u0.steps,.int .i64 u0.an,.slice d3 u0.aj.length c4] 24)::[(d,Obj.cells cb 56)]⟩) hJ (by rw[a6];exact Le.refl _) ?_;rw[<-a6] at Y;clear a6;obtain ⟨im,fj,I⟩:=Y.eL ca;obtain ⟨iv,rfl,z⟩:=fj;obtain ⟨d188,ix,rfl,j1,j2,Z⟩:=id z;have fl:=I 0 _ rfl;simp only[go_sem] at fl;have fp:=I 1 _ rfl;simp only[go_sem] at fp;have fr:=I 2 _ rfl;simp only[go_sem] at fr;have fs:=I 3 _ rfl;simp only[go_sem] at fs;have ft:=I 4 _ rfl;simp only[go_sem] at ft;have fu:=I 5 _ rfl;simp only[go_sem] at fu;refine aO hJ fun kh=>?_;refine cB hJ mixed 9 ⟨p,[(l,.cells #[.int .i64 c.steps,.int .i64 c.an,.slice (some ⟨d,0,none⟩) c.aj.length g] 24),(k,.cells #[.int .i64 0,.int .i64 0,.slice none 0 0] 24),(j,.cells #[.int .i64 b.low,.int .i64 b.high] 53),(i,.cells #[.int .i64 u0.steps,.int .i64 u0.an,.slice d3 u0.aj.length c4] 24),(d,Obj.cells cb 56)]⟩ au aS ?_;apply aa _;have h':=aD h;clear h;rcases h' with ⟨a7,h⟩|⟨a7,h⟩
  ·(try simp only[Int.ofNat_lt] at a7);refine aL hJ au ?_;refine af hJ ?_;refine aO hJ fun kj=>?_;refine ah hJ ?_;apply aa _;have h':=Option.some.inj h;clear h;subst h';refine aI ?_;apply bw _;exact ⟨_,D,Le.sub (List.nil_sublist _),_,rfl,aG.nil _ _⟩
  try simp only[Int.ofNat_lt] at a7
  refine aM hJ au ?_;refine aR hJ ?_;refine af hJ ?_;refine aO hJ fun cc=>?_;obtain ⟨cd,ab,K,S,fv⟩:=Y.iN ((l,.cells #[.int .i64 c.steps,.int .i64 c.an,.slice (some ⟨d,0,none⟩) c.aj.length g] 24)::(k,.cells #[.int .i64 0,.int .i64 0,.slice none 0 0] 24)::(j,.cells #[.int .i64 b.low,.int .i64 b.high] 53)::(i,.cells #[.int .i64 u0.steps,.int .i64 u0.an,.slice d3 u0.aj.length c4] 24)::[]) [(l,.cells #[.int .i64 c.steps,.int .i64 c.an,.slice (some ⟨d,0,none⟩) c.aj.length g] 24),(k,.cells #[.int .i64 0,.int .i64 0,.slice none 0 0] 24),(j,.cells #[.int .i64 b.low,.int .i64 b.high] 53),(i,.cells #[.int .i64 u0.steps,.int .i64 u0.an,.slice d3 u0.aj.length c4] 24)] [] (by first|rfl|simp only[bE]|(simp only[bE];rfl)) (by first|rfl|simp only[bE]|(simp only[bE];rfl)) cc (aW.cons E (aW.cons u (aW.cons t (aW.cons s (aW.nil _)))));clear cc;refine cG (F:=⟨cd,(l,.cells #[.int .i64 c.steps,.int .i64 c.an,.slice (some ⟨d,0,none⟩) c.aj.length g] 24)::(k,.cells #[.int .i64 0,.int .i64 0,.slice none 0 0] 24)::(j,.cells #[.int .i64 b.low,.int .i64 b.high] 53)::(i,.cells #[.int .i64 u0.steps,.int .i64 u0.an,.slice d3 u0.aj.length c4] 24)::[]⟩) hJ fv ?_;obtain ⟨kk,kl,cf⟩:=S.op;have K:aW cd ((l,.cells #[.int .i64 c.steps,.int .i64 c.an,.slice (some ⟨d,0,none⟩) c.aj.length g] 24)::(k,.cells #[.int .i64 0,.int .i64 0,.slice none 0 0] 24)::(j,.cells #[.int .i64 b.low,.int .i64 b.high] 53)::(i,.cells #[.int .i64 u0.steps,.int .i64 u0.an,.slice d3 u0.aj.length c4] 24)::[]):=K;replace f:=f.mono ab;clear n;obtain ⟨_,_,n⟩:=f.op;replace z:=z.mono ab;clear Z;obtain ⟨_,_,Z⟩:=z.op;replace E:=K.hd;replace u:=K.tl.hd;replace t:=K.tl.tl.hd;replace s:=K.tl.tl.tl.hd;replace m:=m.mono ab;refine ah hJ ?_;have h':=av h;clear h;obtain ⟨km,fw,h⟩:=h';apply aa _;refine cV hJ _ (vK m (⟨c.steps,c.an,((c.aj.set (e).toNat (⟨a.name,(⟨(if a.from_.low<b.low then b.low else a.from_.low),a.from_.high⟩:bS),a.wide,a.aC,a.marks⟩:bp)).set (e).toNat (⟨a.name,(⟨(if a.from_.low<b.low then b.low else a.from_.low),(if b.high<a.from_.high then b.high else a.from_.high)⟩:bS),a.wide,a.aC,a.marks⟩:bp))⟩:aH) S fw) fun v fx T L hR=>?_;obtain ⟨kn,rfl,ck⟩:=hR;have L:aW fx ((l,.cells #[.int .i64 c.steps,.int .i64 c.an,.slice (some ⟨d,0,none⟩) c.aj.length g] 24)::(k,.cells #[.int .i64 0,.int .i64 0,.slice none 0 0] 24)::(j,.cells #[.int .i64 b.low,.int .i64 b.high] 53)::(i,.cells #[.int .i64 u0.steps,.int .i64 u0.an,.slice d3 u0.aj.length c4] 24)::[]):=L;replace f:=f.mono T;clear n;obtain ⟨_,_,n⟩:=f.op;replace S:=S.mono T;clear cf;obtain ⟨_,_,cf⟩:=S.op;replace z:=z.mono T;clear Z;obtain ⟨_,_,Z⟩:=z.op;replace E:=L.hd;replace u:=L.tl.hd;replace t:=L.tl.tl.hd;replace s:=L.tl.tl.tl.hd;replace m:=m.mono T;obtain ⟨d215,kp,rfl,kq,ks,kt⟩:=id ck;refine aQ ?_;try apply aa _
  have h':=Option.some.inj h;clear h;subst h';refine aI ?_;apply bw _;exact ⟨_,((D).trans ab).trans T,Le.sub (List.nil_sublist _),_,rfl,ck⟩
 have cl:bA bJ p 56 (.slice (some ⟨d,0,none⟩) c.aj.length g) (c.aj.set (e).toNat (⟨a.name,(⟨(if a.from_.low<b.low then b.low else a.from_.low),a.from_.high⟩:bS),a.wide,a.aC,a.marks⟩:bp)) [(d,Obj.cells (bR G ((e).toNat*7+1) [.int .i64 (if a.from_.low<b.low then b.low else a.from_.low)]) 56)]:=by have w:=W.part (y:=(⟨a.name,(⟨(if a.from_.low<b.low then b.low else a.from_.low),a.from_.high⟩:bS),a.wide,a.aC,a.marks⟩:bp)) R 1 [.int .i64 (if a.from_.low<b.low then b.low else a.from_.low)] [.string ⟨⟨a.name⟩⟩,.int .i64 a.from_.low,.int .i64 a.from_.high,.int .i64 a.wide,.int .i64 a.aC.low,.int .i64 a.aC.high,.slice d39 a.marks.length X] [.string ⟨⟨a.name⟩⟩,.int .i64 (if a.from_.low<b.low then b.low else a.from_.low),.int .i64 a.from_.high,.int .i64 a.wide,.int .i64 a.aC.low,.int .i64 a.aC.high,.slice d39 a.marks.length X] q rfl rfl aB ⟨_,rfl,a4⟩;exact w
 have a8:=ry (y:=(⟨a.name,(⟨(if a.from_.low<b.low then b.low else a.from_.low),a.from_.high⟩:bS),a.wide,a.aC,a.marks⟩:bp)) R;obtain ⟨kv,fz,B⟩:=cl.eL a8;obtain ⟨kx,rfl,cv⟩:=fz;obtain ⟨d225,cy,rfl,ky,k0,k2⟩:=id cv;have gg:=B 0 _ rfl;simp only[go_sem] at gg;have gj:=B 1 _ rfl;simp only[go_sem] at gj;have gl:=B 2 _ rfl;simp only[go_sem] at gl;have gn:=B 3 _ rfl;simp only[go_sem] at gn;have gp:=B 4 _ rfl;simp only[go_sem] at gp;have gy:=B 5 _ rfl;simp only[go_sem] at gy;have ad:bA bJ p 56 (.slice (some ⟨d,0,none⟩) c.aj.length g) ((c.aj.set (e).toNat (⟨a.name,(⟨(if a.from_.low<b.low then b.low else a.from_.low),a.from_.high⟩:bS),a.wide,a.aC,a.marks⟩:bp)).set (e).toNat (⟨a.name,(⟨(if a.from_.low<b.low then b.low else a.from_.low),(if b.high<a.from_.high then b.high else a.from_.high)⟩:bS),a.wide,a.aC,a.marks⟩:bp)) [(d,Obj.cells (bR (bR G ((e).toNat*7+1) [.int .i64 (if a.from_.low<b.low then b.low else a.from_.low)]) ((e).toNat*7+2) [.int .i64 (if b.high<a.from_.high then b.high else a.from_.high)]) 56)]:=by have w:=cl.part (y:=(⟨a.name,(⟨(if a.from_.low<b.low then b.low else a.from_.low),(if b.high<a.from_.high then b.high else a.from_.high)⟩:bS),a.wide,a.aC,a.marks⟩:bp)) a8 2 [.int .i64 (if b.high<a.from_.high then b.high else a.from_.high)] [.string ⟨⟨a.name⟩⟩,.int .i64 (if a.from_.low<b.low then b.low else a.from_.low),.int .i64 a.from_.high,.int .i64 a.wide,.int .i64 a.aC.low,.int .i64 a.aC.high,.slice d225 a.marks.length cy] [.string ⟨⟨a.name⟩⟩,.int .i64 (if a.from_.low<b.low then b.low else a.from_.low),.int .i64 (if b.high<a.from_.high then b.high else a.from_.high),.int .i64 a.wide,.int .i64 a.aC.low,.int .i64 a.aC.high,.slice d225 a.marks.length cy] B rfl rfl aB ⟨_,rfl,cv⟩;exact w
 have c0:=ry (y:=(⟨a.name,(⟨(if a.from_.low<b.low then b.low else a.from_.low),(if b.high<a.from_.high then b.high else a.from_.high)⟩:bS),a.wide,a.aC,a.marks⟩:bp)) a8;obtain ⟨lb,g0,M⟩:=ad.eL c0;obtain ⟨lh,rfl,g1⟩:=g0;obtain ⟨lj,lk,rfl,ll,ln,lr⟩:=id g1;have g2:=M 0 _ rfl;simp only[go_sem] at g2;have g3:=M 1 _ rfl;simp only[go_sem] at g3;have g4:=M 2 _ rfl;simp only[go_sem] at g4;have g7:=M 3 _ rfl;simp only[go_sem] at g7;have ha:=M 4 _ rfl;simp only[go_sem] at ha;have hc:=M 5 _ rfl;simp only[go_sem] at hc;apply aa _;refine af hJ ?_;refine af hJ ?_;obtain ⟨da,a9⟩:∃o,o=(bR (bR G ((e).toNat*7+1) [.int .i64 (if a.from_.low<b.low then b.low else a.from_.low)]) ((e).toNat*7+2) [.int .i64 (if b.high<a.from_.high then b.high else a.from_.high)]):=⟨_,rfl⟩
 refine cG (F:=⟨p,(l,.cells #[.int .i64 c.steps,.int .i64 c.an,.slice (some ⟨d,0,none⟩) c.aj.length g] 24)::(k,.cells #[.int .i64 0,.int .i64 0,.slice none 0 0] 24)::(j,.cells #[.int .i64 b.low,.int .i64 b.high] 53)::(i,.cells #[.int .i64 u0.steps,.int .i64 u0.an,.slice d3 u0.aj.length c4] 24)::[(d,Obj.cells da 56)]⟩) hJ (by rw[a9];exact Le.refl _) ?_;rw[<-a9] at ad;clear a9;obtain ⟨lv,hf,N⟩:=ad.eL c0;obtain ⟨lx,rfl,C⟩:=hf;obtain ⟨ly,lL,rfl,l1,l2,ae⟩:=id C;have hg:=N 0 _ rfl;simp only[go_sem] at hg;have hh:=N 1 _ rfl;simp only[go_sem] at hh;have hi:=N 2 _ rfl;simp only[go_sem] at hi;have hj:=N 3 _ rfl;simp only[go_sem] at hj;have hk:=N 4 _ rfl;simp only[go_sem] at hk;have hl:=N 5 _ rfl;simp only[go_sem] at hl;refine aO hJ fun l3=>?_;refine cB hJ mixed 9 ⟨p,[(l,.cells #[.int .i64 c.steps,.int .i64 c.an,.slice (some ⟨d,0,none⟩) c.aj.length g] 24),(k,.cells #[.int .i64 0,.int .i64 0,.slice none 0 0] 24),(j,.cells #[.int .i64 b.low,.int .i64 b.high] 53),(i,.cells #[.int .i64 u0.steps,.int .i64 u0.an,.slice d3 u0.aj.length c4] 24),(d,Obj.cells da 56)]⟩ au aS ?_;apply aa _;have h':=aD h;clear h;rcases h' with ⟨ba,h⟩|⟨ba,h⟩
 .try simp only[Int.ofNat_lt] at ba
  refine aL hJ au ?_;refine af hJ ?_;refine aO hJ fun l4=>?_;refine ah hJ ?_;apply aa _;have h':=Option.some.inj h;clear h;subst h';refine aI ?_;apply bw _;exact ⟨_,D,Le.sub (List.nil_sublist _),_,rfl,aG.nil _ _⟩
 try simp only[Int.ofNat_lt] at ba
 refine aM hJ au ?_;refine aR hJ ?_;refine af hJ ?_;refine aO hJ fun db=>?_;obtain ⟨dd,al,O,U,hn⟩:=ad.iN ((l,.cells #[.int .i64 c.steps,.int .i64 c.an,.slice (some ⟨d,0,none⟩) c.aj.length g] 24)::(k,.cells #[.int .i64 0,.int .i64 0,.slice none 0 0] 24)::(j,.cells #[.int .i64 b.low,.int .i64 b.high] 53)::(i,.cells #[.int .i64 u0.steps,.int .i64 u0.an,.slice d3 u0.aj.length c4] 24)::[]) [(l,.cells #[.int .i64 c.steps,.int .i64 c.an,.slice (some ⟨d,0,none⟩) c.aj.length g] 24),(k,.cells #[.int .i64 0,.int .i64 0,.slice none 0 0] 24),(j,.cells #[.int .i64 b.low,.int .i64 b.high] 53),(i,.cells #[.int .i64 u0.steps,.int .i64 u0.an,.slice d3 u0.aj.length c4] 24)] [] (by first|rfl|simp only[bE]|(simp only[bE];rfl)) (by first|rfl|simp only[bE]|(simp only[bE];rfl)) db (aW.cons E (aW.cons u (aW.cons t (aW.cons s (aW.nil _)))));clear db;refine cG (F:=⟨dd,(l,.cells #[.int .i64 c.steps,.int .i64 c.an,.slice (some ⟨d,0,none⟩) c.aj.length g] 24)::(k,.cells #[.int .i64 0,.int .i64 0,.slice none 0 0] 24)::(j,.cells #[.int .i64 b.low,.int .i64 b.high] 53)::(i,.cells #[.int .i64 u0.steps,.int .i64 u0.an,.slice d3 u0.aj.length c4] 24)::[]⟩) hJ hn ?_;obtain ⟨ma,mf,df⟩:=U.op;have O:aW dd ((l,.cells #[.int .i64 c.steps,.int .i64 c.an,.slice (some ⟨d,0,none⟩) c.aj.length g] 24)::(k,.cells #[.int .i64 0,.int .i64 0,.slice none 0 0] 24)::(j,.cells #[.int .i64 b.low,.int .i64 b.high] 53)::(i,.cells #[.int .i64 u0.steps,.int .i64 u0.an,.slice d3 u0.aj.length c4] 24)::[]):=O;replace f:=f.mono al;clear n;obtain ⟨_,_,n⟩:=f.op;replace C:=C.mono al;clear ae;obtain ⟨_,_,ae⟩:=C.op;replace E:=O.hd;replace u:=O.tl.hd;replace t:=O.tl.tl.hd;replace s:=O.tl.tl.tl.hd;replace m:=m.mono al;refine ah hJ ?_;have h':=av h;clear h;obtain ⟨mi,ho,h⟩:=h';apply aa _;refine cV hJ _ (vK m (⟨c.steps,c.an,((c.aj.set (e).toNat (⟨a.name,(⟨(if a.from_.low<b.low then b.low else a.from_.low),a.from_.high⟩:bS),a.wide,a.aC,a.marks⟩:bp)).set (e).toNat (⟨a.name,(⟨(if a.from_.low<b.low then b.low else a.from_.low),(if b.high<a.from_.high then b.high else a.from_.high)⟩:bS),a.wide,a.aC,a.marks⟩:bp))⟩:aH) U ho) fun v hp V P hR=>?_;obtain ⟨ml,rfl,dk⟩:=hR;have P:aW hp ((l,.cells #[.int .i64 c.steps,.int .i64 c.an,.slice (some ⟨d,0,none⟩) c.aj.length g] 24)::(k,.cells #[.int .i64 0,.int .i64 0,.slice none 0 0] 24)::(j,.cells #[.int .i64 b.low,.int .i64 b.high] 53)::(i,.cells #[.int .i64 u0.steps,.int .i64 u0.an,.slice d3 u0.aj.length c4] 24)::[]):=P;replace f:=f.mono V;clear n;obtain ⟨_,_,n⟩:=f.op;replace U:=U.mono V;clear df;obtain ⟨_,_,df⟩:=U.op;replace C:=C.mono V;clear ae;obtain ⟨_,_,ae⟩:=C.op;replace E:=P.hd;replace u:=P.tl.hd;replace t:=P.tl.tl.hd;replace s:=P.tl.tl.tl.hd;replace m:=m.mono V;obtain ⟨mn,mr,rfl,mx,my,m1⟩:=id dk;refine aQ ?_;try apply aa _
 have h':=Option.some.inj h;clear h;subst h';refine aI ?_;apply bw _;exact ⟨_,((D).trans al).trans V,Le.sub (List.nil_sublist _),_,rfl,dk⟩
def vU (u0:aH)(b:Int)(c:bS):Option (aH×Int):=
 ak (vT u0 b c 0 (IntKind.i64.wrap (u0.steps - 1))) fun a=>some (a.1,a.2)
theorem GA {ro:Addr->Option Value}(d:dB ro)(u0:aH){s1:Value}(b:aG bJ ro s1 u0.aj)(e:Int)(a:bS){r:(aH×Int)}(h:vU u0 e a=some r):eK Tryz.prog 33 #[.agg #[.int .i64 u0.steps,.int .i64 u0.an,s1],.int .i64 e,.agg #[.int .i64 a.low,.int .i64 a.high]] ro (fun v aK=>∃g,v= .tuple #[.agg #[.int .i64 r.1.steps,.int .i64 r.1.an,g],.int .i64 r.2]/\aG bJ aK g r.1.aj):=by
 obtain ⟨d3,c4,rfl,x,y,i⟩:=id b;unfold vU at h;refine aF.go Tryz.func33 rfl Tryz.ntmps33 Tryz.results33 aB fun main J hJ A z hd hs=>?_;have B:=hs 0;have k1:=hs 1;have C:=hs 2;clear hs;refine af hJ ?_;refine ah hJ ?_;apply aa _;intro k f8;have l:=aT f8;have m:=aU f8;try simp only[aN] at m
 intro n f9;have o:=aT f9;have p:=aU f9;try simp only[aN] at p
 intro q f10;have s:=aT f10;have t:=aU f10;try simp only[aN] at t
 try apply aa _
 refine af hJ ?_;refine ah hJ ?_;have h':=av h;clear h;obtain ⟨D,u,h⟩:=h';apply aa _;refine cV hJ _ (Gz d u0 b e a 0 (IntKind.i64.wrap (u0.steps - 1)) u) fun v w f c hR=>?_;obtain ⟨E,rfl,j⟩:=hR;have c:aW w ((q,.cells #[.int .i64 0,.int .i64 0,.slice none 0 0] 24)::(n,.cells #[.int .i64 a.low,.int .i64 a.high] 53)::(k,.cells #[.int .i64 u0.steps,.int .i64 u0.an,.slice d3 u0.aj.length c4] 24)::[]):=c;replace b:=b.mono f;clear i;obtain ⟨_,_,i⟩:=b.op;replace s:=c.hd;replace o:=c.tl.hd;replace l:=c.tl.tl.hd;replace d:=d.mono f;obtain ⟨d18,F,rfl,G,H,I⟩:=id j;refine aQ ?_;try apply aa _
 have h':=Option.some.inj h;clear h;subst h';refine aI ?_;apply bw _;exact ⟨_,f,Le.sub (List.nil_sublist _),_,rfl,j⟩
def m7 (c:Int)(d:(aV->aV->Option Int))(st:(Int×(List aV))):Option (Fl (Int×(List aV)) (Unit×(List aV))):=
 cond (decide (c<st.1)) (ak (bI st.2 st.1) fun b=>ak (bI st.2 (IntKind.i64.wrap (st.1 - 1))) fun a=>ak (d b a) fun e=>cond (decide (e<0)) (ak (bI (st.2.set (st.1).toNat a) (IntKind.i64.wrap (st.1 - 1))) fun f=>some (.nx ((IntKind.i64.wrap (st.1 - 1)),((st.2.set (st.1).toNat a).set (IntKind.i64.wrap (st.1 - 1)).toNat b)))) (some (.bk (st.1,st.2)))) (some (.bk (st.1,st.2)))
def k6 (a:Int)(b:Int)(c:(aV->aV->Option Int))(st:(Int×(List aV))):Option (Fl (Int×(List aV)) (Unit×(List aV))):=
 cond (decide (st.1<b)) (ak (aZ (m7 a c) fu (st.1,st.2)) fun o=>aJ o (fun d=>some (.nx ((IntKind.i64.wrap (st.1+1)),d.2))) (fun _ _=>none) (fun r=>some (.rt r))) (some (.bk (st.1,st.2)))
def o8 (u0:(List aV))(a:Int)(b:Int)(c:(aV->aV->Option Int)):Option (Unit×(List aV)):=
 cond (List.isEmpty u0) none (ak (aZ (k6 a b c) fu ((IntKind.i64.wrap (a+1)),u0)) fun o=>aJ o (fun d=>some ((),d.2)) (fun _ _=>none) (fun r=>some r))
theorem GB {ro:Addr->Option Value}(u0:(List aV)){b8:Value}{Q:List (Nat×Obj)}(H:bA eM ro 31 b8 u0 Q)(l:Int)(s:Int)(x:(aV->aV->Option Int)){hU:FuncId}{ja jb:Array Value}(a4:aP Tryz.prog hU=true/\∀(aK:Addr->Option Value),Ext ro aK->∀(y0:aV) (R:aV) (z:Int),x y0 R=some z->aF Tryz.prog hU (ja++#[y0.v,R.v]++jb) ⟨aK,[]⟩ (fun v _=>v= .int .i64 z)){r:(Unit×(List aV))}(h:o8 u0 l s x=some r):aF Tryz.prog 162 #[b8,.int .i64 l,.int .i64 s,.func (.func hU) ja jb] ⟨ro,Q⟩ (fun v G=>∃S,(v= .tuple #[]/\bA eM ro 31 b8 r.2 S)/\Le ⟨ro,S⟩ G):=by
 obtain ⟨d1,c2,rfl,cv⟩:=H.len;unfold o8 at h;have h':=aD h;clear h;rcases h' with ⟨T,h⟩|⟨T,h⟩
 .cases h
 obtain ⟨b,a5,rfl,rfl,cy⟩:=H.fX T;refine aF.go Tryz.func162 rfl Tryz.ntmps162 Tryz.results162 aB fun main J hJ A a6 hd hs=>?_;have a7:=hs 0;have k1:=hs 1;have a8:=hs 2;have a9:=hs 3;clear hs;refine af hJ ?_;refine aO hJ fun c0=>?_;refine ah hJ ?_;apply aa _;refine bf hJ ?_;have h':=av h;clear h;obtain ⟨ba,t,bb⟩:=h';have h:=True.intro;refine bO hJ [8,9,12,13,14,15,16,17,18,19,20,21,22,23,24,25,26,27,28,29,30,31,32,33,34,35,36,37,38,39,40,41,42,43,44,45,46,47,48,49,50,51,52] (fun m I F'=>∃(B:Array Value) (j:Int) (C:(List aV)),aZ (k6 l s x) m (j,C)=some ba/\F'=⟨ro,[(b,Obj.cells B 31)]⟩/\bA eM ro 31 (.slice (some ⟨b,0,none⟩) u0.length c2) C [(b,Obj.cells B 31)]/\slot I 8= .int .i64 j) fu ?_ ?_
 .refine ⟨a5,(IntKind.i64.wrap (l+1)),u0,t,rfl,H,?_⟩;simp only[*,go_sem,-h]
 rintro D n F' p ⟨B,j,C,t,rfl,U,bc⟩;have h:=True.intro;have bd:sz n=53:=by rw[p.size];simp only[*,go_sem,-h]
 have bj:n.defers=[]:=by rw[p.defers];simp only[*,go_sem,-h]
 have bk:slot n 0= .slice (some ⟨b,0,none⟩) u0.length c2:=by rw[p.aA 0 ay];simp only[*,go_sem,-h]
 have bm:slot n 1= .int .i64 l:=by rw[p.aA 1 ay];simp only[*,go_sem,-h]
 have bo:slot n 2= .int .i64 s:=by rw[p.aA 2 ay];simp only[*,go_sem,-h]
 have br:slot n 3= .func (.func hU) ja jb:=by rw[p.aA 3 ay];simp only[*,go_sem,-h]
 clear p a6 hd a7 k1 a8 a9;obtain _|D:=D
 .exact absurd t (by simp only[aZ,reduceCtorEq,not_false_eq_true])
 have h':=av t;clear t h;obtain ⟨da,h,E⟩:=h';unfold k6 at h;try dsimp only at h
 refine af hJ ?_;refine af hJ ?_;refine aO hJ fun db=>?_;refine ah hJ ?_;apply aa _;have h':=aD h;clear h;rcases h' with ⟨K,h⟩|⟨K,h⟩
 .try simp only[Int.ofNat_lt] at K
  refine aL hJ au ?_;refine aR hJ ?_;refine af hJ ?_;refine bf hJ ?_;refine af hJ ?_;refine aO hJ fun dd=>?_;refine ah hJ ?_;apply aa _;refine bf hJ ?_;have h':=av h;clear h;obtain ⟨bs,u,V⟩:=h';have h:=True.intro;refine bO hJ [9,18,19,20,21,22,23,24,25,26,27,28,29,30,31,32,33,34,35,36,37,38,39,40,41,42,43,44,45,46,47,48,49,50,51,52] (fun m I F'=>∃(g:Array Value) (a:Int) (k:(List aV)),aZ (m7 l x) m (a,k)=some bs/\F'=⟨ro,[(b,Obj.cells g 31)]⟩/\bA eM ro 31 (.slice (some ⟨b,0,none⟩) u0.length c2) k [(b,Obj.cells g 31)]/\slot I 9= .int .i64 a) fu ?_ ?_
  .refine ⟨B,j,C,u,rfl,U,?_⟩;simp only[*,go_sem,-h]
  rintro m2 e F' d ⟨g,a,k,u,rfl,q,df⟩;have h:=True.intro;have dk:sz e=53:=by rw[d.size];simp only[*,go_sem,-h]
  have dp:e.defers=[]:=by rw[d.defers];simp only[*,go_sem,-h]
  have dq:slot e 0= .slice (some ⟨b,0,none⟩) u0.length c2:=by rw[d.aA 0 ay];simp only[*,go_sem,-h]
  have ds:slot e 1= .int .i64 l:=by rw[d.aA 1 ay];simp only[*,go_sem,-h]
  have dt:slot e 2= .int .i64 s:=by rw[d.aA 2 ay];simp only[*,go_sem,-h]
  have du:slot e 3= .func (.func hU) ja jb:=by rw[d.aA 3 ay];simp only[*,go_sem,-h]
  have dv:slot e 8= .int .i64 j:=by rw[d.aA 8 ay];simp only[*,go_sem,-h]
  have dC:slot e 12= .int .i64 j:=by rw[d.aA 12 ay];simp only[*,go_sem,-h]
  have dE:slot e 13= .int .i64 s:=by rw[d.aA 13 ay];simp only[*,go_sem,-h]
  have dT:slot e 14= .bool true:=by rw[d.aA 14 ay];simp only[*,go_sem,-h]
  have ea:slot e 17= .int .i64 j:=by rw[d.aA 17 ay];simp only[*,go_sem,-h]
  have eb:cq [8,9,12,13,14,15,16,17,18,19,20,21,22,23,24,25,26,27,28,29,30,31,32,33,34,35,36,37,38,39,40,41,42,43,44,45,46,47,48,49,50,51,52] e n:=(d.eg ay).trans au;clear d bd bj bk bm bo br bc;obtain _|m2:=m2
  .exact absurd u (by simp only[aZ,reduceCtorEq,not_false_eq_true])
  have h':=av u;clear u h;obtain ⟨ec,h,w⟩:=h';unfold m7 at h;try dsimp only at h
  refine af hJ ?_;refine af hJ ?_;refine aO hJ fun ed=>?_;refine cB hJ mixed 17 ⟨ro,[(b,Obj.cells g 31)]⟩ au aS ?_;have h':=aD h;clear h;rcases h' with ⟨L,h⟩|⟨L,h⟩
  ·(try simp only[Int.ofNat_lt] at L);have h':=av h;clear h;obtain ⟨f,b0,h⟩:=h';obtain ⟨eh,et,W⟩:=cI b0;have ev:a<((u0.length:Nat):Int):=by have:=q.count;omega
   obtain ⟨b1,b2,X⟩:=q.eL W;obtain rfl:b1=f.cells:=b2;have Y:=X 0 _ rfl;simp only[go_sem] at Y;have eQ:=(Array.getElem?_eq_some_iff.1 Y).1;have Z:=X 1 _ rfl;simp only[go_sem] at Z;have eS:=(Array.getElem?_eq_some_iff.1 Z).1;have h':=av h;clear h;obtain ⟨c,b3,h⟩:=h';obtain ⟨e0,e1,b4⟩:=cI b3;have e2:IntKind.i64.wrap (a - 1)<((u0.length:Nat):Int):=by have:=q.count;omega
   obtain ⟨ca,cb,ab⟩:=q.eL b4;obtain rfl:ca=c.cells:=cb;have ad:=ab 0 _ rfl;simp only[go_sem] at ad;have e3:=(Array.getElem?_eq_some_iff.1 ad).1;have ae:=ab 1 _ rfl;simp only[go_sem] at ae;have fa:=(Array.getElem?_eq_some_iff.1 ae).1;have h':=av h;clear h;obtain ⟨fb,cc,h⟩:=h';(try apply aa _);refine ⟨_,dI hJ fun F hF=>a4.2 _ (fW hF) f c _ cc,ef ?_⟩;(try apply aa _);have h':=aD h;clear h;rcases h' with ⟨M,h⟩|⟨M,h⟩
   ·(try simp only[Int.ofNat_lt] at M);refine aL hJ au ?_;refine aR hJ ?_;refine af hJ ?_;refine bf hJ ?_;refine aO hJ fun fc=>?_;refine fC hJ mixed [15,16,17] (.pure 0 (.pure 1 (.pure 2 (.pure 3 (.pure 4 (.pure 5 (.pure 6 (.pure 7 (.pure 8 (.rd 9 (.pure 10 (.pure 11 (.pure 12 (.rd 13 (.pure 14 (.last 15 (.pure 16 (.last 17 .done)))))))))))))))))) ⟨ro,[(b,Obj.cells g 31)]⟩ au aS ?_;have N:bA eM ro 31 (.slice (some ⟨b,0,none⟩) u0.length c2) (k.set (a).toNat c) [(b,Obj.cells (bR g ((a).toNat*2) [.int .i64 c.step,.int .i64 c.cu]) 31)]:=by have O:=q.lO (i:=(a).toNat) (y:=c) (by have:=W;have:=(List.getElem?_eq_some_iff.1 this).1;simpa only[List.length_set] using this) (cs:=[.int .i64 c.step,.int .i64 c.cu]) rfl;exact O
    have h':=av h;clear h;obtain ⟨cd,cf,h⟩:=h';obtain ⟨fg,fh,al⟩:=cI cf;have fi:IntKind.i64.wrap (a - 1)<((u0.length:Nat):Int):=by have:=N.count;omega
    obtain ⟨ck,cl,ao⟩:=N.eL al;obtain rfl:ck=cd.cells:=cl;have ar:=ao 0 _ rfl;simp only[go_sem] at ar;have fj:=(Array.getElem?_eq_some_iff.1 ar).1;have a0:=ao 1 _ rfl;simp only[go_sem] at a0;have fl:=(Array.getElem?_eq_some_iff.1 a0).1;have a2:bA eM ro 31 (.slice (some ⟨b,0,none⟩) u0.length c2) ((k.set (a).toNat c).set (IntKind.i64.wrap (a - 1)).toNat f) [(b,Obj.cells (bR (bR g ((a).toNat*2) [.int .i64 c.step,.int .i64 c.cu]) ((IntKind.i64.wrap (a - 1)).toNat*2) [.int .i64 f.step,.int .i64 f.cu]) 31)]:=by have O:=N.lO (i:=(IntKind.i64.wrap (a - 1)).toNat) (y:=f) (by have:=al;have:=(List.getElem?_eq_some_iff.1 this).1;simpa only[List.length_set] using this) (cs:=[.int .i64 f.step,.int .i64 f.cu]) rfl;exact O
    (try apply aa _);obtain ⟨a3,P⟩:∃o,o=(bR (bR g ((a).toNat*2) [.int .i64 c.step,.int .i64 c.cu]) ((IntKind.i64.wrap (a - 1)).toNat*2) [.int .i64 f.step,.int .i64 f.cu]):=⟨_,rfl⟩
    refine cG (F:=⟨ro,[(b,Obj.cells a3 31)]⟩) hJ (by rw[P];exact Le.refl _) ?_;rw[<-P] at a2;clear P;refine aO hJ fun fp=>?_;refine ah hJ ?_;apply aa _;have h':=Option.some.inj h;clear h;subst h';have h:=True.intro;(try apply aa _);refine ⟨m2,Nat.lt_succ_self _,_,Le.sub (List.Sublist.refl _),a3,(IntKind.i64.wrap (a - 1)),((k.set (a).toNat c).set (IntKind.i64.wrap (a - 1)).toNat f),w,rfl,a2,?_⟩;simp only[*,go_sem,-h]
   (try simp only[Int.ofNat_lt] at M);refine aM hJ au ?_;refine bM ?_;simp only[go_sem];have h':=Option.some.inj h;clear h;subst h';have h':=Option.some.inj w;clear w;subst h';have h:=V;dsimp only[aJ] at h;refine aO hJ fun fr=>?_;refine ah hJ ?_;apply aa _;have h':=Option.some.inj h;clear h;subst h';have h:=True.intro;(try apply aa _);refine ⟨D,Nat.lt_succ_self _,_,Le.sub (List.Sublist.refl _),g,(IntKind.i64.wrap (j+1)),k,E,rfl,q,?_⟩;simp only[*,go_sem,-h]
  try simp only[Int.ofNat_lt] at L
  try apply aa _
  refine aM hJ au ?_;refine bM ?_;simp only[go_sem];have h':=Option.some.inj h;clear h;subst h';have h':=Option.some.inj w;clear w;subst h';have h:=V;dsimp only[aJ] at h;refine aO hJ fun fs=>?_;refine ah hJ ?_;apply aa _;have h':=Option.some.inj h;clear h;subst h';have h:=True.intro;try apply aa _
  refine ⟨D,Nat.lt_succ_self _,_,Le.sub (List.Sublist.refl _),g,(IntKind.i64.wrap (j+1)),k,E,rfl,q,?_⟩;simp only[*,go_sem,-h]
 try simp only[Int.ofNat_lt] at K
 refine aM hJ au ?_;refine bM ?_;simp only[go_sem];have h':=Option.some.inj h;clear h;subst h';have h':=Option.some.inj E;clear E;subst h';have h:=bb;dsimp only[aJ] at h;have h':=Option.some.inj h;clear h;subst h';apply bw _;exact ⟨_,U,Le.sub (List.Sublist.refl _)⟩
def rz (u0:(List aV))(a:(aV->aV->Option Int))(st:(Int×Int×Int×Bool×Bool)):Option (Fl (Int×Int×Int×Bool×Bool) (Unit×(List aV))):=
 cond (decide ((IntKind.i64.wrap (st.2.1 - st.1))<=12)) (ak (o8 u0 st.1 st.2.1 a) fun b=>some (.rt ((),b.2))) (none)
def o9 (u0:(List aV))(a:Int)(b:Int)(c:Int)(d:(aV->aV->Option Int)):Option (Unit×(List aV)):=
 cond (List.isEmpty u0) none (ak (aZ (rz u0 d) fu (a,b,c,true,true)) fun o=>aJ o (fun e=>some ((),u0)) (fun _ _=>none) (fun r=>some r))
theorem GC {ro:Addr->Option Value}(u0:(List aV)){b8:Value}{u:List (Nat×Obj)}(j:bA eM ro 31 b8 u0 u)(k:Int)(l:Int)(n:Int)(d:(aV->aV->Option Int)){iC:FuncId}{jB jC:Array Value}(w:aP Tryz.prog iC=true/\∀(aK:Addr->Option Value),Ext ro aK->∀(y0:aV) (x:aV) (z:Int),d y0 x=some z->aF Tryz.prog iC (jB++#[y0.v,x.v]++jC) ⟨aK,[]⟩ (fun v _=>v= .int .i64 z)){r:(Unit×(List aV))}(h:o9 u0 k l n d=some r):aF Tryz.prog 135 #[b8,.int .i64 k,.int .i64 l,.int .i64 n,.func (.func iC) jB jC] ⟨ro,u⟩ (fun v G=>∃e,(v= .tuple #[]/\bA eM ro 31 b8 r.2 e)/\Le ⟨ro,e⟩ G):=by
 obtain ⟨d1,c2,rfl,T⟩:=j.len;unfold o9 at h;have h':=aD h;clear h;rcases h' with ⟨y,h⟩|⟨y,h⟩
 .cases h
 obtain ⟨o,E,rfl,rfl,U⟩:=j.fX y;refine aF.go Tryz.func135 rfl Tryz.ntmps135 Tryz.results135 aB fun main J hJ A F hd hs=>?_;have H:=hs 0;have k1:=hs 1;have I:=hs 2;have K:=hs 3;have L:=hs 4;clear hs;refine af hJ ?_;refine aO hJ fun V=>?_;refine ah hJ ?_;apply aa _;refine af hJ ?_;refine aO hJ fun W=>?_;refine ah hJ ?_;apply aa _;refine bf hJ ?_;have h':=av h;clear h;obtain ⟨M,a,N⟩:=h';have h:=True.intro;refine bO hJ [1,2,3,10,11,12,13,14,15,16,17,18,19,20,21,22,23,24,25,26,27,28,29,30,31,32,33,34,35,36,37,38,39,40,41,42,43,44,45,46,47,48,49,50,51,52,53,54,55,56,57,58,59,60,61,62,63,64,65,66,67,68,69,70,71,72,73,74,75,76,77,78,79,80,81,82,83,84,85,86,87,88,89,90,91,92,93,94,95,96,97,98,99,100,101,102,103,104,105,106,107,108,109,110,111,112,113,114,115,116,117,118,119,120,121,122,123,124,125,126,127,128,129,130,131,132,133,134,135,136,137,138,139,140,141,142,143,144,145,146,147] (fun m b F'=>∃(f:Int) (g:Int) (p:Int) (q:Bool) (s:Bool),aZ (rz u0 d) m (f,g,p,q,s)=some M/\F'=⟨ro,[(o,Obj.cells E 31)]⟩/\slot b 1= .int .i64 f/\slot b 2= .int .i64 g/\slot b 3= .int .i64 p/\slot b 10= .bool q/\slot b 11= .bool s) fu ?_ ?_
 .refine ⟨k,l,n,true,true,a,rfl,?_⟩;simp only[*,go_sem,-h]
 rintro B i F' c ⟨f,g,p,q,s,a,rfl,X,Y,Z,ab,ad⟩;have h:=True.intro;have ae:sz i=148:=by rw[c.size];simp only[*,go_sem,-h]
 have al:i.defers=[]:=by rw[c.defers];simp only[*,go_sem,-h]
 have ao:slot i 0= .slice (some ⟨o,0,none⟩) u0.length c2:=by rw[c.aA 0 ay];simp only[*,go_sem,-h]
 have ar:slot i 4= .func (.func iC) jB jC:=by rw[c.aA 4 ay];simp only[*,go_sem,-h]
 clear c F hd H k1 I K L;obtain _|B:=B
 .exact absurd a (by simp only[aZ,reduceCtorEq,not_false_eq_true])
 have h':=av a;clear a h;obtain ⟨a0,h,C⟩:=h';unfold rz at h;try dsimp only at h
 refine bf hJ ?_;refine af hJ ?_;refine aO hJ fun a2=>?_;refine ah hJ ?_;apply aa _;refine af hJ ?_;refine af hJ ?_;refine aO hJ fun a3=>?_;refine ah hJ ?_;apply aa _;have h':=aD h;clear h;rcases h' with ⟨t,h⟩|⟨t,h⟩
 .try simp only[Int.ofNat_lt] at t
  refine aL hJ au ?_;refine af hJ ?_;refine aO hJ fun a4=>?_;refine ah hJ ?_;have h':=av h;clear h;obtain ⟨a5,O,h⟩:=h';apply aa _;refine dA hJ [] [] (by first|rfl|simp only[bE]|(simp only[bE];rfl)) _ (GB u0 j f g d ⟨w.1,fun _ P=>w.2 _ (Ext.trans (Ext.refl _) P)⟩ O) (fun a6 a7 Q e R a8=>?_);obtain ⟨rfl,D⟩:=Q;obtain ⟨S,rfl⟩:=D.fN;simp only[bE] at R;subst e;refine ⟨⟨ro,[(o,Obj.cells S 31)]⟩,Le.refl _,?_⟩;try apply aa _
  have h':=Option.some.inj h;clear h;subst h';have h':=Option.some.inj C;clear C;subst h';have h:=N;dsimp only[aJ] at h;have h':=Option.some.inj h;clear h;subst h';refine aI ?_;apply bw _;exact ⟨_,D,Le.sub (List.Sublist.refl _)⟩
 try simp only[Int.ofNat_lt] at t
 refine aM hJ au ?_;cases h
def rA (u0:(List aV))(a:(aV->aV->Option Int)):Option (Unit×(List aV)):=
 cond (List.isEmpty u0) none (ak (jY (IntKind.u64.wrap (u0.length:Int))) fun b=>ak (o9 u0 0 (u0.length:Int) b a) fun c=>some ((),c.2))
theorem GD {ro:Addr->Option Value}(u0:(List aV)){b8:Value}{d:List (Nat×Obj)}(b:bA eM ro 31 b8 u0 d)(c:(aV->aV->Option Int)){bN:FuncId}{bP bQ:Array Value}(e:aP Tryz.prog bN=true/\∀(aK:Addr->Option Value),Ext ro aK->∀(y0:aV) (f:aV) (z:Int),c y0 f=some z->aF Tryz.prog bN (bP++#[y0.v,f.v]++bQ) ⟨aK,[]⟩ (fun v _=>v= .int .i64 z)){r:(Unit×(List aV))}(h:rA u0 c=some r):aF Tryz.prog 111 #[b8,.func (.func bN) bP bQ] ⟨ro,d⟩ (fun v G=>∃a,(v= .tuple #[]/\bA eM ro 31 b8 r.2 a)/\Le ⟨ro,a⟩ G):=by
 obtain ⟨d1,c2,rfl,s⟩:=b.len;unfold rA at h;have h':=aD h;clear h;rcases h' with ⟨g,h⟩|⟨g,h⟩
 .cases h
 obtain ⟨j,t,rfl,rfl,u⟩:=b.fX g;refine aF.go Tryz.func111 rfl Tryz.ntmps111 Tryz.results111 aB fun main J hJ A w hd hs=>?_;have x:=hs 0;have k1:=hs 1;clear hs;refine af hJ ?_;refine aO hJ fun y=>?_;refine ah hJ ?_;apply aa _;refine aO hJ fun B=>?_;refine ah hJ ?_;have h':=av h;clear h;obtain ⟨k,l,h⟩:=h';apply aa _;refine bl hJ _ (qO (IntKind.u64.wrap (u0.length:Int)) l) (aQ ?_);have h':=av h;clear h;obtain ⟨C,m,h⟩:=h';try apply aa _
 refine dA hJ [] [] (by first|rfl|simp only[bE]|(simp only[bE];rfl)) _ (GC u0 b 0 (u0.length:Int) k c ⟨e.1,fun _ n=>e.2 _ (Ext.trans (Ext.refl _) n)⟩ m) (fun D E o a p F=>?_);obtain ⟨rfl,i⟩:=o;obtain ⟨q,rfl⟩:=i.fN;simp only[bE] at p;subst a;refine ⟨⟨ro,[(j,Obj.cells q 31)]⟩,Le.refl _,?_⟩;try apply aa _
 have h':=Option.some.inj h;clear h;subst h';apply bw _;exact ⟨_,i,Le.sub (List.Sublist.refl _)⟩
def vV (a:Int)(st:Int):Option (Fl Int Unit):=
 cond (decide (a<st)) (none) (some (.bk st))
def vW (a:Int)(b:Int)(st:Int):Option (Fl Int Unit):=
 cond (decide (st<b)) (ak (aZ (vV a) fu st) fun o=>aJ o (fun c=>some (.nx (IntKind.i64.wrap (st+1)))) (fun _ _=>none) (fun r=>some (.rt r))) (some (.bk st))
def vX (a:Int)(b:Int)(c:(aV->aV->Option Int)):Option Unit:=
 ak (aZ (vW a b) fu (IntKind.i64.wrap (a+1))) fun o=>aJ o (fun d=>some ()) (fun _ _=>none) (fun r=>some r)
theorem GF {ro:Addr->Option Value}(c:Int)(f:Int)(q:(aV->aV->Option Int)){hU:FuncId}{ja jb:Array Value}(N:aP Tryz.prog hU=true/\∀(aK:Addr->Option Value),Ext ro aK->∀(y0:aV) (s:aV) (z:Int),q y0 s=some z->aF Tryz.prog hU (ja++#[y0.v,s.v]++jb) ⟨aK,[]⟩ (fun v _=>v= .int .i64 z)){r:Unit}(h:vX c f q=some r):aF Tryz.prog 162 #[.slice none 0 0,.int .i64 c,.int .i64 f,.func (.func hU) ja jb] ⟨ro,[]⟩ (fun v _=>v= .tuple #[]):=by
 unfold vX at h;refine aF.go Tryz.func162 rfl Tryz.ntmps162 Tryz.results162 aB fun main J hJ A u hd hs=>?_;have w:=hs 0;have k1:=hs 1;have x:=hs 2;have y:=hs 3;clear hs;refine af hJ ?_;refine ah hJ ?_;apply aa _;refine bf hJ ?_;have h':=av h;clear h;obtain ⟨B,g,C⟩:=h';have h:=True.intro;refine bO hJ [8,9,12,13,14,15,16,17,18,19,20,21,22,23,24,25,26,27,28,29,30,31,32,33,34,35,36,37,38,39,40,41,42,43,44,45,46,47,48,49,50,51,52] (fun m j F'=>∃(v1:Int),aZ (vW c f) m v1=some B/\F'=⟨ro,[]⟩/\slot j 8= .int .i64 v1) fu ?_ ?_
 .refine ⟨(IntKind.i64.wrap (c+1)),g,rfl,?_⟩;simp only[*,go_sem,-h]
 rintro k d F' e ⟨v1,g,rfl,D⟩;have h:=True.intro;have E:sz d=53:=by rw[e.size];simp only[*,go_sem,-h]
 have F:d.defers=[]:=by rw[e.defers];simp only[*,go_sem,-h]
 have G:slot d 0= .slice none 0 0:=by rw[e.aA 0 ay];simp only[*,go_sem,-h]
 have H:slot d 1= .int .i64 c:=by rw[e.aA 1 ay];simp only[*,go_sem,-h]
 have I:slot d 2= .int .i64 f:=by rw[e.aA 2 ay];simp only[*,go_sem,-h]
 have K:slot d 3= .func (.func hU) ja jb:=by rw[e.aA 3 ay];simp only[*,go_sem,-h]
 clear e u hd w k1 x y;obtain _|k:=k
 .exact absurd g (by simp only[aZ,reduceCtorEq,not_false_eq_true])
 have h':=av g;clear g h;obtain ⟨O,h,l⟩:=h';unfold vW at h;try dsimp only at h
 refine af hJ ?_;refine af hJ ?_;refine ah hJ ?_;apply aa _;have h':=aD h;clear h;rcases h' with ⟨n,h⟩|⟨n,h⟩
 .try simp only[Int.ofNat_lt] at n
  refine aL hJ au ?_;refine aR hJ ?_;refine af hJ ?_;refine bf hJ ?_;refine af hJ ?_;refine ah hJ ?_;apply aa _;refine bf hJ ?_;have h':=av h;clear h;obtain ⟨L,i,M⟩:=h';have h:=True.intro;refine bO hJ [9,18,19,20,21,22,23,24,25,26,27,28,29,30,31,32,33,34,35,36,37,38,39,40,41,42,43,44,45,46,47,48,49,50,51,52] (fun m j F'=>∃(o:Int),aZ (vV c) m o=some L/\F'=⟨ro,[]⟩/\slot j 9= .int .i64 o) fu ?_ ?_
  .refine ⟨v1,i,rfl,?_⟩;simp only[*,go_sem,-h]
  rintro m2 b F' a ⟨o,i,rfl,P⟩;have h:=True.intro;have Q:sz b=53:=by rw[a.size];simp only[*,go_sem,-h]
  have R:b.defers=[]:=by rw[a.defers];simp only[*,go_sem,-h]
  have S:slot b 0= .slice none 0 0:=by rw[a.aA 0 ay];simp only[*,go_sem,-h]
  have T:slot b 1= .int .i64 c:=by rw[a.aA 1 ay];simp only[*,go_sem,-h]
  have U:slot b 2= .int .i64 f:=by rw[a.aA 2 ay];simp only[*,go_sem,-h]
  have V:slot b 3= .func (.func hU) ja jb:=by rw[a.aA 3 ay];simp only[*,go_sem,-h]
  have W:slot b 8= .int .i64 v1:=by rw[a.aA 8 ay];simp only[*,go_sem,-h]
  have X:slot b 12= .int .i64 v1:=by rw[a.aA 12 ay];simp only[*,go_sem,-h]
  have Y:slot b 13= .int .i64 f:=by rw[a.aA 13 ay];simp only[*,go_sem,-h]
  have Z:slot b 14= .bool true:=by rw[a.aA 14 ay];simp only[*,go_sem,-h]
  have ab:slot b 17= .int .i64 v1:=by rw[a.aA 17 ay];simp only[*,go_sem,-h]
  have ad:cq [8,9,12,13,14,15,16,17,18,19,20,21,22,23,24,25,26,27,28,29,30,31,32,33,34,35,36,37,38,39,40,41,42,43,44,45,46,47,48,49,50,51,52] b d:=(a.eg ay).trans au;clear a E F G H I K D;obtain _|m2:=m2
  .exact absurd i (by simp only[aZ,reduceCtorEq,not_false_eq_true])
  have h':=av i;clear i h;obtain ⟨ae,h,t⟩:=h';unfold vV at h;try dsimp only at h
  refine af hJ ?_;refine af hJ ?_;refine cB hJ mixed 17 ⟨ro,[]⟩ au aS ?_;have h':=aD h;clear h;rcases h' with ⟨p,h⟩|⟨p,h⟩
  ·(try simp only[Int.ofNat_lt] at p);cases h
  try simp only[Int.ofNat_lt] at p
  try apply aa _
  refine aM hJ au ?_;refine bM ?_;simp only[go_sem];have h':=Option.some.inj h;clear h;subst h';have h':=Option.some.inj t;clear t;subst h';have h:=M;dsimp only[aJ] at h;refine ah hJ ?_;apply aa _;have h':=Option.some.inj h;clear h;subst h';have h:=True.intro;try apply aa _
  refine ⟨k,Nat.lt_succ_self _,_,Le.sub (List.Sublist.refl _),(IntKind.i64.wrap (v1+1)),l,rfl,?_⟩;simp only[*,go_sem,-h]
 try simp only[Int.ofNat_lt] at n
 refine aM hJ au ?_;refine bM ?_;simp only[go_sem];have h':=Option.some.inj h;clear h;subst h';have h':=Option.some.inj l;clear l;subst h';have h:=C;dsimp only[aJ] at h;try (have h':=Option.some.inj h;clear h;subst h')
 try simp only[*,go_sem]
def vY (a:(aV->aV->Option Int))(st:(Int×Int×Int×Bool×Bool)):Option (Fl (Int×Int×Int×Bool×Bool) Unit):=
 cond (decide ((IntKind.i64.wrap (st.2.1 - st.1))<=12)) (ak (vX st.1 st.2.1 a) fun b=>some (.rt ())) (none)
def rB (a:Int)(b:Int)(c:Int)(d:(aV->aV->Option Int)):Option Unit:=
 ak (aZ (vY d) fu (a,b,c,true,true)) fun o=>aJ o (fun e=>some ()) (fun _ _=>none) (fun r=>some r)
theorem GG {ro:Addr->Option Value}(f:Int)(g:Int)(i:Int)(d:(aV->aV->Option Int)){iC:FuncId}{jB jC:Array Value}(n:aP Tryz.prog iC=true/\∀(aK:Addr->Option Value),Ext ro aK->∀(y0:aV) (o:aV) (z:Int),d y0 o=some z->aF Tryz.prog iC (jB++#[y0.v,o.v]++jC) ⟨aK,[]⟩ (fun v _=>v= .int .i64 z)){r:Unit}(h:rB f g i d=some r):aF Tryz.prog 135 #[.slice none 0 0,.int .i64 f,.int .i64 g,.int .i64 i,.func (.func iC) jB jC] ⟨ro,[]⟩ (fun v _=>v= .tuple #[]):=by
 unfold rB at h;refine aF.go Tryz.func135 rfl Tryz.ntmps135 Tryz.results135 aB fun main J hJ A s hd hs=>?_;have t:=hs 0;have k1:=hs 1;have u:=hs 2;have w:=hs 3;have x:=hs 4;clear hs;refine af hJ ?_;refine ah hJ ?_;apply aa _;refine af hJ ?_;refine ah hJ ?_;apply aa _;refine bf hJ ?_;have h':=av h;clear h;obtain ⟨y,a,B⟩:=h';have h:=True.intro;refine bO hJ [1,2,3,10,11,12,13,14,15,16,17,18,19,20,21,22,23,24,25,26,27,28,29,30,31,32,33,34,35,36,37,38,39,40,41,42,43,44,45,46,47,48,49,50,51,52,53,54,55,56,57,58,59,60,61,62,63,64,65,66,67,68,69,70,71,72,73,74,75,76,77,78,79,80,81,82,83,84,85,86,87,88,89,90,91,92,93,94,95,96,97,98,99,100,101,102,103,104,105,106,107,108,109,110,111,112,113,114,115,116,117,118,119,120,121,122,123,124,125,126,127,128,129,130,131,132,133,134,135,136,137,138,139,140,141,142,143,144,145,146,147] (fun m b F'=>∃(v1:Int) (v2:Int) (j:Int) (v4:Bool) (k:Bool),aZ (vY d) m (v1,v2,j,v4,k)=some y/\F'=⟨ro,[]⟩/\slot b 1= .int .i64 v1/\slot b 2= .int .i64 v2/\slot b 3= .int .i64 j/\slot b 10= .bool v4/\slot b 11= .bool k) fu ?_ ?_
 .refine ⟨f,g,i,true,true,a,rfl,?_⟩;simp only[*,go_sem,-h]
 rintro p e F' c ⟨v1,v2,j,v4,k,a,rfl,E,F,G,H,I⟩;have h:=True.intro;have K:sz e=148:=by rw[c.size];simp only[*,go_sem,-h]
 have L:e.defers=[]:=by rw[c.defers];simp only[*,go_sem,-h]
 have M:slot e 0= .slice none 0 0:=by rw[c.aA 0 ay];simp only[*,go_sem,-h]
 have N:slot e 4= .func (.func iC) jB jC:=by rw[c.aA 4 ay];simp only[*,go_sem,-h]
 clear c s hd t k1 u w x;obtain _|p:=p
 .exact absurd a (by simp only[aZ,reduceCtorEq,not_false_eq_true])
 have h':=av a;clear a h;obtain ⟨O,h,q⟩:=h';unfold vY at h;try dsimp only at h
 refine bf hJ ?_;refine af hJ ?_;refine ah hJ ?_;apply aa _;refine af hJ ?_;refine af hJ ?_;refine ah hJ ?_;apply aa _;have h':=aD h;clear h;rcases h' with ⟨l,h⟩|⟨l,h⟩
 .try simp only[Int.ofNat_lt] at l
  refine aL hJ au ?_;refine af hJ ?_;refine ah hJ ?_;have h':=av h;clear h;obtain ⟨P,C,h⟩:=h';apply aa _;refine bl hJ _ (GF (hU:=iC) (ja:=jB) (jb:=jC) v1 v2 d ⟨n.1,fun _ D=>n.2 _ (Ext.trans aX D)⟩ C) ?_;try apply aa _
  have h':=Option.some.inj h;clear h;subst h';have h':=Option.some.inj q;clear q;subst h';have h:=B;dsimp only[aJ] at h;try (have h':=Option.some.inj h;clear h;subst h')
  try (refine aI ?_)
  try simp only[*,go_sem]
 try simp only[Int.ofNat_lt] at l
 refine aM hJ au ?_;cases h
def rC (a:(aV->aV->Option Int)):Option Unit:=
 ak (jY (IntKind.u64.wrap 0)) fun x1=>ak (rB 0 0 x1 a) fun x3=>some ()
theorem GH {ro:Addr->Option Value}(a:(aV->aV->Option Int)){bN:FuncId}{bP bQ:Array Value}(b:aP Tryz.prog bN=true/\∀(aK:Addr->Option Value),Ext ro aK->∀(y0:aV) (c:aV) (z:Int),a y0 c=some z->aF Tryz.prog bN (bP++#[y0.v,c.v]++bQ) ⟨aK,[]⟩ (fun v _=>v= .int .i64 z)){r:Unit}(h:rC a=some r):aF Tryz.prog 111 #[.slice none 0 0,.func (.func bN) bP bQ] ⟨ro,[]⟩ (fun v _=>v= .tuple #[]):=by
 unfold rC at h;refine aF.go Tryz.func111 rfl Tryz.ntmps111 Tryz.results111 aB fun main J hJ A g hd hs=>?_;have i:=hs 0;have k1:=hs 1;clear hs;refine af hJ ?_;refine ah hJ ?_;apply aa _;refine ah hJ ?_;have h':=av h;clear h;obtain ⟨x1,d,h⟩:=h';apply aa _;refine bl hJ _ (qO (IntKind.u64.wrap 0) d) (aQ ?_);have h':=av h;clear h;obtain ⟨x3,e,h⟩:=h';try apply aa _
 refine bl hJ _ (GG (iC:=bN) (jB:=bP) (jC:=bQ) 0 0 x1 a ⟨b.1,fun _ f=>b.2 _ (Ext.trans aX f)⟩ e) ?_;try apply aa _
 try (have h':=Option.some.inj h;clear h;subst h')
 try simp only[*,go_sem]
end Go.Proofs.YtcoalekambhghaaGreatDoor
end
section
namespace Go.Sep
open Go Go.Conc
open Go.ConcN (sumTo upd upd_ne upd_same)
def gz (P:Program):Frame:={(default:Frame) with fn:=P.funcs.size,defers:=[],mode:=.panicking [goexitEntry]}
section
variable {P:Program}{f:FuncId}{fn:Func}{cd:Code}{w:World}{caps args:Array Value}
theorem Ay (a:P.funcs[f]?=some fn)(b:(fn.name== "runtime.NumGoroutine")=false)(hb:fn.body=some cd):
  stepG P false (born P {target:=.fn (.func f) caps,args:=args}) w= .go (G ((baseD f).at {tmps:=args++caps++Array.replicate (fn.ntmps - (args++caps).size) undef,defers:=[]} [.code cd]) [gz P]) w #[]:=by
 have c:¬fn.name= "runtime.NumGoroutine":=by simpa using b
 rw[<-enter_atD (args++caps) a hb]
 simp[born,G,stepG,unwind,callDeferred,invoke,callFunc,a,c,hb,GStep.after,seen_none,gz]
theorem Az {b:Frame}{a:Act}{todo:List Item}(hn:b.kind= .deferred)(hd:a.defers=[])(d:P.funcs[b.fn]?=some fn)(c:fn.results=#[]):
  stepG P false (G {b.at a todo with mode:=.returning} [gz P]) w= .go (G (gz P) []) w #[]:=by
 have he:(results fn a.tmps).events P w #[]=#[]:=events_results_none c _ _
 have hv:(results fn a.tmps).run P w= .ok (.tuple #[]) w:=results_none c _ P w
 simp[G,stepG,unwind,doReturn,Frame.at,hn,hd,d,hv,he,gz,goexitEntry,seen_none,GStep.after]
theorem AA:stepG P false (G (gz P) []) w= .go {frame:=gz P,callers:=[],status:=.finished,dying:=none} w #[]:=by
 have e:(default:Frame).todo=[]:=rfl;simp[G,stepG,unwind,gz,goexitEntry,Frame.catches,e]
end
section
variable {c:Cy}{i:Nat}{F:ag}{f fd:FuncId}
def GI (c:Cy)(i:Nat)(fd:FuncId)(v:Value):Ex->Act->ag->Ph->Prop
 | .exit _,_,_,_=>False
 |_,a,_,ph=>a.defers=[dcall fd #[v]]/\(ph.mp= .idle\/ph.mp= .fin)/\ph.gp= .cnt/\ph.stored=c.bs i/\ph.deaf=0
end
attribute [go_sem] GI
end Go.Sep
end
section
namespace Go.Sep
open Go Go.Conc
def vZ {S:Type}(b:Act->ag->S->Prop)(Q:Ex->Act->ag->S->Prop):Ex->Act->ag->S->Prop
 | .normal,a,F,ph=>b a F ph
 |e,a,F,ph=>Q e a F ph
attribute [go_sem] vZ
theorem GK {P:Program}{main:Bool}{S:Type}{JF:S->Goroutine->ag->Prop}{fi:FuncId}{Q:Ex->Act->ag->S->Prop}{a:Act}{F:ag}{ph:S}(hM:∀ph,dS P main (JF ph)){x:Code}(b:Act->ag->S->Prop)
  (c:cM JF fi x (vZ b Q) a F ph) (d:∀a F ph,b a F ph->Q .normal a F ph):cM JF fi x Q a F ph:=
 c.mono fun e a F ph h=>by
  cases e with
  |normal=>exact d a F ph h
  |exit i=>exact h
  |ret=>exact h
theorem bK {P:Program}{main:Bool}{S:Type}{JF:S->Goroutine->ag->Prop}{fi:FuncId}{Q:Ex->Act->ag->S->Prop}{a:Act}{F:ag}{ph:S}(hM:∀ph,dS P main (JF ph)){id:Nat}{ops:Array Oper}
  (h:∀K:Act->ag->S->Prop,(∀a F ph,Q .normal a F ph->K a F ph)->aE JF fi ops 0 ops.size K a F ph):cM JF fi (.region id ops false) Q a F ph:=mR hM (h _ fun _ _ _ h=>h)
theorem AB {S:Type}{b:Act->ag->S->Prop}{Q:Ex->Act->ag->S->Prop}{a:Act}{F:ag}{ph:S}(h:b a F ph):vZ b Q .normal a F ph:=h
def jD (x y:Int):Int:=IntKind.u64.wrap ((BitVec.ofInt 64 x&&& BitVec.ofInt 64 y).toNat:Int)
@[go_sem] theorem OG (x y:Int):IntKind.u64.wrap ((@HAnd.hAnd (BitVec 64) (BitVec 64) (BitVec 64) (@instHAndOfAndOp (BitVec IntKind.u64.bits) (@BitVec.instAndOp IntKind.u64.bits)) (BitVec.ofInt 64 x) (BitVec.ofInt 64 y)).toNat:Int)=jD x y:=rfl
theorem v5 (v t:Nat)(hv:v<2147483648)(ht:t<=1):jD ((v:Int)*4294967296+(t:Int)) 2147483648=0:=Go.ConcN.st_flag v t hv ht
theorem v7 (v t:Nat)(hv:v<2147483648)(ht:t<=1):jD ((v:Int)*4294967296+(t:Int)) 2147483647=(t:Int):=Go.ConcN.st_waiters v t hv ht
theorem v8 (v t:Nat)(ht:t<=1):((v:Int)*4294967296+(t:Int)).fdiv 4294967296=v:=by
 rw[Int.fdiv_eq_ediv_of_nonneg _ ay];omega
end Go.Sep
end

/- A part of the proof: QT9. -/
import Derived.Test.YtlchekhkopimhaaGreatDoorQT8
import Derived.Conc.AtomicLaws2
import Derived.Conc.WgArith
set_option linter.all false
section
namespace Go.Sep
open Go Go.Conc
open Go.ConcN (sumTo upd upd_ne upd_same)
open Go.ConcM (MuAt muA msA muBlock OsLater)
open Go.ConcR (WgAt wgBlock stA smA)
theorem ay.entry {P:Program}{main:Bool}{S:Type}{JF:S->Goroutine->af->Prop}{fi f:FuncId}{ops:Array Oper}{j n:Nat}{Q:Act->af->S->Prop}{a:Act}{F:af}{ph:S}{d:Option Tmp}(v:Value)(hM:ez P main (JF ph))(e:Entry P f (fun _=>pure v))
  {vals:List Value} (g:At ops j a f vals d) (h:ay JF fi ops (j+1) n Q (bC a d v) F ph):ay JF fi ops j (n+1) Q a F ph:=fun b c cs hb i=>by
 obtain ⟨fn,f1,f2,f3,f4,f5⟩:=e.ex
 obtain ⟨o,cM,dI,ho,hg,k,_,rfl⟩:=g
 rw[List.range'_succ,dy hb.round]
 refine hM.move (fr':=b.at (a.put o.dst v) (.inRegion ops (List.range' (j+1) n)::c)) (fun w=>stepG_entry_pure v ho (cH hg) hb.kind k f1 f2 f3 f4 f5) (by rw[<-dy hb.round];exact h b c cs hb i)
theorem ay.shr {P:Program}{main:Bool}{S:Type}{JF:S->Goroutine->af->Prop}{fi:FuncId}{ops:Array Oper}{j n:Nat}{Q:Act->af->S->Prop}{a:Act}{F:af}{ph:S}{d:Option Tmp}{t e:TypeId}{k b:IntKind}{u m:Int}(v:Int)(hM:ez P main (JF ph)){x y:Operand}
  (f:jw ops j a (.binOp .shr t x y e) d) (g:ev a x= .int k u) (i:ev a y= .int b m) (hm:0<=m) (hv:u.fdiv (2 ^ min m.toNat k.bits)=v) (h:ay JF fi ops (j+1) n Q (bC a d (.int k v)) F ph):ay JF fi ops j (n+1) Q a F ph:=by
 obtain ⟨o,ho,hg,l,rfl⟩:=f
 have c:¬m<0:=aa
 have e1:execOp a.eval o=(do eqGuard .shr t x y (.int k u) (.int b m);pure (.value (<-binOp .shr t (.int k u) (.int b m))):Sem Next):=by
  unfold execOp
  simp only[l,fC,g,i]
  simp
 refine ay.plain hM (.int k v) ho hg (fun w=>?_) (fun w=>?_) h
 .rw[e1];subst hv;simp[eqGuard,binOp,Op.shift,c]
 .rw[e1];subst hv;simp[eqGuard,binOp,Op.shift,c]
end Go.Sep
end
section
namespace Go.Sep
open Go Go.Conc
def tf (op:BinOp)(u v:Value):Option Value:=match op with
 | .shl=>match u,v with
  | .int k a,.int _ b=>if b<0 then none else some (.int k (k.wrap (a*2 ^ min b.toNat k.bits)))
  |_,_=>none
 | .shr=>match u,v with
  | .int k a,.int _ b=>if b<0 then none else some (.int k (a.fdiv (2 ^ min b.toNat k.bits)))
  |_,_=>none
 |_=>nv op u v
def oV (P:Program)(op:Op)(a:Act):Option Value:=match op with
 | .move x| .assign x=>some (ev a x)
 | .nilCheck x=>match ev a x with
  | .pointer (some ad)=>some (.pointer (some ad))
  |_=>none
 | .pick c x y=>match ev a c with
  | .bool b=>some (if b then ev a x else ev a y)
  |_=>none
 | .binOp op t x y _=>tf op (ev a x) (ev a y)
 | .unOp op _ x=>lO op (ev a x)
 | .convert src dst x=>lQ P src dst (ev a x)
 | .fieldAddr s x n=>match ev a x with
  | .pointer (some ad)=>match dK P s n with
   |some k=>some (.pointer (some (ad.add k)))
   |none=>none
  |_=>none
 |_=>none
theorem IC {P:Program}{op:BinOp}{t:TypeId}{x y:Operand}{u v r:Value}(h:tf op u v=some r)(w:World):
  (do eqGuard op t x y u v;pure (.value (<-binOp op t u v)):Sem Next).run P w= .ok (.value r) w/\(do eqGuard op t x y u v;pure (.value (<-binOp op t u v)):Sem Next).events P w #[]=#[]:=by
 unfold tf at h
 split at h
 .split at h
  case h_2=>cases h
  split at h
  .cases h
  .rename_i hb;cases h;simp[eqGuard,binOp,Op.shift,hb]
 .split at h
  case h_2=>cases h
  split at h
  .cases h
  .rename_i hb;cases h;simp[eqGuard,binOp,Op.shift,hb]
 .rename_i n1 c
  unfold nv at h
  split at h
  case h_3=>cases h
  case h_2=>
   rename_i a b
   cases op<;>simp only[reduceCtorEq] at h<;>(cases h;simp[eqGuard,binOp,Op.stringOp,ByteArray.toList_eq])
  rename_i k a e b
  split at h
  case isFalse=>cases h
  rename_i d
  subst d
  cases op<;>simp only[binOp,ne_eq,not_true_eq_false,if_false,Op.intArith,Op.intDiv,Op.intCmp,Op.intBits,Op.shift,eqGuard] at h ⊢<;>first
   |(cases h;done)
   |(exact absurd rfl n1)
   |(exact absurd rfl c)
   |(cases h;simp;done)
   |(split at h
     .cases h
     .rename_i hb;cases h;simp[hb])
theorem BN {P:Program}{o:Oper}{a:Act}{v:Value}(h:oV P o.op a=some v)(w:World):(execOp a.eval o).run P w= .ok (.value v) w/\(execOp a.eval o).events P w #[]=#[]:=by
 obtain ⟨dst,op,type,pos,after,guard⟩:=o;unfold execOp;simp only[fC] at h ⊢;unfold oV at h;cases op<;>simp only[reduceCtorEq] at h ⊢
 case move x=>cases h;simp
 case assign x=>cases h;simp
 case nilCheck x=>
  split at h
  .rename_i ad e;cases h;simp[e]
  .cases h
 case pick c x y=>
  split at h
  .rename_i b hb;cases h;simp[hb,asBool]
  .cases h
 case binOp op t x y r=>have:=IC (P:=P) (t:=t) (x:=x) (y:=y) h w;simpa using this
 case unOp op t x=>
  revert h;cases ev a x<;>cases op<;>simp only[lO,reduceCtorEq,false_implies,Option.some.injEq]<;>intro h<;>subst h<;>simp[Op.unary,Op.intArith]
 case convert src dst x=>
  revert h;cases e:ev a x<;>simp only[lQ,reduceCtorEq,false_implies];intro h;split at h
  .rename_i k1 A i j;cases h;simp[convert,run_underlying i,run_underlying j,Conv.intToInt]
  .cases h
 case fieldAddr s x n=>
  split at h
  case h_2=>cases h
  rename_i ad l;split at h
  case h_2=>cases h
  rename_i k d;cases h;unfold dK at d;split at d
  case h_2=>cases d
  rename_i B g;split at d
  case h_2=>cases d
  rename_i f p;split at d
  case h_2=>cases d
  rename_i m hm;cases d;obtain ⟨inf,q,u⟩:=Option.map_eq_some_iff.1 hm;have z:Instr.sureAddr (.pointer (some ad))=(Pure.pure ad:Sem Addr):=rfl;simp[Instr.fieldAt,run_underlying g,g,p,l,z,fieldPlace,Go.sizeOf,typeInfo,q,u,Result.andThen,Result.evThen]
def iU (P:Program)(ops:Array Oper)(K:Act->Prop):List Oper->Act->Prop
 |[],a=>K a
 |o::rest,a=>match cJ ops o a with
  |some true=>match oV P o.op a with
   |some v=>iU P ops K rest (bC a o.dst v)
   |none=>False
  |some false=>iU P ops K rest (bC a o.dst undef)
  |none=>False
theorem ID {P:Program}{ops:Array Oper}{K:Act->Prop}{a:Act}:iU P ops K [] a=K a:=(Eq.refl _).trans (Eq.refl _)
theorem IE {P:Program}{ops:Array Oper}{K:Act->Prop}{o:Oper}{rest:List Oper}{a:Act}:iU P ops K (o::rest) a=match cJ ops o a with
  |some true=>match oV P o.op a with
   |some v=>iU P ops K rest (bC a o.dst v)
   |none=>False
  |some false=>iU P ops K rest (bC a o.dst undef)
  |none=>False:=(Eq.refl _).trans (Eq.refl _)
attribute [go_sem] ID IE oV tf
section
variable {P:Program}{main:Bool}{S:Type}{JF:S->Goroutine->af->Prop}{fi:FuncId}{ops:Array Oper}{F:af}{ph:S}{Q:Act->af->S->Prop}
theorem xh (hM:ez P main (JF ph)):∀(l:List Oper) (i n:Nat) (a:Act),(∀j o,l[j]?=some o->ops[i+j]?=some o)->iU P ops (fun b=>ay JF fi ops (i+l.length) n Q b F ph) l a->ay JF fi ops i (l.length+n) Q a F ph
 |[],i,n,a,_,h=>by rw[List.length_nil,Nat.zero_add];exact h
 |o::rest,i,n,a,f,h=>by
  have ho:ops[i]?=some o:=f 0 o rfl
  have g:∀j x,rest[j]?=some x->ops[i+1+j]?=some x:=fun j x k=>by rw[Nat.add_assoc,Nat.add_comm 1 j];exact f (j+1) x k
  have e:(o::rest).length+n=(rest.length+n)+1:=by rw[List.length_cons];omega
  have e2:∀b,ay JF fi ops (i+(o::rest).length) n Q b F ph->ay JF fi ops (i+1+rest.length) n Q b F ph:=fun b x=>by
   rw[show i+1+rest.length=i+(o::rest).length by rw[List.length_cons];omega];exact x
  rw[e]
  have mono:∀(l:List Oper) (a:Act) {K c:Act->Prop},(∀a,K a->c a)->iU P ops K l a->iU P ops c l a:=by
   intro l
   induction l with
   |nil=>intro a K c d h;exact d a h
   |cons o l ih=>
    intro a K c d h
    unfold iU at h ⊢
    cases hg:cJ ops o a with
    |none=>rw[hg] at h;exact h.elim
    |some t=>
     rw[hg] at h
     cases t with
     |false=>exact ih _ d h
     |true=>
      simp only at h ⊢
      cases hv:oV P o.op a with
      |none=>rw[hv] at h;exact h.elim
      |some v=>rw[hv] at h;exact ih _ d h
  unfold iU at h
  split at h
  .rename_i hg
   split at h
   .rename_i v hv
    exact ay.plain hM v ho hg (fun w=>(BN hv w).1) (fun w=>(BN hv w).2) (xh hM rest (i+1) n _ g (mono _ _ e2 h))
   .exact h.elim
  .rename_i hg
   exact ay.skip hM ho hg (xh hM rest (i+1) n _ g (mono _ _ e2 h))
  .exact h.elim
theorem ay.pure (hM:ez P main (JF ph))(m:Nat){i n:Nat}{a:Act}(l:List Oper)(c:(ops.toList.drop i).take m=l)(hm:l.length=m)(h:iU P ops (fun d=>ay JF fi ops (i+m) n Q d F ph) l a):ay JF fi ops i (m+n) Q a F ph:=by
 subst hm;refine xh hM l i n a (fun j o b=>?_) h;rw[<-c] at b;have e:j<l.length:=by
  rcases Nat.lt_or_ge j l.length with x|x
  .exact x
  .rw[c,List.getElem?_eq_none x] at b;cases b
 rw[List.getElem?_take,if_pos e,List.getElem?_drop] at b;simpa using b
end
end Go.Sep
end
section
namespace Go.Sep
open Go Go.Conc
open Go.ConcN (sumTo upd upd_ne upd_same)
open Go.ConcM (MuAt muA msA muBlock OsLater)
open Go.ConcR (WgAt wgBlock stA smA)
section
variable {c:Cy}{i:Nat}{ph:Ph}{ops:Array Oper}{j n:Nat}{Q:Act->af->Ph->Prop}{a:Act}{F:af}{f fi:FuncId}{d:Option Tmp}
theorem Inv.group {k:Nat}{φ:Nat->Ph}{p0:P0}{s:Sh}(h:Inv c.n c.bs k φ p0 s)(hi:i<c.n)(he:φ i=ph)(a:ph.gp≠ .new)(b:ph.gp≠ .cnt){gp:Gp}(d:gp≠ .new){wg ws:Int}
  (hw:c9 c.n (upd φ i {ph with gp:=gp}) p0 wg ws):Inv c.n c.bs k (upd φ i {ph with gp:=gp}) p0 {s with wg:=wg,ws:=ws}:=by
 obtain ⟨C,S,W,L,m,hm⟩:=h.m
 refine h.gL hi he a d ⟨C,S,W,L,m,Br hm hi _ (.inl (by rw[he]))⟩ hw ?_ (fun _=>?_)
 .have:=h.i.all i hi
  rw[he] at this
  exact (Iu this).symm
 .have:=h.i.done i hi (by rw[he];exact b) (by rw[he];exact a)
  rw[he] at this
  exact this
end
end Go.Sep
end
section
namespace Go.Sep
open Go Go.Conc
open Go.ConcN (sumTo upd upd_ne upd_same)
theorem ay.defer {P:Program}{main:Bool}{S:Type}{JF:S->Goroutine->af->Prop}{fi f:FuncId}{ops:Array Oper}{j n:Nat}{Q:Act->af->S->Prop}{a:Act}{F:af}{ph:S}(hM:ez P main (JF ph)){o:Oper}{cM:Array Operand}{dI:Array TypeId}{vals:Array Value}
  (ho:ops[j]?=some o) (hg:cJ ops o a=some true) (e:o.op= .defer {callee:=.value (.func f),args:=cM,argTypes:=dI}) (hd:o.dst=none) (hv:cM.map a.eval=vals)
  (h:∀c:Act,(∀i,slot c i=slot a i)->sz c=sz a->c.defers=dcall f vals::a.defers->ay JF fi ops (j+1) n Q c F ph):ay JF fi ops j (n+1) Q a F ph:=fun b d cs hb g=>by
 rw[List.range'_succ,dy hb.round]
 refine hM.move (fr':=b.at (Act.put ⟨a.tmps,dcall f (cM.map a.eval)::a.defers⟩ o.dst undef) (.inRegion ops (List.range' (j+1) n)::d)) (fun w=>stepG_defer ho (cH hg) hb.kind e) ?_
 rw[<-dy hb.round,hd,hv]
 exact h ⟨a.tmps,dcall f vals::a.defers⟩ (fun _=>rfl) rfl rfl b d cs hb g
section
variable {c:Cy}{i:Nat}{ph:Ph}{F:af}{f:FuncId}
def ko (f:FuncId)(R:Value->af->Ph->Prop):Ex->Act->af->Ph->Prop
 | .exit _,_,_,_=>False
 |_,a,F,ph=>a.defers=[dcall f #[]]/\ph.gp= .gone/\∃b,ph.deaf=b+1/\R (.tuple #[]) F {ph with deaf:=b}
def xj (R:af->Ph->Prop):Ex->Act->af->Ph->Prop
 | .exit _,_,_,_=>False
 |_,a,F,ph=>a.defers=[]/\R F ph
end
attribute [go_sem] ko xj
end Go.Sep
end
section
namespace Go.Sep
open Go Go.Conc
open Go.ConcN (sumTo upd upd_ne upd_same)
open Go.ConcM (MuAt muA msA muBlock OsLater)
open Go.ConcR (WgAt wgBlock stA smA)
structure PT where
 P:Program
 tM:TypeId
 tW:TypeId
 tI:TypeId
section
variable {d:Nat}
theorem IF {c:Cy}:Ev0 c d d #[]:=⟨an,rfl⟩
theorem IG {c:Cy}:Ev0 c d (d+1) #[cA .disable]:=⟨fun e he=>by simp at he;exact .inl he,rfl⟩
theorem II {c:Cy}:Ev0 c (d+1) d #[cA .enable]:=⟨fun e he=>by simp at he;exact .inr (.inl he),rfl⟩
theorem IJ {c:Cy}{ad:Addr}(h:ad.block=c.Wg):Ev0 c d d #[⟨.cell ad,false,true⟩,⟨.cell ad,true,true⟩]:=
 ⟨fun e he=>by simp at he;rcases he with he|he<;>exact .inr (.inr ⟨ad,h,.inl ⟨_,he⟩⟩),by simp[deafBehind]⟩
theorem IK {c:Cy}{ad:Addr}(h:ad.block=c.Wg):Ev0 c d d #[cA (.read ad)]:=⟨fun e he=>by simp at he;exact .inr (.inr ⟨ad,h,.inr (.inl he)⟩),by simp[deafBehind,cA]⟩
end
end Go.Sep
end
section
namespace Go.Sep
open Go Go.Conc
variable {P:Program}
section
variable {T:PT}{Φ:Goroutine->af->Prop}{fi:FuncId}
theorem IL {P:Program}{main:Bool}{S:Type}{JF:S->Goroutine->af->Prop}{ph:S}(hJ:Closed P main (JF ph)){c:Code}{Q:Ex->Act->af->S->Prop}{a:Act}{F F':af}(hle:Le F F')(h:cV JF fi c Q a F ph):cV JF fi c Q a F' ph:=
 fun b k cs hb d=>hJ.mono hle (h b k cs hb d)
theorem xk {P:Program}{main:Bool}{S:Type}{JF:S->Goroutine->af->Prop}{ph:S}(hJ:Closed P main (JF ph)){c:Code}{Q:Ex->Act->af->S->Prop}{a:Act}{F:af}(h:bO (keys F.own)->bg F.ro F.own->cV JF fi c Q a F ph):cV JF fi c Q a F ph:=by
 intro b k cs hb d;by_cases hw:∃w,Has F w
 .obtain ⟨w,hw⟩:=hw;refine h ⟨hw.nodup⟩ (fun b hb off sp=>?_) b k cs hb d;cases e:F.ro ⟨b,off,sp⟩ with
  |none=>rfl
  |some v=>exact absurd hb (hw.apart _ v e)
 .exact hJ.step fun w f=>absurd ⟨w,f⟩ hw
end
theorem BO {ro:Addr->Option Value}{b a off:Nat}{sp:Option Nat}{o:Obj}(h:ro ⟨a,off,sp⟩=none)(c:a≠b):b9 ro b o ⟨a,off,sp⟩=none:=by simp[b9,h,c]
theorem BP {ro:Addr->Option Value}{a b2:Nat}{b c:Obj}(f:bO (keys [(b2,c),(a,b)]))(e:bg ro [(b2,c),(a,b)]):
  ∃d,Ext ro d/\Le ⟨d,[]⟩ ⟨ro,[(b2,c),(a,b)]⟩/\(∀off v,cellOf b off=some v->d ⟨a,off,none⟩=some v)/\(∀off v,cellOf c off=some v->d ⟨b2,off,none⟩=some v):=by
 have hd:=f.1
 simp only[keys,List.map_cons,List.map_nil,List.nodup_cons,List.mem_cons,List.not_mem_nil,not_or] at hd
 have r1:∀off sp,ro ⟨a,off,sp⟩=none:=e a (by simp[keys])
 have r2:∀off sp,ro ⟨b2,off,sp⟩=none:=e b2 (by simp[keys])
 have g:b2≠a:=by obtain ⟨⟨z,-⟩,-⟩:=hd;exact z
 have t2:∀off sp,b9 ro a b ⟨b2,off,sp⟩=none:=fun off sp=>BO (r2 off sp) g
 have k1:Le ⟨b9 ro a b,[(b2,c)]⟩ ⟨ro,[(b2,c),(a,b)]⟩:=lT (by simp[lk, *]) an (by simp[aN,Ne.symm, *])
 have i:Le ⟨b9 (b9 ro a b) b2 c,[]⟩ ⟨b9 ro a b,[(b2,c)]⟩:=lT (by simp only[lk];simp) an trivial
 exact ⟨_,(gQ _ _ _).trans (gQ _ _ _),i.trans k1,fun off v h=>gQ _ _ _ _ _ ((eY r1).trans h),fun off v h=>(eY t2).trans h⟩
end Go.Sep
end
section
namespace Go.Proofs.YtlchekhkopimhaaGreatDoor
open Go Go.Sep Go.Proofs
set_option maxRecDepth 100000
set_option maxHeartbeats 4000000
theorem IM {ro:Addr->Option Value}(u0:ax)(bits:Int){s2:Value}(d:aH bK ro s2 u0.ak){b2 h:Nat}(e:ro ⟨b2,0,none⟩=some (.int .i64 u0.steps))(f:ro ⟨b2,1,none⟩=some (.int .i64 u0.aR))(g:ro ⟨b2,2,none⟩=some s2)(i:ro ⟨h,0,none⟩=some (.int .u64 bits)):
  lZ Tryz.prog 168 #[] #[.pointer (some ⟨b2,0,none⟩),.pointer (some ⟨h,0,none⟩)] aT.v (qC u0 bits) ro:=by
 refine ⟨by simp only[go_sem],fun aF b σ step I p q r k s c s' a main J hJ own l=>?_⟩
 replace d:=d.mono b
 replace e:=b _ _ e
 replace f:=b _ _ f
 replace g:=b _ _ g
 replace i:=b _ _ i
 refine dh.go hJ Tryz.func168 rfl Tryz.ntmps168 Tryz.results168 an fun A t hd hs=>?_
 have u:=hs 0
 have k1:=hs 1
 have w:=hs 2
 clear hs
 repeat refine ah hJ ?_
 refine aG hJ ?_
 try simp only[*,go_sem,-a]
 intro b3 f3;have r3:=cT f3;have n3:=cY f3
 try simp only[*,go_sem,-a]
 repeat refine ah hJ ?_
 refine aG hJ ?_
 try simp only[*,go_sem,-a]
 intro b4 f4;have m:=cT f4;have j:=cY f4
 simp only[aN] at j
 try simp only[*,go_sem,-a]
 repeat refine ah hJ ?_
 refine aG hJ ?_
 try simp only[*,go_sem,-a]
 repeat refine ah hJ ?_
 refine aG hJ ?_
 try simp only[*,go_sem,-a]
 refine dh.less hJ ((GG u0 d k (b2:=b2) (b3:=b3) (b4:=b4) e f g j.1 m r3 6 0 ⟨⟨0,0,0,0⟩,⟨0,0,0,0⟩,bits⟩ s c s' a main J hJ own l).mono ?_)
 rintro v F' ⟨n,hle,rfl,o⟩
 exact ⟨_,hle,n,Le.sub (List.sublist_append_right _ _),o⟩
theorem BQ {ro:Addr->Option Value}(u0:ax){s2:Value}(e:aH bK ro s2 u0.ak)(b:Int){r:List (Option aT)}(h:qD u0 b=some r):
  eZ Tryz.prog 146 #[.agg #[.int .i64 u0.steps,.int .i64 u0.aR,s2],.int .u64 b] ro (fun v aF=>∃f a c,v= .func (.func f) a c/\lZ Tryz.prog f a c aT.v r aF):=by
 obtain rfl:qC u0 b=r:=Option.some.inj h
 clear h
 obtain ⟨ad,cap,rfl,le,n,-⟩:=id e
 refine aE.go Tryz.func146 rfl Tryz.ntmps146 Tryz.results146 an fun main J hJ A o hd hs=>?_
 have p:=hs 0
 have k1:=hs 1
 clear hs
 repeat refine ah hJ ?_
 refine aG hJ ?_
 apply ag _
 intro b2 f2;have r2:=cT f2;have q:=cY f2
 try apply ag _
 intro s g;have j:=cT g;have k:=cY g
 simp only[aN] at k
 try apply ag _
 repeat refine ah hJ ?_
 refine aG hJ ?_
 apply ag _
 repeat refine ah hJ ?_
 refine aC hJ fun nd=>?_
 obtain ⟨l,i,hle,d,m⟩:=BP nd (bg.cons j (bg.cons r2 (bg.nil _)))
 refine aO ?_
 apply ag _
 exact ⟨l,i,hle,_,_,_,rfl,IM u0 b (e.mono i) (d 0 _ rfl) (d 1 _ rfl) (d 2 _ rfl) (m 0 _ rfl)⟩
def oW (x:aT)(st:List aT):Option (Fl (List aT) Unit):=ai (jI st ([x])) fun y=>some (.nx y)
def q6 (u0:List aT)(a:List (Option aT)):Option (List aT):=ai (j8 oW a u0) fun o=>az o (fun st=>some st) (fun _ _=>none) (fun _=>none)
theorem IN {ro:Addr->Option Value}{bn:List (Nat×Obj)}(u0:List aT){q:Value}(s:aW iQ ro 114 q u0 bn)(t:List (Option aT)){bQ:FuncId}{bY bZ:Array Value}(E:lZ Tryz.prog bQ bY bZ aT.v t ro){r:List aT}(h:q6 u0 t=some r):
  aE Tryz.prog 145 #[q,.func (.func bQ) bY bZ] ⟨ro,bn⟩ (fun v G=>∃u,aW iQ ro 114 v r u/\Le ⟨ro,u⟩ G):=by
 unfold q6 at h
 obtain ⟨d0,F,rfl,H⟩:=s.len
 refine aE.Al Tryz.func145 rfl Tryz.ntmps145 Tryz.results145 an fun main J hJ A I hd hs=>?_
 have K:=hs 0
 have k1:=hs 1
 clear hs
 refine ah hJ ?_
 refine aG hJ ?_
 apply bu _
 intro e f1;have r1:=cT f1;have n1:=cY f1
 try apply bu _
 refine ah hJ ?_
 refine ah hJ ?_
 refine aG hJ ?_
 apply bu _
 have h':=eu h;clear h;obtain ⟨ab,L,m⟩:=h';have h:=True.intro
 refine Ai hJ aT.v bx E aj aj (ρ:=Unit) (fun (j:List aT) M=>∃(d7:Option Addr) (b:Nat) (c:List (Nat×Obj)),M=(e,.cells #[.slice d7 j.length b] 102)::c/\aW iQ ro 114 (.slice d7 j.length b) j c/\j.length<=b) (f:=oW) L ?_ ?_ aL ?_ ?_
 .exact ⟨d0,F,bn,rfl,s,H⟩
 .rintro d4 n g N v6 x2 ad h main J hJ _ ⟨d7,b,c,rfl,o,O⟩
  unfold oW at h
  try dsimp only at h
  generalize i:nS _ _ _=k
  have ae:sz k=13:=by rw[<-i,Ah];simp only[*,go_sem]
  have al:k.defers=[]:=by rw[<-i];rfl
  have ao:slot k 2= .pointer (some ⟨e,0,none⟩):=by rw[<-i,so];simp only[*,go_sem]
  have ar:slot k 7= .agg #[.int .i64 x2.au.e0,.int .i64 x2.au.e1,.int .i64 x2.au.e2,.int .i64 x2.au.e3,.int .i64 x2.av.e0,.int .i64 x2.av.e1,.int .i64 x2.av.e2,.int .i64 x2.av.e3,.int .u64 x2.aR]:=by rw[<-i,so];simp only[*,go_sem]
  clear i I hd K k1
  refine jf hJ fun d a=>?_
  replace a:bg ro ((n,.loop g)::(d4,.deferred (some []))::(e,.cells #[.slice d7 v6.length b] 102)::c):=a
  have r3:=a.hd
  have a0:=a.tl.hd
  have r1:=a.tl.tl.hd
  clear a
  replace d:=d.nd
  simp only[keys,List.map_cons,List.map_nil,List.map_append,List.cons_append,List.nil_append,List.nodup_cons,List.mem_cons,List.mem_append,List.not_mem_nil,or_false,not_or] at d
  refine aC hJ fun P=>?_
  refine aG hJ ?_
  apply bu _
  intro w f17;have a2:=cT f17;have y:=cY f17
  have a3:=bO.cons y P
  try simp only[aN] at y
  try apply bu _
  simp only[se,go_sem]
  refine ⟨g,bx,N,?_⟩
  try apply bu _
  refine aU hJ ?_
  refine aC hJ fun Q=>?_
  refine aG hJ ?_
  have h':=eu h;clear h;obtain ⟨a4,R,h⟩:=h'
  obtain ⟨S,z⟩:=nF R
  apply bu _
  intro B f20;have T:=cT f20;have C:=cY f20
  have U:=bO.cons C Q
  try simp only[aN] at C
  try apply bu _
  refine qh (r:=iQ) (l:=v6) (x:=x2) (cs:=#[.int .i64 x2.au.e0,.int .i64 x2.au.e1,.int .i64 x2.au.e2,.int .i64 x2.au.e3,.int .i64 x2.av.e0,.int .i64 x2.av.e1,.int .i64 x2.av.e2,.int .i64 x2.av.e3,.int .u64 x2.aR]) (e2:=114) [(B,.cells #[.int .i64 x2.au.e0,.int .i64 x2.au.e1,.int .i64 x2.au.e2,.int .i64 x2.au.e3,.int .i64 x2.av.e0,.int .i64 x2.av.e1,.int .i64 x2.av.e2,.int .i64 x2.av.e3,.int .u64 x2.aR] 114),(w,.cells #[.int .i64 x2.au.e0,.int .i64 x2.au.e1,.int .i64 x2.au.e2,.int .i64 x2.au.e3,.int .i64 x2.av.e0,.int .i64 x2.av.e1,.int .i64 x2.av.e2,.int .i64 x2.av.e3,.int .u64 x2.aR] 114),(n,.loop {g with state:=.busy}),(d4,.deferred (some [])),(e,.cells #[.slice d7 v6.length b] 102)] [] (by first|rfl|simp only[bN]|(simp only[bN];rfl)) o U S rfl dz T rfl rfl Aq Aq FH FJ rfl FI aL aL (fun a5 D p c V a6=>?_)
  simp only[bN] at V
  subst c
  rw[<-z] at p;clear z
  obtain ⟨d28,W,rfl,X⟩:=p.len
  refine ⟨⟨ro,(B,.cells #[.int .i64 x2.au.e0,.int .i64 x2.au.e1,.int .i64 x2.au.e2,.int .i64 x2.au.e3,.int .i64 x2.av.e0,.int .i64 x2.av.e1,.int .i64 x2.av.e2,.int .i64 x2.av.e3,.int .u64 x2.aR] 114)::(w,.cells #[.int .i64 x2.au.e0,.int .i64 x2.au.e1,.int .i64 x2.au.e2,.int .i64 x2.au.e3,.int .i64 x2.av.e0,.int .i64 x2.av.e1,.int .i64 x2.av.e2,.int .i64 x2.av.e3,.int .u64 x2.aR] 114)::(n,.loop {g with state:=.busy})::(d4,.deferred (some []))::(e,.cells #[.slice d7 v6.length b] 102)::D⟩,Le.refl _,?_⟩
  refine aJ ?_
  try apply bu _
  have h':=Option.some.inj h;clear h;subst h'
  simp only[vB,nO,go_sem]
  refine ⟨{g with state:=.busy},bx,?_⟩
  apply ag _
  refine ⟨_,Le.sub (List.Sublist.cons _ (List.Sublist.cons _ (List.Sublist.refl _))),rfl,d28,W,D,rfl,p,X⟩
 .rintro d49 Y Z _ v6 ⟨d7,b,c,rfl,o,O⟩ d a
  replace a:bg ro ((Y,.loop Z)::(d49,.deferred (some []))::(e,.cells #[.slice d7 v6.length b] 102)::c):=a
  have a7:=a.hd
  have a8:=a.tl.hd
  have r1:=a.tl.tl.hd
  clear a
  replace d:=d.nd
  simp only[keys,List.map_cons,List.map_nil,List.map_append,List.cons_append,List.nil_append,List.nodup_cons,List.mem_cons,List.mem_append,List.not_mem_nil,or_false,not_or] at d
  refine ⟨fun ho=>?_,fun k1 ho=>?_⟩
  .subst ho;have h:=m;dsimp only[az] at h
   refine ah hJ ?_
   refine aG hJ ?_
   apply bu _
   have h':=Option.some.inj h;clear h;subst h'
   refine aO ?_
   apply ag _
   exact ⟨c,o,Le.sub (List.Sublist.cons _ (List.Sublist.cons _ (List.Sublist.cons _ (List.Sublist.refl _))))⟩
  subst ho;have h:=m;dsimp only[az] at h
  cases h
 intro k1 a9 ho;subst ho;have h:=m;dsimp only[az] at h
 cases h
def oX (u0:ax)(x9:Int)(st:((List aT)×Int)):Option (Fl ((List aT)×Int) (List aT)):=
 cond (decide (st.2<x9)) (ai (qo st.2) fun a=>cond (decide (a<=u0.aR)) (ai (qD u0 st.2) fun b=>ai (q6 st.1 b) fun c=>some (.nx (c,(IntKind.u64.wrap (st.2+1))))) (some (.nx (st.1,(IntKind.u64.wrap (st.2+1)))))) (some (.bk (st.1,st.2)))
def oY (u0:ax):Option (List aT):=
 ai (iO 1 (u0.ak.length:Int)) fun x9=>ai (aQ (oX u0 x9) fu (([]:List aT),0)) fun o=>az o (fun a=>some a.1) (fun _ _=>none) (fun r=>some r)
theorem BR {ro:Addr->Option Value}(u0:ax){s1:Value}(f:aH bK ro s1 u0.ak){r:(List aT)}(h:oY u0=some r):eZ Tryz.prog 93 #[cn u0 s1] ro (fun v aF=>∃p,v=p/\aH iQ aF p r):=by
 obtain ⟨d3,c4,rfl,ao,ar,-⟩:=id f;unfold oY at h;refine aE.go Tryz.func93 rfl Tryz.ntmps93 Tryz.results93 an fun main J hJ A D hd hs=>?_;have E:=hs 0;clear hs;apply aB hJ _;refine bf fun g n G=>?_;try simp only[aN] at G
 try apply ag _
 apply aB hJ _;refine ah hJ (aA hJ ?_);revert h;refine bS fun x9 q h=>?_;obtain ⟨a0,H⟩:=nG q;clear q;try simp only[go_sem] at H
 try apply ag _
 apply aU hJ;revert h;refine bS fun I i K=>?_;refine bP hJ (rg 10 15 [3,4]) (fun m s F'=>∃(b:Addr->Option Value) (d12:Option Addr) (c:Nat) (d:List (Nat×Obj)) (v11:(List aT)) (a:Int),aQ (oX u0 x9) m (v11,a)=some I/\F'=⟨b,(g,dM u0 (sl d3 u0.ak c4))::d⟩/\Ext ro b/\aW iQ b 114 (.slice d12 v11.length c) v11 d/\v11.length<=c/\slot s 3= .slice d12 v11.length c/\slot s 10= .int .u64 a) fu ?_ ?_
 .refine ⟨ro,none,0,[],([]:List aT),0,i,rfl,Ext.refl _,aW.nil _ _ _,Nat.le_refl _,?_⟩;simp only[*,go_sem]
 rintro j a2 F' t ⟨b,d12,c,d,v11,a,i,rfl,k,e,L,a3,a4⟩;refine jf hJ fun _ u=>?_;replace f:=f.mono k;replace n:=u.hd;simp only[bW] at u;obtain ⟨M,N,O⟩:=t.pick [1,2,9] aL;simp only[*,go_sem] at M N O;clear t D hd E;obtain _|j:=j
 .exact absurd i (by simp only[aQ,reduceCtorEq,not_false_eq_true])
 revert i;refine bS fun a5 h l=>?_;unfold oX at h;try dsimp only at h
 apply ah hJ;refine aC hJ fun a6=>?_;apply aM hJ _;apply ah hJ;revert h;refine aV hJ (fun P h=>?_) fun P h=>?_
 .refine aK hJ (ah hJ ?_);refine aU hJ (ah hJ ?_);refine aC hJ fun a7=>?_;apply aM hJ _;apply ah hJ;refine aC hJ fun a8=>?_;refine dR hJ mixed 6 1 bx aj ?_;revert h;refine bS fun a9 Q h=>?_;apply ag _;refine ⟨_,dW hJ fun F hF=>AD a Q,eB ?_⟩;try apply ag _
  revert h;refine aV hJ (fun R h=>?_) fun R h=>?_
  .refine aC hJ fun ba=>?_;apply aG hJ;revert h;refine bS fun S T h=>?_;apply ag _;refine cN hJ _ (BQ u0 f a T) fun v w x o hR=>?_;obtain ⟨bb,bc,bd,rfl,U⟩:=hR;replace n:=o.hd;replace e:=e.mono x o.tl;simp only[bW] at o;apply aJ;revert h;refine bS fun V W h=>?_;obtain rfl:=sI h;(try apply ag _);refine en hJ (bn:=d) [(g,dM u0 (sl d3 u0.ak c4))] [] _ (IN v11 e S U W) (fun bj y z X Y bk=>?_);simp only[bN] at Y;subst X;obtain ⟨d46,Z,rfl,ab⟩:=z.len;refine ⟨⟨w,(g,dM u0 (sl d3 u0.ak c4))::y⟩,Le.refl _,?_⟩;apply aJ;(try apply ag _);refine aC hJ fun bm=>?_;apply aM hJ _;(try apply ag _);refine ⟨j,Nat.lt_succ_self _,_,Le.sub (List.Sublist.refl _),w,d46,Z,y,V,(IntKind.u64.wrap (a+1)),l,rfl,(k.trans x),z,ab,?_⟩;simp only[*,go_sem]
  obtain rfl:=sI h;apply aK hJ;refine aC hJ fun bo=>?_;apply aM hJ _;try apply ag _
  refine ⟨j,Nat.lt_succ_self _,_,Le.sub (List.Sublist.refl _),b,d12,c,d,v11,(IntKind.u64.wrap (a+1)),l,rfl,k,e,L,?_⟩;simp only[*,go_sem]
 obtain rfl:=sI h;apply bJ;simp only[go_sem];obtain rfl:=sI l;clear l;have h:=K;dsimp only[az] at h;obtain rfl:=sI h;apply ah hJ;refine aC hJ fun br=>?_;apply aM hJ _;refine aC hJ fun B=>?_;obtain ⟨bs,ad,ae,C,al⟩:=e.ql [(g,dM u0 (sl d3 u0.ak c4))] [] B (bg.cons n (bg.nil _));clear B;refine cq hJ al ?_;obtain ⟨b0,b1,-⟩:=C.op;simp only[bW] at ae;refine b5 ?_;exact ⟨_,(k).trans ad,Le.sub (List.nil_sublist _),_,rfl,C⟩
def xl (a:aT)(st:Bool):Option (Fl Bool Unit):=
 some (.br 1000000000 true)
def kr (u0:ax)(a:Int):Option Bool:=
 ai (qD u0 a) fun b=>ai (j8 (xl) b false) fun o=>az o (fun d=>some false) (fun k c=>cond (k==1000000000) (some c) (none)) (fun _=>none)
theorem xm {ro:Addr->Option Value}(u0:ax){s1:Value}(u:aH bK ro s1 u0.ak)(g:Int){r:Bool}(h:kr u0 g=some r):aE Tryz.prog 95 #[cn u0 s1,.int .u64 g] ⟨ro,[]⟩ (fun v _=>v= .bool r):=by
 unfold kr at h;refine aE.Al Tryz.func95 rfl Tryz.ntmps95 Tryz.results95 an fun main J hJ A w hd hs=>?_;have x:=hs 0;have k1:=hs 1;clear hs;apply aB hJ _;refine bf fun i j y=>?_;try simp only[aN] at y
 refine bf fun d k z=>?_;try simp only[aN] at z
 try apply ag _
 refine ah hJ (aA hJ ?_);revert h;refine bS fun M B h=>?_;apply ag _;refine cN hJ _ (BQ u0 u g B) fun v q N l hR=>?_;obtain ⟨O,P,Q,rfl,C⟩:=hR;replace k:=l.hd;replace j:=l.tl.hd;simp only[bW] at l;try apply ag _
 revert h;refine bS fun R D m=>?_;refine Ai hJ aT.v bx C aj aj (ρ:=Unit) (fun (E:Bool) F=>F=(d,.cells #[.bool E] 4)::(i,dM u0 s1)::[]) (f:=xl) D ?_ ?_ aL ?_ ?_
 .exact rfl
 .rintro d17 G n H o I S h main J hJ _ rfl;unfold xl at h;try dsimp only at h
  obtain rfl:=sI h;generalize c:nS _ _ _=e;have T:sz e=9:=by rw[<-c,Ah];simp only[*,go_sem]
  have U:e.defers=[]:=by rw[<-c];rfl
  have V:slot e 4= .pointer (some ⟨d,0,none⟩):=by rw[<-c,so];simp only[*,go_sem]
  have W:slot e 8=jk I:=by rw[<-c,so];simp only[*,go_sem]
  clear c w hd x k1;refine jf hJ fun b a=>?_;replace a:bg q ((G,.loop n)::(d17,.deferred (some []))::(d,.cells #[.bool o] 4)::(i,dM u0 s1)::[]):=a;have X:=a.hd;have Y:=a.tl.hd;have k:=a.tl.tl.hd;have j:=a.tl.tl.tl.hd;clear a;replace b:=b.nd;simp only[keys,List.map_cons,List.map_nil,List.map_append,List.cons_append,List.nil_append,List.nodup_cons,List.mem_cons,List.mem_append,List.not_mem_nil,or_false,not_or] at b;apply aK hJ;simp only[se,go_sem];refine ⟨n,bx,H,?_⟩;try apply ag _
  refine aU hJ (ah hJ ?_);apply aM hJ _;apply aO;simp only[vB,nO,go_sem];refine ⟨{n with state:=.busy},bx,?_⟩;apply ag _;refine ⟨_,Le.sub (List.Sublist.refl _),rfl,rfl⟩
 .rintro d179 K L _ o rfl b a;replace a:bg q ((K,.loop L)::(d179,.deferred (some []))::(d,.cells #[.bool o] 4)::(i,dM u0 s1)::[]):=a;have Z:=a.hd;have ab:=a.tl.hd;have k:=a.tl.tl.hd;have j:=a.tl.tl.tl.hd;clear a;replace b:=b.nd;simp only[keys,List.map_cons,List.map_nil,List.map_append,List.cons_append,List.nil_append,List.nodup_cons,List.mem_cons,List.mem_append,List.not_mem_nil,or_false,not_or] at b;refine ⟨fun ho=>?_,fun k1 ho=>?_⟩
  .subst ho;have h:=m;dsimp only[az] at h;obtain rfl:=sI h;apply aB hJ _;refine aC hJ fun p=>?_;replace p:=p.nd;(try simp only[keys,List.map_cons,List.map_nil,List.map_append,List.cons_append,List.nil_append,List.nodup_cons,List.mem_cons,List.mem_append,List.not_mem_nil,or_false,not_or] at p);apply aO;simp only[*,go_sem]
  subst ho;have h:=m;dsimp only[az] at h;revert h;refine cS (fun s h=>?_) fun s h=>?_
  .obtain rfl:=sI h;obtain rfl:k1=1000000000:=by simpa using s
   unfold vF;rw[if_pos (show (1000000000:Nat)=sj from rfl)];simp only[*,go_sem]
  cases h
 intro k1 ad ho;subst ho;have h:=m;dsimp only[az] at h;revert h;refine cS (fun t h=>?_) fun t h=>?_
 .obtain rfl:k1=1000000000:=by simpa using t
  decide
 cases h
def iF (u0:ax)(c:(ax->Option Bool)):Option (dD×Int):=
 ai (ef u0) fun a=>cond ((a != 0)) (some ((⟨(⟨0,0,([]:(List aS))⟩:ax),([]:(List aT))⟩:dD),a)) (ai (c u0) fun d=>cond (!d) (some ((⟨(⟨0,0,([]:(List aS))⟩:ax),([]:(List aT))⟩:dD),6)) (ai (oY u0) fun b=>cond (((b.length:Int)==0)) (some ((⟨(⟨0,0,([]:(List aS))⟩:ax),([]:(List aT))⟩:dD),9)) (some ((⟨u0,b⟩:dD),0))))
theorem ku {ro:Addr->Option Value}(i:dw ro)(u0:ax){s1:Value}(b:aH bK ro s1 u0.ak)(d:(ax->Option Bool)){bQ:FuncId}{bY bZ:Array Value}(j:aI Tryz.prog bQ=true/\∀(aF:Addr->Option Value),Ext ro aF->∀(y0:ax) (e:Value) (z:Bool),aH bK aF e y0.ak->d y0=some z->aE Tryz.prog bQ (bY++#[cn y0 e]++bZ) ⟨aF,[]⟩ (fun v _=>v= .bool z)){r:(dD×Int)}(h:iF u0 d=some r):eZ Tryz.prog 78 #[cn u0 s1,.func (.func bQ) bY bZ] ro (fun v aF=>∃f w1,v= .tuple #[.agg #[.int .i64 r.1.round.steps,.int .i64 r.1.round.aR,f,w1],.int .i64 r.2]/\aH bK aF f r.1.round.ak/\aH iQ aF w1 r.1.bF):=by
 unfold iF at h;have k:=b.oc;simp only[dP] at k;refine aE.go Tryz.func78 rfl Tryz.ntmps78 Tryz.results78 an fun main J hJ A x hd hs=>?_;have y:=hs 0;have k1:=hs 1;clear hs;apply aB hJ _;refine bf fun B C l=>?_;try simp only[aN] at l
 refine bf fun D E m=>?_;try simp only[aN] at m
 try apply ag _
 refine ah hJ (aA hJ ?_);revert h;refine bS fun F n h=>?_;apply ag _;refine bh hJ _ (kU (i.mono aY) u0 (b.mono aY) n) (aJ ?_);try apply ag _
 apply aB hJ _;revert h;refine aV hJ (fun o h=>?_) fun o h=>?_
 .obtain rfl:=sI h;apply aB hJ _;refine b5 ?_;exact ⟨_,Ext.refl _,Le.sub (List.nil_sublist _),_,_,rfl,aH.nil _ _,aH.nil _ _⟩
 refine aK hJ (ah hJ ?_);apply aM hJ _;refine bf fun G H p=>?_;try simp only[aN] at p
 try apply ag _
 refine ah hJ (aA hJ ?_);revert h;refine bS fun I q h=>?_;apply ag _;refine bh hJ _ (j.2 _ (fun a v h=>aY a v h) u0 _ _ (b.mono aY) q) (aJ ?_);try apply ag _
 revert h;refine aV hJ (fun s h=>?_) fun s h=>?_
 .obtain rfl:=sI h;apply aB hJ _;refine b5 ?_;exact ⟨_,Ext.refl _,Le.sub (List.nil_sublist _),_,_,rfl,aH.nil _ _,aH.nil _ _⟩
 refine aK hJ (ah hJ ?_);apply aA hJ;revert h;refine bS fun K t h=>?_;apply ag _;refine cN hJ _ (BR u0 b t) fun v L c u hR=>?_;obtain ⟨M,rfl,g⟩:=hR;replace b:=b.mono c;simp only[bW] at u;obtain ⟨d24,N,rfl,O,P,-⟩:=id g;apply aJ;try apply ag _
 apply aB hJ _;revert h;refine aV hJ (fun w h=>?_) fun w h=>?_
 .obtain rfl:=sI h;apply aB hJ _;refine b5 ?_;exact ⟨_,c,Le.sub (List.nil_sublist _),_,_,rfl,aH.nil _ _,aH.nil _ _⟩
 obtain rfl:=sI h;refine aK hJ (ah hJ ?_);apply aM hJ _;refine b5 ?_;exact ⟨_,c,Le.sub (List.nil_sublist _),_,_,rfl,b,g⟩
def iG (u0:ax):Option (Int×Int):=
 ai (ef u0) fun x9=>cond ((x9 != 0)) (some (0,x9)) (ai (oY u0) fun a=>some ((a.length:Int),0))
theorem kz {ro:Addr->Option Value}(b:dw ro)(u0:ax){s1:Value}(a:aH bK ro s1 u0.ak){r:(Int×Int)}(h:iG u0=some r):aE Tryz.prog 24 #[cn u0 s1] ⟨ro,[]⟩ (fun v _=>v= .tuple #[.int .i64 r.1,.int .i64 r.2]):=by
 unfold iG at h;refine aE.go Tryz.func24 rfl Tryz.ntmps24 Tryz.results24 an fun main J hJ A j hd hs=>?_;have k:=hs 0;clear hs;apply aB hJ _;refine bf fun l m c=>?_;try simp only[aN] at c
 try apply ag _
 refine ah hJ (aA hJ ?_);revert h;refine bS fun x9 d h=>?_;apply ag _;refine bh hJ _ (kU (b.mono aY) u0 (a.mono aY) d) (aJ ?_);try apply ag _
 apply aB hJ _;revert h;refine aV hJ (fun e h=>?_) fun e h=>?_
 .obtain rfl:=sI h;apply aB hJ _;apply aO;simp only[*,go_sem]
 refine aK hJ (ah hJ ?_);apply aG hJ;revert h;refine bS fun n f h=>?_;obtain rfl:=sI h;apply ag _;refine cN hJ _ (BR u0 a f) fun v o p g hR=>?_;obtain ⟨q,rfl,i⟩:=hR;simp only[bW] at g;obtain ⟨d19,s,rfl,t,u,-⟩:=id i;apply aJ;try apply ag _
 apply aO;simp only[*,go_sem]
def tg (u0:ax):Option (Int×Int):=
 ai (iF u0 iA) fun x9=>cond ((x9.2 != 0)) (some (0,x9.2)) (ai (mb x9.1 (sJ x9.1.round)) fun a=>some (a,0))
theorem BS {ro:Addr->Option Value}(e:dw ro)(u0:ax){s1:Value}(b:aH bK ro s1 u0.ak){r:(Int×Int)}(h:tg u0=some r):aE Tryz.prog 54 #[cn u0 s1] ⟨ro,[]⟩ (fun v _=>v= .tuple #[.int .i64 r.1,.int .i64 r.2]):=by
 unfold tg at h;have f:=b.oc;simp only[dP] at f;refine aE.go Tryz.func54 rfl Tryz.ntmps54 Tryz.results54 an fun main J hJ A s hd hs=>?_;have t:=hs 0;clear hs;apply aB hJ _;refine bf fun u w g=>?_;try simp only[aN] at g
 try apply ag _
 apply aA hJ;revert h;refine bS fun x9 i h=>?_;apply ag _;refine cN hJ _ (ku e (bQ:=87) (bY:=#[]) (bZ:=#[]) u0 b iA ⟨by simp only[go_sem],fun j c y0 _ _ k h=>by simp only[go_sem];exact sH y0 k h⟩ i) fun v x y l hR=>?_;obtain ⟨m,z,rfl,a,d⟩:=hR;have n:=a.oc;simp only[dP] at n;simp only[bW] at l;obtain ⟨d23,B,rfl,C,D,-⟩:=id d;apply aJ;try apply ag _
 refine bf fun E F o=>?_;try simp only[aN] at o
 try apply ag _
 refine ah hJ (aA hJ ?_);apply ag _;revert h;refine aV hJ (fun p h=>?_) fun p h=>?_
 .obtain rfl:=sI h;apply aB hJ _;apply aO;simp only[*,go_sem]
 refine aK hJ (ah hJ ?_);apply aG hJ;revert h;refine bS fun G q h=>?_;obtain rfl:=sI h;apply ag _;refine bh hJ _ (we (bQ:=127) (bY:=#[cn x9.1.round m]) (bZ:=#[]) x9.1 (a.mono aY) (d.mono aY) (sJ x9.1.round) ⟨by simp only[go_sem],fun j c y0 _ h=>by simp only[go_sem];exact Gk x9.1.round ((a.mono aY).mono c) y0 h⟩ q) (aJ ?_);try apply ag _
 apply aO;simp only[*,go_sem]
def oZ (x9:(dD×Int))(a:Int)(i47:Nat)(b:aT)(st:Unit):Option (Fl Unit ((List Int)×Int)):=
 ai (j9 x9.1.round b a) fun c=>cond (c) (some (.br 1 ())) (some (.nx ()))
def o3 (u0:ax)(x9:(dD×Int))(st:((List Int)×Int)):Option (Fl ((List Int)×Int) ((List Int)×Int)):=
 cond (decide (st.2<u0.steps)) (ai (b7 (oZ x9 st.2) 0 x9.1.bF ()) fun o=>az o (fun b=>ai (jI st.1 ([st.2])) fun a=>some (.nx (a,(IntKind.i64.wrap (st.2+1))))) (fun _ c=>some (.nx (st.1,(IntKind.i64.wrap (st.2+1))))) (fun r=>some (.rt r))) (some (.bk (st.1,st.2)))
def o4 (u0:ax):Option ((List Int)×Int):=
 ai (iF u0 iA) fun x9=>cond ((x9.2 != 0)) (some (([]:(List Int)),x9.2)) (ai (aQ (o3 u0 x9) fu (([]:List Int),0)) fun o=>az o (fun a=>some (a.1,0)) (fun _ _=>none) (fun r=>some r))
theorem BT {ro:Addr->Option Value}(a0:dw ro)(u0:ax){s1:Value}(B:aH bK ro s1 u0.ak){r:((List Int)×Int)}(h:o4 u0=some r):eZ Tryz.prog 20 #[cn u0 s1] ro (fun v aF=>∃C,v= .tuple #[C,.int .i64 r.2]/\aH rI aF C r.1):=by
 unfold o4 at h;have a2:=B.oc;simp only[dP] at a2;refine aE.go Tryz.func20 rfl Tryz.ntmps20 Tryz.results20 an fun main J hJ A a3 hd hs=>?_;have a4:=hs 0;clear hs;apply aB hJ _;refine bf fun d D a5=>?_;try simp only[aN] at a5
 try apply ag _
 refine D5 hJ (ah hJ ?_);apply aG hJ;revert h;refine bS fun x9 a6 h=>?_;apply ag _;refine cN hJ _ (ku a0 (bQ:=87) (bY:=#[]) (bZ:=#[]) u0 B iA ⟨by simp only[go_sem],fun du dv y0 _ _ a7 h=>by simp only[go_sem];exact sH y0 a7 h⟩ a6) fun v k E F hR=>?_;obtain ⟨e,dC,rfl,G,H⟩:=hR;have a8:=G.oc;simp only[dP] at a8;replace D:=F.hd;simp only[bW] at F;obtain ⟨d23,f,rfl,dE,a9,-⟩:=id H;apply aJ;try apply ag _
 refine bf fun g ba bb=>?_;try simp only[aN] at bb
 try apply ag _
 refine ah hJ (aA hJ ?_);apply ag _;revert h;refine aV hJ (fun bc h=>?_) fun bc h=>?_
 .obtain rfl:=sI h;apply aB hJ _;refine b5 ?_;exact ⟨_,E,Le.sub (List.nil_sublist _),_,rfl,aH.nil _ _⟩
 refine aK hJ (ah hJ ?_);apply aM hJ _;apply ah hJ;refine D4 hJ ?_;refine ah hJ (aA hJ ?_);apply ag _;apply aU hJ;revert h;refine bS fun bd o bj=>?_;refine bP hJ (rg 20 21 [6,7,9]) (fun m p F'=>∃(d31:Option Addr) (i:Nat) (j:List (Nat×Obj)) (v30:(List Int)) (a:Int),aQ (o3 u0 x9) m (v30,a)=some bd/\F'=⟨k,(g,.cells #[.int .i64 x9.1.round.steps,.int .i64 x9.1.round.aR,e,.slice d23 x9.1.bF.length f] 104)::(d,bB u0 s1)::j⟩/\aW rI k 3 (.slice d31 v30.length i) v30 j/\v30.length<=i/\slot p 6= .slice d31 v30.length i/\slot p 20= .int .i64 a) fu ?_ ?_
 .refine ⟨none,0,[],([]:List Int),0,o,rfl,aW.nil _ _ _,Nat.le_refl _,?_⟩;simp only[*,go_sem]
 rintro q bk F' I ⟨d31,i,j,v30,a,o,rfl,t,bm,bo,br⟩;obtain ⟨K,L,M⟩:=I.pick [2,3,4,19] aL;simp only[*,go_sem] at K L M;clear I a3 hd a4;obtain _|q:=q
 .exact absurd o (by simp only[aQ,reduceCtorEq,not_false_eq_true])
 revert o;refine bS fun dT h s=>?_;unfold o3 at h;try dsimp only at h
 apply ah hJ;refine aC hJ fun ea=>?_;apply aM hJ _;apply ah hJ;revert h;refine aV hJ (fun bs h=>?_) fun bs h=>?_
 .refine aK hJ (ah hJ ?_);refine aU hJ (ah hJ ?_);refine aC hJ fun eb=>?_;apply aM hJ _;refine ah hJ (ah hJ ?_);refine aC hJ fun ec=>?_;apply aM hJ _;apply aU hJ;revert h;refine bS fun b0 c N=>?_;refine bP hJ (rg 26 10 [9]) (fun m p F'=>∃(i47:Nat),m=x9.1.bF.length - i47/\i47<=x9.1.bF.length/\b7 (oZ x9 a) i47 (x9.1.bF.drop i47) ()=some b0/\F'=⟨k,(g,.cells #[.int .i64 x9.1.round.steps,.int .i64 x9.1.round.aR,e,.slice d23 x9.1.bF.length f] 104)::(d,bB u0 s1)::j⟩/\slot p 26= .int .i64 (i47:Int)) x9.1.bF.length ?_ ?_
  .refine ⟨0,(Nat.sub_zero _).symm,Nat.zero_le _,c,rfl,?_⟩;simp only[*,go_sem]
  rintro m2 b1 F' u ⟨i47,rfl,ed,c,rfl,eh⟩;obtain ⟨b2,b3,b4⟩:=u.pick [2,3,4,6,7,19,20,21,22,23,24,25] aL;simp only[*,go_sem] at b2 b3 b4;have et:cj (rg 20 21 [6,7,9]) b1 bk:=(u.eC aL).trans bx;clear u K L M bo br;apply aB hJ _;apply ah hJ;rcases Nat.lt_or_ge i47 x9.1.bF.length with ca|O
  .refine cO hJ ?_;apply aK hJ;obtain ⟨P,w⟩:∃x,x9.1.bF[i47]?=some x:=⟨_,List.getElem?_eq_getElem ca⟩
   rw[e4 w] at c;revert c;refine bS fun ev h y=>?_;unfold oZ at h;(try dsimp only at h);obtain ⟨eQ,cb,cc,cd,b⟩:=H.el _ _ w;obtain rfl:cb=P.cells:=cd;cases cc;have Q:=b 0 _ rfl;simp only[go_sem] at Q;have R:=b 1 _ rfl;simp only[go_sem] at R;have S:=b 2 _ rfl;simp only[go_sem] at S;have T:=b 3 _ rfl;simp only[go_sem] at T;have U:=b 4 _ rfl;simp only[go_sem] at U;have V:=b 5 _ rfl;simp only[go_sem] at V;have W:=b 6 _ rfl;simp only[go_sem] at W;have X:=b 7 _ rfl;simp only[go_sem] at X;have Y:=b 8 _ rfl;simp only[go_sem] at Y;clear b w;refine ah hJ (aU hJ (ah hJ ?_));refine aC hJ fun cf=>?_;apply aM hJ _;refine bf fun eS e0 Z=>?_;have e1:=bO.cons Z cf;try simp only[aN] at Z
   (try apply ag _);apply ah hJ;refine aC hJ fun e3=>?_;apply aG hJ;revert h;refine bS fun fa ck h=>?_;apply ag _;refine bh hJ _ (wh x9.1.round (G.mono aY) P a ck) ?_;(try apply ag _);revert h;refine aV hJ (fun cl h=>?_) fun cl h=>?_
   .obtain rfl:=sI h;apply bJ;simp only[go_sem];obtain rfl:=sI y;clear y;have h:=N;dsimp only[az] at h;obtain rfl:=sI h;clear Q R S T U V W X Y;refine aC hJ fun fb=>?_;apply aM hJ _;(try apply ag _);refine ⟨q,Nat.lt_succ_self _,_,Le.sub (List.Sublist.cons _ (List.Sublist.refl _)),d31,i,j,v30,(IntKind.i64.wrap (a+1)),s,rfl,t,bm,?_⟩;simp only[*,go_sem]
   obtain rfl:=sI h;apply aK hJ;have fc:=dY (n:=i47) (by have:=a9;omega);apply aM hJ _;refine ⟨x9.1.bF.length - (i47+1),aa,_,Le.sub (List.Sublist.cons _ (List.Sublist.refl _)),i47+1,rfl,aa,y,rfl,?_⟩;simp only[*,go_sem]
  have fg:=Nat.not_lt.2 O;refine cE hJ ?_;rw[List.drop_eq_nil_of_le O] at c;obtain rfl:=sI c;clear c;have h:=N;dsimp only[az] at h;apply bJ;simp only[go_sem];refine aC hJ fun cv=>?_;apply aG hJ;revert h;refine bS fun cy cS h=>?_;obtain rfl:=sI h;obtain ⟨c0,ab⟩:=nF cS;apply ag _;refine bf fun ad da ae=>?_;have db:=bO.cons ae cv;try simp only[aN] at ae
  try apply ag _
  refine vG (r:=rI) (l:=v30) (x:=a) (cs:=#[.int .i64 a]) (e2:=3) [(ad,.cells #[.int .i64 a] 3),(g,.cells #[.int .i64 x9.1.round.steps,.int .i64 x9.1.round.aR,e,.slice d23 x9.1.bF.length f] 104),(d,bB u0 s1)] [] t db c0 rfl bx da rfl rfl nW nW vH sr rfl vI aL aL (fun fh al z dd df fi=>?_);simp only[bN] at df;subst dd;rw[<-ab] at z;clear ab;obtain ⟨d72,dk,rfl,dp⟩:=z.len;refine ⟨⟨k,(ad,.cells #[.int .i64 a] 3)::(g,.cells #[.int .i64 x9.1.round.steps,.int .i64 x9.1.round.aR,e,.slice d23 x9.1.bF.length f] 104)::(d,bB u0 s1)::al⟩,Le.refl _,?_⟩;apply aJ;try apply ag _
  refine aC hJ fun fj=>?_;apply aM hJ _;try apply ag _
  refine ⟨q,Nat.lt_succ_self _,_,Le.sub (List.Sublist.cons _ (List.Sublist.refl _)),d72,dk,al,cy,(IntKind.i64.wrap (a+1)),s,rfl,z,dp,?_⟩;simp only[*,go_sem]
 obtain rfl:=sI h;apply bJ;simp only[go_sem];obtain rfl:=sI s;clear s;have h:=bj;dsimp only[az] at h;obtain rfl:=sI h;apply ah hJ;refine aC hJ fun fl=>?_;apply aM hJ _;refine aC hJ fun ao=>?_;obtain ⟨fp,dq,ds,ar,dt⟩:=t.ql [(g,.cells #[.int .i64 x9.1.round.steps,.int .i64 x9.1.round.aR,e,.slice d23 x9.1.bF.length f] 104),(d,bB u0 s1)] [] ao (bg.cons ba (bg.cons D (bg.nil _)));clear ao;refine cq hJ dt ?_;obtain ⟨fr,fs,-⟩:=ar.op;simp only[bW] at ds;refine b5 ?_;exact ⟨_,(E).trans dq,Le.sub (List.nil_sublist _),_,rfl,ar⟩
def mR (i32:Nat)(i50:Nat)(b:aT)(st:(Int×(List (Int×Int)))):Option (Fl (Int×(List (Int×Int))) (Int×Int×Int)):=
 ai (aZ.get b.av (i32:Int)) fun a=>some (.nx ((if st.1<((cI (cF st.2 a (IntKind.i64.wrap (((cI st.2 a).getD 0)+1))) a).getD 0) then ((cI (cF st.2 a (IntKind.i64.wrap (((cI st.2 a).getD 0)+1))) a).getD 0) else st.1),(cF st.2 a (IntKind.i64.wrap (((cI st.2 a).getD 0)+1)))))
def o5 (x9:(dD×Int))(i32:Nat)(b:aS)(st:(Int×Int)):Option (Fl (Int×Int) (Int×Int×Int)):=
 ai (b7 (mR i32) 0 x9.1.bF (0,([]:(List (Int×Int))))) fun o=>az o (fun a=>cond (decide (a.1<st.2)) (some (.nx ((i32:Int),a.1))) (some (.nx (st.1,st.2)))) (fun _ _=>none) (fun r=>some (.rt r))
def lu (u0:ax):Option (Int×Int×Int):=
 ai (iF u0 iA) fun x9=>cond ((x9.2 != 0)) (some (0,0,x9.2)) (ai (b7 (o5 x9) 0 u0.ak ((-1),(x9.1.bF.length:Int))) fun o=>az o (fun a=>some (a.1,a.2,0)) (fun _ _=>none) (fun r=>some r))
theorem BU {ro:Addr->Option Value}(M:dw ro)(u0:ax){s1:Value}(k:aH bK ro s1 u0.ak){r:(Int×Int×Int)}(h:lu u0=some r):aE Tryz.prog 36 #[cn u0 s1] ⟨ro,[]⟩ (fun v _=>v= .tuple #[.int .i64 r.1,.int .i64 r.2.1,.int .i64 r.2.2]):=by
 obtain ⟨d3,c4,rfl,dd,t,-⟩:=id k;unfold lu at h;refine aE.go Tryz.func36 rfl Tryz.ntmps36 Tryz.results36 an fun main J hJ A N hd hs=>?_;have O:=hs 0;clear hs;apply aB hJ _;refine bf fun u df P=>?_;try simp only[aN] at P
 try apply ag _
 apply aA hJ;revert h;refine bS fun x9 Q h=>?_;apply ag _;refine cN hJ _ (ku M (bQ:=87) (bY:=#[]) (bZ:=#[]) u0 k iA ⟨by simp only[go_sem],fun dk dp y0 _ _ R h=>by simp only[go_sem];exact sH y0 R h⟩ Q) fun v w S T hR=>?_;obtain ⟨y,dq,rfl,U,z⟩:=hR;have V:=U.oc;simp only[dP] at V;replace k:=k.mono S;simp only[bW] at T;obtain ⟨d23,B,rfl,ds,W,-⟩:=id z;apply aJ;try apply ag _
 refine bf fun C dt X=>?_;try simp only[aN] at X
 try apply ag _
 refine ah hJ (aA hJ ?_);apply ag _;revert h;refine aV hJ (fun Y h=>?_) fun Y h=>?_
 .obtain rfl:=sI h;apply aB hJ _;apply aO;simp only[*,go_sem]
 refine aK hJ (ah hJ ?_);refine dR hJ mixed 5 2 bx aj ?_;apply ag _;refine ah hJ (aA hJ ?_);apply ag _;apply aU hJ;revert h;refine bS fun Z f ab=>?_;refine bP hJ (rg 25 33 [2,3,6,7,8,10]) (fun m i F'=>∃(i32:Nat) (v30:Int) (o:Int),m=u0.ak.length - i32/\i32<=u0.ak.length/\b7 (o5 x9) i32 (u0.ak.drop i32) (v30,o)=some Z/\F'=⟨w,(C,.cells #[.int .i64 x9.1.round.steps,.int .i64 x9.1.round.aR,y,.slice d23 x9.1.bF.length B] 104)::(u,bB u0 (sl d3 u0.ak c4))::[]⟩/\slot i 25= .int .i64 (i32:Int)/\slot i 2= .int .i64 v30/\slot i 3= .int .i64 o) u0.ak.length ?_ ?_
 .refine ⟨0,(-1),(x9.1.bF.length:Int),(Nat.sub_zero _).symm,Nat.zero_le _,f,rfl,?_⟩;simp only[*,go_sem]
 rintro du ad F' D ⟨i32,v30,o,rfl,dv,f,rfl,ae,al,ao⟩;obtain ⟨E,F,G⟩:=D.pick [4,5,24] aL;simp only[*,go_sem] at E F G;clear D N hd O;apply aB hJ _;apply ah hJ;rcases Nat.lt_or_ge i32 u0.ak.length with ar|H
 .refine cO hJ ?_;apply aK hJ;obtain ⟨dC,p⟩:∃x,u0.ak[i32]?=some x:=⟨_,List.getElem?_eq_getElem ar⟩
  rw[e4 p] at f;revert f;refine bS fun dE h I=>?_;unfold o5 at h;try dsimp only at h
  obtain ⟨a0,dT,a2,a3,e⟩:=k.el _ _ p;obtain ⟨ea,rfl,a4⟩:=a3;obtain ⟨d41,eb,rfl,ec,ed,eh⟩:=id a4;cases a2;have a5:=e 0 _ rfl;simp only[go_sem] at a5;have a6:=e 1 _ rfl;simp only[go_sem] at a6;have a7:=e 2 _ rfl;simp only[go_sem] at a7;have a8:=e 3 _ rfl;simp only[go_sem] at a8;have a9:=e 4 _ rfl;simp only[go_sem] at a9;have ba:=e 5 _ rfl;simp only[go_sem] at ba;have bb:=e 6 _ rfl;simp only[go_sem] at bb;clear e p;refine ah hJ (aU hJ (ah hJ ?_));apply aM hJ _;apply aB hJ _;refine F5 fun bc f47=>?_;have et:=cT f47;have bd:=cY f47;try simp only[aN] at bd
  apply aJ;try apply ag _
  refine ah hJ (aA hJ ?_);apply ag _;apply aU hJ;revert h;refine bS fun bj g bk=>?_;refine bP hJ (rg 32 20 [8,10]) (fun m i F'=>∃(i50:Nat) (j:Int) (b:(List (Int×Int))),m=x9.1.bF.length - i50/\i50<=x9.1.bF.length/\b7 (mR i32) i50 (x9.1.bF.drop i50) (j,b)=some bj/\F'=⟨w,(bc,qn b)::(C,.cells #[.int .i64 x9.1.round.steps,.int .i64 x9.1.round.aR,y,.slice d23 x9.1.bF.length B] 104)::(u,bB u0 (sl (some a0) u0.ak c4))::[]⟩/\slot i 32= .int .i64 (i50:Int)/\slot i 8= .int .i64 j) x9.1.bF.length ?_ ?_
  .refine ⟨0,0,([]:(List (Int×Int))),(Nat.sub_zero _).symm,Nat.zero_le _,g,rfl,?_⟩;simp only[*,go_sem]
  rintro m2 bm F' q ⟨i50,j,b,rfl,ev,g,rfl,eQ,eS⟩;obtain ⟨bo,br,bs⟩:=q.pick [2,3,4,5,6,7,24,25,26,27,28,29,30,31] aL;simp only[*,go_sem] at bo br bs;have fa:cj (rg 25 33 [2,3,6,7,8,10]) bm ad:=(q.eC aL).trans bx;clear q E F G al ao ae;apply aB hJ _;apply ah hJ;rcases Nat.lt_or_ge i50 x9.1.bF.length with b0|K
  .refine cO hJ ?_;apply aK hJ;obtain ⟨a,s⟩:∃x,x9.1.bF[i50]?=some x:=⟨_,List.getElem?_eq_getElem b0⟩
   rw[e4 s] at g;revert g;refine bS fun fb h b1=>?_;unfold mR at h;(try dsimp only at h);obtain ⟨fc,b2,b3,b4,d⟩:=z.el _ _ s;obtain rfl:b2=a.cells:=b4;cases b3;have ca:=d 0 _ rfl;simp only[go_sem] at ca;have cb:=d 1 _ rfl;simp only[go_sem] at cb;have cc:=d 2 _ rfl;simp only[go_sem] at cc;have cd:=d 3 _ rfl;simp only[go_sem] at cd;have cf:=d 4 _ rfl;simp only[go_sem] at cf;have ck:=d 5 _ rfl;simp only[go_sem] at ck;have cl:=d 6 _ rfl;simp only[go_sem] at cl;have cv:=d 7 _ rfl;simp only[go_sem] at cv;have cy:=d 8 _ rfl;simp only[go_sem] at cy;clear d s;refine ah hJ (aU hJ (ah hJ ?_));apply aM hJ _;refine bf fun fg fh cS=>?_;try simp only[aN] at cS
   (try apply ag _);apply aA hJ;revert h;refine bS fun c L h=>?_;obtain rfl:=sI h;obtain ⟨fi,fj,-⟩:=aZ.get_some L;have c0:([.int .i64 a.au.e0,.int .i64 a.au.e1,.int .i64 a.au.e2,.int .i64 a.au.e3,.int .i64 a.av.e0,.int .i64 a.av.e1,.int .i64 a.av.e2,.int .i64 a.av.e3,.int .u64 a.aR]:List Value)[4+((i32:Int):Int).toNat]?=some (.int .i64 c):=aZ.sx [.int .i64 a.au.e0,.int .i64 a.au.e1,.int .i64 a.au.e2,.int .i64 a.au.e3] [.int .u64 a.aR] L;(try simp only[go_sem] at c0);(try apply ag _);refine Az (l:=b) bx ?_;(try apply aJ);(try apply ag _);refine F6 (l:=b) (v:=IntKind.i64.wrap (((cI b c).getD 0)+1)) bx ?_;(try apply aJ);(try apply ag _);apply aM hJ _;refine Az (l:=(cF b c (IntKind.i64.wrap (((cI b c).getD 0)+1)))) bx ?_;(try apply aJ);(try apply ag _);have fl:=dY (n:=i50) (by have:=W;omega);apply aM hJ _;refine ⟨x9.1.bF.length - (i50+1),aa,_,Le.sub (List.Sublist.cons _ (List.Sublist.refl _)),i50+1,(if j<((cI (cF b c (IntKind.i64.wrap (((cI b c).getD 0)+1))) c).getD 0) then ((cI (cF b c (IntKind.i64.wrap (((cI b c).getD 0)+1))) c).getD 0) else j),(cF b c (IntKind.i64.wrap (((cI b c).getD 0)+1))),rfl,aa,b1,rfl,?_⟩;simp only[*,go_sem]
  have fp:=Nat.not_lt.2 K;refine cE hJ ?_;rw[List.drop_eq_nil_of_le K] at g;obtain rfl:=sI g;clear g;have h:=bk;dsimp only[az] at h;apply bJ;simp only[go_sem];apply aB hJ _;revert h;refine aV hJ (fun da h=>?_) fun da h=>?_
  .obtain rfl:=sI h;apply aM hJ _;have db:=dY (n:=i32) (by have:=t;omega);apply aM hJ _;refine ⟨u0.ak.length - (i32+1),aa,_,Le.sub (List.Sublist.cons _ (List.Sublist.refl _)),i32+1,(i32:Int),j,rfl,aa,I,rfl,?_⟩;simp only[*,go_sem]
  obtain rfl:=sI h;apply aK hJ;have db:=dY (n:=i32) (by have:=t;omega);apply aM hJ _;refine ⟨u0.ak.length - (i32+1),aa,_,Le.sub (List.Sublist.cons _ (List.Sublist.refl _)),i32+1,v30,o,rfl,aa,I,rfl,?_⟩;simp only[*,go_sem]
 have fr:=Nat.not_lt.2 H;refine cE hJ ?_;rw[List.drop_eq_nil_of_le H] at f;obtain rfl:=sI f;clear f;have h:=ab;dsimp only[az] at h;obtain rfl:=sI h;apply bJ;simp only[go_sem];apply aB hJ _;apply aO;simp only[*,go_sem]
def o6 (u0:ax)(b:Int):Option (Int×Int):=
 ai (iF u0 (fun y0=>mc y0 b)) fun a=>cond ((a.2 != 0)) (some (0,a.2)) (ai (mb a.1 (fun y0=>qt y0 a.1 b)) fun c=>some (c,0))
theorem BV {ro:Addr->Option Value}(f:dw ro)(u0:ax){s1:Value}(g:aH bK ro s1 u0.ak)(a:Int){r:(Int×Int)}(h:o6 u0 a=some r):aE Tryz.prog 21 #[cn u0 s1,.int .i64 a] ⟨ro,[]⟩ (fun v _=>v= .tuple #[.int .i64 r.1,.int .i64 r.2]):=by
 unfold o6 at h;refine aE.go Tryz.func21 rfl Tryz.ntmps21 Tryz.results21 an fun main J hJ A K hd hs=>?_;have L:=hs 0;have k1:=hs 1;clear hs;apply aB hJ _;refine bf fun t u w=>?_;try simp only[aN] at w
 refine bf fun d n x=>?_;try simp only[aN] at x
 try apply ag _
 apply ah hJ;refine aC hJ fun p=>?_;obtain ⟨i,q,s⟩:=iy (b:=d) (o:=(.cells #[.int .i64 a] 3)) [] ((t,bB u0 s1)::[]) p n (bg.cons u (bg.nil _));clear p;have e:b9 ro d (.cells #[.int .i64 a] 3) ⟨d,0,none⟩=some (.int .i64 a):=by rw[eY n];rfl
 generalize b9 ro d (.cells #[.int .i64 a] 3)=M at i q s e;refine cq hJ s ?_;replace g:=g.mono i;replace f:=f.mono i;simp only[bW] at q;apply aG hJ;revert h;refine bS fun j y h=>?_;apply ag _;refine cN hJ _ (ku f (bQ:=89) (bY:=#[]) (bZ:=#[.pointer (some ⟨d,0,none⟩)]) u0 g (fun y0=>mc y0 a) ⟨by simp only[go_sem],fun z c y0 _ B C k=>by simp only[go_sem];exact Gn y0 C a (c _ _ e) k⟩ y) fun v N D E hR=>?_;obtain ⟨O,P,rfl,l,m⟩:=hR;simp only[bW] at E;replace e:=D _ _ e;obtain ⟨d41,Q,rfl,R,S,-⟩:=id l;obtain ⟨d48,T,rfl,U,V,-⟩:=id m;apply aJ;try apply ag _
 refine bf fun F W G=>?_;try simp only[aN] at G
 try apply ag _
 refine ah hJ (aA hJ ?_);apply ag _;revert h;refine aV hJ (fun H h=>?_) fun H h=>?_
 .cases h;apply aB hJ _;apply aO;simp only[*,go_sem]
 refine aK hJ (ah hJ ?_);apply aG hJ;revert h;refine bS fun X I h=>?_;cases h;apply ag _;refine bh hJ _ (we (bQ:=91) (bY:=#[]) (bZ:=#[.pointer (some ⟨F,0,none⟩),.pointer (some ⟨d,0,none⟩)]) j.1 (l.mono aY) (m.mono aY) (fun y0=>qt y0 j.1 a) ⟨by simp only[go_sem],fun z c y0 B k=>by simp only[go_sem];exact Gl y0 j.1 (c _ _ (by simp only[af.dQ,go_sem, *])) (c _ _ (by simp only[af.dQ,go_sem, *])) ((l.mono aY).mono c) (c _ _ (by simp only[af.dQ,go_sem, *])) ((m.mono aY).mono c) (c _ _ (by simp only[af.dQ,go_sem, *])) a (c _ _ (aY _ _ e)) k⟩ I) (aJ ?_);try apply ag _
 apply aO;simp only[*,go_sem]
def lz (u0:ax)(b:Int):Option (Int×Int):=
 ai (iF u0 (fun y0=>mg y0 b)) fun a=>cond ((a.2 != 0)) (some (0,a.2)) (ai (mb a.1 (fun y0=>qu y0 b)) fun c=>some (c,0))
theorem th {ro:Addr->Option Value}(e:dw ro)(u0:ax){s1:Value}(f:aH bK ro s1 u0.ak)(a:Int){r:(Int×Int)}(h:lz u0 a=some r):aE Tryz.prog 18 #[cn u0 s1,.int .i64 a] ⟨ro,[]⟩ (fun v _=>v= .tuple #[.int .i64 r.1,.int .i64 r.2]):=by
 unfold lz at h;refine aE.go Tryz.func18 rfl Tryz.ntmps18 Tryz.results18 an fun main J hJ A I hd hs=>?_;have K:=hs 0;have k1:=hs 1;clear hs;apply aB hJ _;refine bf fun s t u=>?_;try simp only[aN] at u
 refine bf fun c k w=>?_;try simp only[aN] at w
 try apply ag _
 apply ah hJ;refine aC hJ fun l=>?_;obtain ⟨g,m,n⟩:=iy (b:=c) (o:=(.cells #[.int .i64 a] 3)) [] ((s,bB u0 s1)::[]) l k (bg.cons t (bg.nil _));clear l;have d:b9 ro c (.cells #[.int .i64 a] 3) ⟨c,0,none⟩=some (.int .i64 a):=by rw[eY k];rfl
 generalize b9 ro c (.cells #[.int .i64 a] 3)=L at g m n d;refine cq hJ n ?_;replace f:=f.mono g;replace e:=e.mono g;simp only[bW] at m;apply aG hJ;revert h;refine bS fun x y h=>?_;apply ag _;refine cN hJ _ (ku e (bQ:=79) (bY:=#[]) (bZ:=#[.pointer (some ⟨c,0,none⟩)]) u0 f (fun y0=>mg y0 a) ⟨by simp only[go_sem],fun z i y0 _ B C j=>by simp only[go_sem];exact Gv y0 C a (i _ _ d) j⟩ y) fun v M D E hR=>?_;obtain ⟨N,O,rfl,p,q⟩:=hR;simp only[bW] at E;replace d:=D _ _ d;obtain ⟨d41,P,rfl,Q,R,-⟩:=id p;obtain ⟨d48,S,rfl,T,U,-⟩:=id q;apply aJ;try apply ag _
 refine bf fun V W F=>?_;try simp only[aN] at F
 try apply ag _
 refine ah hJ (aA hJ ?_);apply ag _;revert h;refine aV hJ (fun G h=>?_) fun G h=>?_
 .cases h;apply aB hJ _;apply aO;simp only[*,go_sem]
 refine aK hJ (ah hJ ?_);apply aG hJ;revert h;refine bS fun X H h=>?_;cases h;apply ag _;refine bh hJ _ (we (bQ:=82) (bY:=#[]) (bZ:=#[.pointer (some ⟨c,0,none⟩)]) x.1 (p.mono aY) (q.mono aY) (fun y0=>qu y0 a) ⟨by simp only[go_sem],fun z i y0 B j=>by simp only[go_sem];exact Gw y0 a (i _ _ (aY _ _ d)) j⟩ H) (aJ ?_);try apply ag _
 apply aO;simp only[*,go_sem]
def tj (u0:ax):Option (ax×Int):=
 ai (iF u0 iA) fun a=>cond ((a.2 != 0)) (some ((⟨0,0,([]:(List aS))⟩:ax),a.2)) (some (u0,0))
theorem xo {ro:Addr->Option Value}(d:dw ro)(u0:ax){s1:Value}(a:aH bK ro s1 u0.ak){r:(ax×Int)}(h:tj u0=some r):eZ Tryz.prog 122 #[cn u0 s1] ro (fun v aF=>∃c,v= .tuple #[cn r.1 c,.int .i64 r.2]/\aH bK aF c r.1.ak):=by
 unfold tj at h;have e:=a.oc;simp only[dP] at e;refine aE.go Tryz.func122 rfl Tryz.ntmps122 Tryz.results122 an fun main J hJ A p hd hs=>?_;have q:=hs 0;clear hs;apply aB hJ _;refine bf fun s t f=>?_;try simp only[aN] at f
 refine bf fun u w g=>?_;try simp only[aN] at g
 try apply ag _
 refine ah hJ (aA hJ ?_);revert h;refine bS fun x i h=>?_;apply ag _;refine cN hJ _ (ku d (bQ:=87) (bY:=#[]) (bZ:=#[]) u0 a iA ⟨by simp only[go_sem],fun y z y0 _ _ j h=>by simp only[go_sem];exact sH y0 j h⟩ i) fun v B b k hR=>?_;obtain ⟨C,D,rfl,l,m⟩:=hR;replace a:=a.mono b;simp only[bW] at k;obtain ⟨d17,E,rfl,F,G,-⟩:=id l;obtain ⟨d24,H,rfl,I,K,-⟩:=id m;apply aJ;try apply ag _
 refine bf fun L M n=>?_;try simp only[aN] at n
 try apply ag _
 apply aB hJ _;revert h;refine aV hJ (fun o h=>?_) fun o h=>?_
 .cases h;apply aB hJ _;refine b5 ?_;exact ⟨_,b,Le.sub (List.nil_sublist _),_,rfl,aH.nil _ _⟩
 cases h;refine aK hJ (ah hJ ?_);apply aM hJ _;refine b5 ?_;exact ⟨_,b,Le.sub (List.nil_sublist _),_,rfl,a⟩
def o7 (a:(aT->Option Int))(i23:Nat)(b:aT)(st:(List Int)):Option (Fl (List Int) (List Int)):=
 ai (a b) fun c=>ai (jI st ([c])) fun d=>some (.nx d)
def o8 (u0:dD)(a:(aT->Option Int)):Option (List Int):=
 ai (b7 (o7 a) 0 u0.bF ([]:List Int)) fun o=>az o (fun b=>ai (qO b) fun c=>ai (sU c.2) fun d=>some d) (fun _ _=>none) (fun r=>some r)
theorem BW {ro:Addr->Option Value}(u0:dD){s1:Value}(ck:aH bK ro s1 u0.round.ak){u:Value}(w:aH iQ ro u u0.bF)(p:(aT->Option Int)){bQ:FuncId}{bY bZ:Array Value}(Q:aI Tryz.prog bQ=true/\∀(aF:Addr->Option Value),Ext ro aF->∀(y0:aT) (z:Int),p y0=some z->aE Tryz.prog bQ (bY++#[y0.v]++bZ) ⟨aF,[]⟩ (fun v _=>v= .int .i64 z)){r:(List Int)}(h:o8 u0 p=some r):eZ Tryz.prog 85 #[.agg #[.int .i64 u0.round.steps,.int .i64 u0.round.aR,s1,u],.func (.func bQ) bY bZ] ro (fun v aF=>∃y,v=y/\aH rI aF y r):=by
 obtain ⟨d10,c,rfl,cl,R,-⟩:=id w;unfold o8 at h;refine aE.go Tryz.func85 rfl Tryz.ntmps85 Tryz.results85 an fun main J hJ A S hd hs=>?_;have T:=hs 0;have k1:=hs 1;clear hs;apply aB hJ _;refine bf fun d U V=>?_;try simp only[aN] at V
 try apply ag _
 apply aB hJ _;refine ah hJ (aA hJ ?_);apply ag _;apply aU hJ;revert h;refine bS fun W f X=>?_;refine bP hJ (rg 11 11 [5,7]) (fun m B F'=>∃(i23:Nat) (d17:Option Addr) (j:Nat) (q:List (Nat×Obj)) (e:(List Int)),m=u0.bF.length - i23/\i23<=u0.bF.length/\b7 (o7 p) i23 (u0.bF.drop i23) e=some W/\F'=⟨ro,(d,.cells #[.int .i64 u0.round.steps,.int .i64 u0.round.aR,s1,.slice d10 u0.bF.length c] 104)::q⟩/\aW rI ro 3 (.slice d17 e.length j) e q/\e.length<=j/\slot B 11= .int .i64 (i23:Int)/\slot B 5= .slice d17 e.length j) u0.bF.length ?_ ?_
 .refine ⟨0,none,0,[],([]:List Int),(Nat.sub_zero _).symm,Nat.zero_le _,f,rfl,aW.nil _ _ _,Nat.le_refl _,?_⟩;simp only[*,go_sem]
 rintro cv cy F' C ⟨i23,d17,j,q,e,rfl,cS,f,rfl,D,c0,da,db⟩;obtain ⟨Y,Z,ab⟩:=C.pick [1,4,9,10] aL;simp only[*,go_sem] at Y Z ab;clear C S hd T k1;apply aB hJ _;apply ah hJ;rcases Nat.lt_or_ge i23 u0.bF.length with ad|E
 .refine cO hJ ?_;apply aK hJ;obtain ⟨k,s⟩:∃x,u0.bF[i23]?=some x:=⟨_,List.getElem?_eq_getElem ad⟩
  rw[e4 s] at f;revert f;refine bS fun dd h ae=>?_;unfold o7 at h;try dsimp only at h
  obtain ⟨F,al,ao,ar,b⟩:=w.el _ _ s;obtain rfl:al=k.cells:=ar;cases ao;have a0:=b 0 _ rfl;simp only[go_sem] at a0;have a2:=b 1 _ rfl;simp only[go_sem] at a2;have a3:=b 2 _ rfl;simp only[go_sem] at a3;have a4:=b 3 _ rfl;simp only[go_sem] at a4;have a5:=b 4 _ rfl;simp only[go_sem] at a5;have a6:=b 5 _ rfl;simp only[go_sem] at a6;have a7:=b 6 _ rfl;simp only[go_sem] at a7;have a8:=b 7 _ rfl;simp only[go_sem] at a8;have a9:=b 8 _ rfl;simp only[go_sem] at a9;clear b s;refine ah hJ (aU hJ (ah hJ ?_));refine aC hJ fun ba=>?_;apply aM hJ _;refine bf fun G df H=>?_;have dk:=bO.cons H ba;try simp only[aN] at H
  try apply ag _
  refine aC hJ fun bb=>?_;apply aG hJ;revert h;refine bS fun o bc h=>?_;apply ag _;refine bh hJ _ (Q.2 _ (fun a v h=>aY a v h) k _ bc) (aJ ?_);revert h;refine bS fun bd bj h=>?_;cases h;obtain ⟨bk,I⟩:=nF bj;try apply ag _
  refine bf fun K bm L=>?_;have bo:=bO.cons L bb;try simp only[aN] at L
  try apply ag _
  refine vG (r:=rI) (l:=e) (x:=o) (cs:=#[.int .i64 o]) (e2:=3) [(K,.cells #[.int .i64 o] 3),(G,gw k),(d,.cells #[.int .i64 u0.round.steps,.int .i64 u0.round.aR,s1,.slice (some F) u0.bF.length c] 104)] [] D bo bk rfl bx bm rfl rfl nW nW vH sr rfl vI aL aL (fun dp M t g i dq=>?_);simp only[bN] at i;subst g;rw[<-I] at t;clear I;obtain ⟨d45,br,rfl,bs⟩:=t.len;refine ⟨⟨ro,(K,.cells #[.int .i64 o] 3)::(G,gw k)::(d,.cells #[.int .i64 u0.round.steps,.int .i64 u0.round.aR,s1,.slice (some F) u0.bF.length c] 104)::M⟩,Le.refl _,?_⟩;apply aJ;try apply ag _
  have ds:=dY (n:=i23) (by have:=R;omega);apply aM hJ _;refine ⟨u0.bF.length - (i23+1),aa,_,Le.sub (List.Sublist.cons _ (List.Sublist.cons _ (List.Sublist.refl _))),i23+1,d45,br,M,bd,rfl,aa,ae,rfl,t,bs,?_⟩;simp only[*,go_sem]
 have dt:=Nat.not_lt.2 E;refine cE hJ ?_;rw[List.drop_eq_nil_of_le E] at f;obtain rfl:=sI f;clear f;have h:=X;dsimp only[az] at h;apply bJ;simp only[go_sem];apply ah hJ;refine aC hJ fun du=>?_;apply aG hJ;revert h;refine bS fun b0 b1 h=>?_;apply ag _;refine en hJ [(d,.cells #[.int .i64 u0.round.steps,.int .i64 u0.round.aR,s1,.slice d10 u0.bF.length c] 104)] [] _ (GZ e D b1) (fun dv b2 b3 g i dC=>?_);obtain ⟨rfl,b4⟩:=b3;simp only[bN] at i;subst g;refine ⟨⟨ro,(d,.cells #[.int .i64 u0.round.steps,.int .i64 u0.round.aR,s1,.slice d10 u0.bF.length c] 104)::b2⟩,Le.refl _,?_⟩;try apply ag _
 apply ah hJ;refine aC hJ fun dE=>?_;apply aG hJ;revert h;refine bS fun dT ca h=>?_;cases h;apply ag _;refine en hJ [(d,.cells #[.int .i64 u0.round.steps,.int .i64 u0.round.aR,s1,.slice d10 u0.bF.length c] 104)] [] _ (G0 b0.2 b4 ca) (fun ea cb N g i eb=>?_);simp only[bN] at i;subst g;obtain ⟨d62,ec,rfl,ed⟩:=N.len;refine ⟨⟨ro,(d,.cells #[.int .i64 u0.round.steps,.int .i64 u0.round.aR,s1,.slice d10 u0.bF.length c] 104)::cb⟩,Le.refl _,?_⟩;apply aJ;try apply ag _
 refine aC hJ fun O=>?_;obtain ⟨eh,cc,cd,P,cf⟩:=N.ql [(d,.cells #[.int .i64 u0.round.steps,.int .i64 u0.round.aR,s1,.slice d10 u0.bF.length c] 104)] [] O (bg.cons U (bg.nil _));clear O;refine cq hJ cf ?_;obtain ⟨et,ev,-⟩:=P.op;simp only[bW] at cd;refine b5 ?_;exact ⟨_,cc,Le.sub (List.nil_sublist _),_,rfl,P⟩
def g6 (u0:ax)(b:Int):Option ((List Int)×Int):=
 ai (iF u0 (fun y0=>jO y0 b)) fun a=>cond ((a.2 != 0)) (some (([]:(List Int)),a.2)) (ai (o8 a.1 (fun y0=>og y0 b)) fun c=>some (c,0))
theorem q7 {ro:Addr->Option Value}(g:dw ro)(u0:ax){s1:Value}(f:aH bK ro s1 u0.ak)(a:Int){r:((List Int)×Int)}(h:g6 u0 a=some r):eZ Tryz.prog 19 #[cn u0 s1,.int .i64 a] ro (fun v aF=>∃l,v= .tuple #[l,.int .i64 r.2]/\aH rI aF l r.1):=by
 unfold g6 at h;have x:=f.oc;simp only[dP] at x;refine aE.go Tryz.func19 rfl Tryz.ntmps19 Tryz.results19 an fun main J hJ A Q hd hs=>?_;have R:=hs 0;have k1:=hs 1;clear hs;apply aB hJ _;refine bf fun y z B=>?_;try simp only[aN] at B
 refine bf fun d m C=>?_;try simp only[aN] at C
 try apply ag _
 apply ah hJ;refine aC hJ fun n=>?_;obtain ⟨e,p,q⟩:=iy (b:=d) (o:=(.cells #[.int .i64 a] 3)) [] ((y,bB u0 s1)::[]) n m (bg.cons z (bg.nil _));clear n;have c:b9 ro d (.cells #[.int .i64 a] 3) ⟨d,0,none⟩=some (.int .i64 a):=by rw[eY m];rfl
 generalize b9 ro d (.cells #[.int .i64 a] 3)=S at e p q c;refine cq hJ q ?_;replace f:=f.mono e;replace g:=g.mono e;simp only[bW] at p;apply aG hJ;revert h;refine bS fun D E h=>?_;apply ag _;refine cN hJ _ (ku g (bQ:=84) (bY:=#[]) (bZ:=#[.pointer (some ⟨d,0,none⟩)]) u0 f (fun y0=>jO y0 a) ⟨by simp only[go_sem],fun F i y0 _ G H j=>by simp only[go_sem];exact Gq y0 H a (i _ _ c) j⟩ E) fun v T k I hR=>?_;obtain ⟨U,V,rfl,s,t⟩:=hR;have K:=s.oc;simp only[dP] at K;have L:=t.oc;simp only[dP] at L;simp only[bW] at I;replace c:=k _ _ c;apply aJ;try apply ag _
 refine bf fun W X M=>?_;try simp only[aN] at M
 try apply ag _
 refine ah hJ (aA hJ ?_);apply ag _;revert h;refine aV hJ (fun N h=>?_) fun N h=>?_
 .cases h;apply aB hJ _;refine b5 ?_;exact ⟨_,(e).trans k,Le.sub (List.nil_sublist _),_,rfl,aH.nil _ _⟩
 refine aK hJ (ah hJ ?_);apply aG hJ;revert h;refine bS fun Y O h=>?_;cases h;apply ag _;refine cN hJ _ (BW (bQ:=86) (bY:=#[]) (bZ:=#[.pointer (some ⟨d,0,none⟩)]) D.1 s t (fun y0=>og y0 a) ⟨by simp only[go_sem],fun F i y0 G j=>by simp only[go_sem];exact Gs y0 a (i _ _ c) j⟩ O) fun v Z u P hR=>?_;obtain ⟨ab,rfl,w⟩:=hR;simp only[bW] at P;replace c:=u _ _ c;obtain ⟨d62,ad,rfl,ae,al,-⟩:=id w;apply aJ;try apply ag _
 refine b5 ?_;exact ⟨_,((e).trans k).trans u,Le.sub (List.nil_sublist _),_,rfl,w⟩
def lA (u0:ax)(b:Int):Option ((List Int)×Int):=
 ai (iF u0 (fun y0=>me y0 b)) fun a=>cond ((a.2 != 0)) (some (([]:(List Int)),a.2)) (ai (o8 a.1 (fun y0=>oh y0 b)) fun c=>some (c,0))
theorem xp {ro:Addr->Option Value}(g:dw ro)(u0:ax){s1:Value}(f:aH bK ro s1 u0.ak)(a:Int){r:((List Int)×Int)}(h:lA u0 a=some r):eZ Tryz.prog 28 #[cn u0 s1,.int .i64 a] ro (fun v aF=>∃l,v= .tuple #[l,.int .i64 r.2]/\aH rI aF l r.1):=by
 unfold lA at h;have x:=f.oc;simp only[dP] at x;refine aE.go Tryz.func28 rfl Tryz.ntmps28 Tryz.results28 an fun main J hJ A Q hd hs=>?_;have R:=hs 0;have k1:=hs 1;clear hs;apply aB hJ _;refine bf fun y z B=>?_;try simp only[aN] at B
 refine bf fun d m C=>?_;try simp only[aN] at C
 try apply ag _
 apply ah hJ;refine aC hJ fun n=>?_;obtain ⟨e,p,q⟩:=iy (b:=d) (o:=(.cells #[.int .i64 a] 3)) [] ((y,bB u0 s1)::[]) n m (bg.cons z (bg.nil _));clear n;have c:b9 ro d (.cells #[.int .i64 a] 3) ⟨d,0,none⟩=some (.int .i64 a):=by rw[eY m];rfl
 generalize b9 ro d (.cells #[.int .i64 a] 3)=S at e p q c;refine cq hJ q ?_;replace f:=f.mono e;replace g:=g.mono e;simp only[bW] at p;apply aG hJ;revert h;refine bS fun D E h=>?_;apply ag _;refine cN hJ _ (ku g (bQ:=99) (bY:=#[]) (bZ:=#[.pointer (some ⟨d,0,none⟩)]) u0 f (fun y0=>me y0 a) ⟨by simp only[go_sem],fun F i y0 _ G H j=>by simp only[go_sem];exact Gt y0 H a (i _ _ c) j⟩ E) fun v T k I hR=>?_;obtain ⟨U,V,rfl,s,t⟩:=hR;have K:=s.oc;simp only[dP] at K;have L:=t.oc;simp only[dP] at L;simp only[bW] at I;replace c:=k _ _ c;apply aJ;try apply ag _
 refine bf fun W X M=>?_;try simp only[aN] at M
 try apply ag _
 refine ah hJ (aA hJ ?_);apply ag _;revert h;refine aV hJ (fun N h=>?_) fun N h=>?_
 .cases h;apply aB hJ _;refine b5 ?_;exact ⟨_,(e).trans k,Le.sub (List.nil_sublist _),_,rfl,aH.nil _ _⟩
 refine aK hJ (ah hJ ?_);apply aG hJ;revert h;refine bS fun Y O h=>?_;cases h;apply ag _;refine cN hJ _ (BW (bQ:=100) (bY:=#[]) (bZ:=#[.pointer (some ⟨d,0,none⟩)]) D.1 s t (fun y0=>oh y0 a) ⟨by simp only[go_sem],fun F i y0 G j=>by simp only[go_sem];exact Gu y0 a (i _ _ c) j⟩ O) fun v Z u P hR=>?_;obtain ⟨ab,rfl,w⟩:=hR;simp only[bW] at P;replace c:=u _ _ c;obtain ⟨d62,ad,rfl,ae,al,-⟩:=id w;apply aJ;try apply ag _
 refine b5 ?_;exact ⟨_,((e).trans k).trans u,Le.sub (List.nil_sublist _),_,rfl,w⟩
def xq (u0 a:Int):Option (Int->Option Bool):=some fun y=>sF y u0 a
theorem BX {ro:Addr->Option Value}(u0 b:Int){r:Int->Option Bool}(h:xq u0 b=some r):
  eZ Tryz.prog 161 #[.int .i64 u0,.int .i64 b] ro (fun v aF=>∃f a c,v= .func (.func f) a c/\aI Tryz.prog f=true/\∀(d:Addr->Option Value),Ext aF d->∀(y0:Int) (z:Bool),r y0=some z->aE Tryz.prog f (a++#[.int .i64 y0]++c) ⟨d,[]⟩ (fun v _=>v= .bool z)):=by
 obtain rfl:(fun y=>sF y u0 b)=r:=Option.some.inj h
 clear h
 refine aE.go Tryz.func161 rfl Tryz.ntmps161 Tryz.results161 an fun main J hJ A q hd hs=>?_
 have s:=hs 0
 have k1:=hs 1
 clear hs
 repeat refine ah hJ ?_
 refine aG hJ ?_
 apply ag _
 intro b2 f2;have r2:=cT f2;have t:=cY f2
 try apply ag _
 intro u e;have i:=cT e;have j:=cY e
 simp only[aN] at j
 try apply ag _
 repeat refine ah hJ ?_
 refine aG hJ ?_
 apply ag _
 repeat refine ah hJ ?_
 refine aC hJ fun nd=>?_
 obtain ⟨k,l,hle,m,n⟩:=BP nd (bg.cons i (bg.cons r2 (bg.nil _)))
 refine aO ?_
 apply ag _
 refine ⟨k,l,hle,_,_,_,rfl,by simp only[go_sem],fun d g y z o=>?_⟩
 have g0:=g _ _ (m 0 (.int .i64 u0) rfl)
 have p:=g _ _ (n 0 (.int .i64 b) rfl)
 simp only[go_sem]
 exact Gj y u0 g0 b p o
def xu (a:(Int->Option Bool))(i9:Nat)(b:Int)(st:Int):Option (Fl Int Int):=
 ai (a b) fun c=>cond (c) (some (.rt (i9:Int))) (some (.nx st))
def xw (u0:(List Int))(a:(Int->Option Bool)):Option Int:=
 ai (b7 (xu a) 0 u0 0) fun o=>az o (fun b=>some (-1)) (fun _ _=>none) (fun r=>some r)
theorem IP {ro:Addr->Option Value}(u0:(List Int)){s1:Value}(g:aH rI ro s1 u0)(d:(Int->Option Bool)){bQ:FuncId}{bY bZ:Array Value}(q:aI Tryz.prog bQ=true/\∀(aF:Addr->Option Value),Ext ro aF->∀(y0:Int) (z:Bool),d y0=some z->aE Tryz.prog bQ (bY++#[.int .i64 y0]++bZ) ⟨aF,[]⟩ (fun v _=>v= .bool z)){r:Int}(h:xw u0 d=some r):aE Tryz.prog 200 #[s1,.func (.func bQ) bY bZ] ⟨ro,[]⟩ (fun v _=>v= .int .i64 r):=by
 obtain ⟨d3,c4,rfl,L,s,-⟩:=id g;unfold xw at h;refine aE.go Tryz.func200 rfl Tryz.ntmps200 Tryz.results200 an fun main J hJ A t hd hs=>?_;have u:=hs 0;have k1:=hs 1;clear hs;apply aB hJ _;refine ah hJ (aA hJ ?_);apply ag _;apply aU hJ;revert h;refine bS fun w b i=>?_;refine bP hJ (rg 8 11 [4,5]) (fun m j F'=>∃(i9:Nat) (c:Int),m=u0.length - i9/\i9<=u0.length/\b7 (xu d) i9 (u0.drop i9) c=some w/\F'=⟨ro,[]⟩/\slot j 8= .int .i64 (i9:Int)/\slot j 4= .int .i64 c) u0.length ?_ ?_
 .refine ⟨0,0,(Nat.sub_zero _).symm,Nat.zero_le _,b,rfl,?_⟩;simp only[*,go_sem]
 rintro M N F' k ⟨i9,c,rfl,O,b,rfl,P,Q⟩;obtain ⟨y,B,C⟩:=k.pick [0,1,7] aL;simp only[*,go_sem] at y B C;clear k t hd u k1;apply aB hJ _;apply ah hJ;rcases Nat.lt_or_ge i9 u0.length with D|l
 .refine cO hJ ?_;apply aK hJ;obtain ⟨o,e⟩:∃x,u0[i9]?=some x:=⟨_,List.getElem?_eq_getElem D⟩
  rw[e4 e] at b;revert b;refine bS fun R h f=>?_;unfold xu at h;try dsimp only at h
  obtain ⟨S,E,F,G,p⟩:=g.el _ _ e;obtain rfl:E=[.int .i64 o]:=G;cases F;have H:=p 0 _ rfl;simp only[go_sem] at H;clear p e;refine ah hJ (aU hJ (ah hJ ?_));apply aM hJ _;apply aA hJ;revert h;refine bS fun T I h=>?_;apply ag _;refine bh hJ _ (q.2 _ (fun a v h=>aY a v h) o _ I) ?_;try apply ag _
  revert h;refine aV hJ (fun K h=>?_) fun K h=>?_
  .obtain rfl:=sI h;apply aB hJ _;obtain rfl:=sI f;clear f;have h:=i;dsimp only[az] at h;obtain rfl:=sI h;apply aO;simp only[*,go_sem]
  obtain rfl:=sI h;apply aK hJ;have U:=dY (n:=i9) (by have:=s;omega);apply aM hJ _;refine ⟨u0.length - (i9+1),aa,_,Le.sub (List.Sublist.refl _),i9+1,c,rfl,aa,f,rfl,?_⟩;simp only[*,go_sem]
 have V:=Nat.not_lt.2 l;refine cE hJ ?_;rw[List.drop_eq_nil_of_le l] at b;obtain rfl:=sI b;clear b;have h:=i;dsimp only[az] at h;obtain rfl:=sI h;apply bJ;simp only[go_sem];apply aB hJ _;apply aO;simp only[*,go_sem]
def tn (u0:(List Int))(a:(Int->Option Bool)):Option Bool:=
 ai (xw u0 a) fun b=>some (decide (0<=b))
theorem BY {ro:Addr->Option Value}(u0:(List Int)){s1:Value}(b:aH rI ro s1 u0)(a:(Int->Option Bool)){bQ:FuncId}{bY bZ:Array Value}(c:aI Tryz.prog bQ=true/\∀(aF:Addr->Option Value),Ext ro aF->∀(y0:Int) (z:Bool),a y0=some z->aE Tryz.prog bQ (bY++#[.int .i64 y0]++bZ) ⟨aF,[]⟩ (fun v _=>v= .bool z)){r:Bool}(h:tn u0 a=some r):aE Tryz.prog 163 #[s1,.func (.func bQ) bY bZ] ⟨ro,[]⟩ (fun v _=>v= .bool r):=by
 obtain ⟨d3,c4,rfl,f,g,-⟩:=id b;unfold tn at h;refine aE.go Tryz.func163 rfl Tryz.ntmps163 Tryz.results163 an fun main J hJ A i hd hs=>?_;have j:=hs 0;have k1:=hs 1;clear hs;apply aB hJ _;apply aA hJ;revert h;refine bS fun k d h=>?_;obtain rfl:=sI h;apply ag _;refine bh hJ _ (IP (bQ:=bQ) (bY:=bY) (bZ:=bZ) u0 (b.mono aY) a ⟨c.1,fun _ e=>c.2 _ (Ext.trans aY e)⟩ d) (aJ ?_);try apply ag _
 apply aO;simp only[*,go_sem]
def tq (u0:ax)(a:eJ):Option (aT×Int):=
 cond (((a.au.length:Int) != (u0.ak.length:Int))) (some ((⟨(⟨0,0,0,0⟩:aZ),(⟨0,0,0,0⟩:aZ),0⟩:aT),2)) (cond (((a.av.length:Int) != (u0.ak.length:Int))) (some ((⟨(⟨0,0,0,0⟩:aZ),(⟨0,0,0,0⟩:aZ),0⟩:aT),2)) (ai (xq 0 (IntKind.i64.wrap (u0.steps - 1))) fun c=>ai (tn a.au c) fun d=>cond (d) (some ((⟨(⟨0,0,0,0⟩:aZ),(⟨0,0,0,0⟩:aZ),0⟩:aT),1)) (ai (xq (-3) 3) fun e=>ai (tn a.av e) fun f=>cond (f) (some ((⟨(⟨0,0,0,0⟩:aZ),(⟨0,0,0,0⟩:aZ),0⟩:aT),1)) (ai (vS a.aR (u0.ak.length:Int)) fun b=>cond ((b != 0)) (some ((⟨(⟨0,0,0,0⟩:aZ),(⟨0,0,0,0⟩:aZ),0⟩:aT),b)) (ai (vV a.aR) fun g=>some ((⟨(⟨(a.au.getD 0 0),(a.au.getD 1 0),(a.au.getD 2 0),(a.au.getD 3 0)⟩:aZ),(⟨(a.av.getD 0 0),(a.av.getD 1 0),(a.av.getD 2 0),(a.av.getD 3 0)⟩:aZ),g⟩:aT),0))))))
theorem BZ {ro:Addr->Option Value}(u0:ax){s1:Value}(H:aH bK ro s1 u0.ak)(a:eJ){C:Value}(c:aH rI ro C a.au){D:Value}(d:aH rI ro D a.av){b:Value}(m:aH rI ro b a.aR){r:(aT×Int)}(h:tq u0 a=some r):aE Tryz.prog 131 #[cn u0 s1,.agg #[C,D,b]] ⟨ro,[]⟩ (fun v _=>v= .tuple #[r.1.v,.int .i64 r.2]):=by
 obtain ⟨d3,c4,rfl,bb,bc,-⟩:=id H;obtain ⟨d10,f,rfl,bd,bj,-⟩:=id c;obtain ⟨d17,g,rfl,bk,bm,-⟩:=id d;unfold tq at h;refine aE.go Tryz.func131 rfl Tryz.ntmps131 Tryz.results131 an fun main J hJ A x hd hs=>?_;have y:=hs 0;have k1:=hs 1;clear hs;apply aB hJ _;refine bf fun i n I=>?_;try simp only[aN] at I
 refine bf fun j o K=>?_;try simp only[aN] at K
 refine bf fun k p L=>?_;try simp only[aN] at L
 try apply ag _
 apply aB hJ _;refine ah hJ (aU hJ (ah hJ ?_));apply aG hJ;revert h;refine cS (fun M h=>?_) fun M h=>?_
 .obtain rfl:=sI h;try apply ag _
  refine cO hJ ?_;apply aB hJ _;apply aO;simp only[*,go_sem]
 try apply ag _
 revert h;refine aV hJ (fun N h=>?_) fun N h=>?_
 .obtain rfl:=sI h;apply aB hJ _;apply aO;simp only[*,go_sem]
 apply ah hJ;refine ey hJ mixed [] (.pure 0 (.rd 1 (.pure 2 (.pure 3 (.pure 4 (.rd 5 (.pure 6 (.one 7 (.one 8 (.pure 9 (.pure 10 (.rd 11 (.pure 12 (.one 13 (.one 14 (.pure 15 (.pure 16 .done))))))))))))))))) ⟨ro,[(k,.cells #[.int .i64 0,.int .i64 0,.int .i64 0,.int .i64 0,.int .i64 0,.int .i64 0,.int .i64 0,.int .i64 0,.int .u64 0] 114),(j,.cells #[.slice d10 a.au.length f,.slice d17 a.av.length g,b] 80),(i,dM u0 (sl d3 u0.ak c4))]⟩ bx aj ?_;revert h;refine bS fun O P h=>?_;apply ag _;refine cN hJ _ (BX 0 (IntKind.i64.wrap (u0.steps - 1)) P) fun v bo q u hR=>?_;obtain ⟨Q,R,S,rfl,s⟩:=hR;have br:=p;have bs:=o;have b0:=n;replace c:=c.mono q;replace d:=d.mono q;replace m:=m.mono q;replace p:=u.hd;replace o:=u.tl.hd;replace n:=u.tl.tl.hd;simp only[bW] at u;have b1:=jh (l:=[(k,.cells #[.int .i64 0,.int .i64 0,.int .i64 0,.int .i64 0,.int .i64 0,.int .i64 0,.int .i64 0,.int .i64 0,.int .u64 0] 114),(j,.cells #[.slice d10 a.au.length f,.slice d17 a.av.length g,b] 80),(i,dM u0 (sl d3 u0.ak c4))]) q (bg.cons p (bg.cons o (bg.cons n (bg.nil _))));refine ⟨bx,?_⟩;refine gT ?_;revert h;refine bS fun b2 T h=>?_;try apply ag _
 refine bh hJ _ (BY (bQ:=Q) (bY:=R) (bZ:=S) a.au (c.mono aY) O ⟨s.1,fun _ z=>s.2 _ (Ext.trans aY z)⟩ T) ⟨bx,gT ?_⟩;revert h;refine cS (fun U h=>?_) fun U h=>?_
 .obtain rfl:=sI h;try apply ag _
  refine cO hJ ?_;apply ah hJ;refine e5 [2,3,4,5] fun b3 V W X=>?_;simp only[*,go_sem] at V W X;clear x hd y k1;apply aM hJ _;apply aO;simp only[*,go_sem]
 revert h;refine bS fun Y Z h=>?_;try apply ag _
 refine cN hJ _ (BX (-3) 3 Z) fun v B t w hR=>?_;obtain ⟨ab,ad,ae,rfl,E⟩:=hR;have b4:=p;have ca:=o;have cb:=n;replace c:=c.mono t;replace d:=d.mono t;replace m:=m.mono t;replace p:=w.hd;replace o:=w.tl.hd;replace n:=w.tl.tl.hd;simp only[bW] at w;replace s:=And.intro s.1 fun F (al:Ext B F)=>s.2 F (t.trans al);have cc:=jh (l:=[(k,.cells #[.int .i64 0,.int .i64 0,.int .i64 0,.int .i64 0,.int .i64 0,.int .i64 0,.int .i64 0,.int .i64 0,.int .u64 0] 114),(j,.cells #[.slice d10 a.au.length f,.slice d17 a.av.length g,b] 80),(i,dM u0 (sl d3 u0.ak c4))]) (q.trans t) (bg.cons p (bg.cons o (bg.cons n (bg.nil _))));refine ⟨bx,?_⟩;refine gT ?_;revert h;refine bS fun cd ao h=>?_;try apply ag _
 refine bh hJ _ (BY (bQ:=ab) (bY:=ad) (bZ:=ae) a.av (d.mono aY) Y ⟨E.1,fun _ z=>E.2 _ (Ext.trans aY z)⟩ ao) ⟨bx,gT ?_⟩;try apply ag _
 revert h;refine aV hJ (fun ar h=>?_) fun ar h=>?_
 .obtain rfl:=sI h;apply ah hJ;refine e5 [2,3,4,5] fun cf a0 a2 a3=>?_;simp only[*,go_sem] at a0 a2 a3;clear x hd y k1;apply aM hJ _;apply aO;simp only[*,go_sem]
 refine aK hJ (ah hJ ?_);apply ah hJ;refine e5 [2,3,4,5] fun ck a4 a5 a6=>?_;simp only[*,go_sem] at a4 a5 a6;clear x hd y k1;apply aG hJ;revert h;refine bS fun cl a7 h=>?_;apply ag _;refine bh hJ _ (Gc a.aR (m.mono aY) (u0.ak.length:Int) a7) (aJ ?_);try apply ag _
 apply aB hJ _;revert h;refine aV hJ (fun a8 h=>?_) fun a8 h=>?_
 .obtain rfl:=sI h;apply aB hJ _;apply aO;simp only[*,go_sem]
 refine aK hJ (ah hJ ?_);apply aG hJ;revert h;refine bS fun G a9 h=>?_;obtain rfl:=sI h;apply ag _;refine bh hJ _ (Gd a.aR (m.mono aY) a9) (aJ ?_);try apply ag _
 refine bf fun cv cy ba=>?_;try simp only[aN] at ba
 try apply ag _
 apply ah hJ;refine eN hJ mixed 4 ⟨B,[(k,.cells #[.int .i64 0,.int .i64 0,.int .i64 0,.int .i64 0,.int .i64 0,.int .i64 0,.int .i64 0,.int .i64 0,.int .u64 0] 114),(j,.cells #[.slice d10 a.au.length f,.slice d17 a.av.length g,b] 80),(i,dM u0 (sl d3 u0.ak c4))]⟩ bx aj ?_;apply ag _;refine AQ (e:=3) (pre:=[]) (bq:=(k,.cells #[.int .i64 0,.int .i64 0,.int .i64 0,.int .i64 0,.int .i64 0,.int .i64 0,.int .i64 0,.int .i64 0,.int .u64 0] 114)::(j,.cells #[.slice d10 a.au.length f,.slice d17 a.av.length g,b] 80)::(i,dM u0 (sl d3 u0.ak c4))::[]) [] [.int .i64 0,.int .i64 0,.int .i64 0,.int .i64 0,.int .u64 G] 0 rfl rfl aj aj c (by simp only[aN,keys,List.map_nil,List.not_mem_nil,not_false_eq_true]) ?_;refine ⟨by simp only[List.nil_append,go_sem, *],?_⟩;try apply ag _
 apply ah hJ;refine eN hJ mixed 4 ⟨B,[(k,.cells #[.int .i64 0,.int .i64 0,.int .i64 0,.int .i64 0,.int .i64 0,.int .i64 0,.int .i64 0,.int .i64 0,.int .u64 0] 114),(j,.cells #[.slice d10 a.au.length f,.slice d17 a.av.length g,b] 80),(i,dM u0 (sl d3 u0.ak c4))]⟩ bx aj ?_;apply ag _;refine AQ (e:=3) (pre:=[]) (bq:=(k,.cells #[.int .i64 0,.int .i64 0,.int .i64 0,.int .i64 0,.int .i64 0,.int .i64 0,.int .i64 0,.int .i64 0,.int .u64 0] 114)::(j,.cells #[.slice d10 a.au.length f,.slice d17 a.av.length g,b] 80)::(i,dM u0 (sl d3 u0.ak c4))::[]) [.int .i64 (a.au.getD 0 0),.int .i64 (a.au.getD 1 0),.int .i64 (a.au.getD 2 0),.int .i64 (a.au.getD 3 0)] [.int .u64 G] 4 rfl rfl aj aj d (by simp only[aN,keys,List.map_nil,List.not_mem_nil,not_false_eq_true]) ?_;refine ⟨by simp only[List.nil_append,go_sem, *],?_⟩;try apply ag _
 apply aB hJ _;apply aO;simp only[*,go_sem]
def tr (u0:ax)(f:eJ)(a:Int)(c:Int):Option (aP×Int):=
 ai (ef u0) fun d=>cond ((d != 0)) (some ((⟨0,0⟩:aP),d)) (ai (tq u0 f) fun b=>cond ((b.2 != 0)) (some ((⟨0,0⟩:aP),b.2)) (ai (gh a 0 (IntKind.i64.wrap ((u0.ak.length:Int) - 1))) fun g=>cond (!g) (some ((⟨0,0⟩:aP),6)) (ai (bD u0.ak a) fun e=>ai (gh c 0 (IntKind.i64.wrap ((e.marks.length:Int) - 1))) fun h=>cond (!h) (some ((⟨0,0⟩:aP),6)) (ai (bD e.marks c) fun i=>ai (l9 u0 b.1 a i) fun j=>some (j,0)))))
theorem B1 {ro:Addr->Option Value}(t:dw ro)(u0:ax){s1:Value}(b:aH bK ro s1 u0.ak)(c:eJ){f:Value}(u:aH rI ro f c.au){g:Value}(w:aH rI ro g c.av){i:Value}(x:aH rI ro i c.aR)(d:Int)(j:Int){r:(aP×Int)}(h:tr u0 c d j=some r):aE Tryz.prog 76 #[cn u0 s1,.agg #[f,g,i],.int .i64 d,.int .i64 j] ⟨ro,[]⟩ (fun v _=>v= .tuple #[r.1.v,.int .i64 r.2]):=by
 obtain ⟨d3,c4,rfl,bm,bo,-⟩:=id b;unfold tr at h;refine aE.go Tryz.func76 rfl Tryz.ntmps76 Tryz.results76 an fun main J hJ A k hd hs=>?_;have l:=hs 0;have k1:=hs 1;have m:=hs 2;have n:=hs 3;clear hs;apply aB hJ _;refine bf fun y br z=>?_;try simp only[aN] at z
 refine bf fun B bs C=>?_;try simp only[aN] at C
 refine bf fun b0 b1 D=>?_;try simp only[aN] at D
 try apply ag _
 refine ah hJ (aA hJ ?_);revert h;refine bS fun b2 E h=>?_;apply ag _;refine bh hJ _ (kU (t.mono aY) u0 (b.mono aY) E) (aJ ?_);try apply ag _
 apply aB hJ _;revert h;refine aV hJ (fun G h=>?_) fun G h=>?_
 .obtain rfl:=sI h;apply aB hJ _;apply aO;simp only[*,go_sem]
 refine aK hJ (ah hJ ?_);apply aG hJ;revert h;refine bS fun o H h=>?_;apply ag _;refine bh hJ _ (BZ u0 (b.mono aY) c (u.mono aY) (w.mono aY) (x.mono aY) H) (aJ ?_);try apply ag _
 refine bf fun I b3 K=>?_;try simp only[aN] at K
 try apply ag _
 refine ah hJ (aA hJ ?_);apply ag _;revert h;refine aV hJ (fun L h=>?_) fun L h=>?_
 .obtain rfl:=sI h;apply aB hJ _;apply aO;simp only[*,go_sem]
 refine aK hJ (ah hJ ?_);apply aA hJ;revert h;refine bS fun b4 M h=>?_;apply ag _;refine bh hJ _ (iz d 0 (IntKind.i64.wrap ((u0.ak.length:Int) - 1)) M) (aJ ?_);revert h;refine cS (fun N h=>?_) fun N h=>?_
 .obtain rfl:=sI h;try apply ag _
  refine cO hJ ?_;apply ah hJ;refine e5 [2,3,4,8,9,11] fun ca O P Q=>?_;simp only[*,go_sem] at O P Q;clear k hd l k1 m n;apply aM hJ _;apply aO;simp only[*,go_sem]
 revert h;refine bS fun R S h=>?_;obtain ⟨cb,cc,p⟩:=cG S;obtain ⟨T,cd,U,V,a⟩:=b.el _ _ p;obtain ⟨cf,rfl,W⟩:=V;obtain ⟨d46,ck,rfl,cl,cv,X⟩:=id W;cases U;have Y:=a 0 _ rfl;simp only[go_sem] at Y;have Z:=a 1 _ rfl;simp only[go_sem] at Z;have ab:=a 2 _ rfl;simp only[go_sem] at ab;have ad:=a 3 _ rfl;simp only[go_sem] at ad;have ae:=a 4 _ rfl;simp only[go_sem] at ae;have al:=a 5 _ rfl;simp only[go_sem] at al;have ao:=a 6 _ rfl;simp only[go_sem] at ao;clear a p;revert h;refine bS fun cy ar h=>?_;try apply ag _
 refine bh hJ _ (iz j 0 (IntKind.i64.wrap ((R.marks.length:Int) - 1)) ar) (aJ ?_);try apply ag _
 revert h;refine aV hJ (fun a0 h=>?_) fun a0 h=>?_
 .obtain rfl:=sI h;apply ah hJ;refine e5 [2,3,4,8,9,11] fun c0 a2 a3 a4=>?_;simp only[*,go_sem] at a2 a3 a4;clear k hd l k1 m n;apply aM hJ _;apply aO;simp only[*,go_sem]
 refine aK hJ (ah hJ ?_);refine e5 [2,3,4,8,9,11] fun da a5 a6 a7=>?_;simp only[*,go_sem] at a5 a6 a7;clear k hd l k1 m n;refine eN hJ mixed 14 ⟨ro,[(I,gw o.1),(B,.cells #[f,g,i] 80),(y,bB u0 (sl (some T) u0.ak c4))]⟩ bx aj ?_;revert h;refine bS fun q a8 h=>?_;obtain ⟨db,dd,s⟩:=cG a8;obtain ⟨df,a9,ba,bb,e⟩:=X _ _ s;obtain rfl:a9=q.cells:=bb;cases ba;have bc:=e 0 _ rfl;simp only[go_sem] at bc;have bd:=e 1 _ rfl;simp only[go_sem] at bd;have bj:=e 2 _ rfl;simp only[go_sem] at bj;clear e s;revert h;refine bS fun dk bk h=>?_;obtain rfl:=sI h;try apply ag _
 refine ⟨_,dW hJ fun F hF=>v9 u0 (b.mono (j6 hF)) o.1 d q bk,?_⟩;try apply ag _
 apply aO;simp only[*,go_sem]
def xx (d:(aT×Int))(i41:Nat)(a:aS)(st:aT):Option (Fl aT (Bool×Int)):=
 ai (aZ.get d.1.au (i41:Int)) fun b=>ai (aZ.get st.au (i41:Int)) fun _x60=>ai (aZ.setAt st.au (i41:Int) (if a.from_.high<(if b<a.from_.low then a.from_.low else b) then a.from_.high else (if b<a.from_.low then a.from_.low else b))) fun e=>ai (aZ.get d.1.av (i41:Int)) fun c=>ai (aZ.get st.av (i41:Int)) fun _x68=>ai (aZ.setAt st.av (i41:Int) (if a.aD.high<(if c<a.aD.low then a.aD.low else c) then a.aD.high else (if c<a.aD.low then a.aD.low else c))) fun f=>some (.nx (⟨e,f,st.aR⟩:aT))
def q8 (u0:ax)(d:eJ):Option (Bool×Int):=
 ai (ef u0) fun c=>cond ((c != 0)) (some (false,c)) (ai (tq u0 d) fun a=>cond ((a.2 != 0)) (some (false,a.2)) (ai (b7 (xx a) 0 u0.ak a.1) fun o=>az o (fun b=>cond (((b.au.e0==a.1.au.e0)&&((b.au.e1==a.1.au.e1)&&((b.au.e2==a.1.au.e2)&&((b.au.e3==a.1.au.e3)&&((b.av.e0==a.1.av.e0)&&((b.av.e1==a.1.av.e1)&&((b.av.e2==a.1.av.e2)&&((b.av.e3==a.1.av.e3)&&(b.aR==a.1.aR)))))))))) (cond (((b.au.e0==a.1.au.e0)&&((b.au.e1==a.1.au.e1)&&((b.au.e2==a.1.au.e2)&&(b.au.e3==a.1.au.e3))))) (ai (qo a.1.aR) fun e=>cond (decide (e<=u0.aR)) (ai (jm u0 a.1) fun f=>some (f,0)) (some (false,0))) (some (false,0))) (some (false,0))) (fun _ _=>none) (fun r=>some r)))
theorem xy {ro:Addr->Option Value}(K:dw ro)(u0:ax){s1:Value}(k:aH bK ro s1 u0.ak)(l:eJ){g:Value}(L:aH rI ro g l.au){i:Value}(M:aH rI ro i l.av){j:Value}(N:aH rI ro j l.aR){r:(Bool×Int)}(h:q8 u0 l=some r):aE Tryz.prog 58 #[cn u0 s1,.agg #[g,i,j]] ⟨ro,[]⟩ (fun v _=>v= .tuple #[.bool r.1,.int .i64 r.2]):=by
 obtain ⟨d3,c4,rfl,cf,O,-⟩:=id k;unfold q8 at h;refine aE.go Tryz.func58 rfl Tryz.ntmps58 Tryz.results58 an fun main J hJ A P hd hs=>?_;have Q:=hs 0;have k1:=hs 1;clear hs;apply aB hJ _;refine bf fun s ck R=>?_;try simp only[aN] at R
 refine bf fun t cl S=>?_;try simp only[aN] at S
 try apply ag _
 refine ah hJ (aA hJ ?_);revert h;refine bS fun cv T h=>?_;apply ag _;refine bh hJ _ (kU (K.mono aY) u0 (k.mono aY) T) (aJ ?_);try apply ag _
 apply aB hJ _;revert h;refine aV hJ (fun U h=>?_) fun U h=>?_
 .obtain rfl:=sI h;apply aB hJ _;apply aO;simp only[*,go_sem]
 refine aK hJ (ah hJ ?_);apply aM hJ _;refine bf fun u cy V=>?_;try simp only[aN] at V
 try apply ag _
 apply aA hJ;revert h;refine bS fun a W h=>?_;apply ag _;refine bh hJ _ (BZ u0 (k.mono aY) l (L.mono aY) (M.mono aY) (N.mono aY) W) (aJ ?_);try apply ag _
 refine bf fun w c0 X=>?_;try simp only[aN] at X
 try apply ag _
 refine ah hJ (aA hJ ?_);apply ag _;revert h;refine aV hJ (fun Y h=>?_) fun Y h=>?_
 .obtain rfl:=sI h;apply aB hJ _;apply aO;simp only[*,go_sem]
 refine aK hJ (ah hJ ?_);apply aM hJ _;refine bf fun B da Z=>?_;try simp only[aN] at Z
 try apply ag _
 refine ah hJ (aA hJ ?_);apply ag _;apply aU hJ;revert h;refine bS fun ab f ad=>?_;refine bP hJ (rg 33 36 [11,12]) (fun m ae F'=>∃(i41:Nat) (b:aT),m=u0.ak.length - i41/\i41<=u0.ak.length/\b7 (xx a) i41 (u0.ak.drop i41) b=some ab/\F'=⟨ro,(B,gw b)::(w,gw a.1)::(u,dM u0 (sl d3 u0.ak c4))::(t,.cells #[g,i,j] 80)::(s,bB u0 (sl d3 u0.ak c4))::[]⟩/\slot ae 33= .int .i64 (i41:Int)) u0.ak.length ?_ ?_
 .refine ⟨0,a.1,(Nat.sub_zero _).symm,Nat.zero_le _,f,rfl,?_⟩;simp only[*,go_sem]
 rintro db dd F' C ⟨i41,b,rfl,df,f,rfl,dk⟩;obtain ⟨al,ao,ar⟩:=C.pick [2,4,5,7,8,10,31,32] aL;simp only[*,go_sem] at al ao ar;clear C P hd Q k1;apply aB hJ _;apply ah hJ;rcases Nat.lt_or_ge i41 u0.ak.length with a0|D
 .refine cO hJ ?_;apply aK hJ;obtain ⟨d,z⟩:∃x,u0.ak[i41]?=some x:=⟨_,List.getElem?_eq_getElem a0⟩
  rw[e4 z] at f;revert f;refine bS fun dp h a2=>?_;unfold xx at h;try dsimp only at h
  obtain ⟨y,dq,a3,a4,e⟩:=k.el _ _ z;obtain ⟨ds,rfl,a5⟩:=a4;obtain ⟨d50,E,rfl,dt,du,dv⟩:=id a5;cases a3;have a6:=e 0 _ rfl;simp only[go_sem] at a6;have a7:=e 1 _ rfl;simp only[go_sem] at a7;have a8:=e 2 _ rfl;simp only[go_sem] at a8;have a9:=e 3 _ rfl;simp only[go_sem] at a9;have ba:=e 4 _ rfl;simp only[go_sem] at ba;have bb:=e 5 _ rfl;simp only[go_sem] at bb;have bc:=e 6 _ rfl;simp only[go_sem] at bc;clear e z;refine ah hJ (aU hJ (ah hJ ?_));apply aM hJ _;refine bf fun G dC bd=>?_;try simp only[aN] at bd
  try apply ag _
  apply ah hJ;refine eN hJ mixed 15 ⟨ro,[(G,de d (sl d50 d.marks E)),(w,gw a.1),(u,dM u0 (sl (some y) u0.ak c4)),(t,.cells #[g,i,j] 80),(s,bB u0 (sl (some y) u0.ak c4))]⟩ bx aj ?_;revert h;refine bS fun o H h=>?_;obtain ⟨dE,dT,-⟩:=aZ.get_some H;have bj:([.int .i64 a.1.au.e0,.int .i64 a.1.au.e1,.int .i64 a.1.au.e2,.int .i64 a.1.au.e3,.int .i64 a.1.av.e0,.int .i64 a.1.av.e1,.int .i64 a.1.av.e2,.int .i64 a.1.av.e3,.int .u64 a.1.aR]:List Value)[((i41:Int):Int).toNat]?=some (.int .i64 o):=aZ.qm [.int .i64 a.1.av.e0,.int .i64 a.1.av.e1,.int .i64 a.1.av.e2,.int .i64 a.1.av.e3,.int .u64 a.1.aR] H;try simp only[go_sem] at bj
  revert h;refine bS fun _x60 bk h=>?_;obtain ⟨ea,eb,-⟩:=aZ.get_some bk;have bm:((i41:Int):Int).toNat<4:=aa;have bo:0+((i41:Int):Int).toNat<9:=aa;try simp only[go_sem] at bm
  try simp only[go_sem] at bo
  revert h;refine bS fun c br h=>?_;have ec:(([.int .i64 b.au.e0,.int .i64 b.au.e1,.int .i64 b.au.e2,.int .i64 b.au.e3,.int .i64 b.av.e0,.int .i64 b.av.e1,.int .i64 b.av.e2,.int .i64 b.av.e3,.int .u64 b.aR]:List Value).set (i41) (.int .i64 (if d.from_.high<(if o<d.from_.low then d.from_.low else o) then d.from_.high else (if o<d.from_.low then d.from_.low else o)))).toArray=#[.int .i64 c.e0,.int .i64 c.e1,.int .i64 c.e2,.int .i64 c.e3,.int .i64 b.av.e0,.int .i64 b.av.e1,.int .i64 b.av.e2,.int .i64 b.av.e3,.int .u64 b.aR]:=aZ.AR br [] [.int .i64 b.av.e0,.int .i64 b.av.e1,.int .i64 b.av.e2,.int .i64 b.av.e3,.int .u64 b.aR] an;try apply ag _
  refine eN hJ mixed 15 ⟨ro,[(G,de d (sl d50 d.marks E)),(w,gw a.1),(u,dM u0 (sl (some y) u0.ak c4)),(t,.cells #[g,i,j] 80),(s,bB u0 (sl (some y) u0.ak c4))]⟩ bx aj ?_;revert h;refine bS fun p I h=>?_;obtain ⟨ed,eh,-⟩:=aZ.get_some I;have bs:([.int .i64 a.1.au.e0,.int .i64 a.1.au.e1,.int .i64 a.1.au.e2,.int .i64 a.1.au.e3,.int .i64 a.1.av.e0,.int .i64 a.1.av.e1,.int .i64 a.1.av.e2,.int .i64 a.1.av.e3,.int .u64 a.1.aR]:List Value)[4+((i41:Int):Int).toNat]?=some (.int .i64 p):=aZ.sx [.int .i64 a.1.au.e0,.int .i64 a.1.au.e1,.int .i64 a.1.au.e2,.int .i64 a.1.au.e3] [.int .u64 a.1.aR] I;try simp only[go_sem] at bs
  revert h;refine bS fun _x68 b0 h=>?_;obtain ⟨et,ev,-⟩:=aZ.get_some b0;have b1:((i41:Int):Int).toNat<4:=aa;have b2:4+((i41:Int):Int).toNat<9:=aa;try simp only[go_sem] at b1
  try simp only[go_sem] at b2
  revert h;refine bS fun q b3 h=>?_;obtain rfl:=sI h;have eQ:(([.int .i64 c.e0,.int .i64 c.e1,.int .i64 c.e2,.int .i64 c.e3,.int .i64 b.av.e0,.int .i64 b.av.e1,.int .i64 b.av.e2,.int .i64 b.av.e3,.int .u64 b.aR]:List Value).set (4+i41) (.int .i64 (if d.aD.high<(if p<d.aD.low then d.aD.low else p) then d.aD.high else (if p<d.aD.low then d.aD.low else p)))).toArray=#[.int .i64 c.e0,.int .i64 c.e1,.int .i64 c.e2,.int .i64 c.e3,.int .i64 q.e0,.int .i64 q.e1,.int .i64 q.e2,.int .i64 q.e3,.int .u64 b.aR]:=aZ.AR b3 [.int .i64 c.e0,.int .i64 c.e1,.int .i64 c.e2,.int .i64 c.e3] [.int .u64 b.aR] an;try apply ag _
  have eS:=dY (n:=i41) (by have:=O;omega);apply aM hJ _;refine ⟨u0.ak.length - (i41+1),aa,_,Le.sub (List.Sublist.cons _ (List.Sublist.refl _)),i41+1,(⟨c,q,b.aR⟩:aT),rfl,aa,a2,rfl,?_⟩;simp only[*,go_sem]
 have fa:=Nat.not_lt.2 D;refine cE hJ ?_;rw[List.drop_eq_nil_of_le D] at f;obtain rfl:=sI f;clear f;have h:=ad;dsimp only[az] at h;apply bJ;simp only[go_sem];apply ah hJ;refine eN hJ mixed 25 ⟨ro,[(B,gw b),(w,gw a.1),(u,dM u0 (sl d3 u0.ak c4)),(t,.cells #[g,i,j] 80),(s,bB u0 (sl d3 u0.ak c4))]⟩ bx aj ?_;revert h;refine cS (fun b4 h=>?_) fun b4 h=>?_
 .revert h;refine cS (fun ca h=>?_) fun ca h=>?_
  .revert h;refine bS fun fb cb h=>?_;(try apply ag _);refine ⟨_,dW hJ fun F hF=>AD a.1.aR cb,eB ?_⟩;revert h;refine cS (fun cc h=>?_) fun cc h=>?_
   .revert h;refine bS fun fc cd h=>?_;obtain rfl:=sI h;(try apply ag _);refine ⟨_,dW hJ fun F hF=>AJ u0 (k.mono (j6 hF)) a.1 cd,eB ?_⟩;(try apply ag _);apply aO;simp only[*,go_sem]
   obtain rfl:=sI h;(try apply ag _);apply aO;simp only[*,go_sem]
  obtain rfl:=sI h;try apply ag _
  apply aO;simp only[*,go_sem]
 obtain rfl:=sI h;try apply ag _
 apply aO;simp only[*,go_sem]
def xz (b:(List aS))(st:(Int×(List aS))):Option (Fl (Int×(List aS)) ax):=
 cond (decide (st.1<(b.length:Int))) (ai (bD st.2 st.1) fun a=>ai (qP a.marks) fun c=>some (.nx ((IntKind.i64.wrap (st.1+1)),(st.2.set (st.1).toNat (⟨a.name,a.from_,a.wide,a.aD,c⟩:aS))))) (some (.bk (st.1,st.2)))
def tu (u0:ax):Option ax:=
 ai (wC u0.ak) fun a=>ai (aQ (xz a) fu (0,a)) fun o=>az o (fun b=>some (⟨u0.steps,u0.aR,b.2⟩:ax)) (fun _ _=>none) (fun r=>some r)
theorem B2 {ro:Addr->Option Value}(u0:ax){s1:Value}(R:aH bK ro s1 u0.ak){r:ax}(h:tu u0=some r):aE Tryz.prog 120 #[cn u0 s1] ⟨ro,[]⟩ (fun v G=>∃aF z,Ext ro aF/\Le ⟨aF,z⟩ G/\∃S,v=cn r S/\aW bK aF 31 S r.ak z):=by
 obtain ⟨d3,c4,rfl,bS,b0,b1⟩:=id R;unfold tu at h;refine aE.go Tryz.func120 rfl Tryz.ntmps120 Tryz.results120 an fun main J hJ A a6 hd hs=>?_;have a7:=hs 0;clear hs;apply ah hJ;apply aG hJ;apply bu _;intro c f8;have K:=cT f8;have a8:=cY f8;try simp only[aN] at a8
 intro d f9;have L:=cT f9;have a9:=cY f9;try simp only[aN] at a9
 try apply bu _
 apply ah hJ;refine aC hJ fun b2=>?_;apply aG hJ;have h':=eu h;clear h;obtain ⟨b,ba,h⟩:=h';apply bu _;refine iw hJ (bn:=[]) [(d,.cells #[.int .i64 0,.int .i64 0,.slice none 0 0] 24),(c,bB u0 (sl d3 u0.ak c4))] [] (by first|rfl|simp only[bN]|(simp only[bN];rfl)) _ (G2 u0.ak R ba) (fun b3 T U z bb b4=>?_);simp only[bN] at bb;subst z;obtain ⟨d17,e,rfl,ca⟩:=U.len;refine ⟨⟨ro,(d,.cells #[.int .i64 0,.int .i64 0,.slice none 0 0] 24)::(c,bB u0 (sl d3 u0.ak c4))::T⟩,Le.refl _,?_⟩;apply aJ;try apply bu _
 apply ah hJ;apply ah hJ;refine aC hJ fun cb=>?_;apply aG hJ;apply bu _;apply aU hJ;have h':=eu h;clear h;obtain ⟨bc,t,bd⟩:=h';have h:=True.intro;refine bP hJ [3,4,12,13,14,15,16,17,18,19,20,21,22,23,24,25] (fun m bj F'=>∃(n:Addr->Option Value) (B:List (Nat×Obj)) (f:Int) (u:(List aS)),aQ (xz b) m (f,u)=some bc/\F'=⟨n,(d,.cells #[.int .i64 0,.int .i64 0,.slice none 0 0] 24)::(c,bB u0 (sl d17 b e))::B⟩/\Ext ro n/\aW bK n 31 (.slice d17 b.length e) u B/\slot bj 12= .int .i64 f) fu ?_ ?_
 .refine ⟨ro,T,0,b,t,rfl,Ext.refl _,U,?_⟩;simp only[*,go_sem,-h]
 rintro M p F' j ⟨n,B,f,u,t,rfl,V,q,cc⟩;have h:=True.intro;refine jf hJ fun _ C=>?_;have C:bg n ((d,.cells #[.int .i64 0,.int .i64 0,.slice none 0 0] 24)::(c,bB u0 (sl d17 b e))::B):=C;replace L:=C.hd;replace K:=C.tl.hd;have cd:sz p=27:=by rw[j.size];simp only[*,go_sem,-h]
 have cf:p.defers=[]:=by rw[j.defers];simp only[*,go_sem,-h]
 have ck:slot p 1= .pointer (some ⟨c,0,none⟩):=by rw[j.bM 1 aL];simp only[*,go_sem,-h]
 have cl:slot p 2= .pointer (some ⟨d,0,none⟩):=by rw[j.bM 2 aL];simp only[*,go_sem,-h]
 have cv:slot p 10= .slice d17 b.length e:=by rw[j.bM 10 aL];simp only[*,go_sem,-h]
 have cy:slot p 11= .int .i64 (b.length:Int):=by rw[j.bM 11 aL];simp only[*,go_sem,-h]
 clear j a6 hd a7;obtain _|M:=M
 .exact absurd t (by simp only[aQ,reduceCtorEq,not_false_eq_true])
 have h':=eu t;clear t h;obtain ⟨cS,h,N⟩:=h';unfold xz at h;try dsimp only at h
 apply ah hJ;refine aC hJ fun c0=>?_;apply aG hJ;apply bu _;apply ah hJ;have h':=nE h;clear h;rcases h' with ⟨O,h⟩|⟨O,h⟩
 .try simp only[Int.ofNat_lt] at O
  refine dn hJ dz ?_;apply aK hJ;apply ah hJ;apply aU hJ;apply ah hJ;refine aC hJ fun W=>?_;apply aG hJ;have h':=eu h;clear h;obtain ⟨a,bk,h⟩:=h';obtain ⟨da,db,X⟩:=cG bk;have dd:f<((b.length:Nat):Int):=by have:=q.count;omega
  obtain ⟨g,P,df,rfl,rfl,dk,bm,i⟩:=q.sd X;obtain ⟨dp,rfl,w⟩:=bm;obtain ⟨d40,x,rfl,dq,ds,Y⟩:=id w;have bo:=W.nd;simp only[keys,List.map_cons,List.map_nil,List.map_append,List.cons_append,List.nil_append,List.nodup_cons,List.mem_cons,List.mem_append,List.not_mem_nil,or_false,not_or] at bo;have Z:=i 0 _ rfl;simp only[go_sem] at Z;have dt:=(Array.getElem?_eq_some_iff.1 Z).1;have ab:=i 1 _ rfl;simp only[go_sem] at ab;have du:=(Array.getElem?_eq_some_iff.1 ab).1;have ad:=i 2 _ rfl;simp only[go_sem] at ad;have dv:=(Array.getElem?_eq_some_iff.1 ad).1;have ae:=i 3 _ rfl;simp only[go_sem] at ae;have dC:=(Array.getElem?_eq_some_iff.1 ae).1;have al:=i 4 _ rfl;simp only[go_sem] at al;have dE:=(Array.getElem?_eq_some_iff.1 al).1;have ao:=i 5 _ rfl;simp only[go_sem] at ao;have dT:=(Array.getElem?_eq_some_iff.1 ao).1;have ar:=i 6 _ rfl;simp only[go_sem] at ar;have ea:=(Array.getElem?_eq_some_iff.1 ar).1;try apply bu _
  intro D f47;have a0:=cT f47;have a2:=cY f47;have eb:=bO.cons a2 W;try simp only[aN] at a2
  try apply bu _
  refine aC hJ fun ec=>?_;refine eN hJ mixed 5 ⟨n,[(D,de a (sl d40 a.marks x)),(d,.cells #[.int .i64 0,.int .i64 0,.slice none 0 0] 24),(c,bB u0 (sl (some ⟨g,0,none⟩) b e))]⟩ dz aj ?_;have h':=eu h;clear h;obtain ⟨k,br,h⟩:=h';apply bu _;refine nD hJ _ (G1 a.marks w br) fun v E H s hR=>?_;obtain ⟨ed,rfl,a3⟩:=hR;have s:bg E ((D,de a (sl d40 a.marks x))::(d,.cells #[.int .i64 0,.int .i64 0,.slice none 0 0] 24)::(c,bB u0 (sl (some ⟨g,0,none⟩) b e))::[(g,Obj.cells P 31)]):=s;replace w:=w.mono H;clear Y;obtain ⟨_,_,Y⟩:=w.op;replace a0:=s.hd;replace L:=s.tl.hd;replace K:=s.tl.tl.hd;replace q:=q.mono H s.tl.tl.tl;obtain ⟨d69,I,rfl,eh,et,ev⟩:=id a3;have eQ:=jh (l:=[(D,de a (sl d40 a.marks x)),(d,.cells #[.int .i64 0,.int .i64 0,.slice none 0 0] 24),(c,bB u0 (sl (some ⟨g,0,none⟩) b e))]) H (bg.cons a0 (bg.cons L (bg.cons K (bg.nil _))));refine ⟨dz,?_⟩;refine rZ ?_;have a4:aW bK E 31 (.slice (some ⟨g,0,none⟩) b.length e) (u.set (f).toNat (⟨a.name,a.from_,a.wide,a.aD,k⟩:aS)) [(g,Obj.cells (bI P ((f).toNat*7+6) [.slice d69 k.length I]) 31)]:=by have bs:=q.part (y:=(⟨a.name,a.from_,a.wide,a.aD,k⟩:aS)) X 6 [.slice d69 k.length I] [.string ⟨⟨a.name⟩⟩,.int .i64 a.from_.low,.int .i64 a.from_.high,.int .i64 a.wide,.int .i64 a.aD.low,.int .i64 a.aD.high,.slice d40 a.marks.length x] [.string ⟨⟨a.name⟩⟩,.int .i64 a.from_.low,.int .i64 a.from_.high,.int .i64 a.wide,.int .i64 a.aD.low,.int .i64 a.aD.high,.slice d69 k.length I] i rfl rfl an ⟨_,rfl,a3⟩;exact bs
  try apply bu _
  obtain ⟨a5,Q⟩:∃o,o=(bI P ((f).toNat*7+6) [.slice d69 k.length I]):=⟨_,rfl⟩
  refine cq (F:=⟨E,(D,de a (sl d40 a.marks x))::(d,.cells #[.int .i64 0,.int .i64 0,.slice none 0 0] 24)::(c,bB u0 (sl (some ⟨g,0,none⟩) b e))::[(g,Obj.cells a5 31)]⟩) hJ (by rw[Q];exact Le.refl _) ?_;rw[<-Q] at a4;clear Q;refine aC hJ fun eS=>?_;apply aG hJ;apply bu _;have h':=Option.some.inj h;clear h;subst h';have h:=True.intro;try apply bu _
  refine ⟨M,Nat.lt_succ_self _,_,Le.sub (List.Sublist.cons _ (List.Sublist.refl _)),E,[(g,Obj.cells a5 31)],(IntKind.i64.wrap (f+1)),(u.set (f).toNat (⟨a.name,a.from_,a.wide,a.aD,k⟩:aS)),N,rfl,(V.trans H),a4,?_⟩;simp only[*,go_sem,-h]
 try simp only[Int.ofNat_lt] at O
 refine dr hJ dz ?_;apply bJ;simp only[go_sem];have h':=Option.some.inj h;clear h;subst h';have h':=Option.some.inj N;clear N;subst h';have h:=bd;dsimp only[az] at h;apply ah hJ;refine aC hJ fun e0=>?_;apply aG hJ;apply bu _;have h':=Option.some.inj h;clear h;subst h';refine b5 ?_;exact ⟨_,_,V,Le.sub (.cons _ (.cons _ (List.Sublist.refl _))),_,rfl,q⟩
def xA (u0:ax)(a:aS):Option (ax×Int):=
 ai (ef u0) fun c=>cond ((c != 0)) (some ((⟨0,0,([]:(List aS))⟩:ax),c)) (ai (tu u0) fun b=>ai (qP a.marks) fun e=>ai (jI b.ak ([(⟨a.name,a.from_,a.wide,a.aD,e⟩:aS)])) fun f=>ai (tj (⟨b.steps,b.aR,f⟩:ax)) fun d=>some (d.1,d.2))
theorem xB {ro:Addr->Option Value}(m:dw ro)(u0:ax){s1:Value}(e:aH bK ro s1 u0.ak)(a:aS){X:Value}(j:aH eo ro X a.marks){r:(ax×Int)}(h:xA u0 a=some r):eZ Tryz.prog 50 #[cn u0 s1,jj a X] ro (fun v aF=>∃Y,v= .tuple #[cn r.1 Y,.int .i64 r.2]/\aH bK aF Y r.1.ak):=by
 obtain ⟨d3,c4,rfl,b1,b2,n⟩:=id e;obtain ⟨d10,Q,rfl,b3,b4,o⟩:=id j;unfold xA at h;refine aE.go Tryz.func50 rfl Tryz.ntmps50 Tryz.results50 an fun main J hJ A ca hd hs=>?_;have cb:=hs 0;have k1:=hs 1;clear hs;apply aA hJ;apply bu _;intro f f15;have y:=cT f15;have a4:=cY f15;try simp only[aN] at a4
 intro g f16;have z:=cT f16;have a5:=cY f16;try simp only[aN] at a5
 intro i f17;have B:=cT f17;have a6:=cY f17;try simp only[aN] at a6
 try apply bu _
 refine ah hJ (aA hJ ?_);revert h;refine bS fun cc a7 h=>?_;apply bu _;refine bh hJ _ (kU (m.mono aY) u0 (e.mono aY) a7) (aJ ?_);try apply bu _
 apply aA hJ;apply bu _;revert h;refine aV hJ (fun U h=>?_) fun U h=>?_
 .try simp only[Int.ofNat_lt] at U
  apply aA hJ;apply bu _;cases h;refine b5 ?_;exact ⟨_,Ext.refl _,Le.sub (List.nil_sublist _),_,rfl,aH.nil _ _⟩
 try simp only[Int.ofNat_lt] at U
 refine aK hJ (ah hJ ?_);apply aG hJ;revert h;refine bS fun b a8 h=>?_;apply bu _;refine AT hJ _ (B2 u0 e a8) [(i,.cells #[.int .i64 0,.int .i64 0,.slice none 0 0] 24),(g,de a (sl d10 a.marks Q)),(f,bB u0 (sl d3 u0.ak c4))] [] (by first|rfl|simp only[bN]|(simp only[bN];rfl)) fun v Z C R E hR G H a9=>?_;obtain ⟨cd,rfl,I⟩:=hR;simp only[bN] at H;subst G;have E:bg Z ((i,.cells #[.int .i64 0,.int .i64 0,.slice none 0 0] 24)::(g,de a (sl d10 a.marks Q))::(f,bB u0 (sl d3 u0.ak c4))::[]):=E;replace e:=e.mono R;clear n;obtain ⟨_,_,n⟩:=e.op;replace j:=j.mono R;clear o;obtain ⟨_,_,o⟩:=j.op;replace B:=E.hd;replace z:=E.tl.hd;replace y:=E.tl.tl.hd;replace m:=m.mono R;obtain ⟨d27,p,rfl,cf⟩:=I.len;apply aJ;try apply bu _
 intro k f34;have K:=cT f34;have ab:=cY f34;have ck:=bO.cons ab a9;try simp only[aN] at ab
 try apply bu _
 apply ah hJ;refine aC hJ fun cl=>?_;apply aG hJ;revert h;refine bS fun c ba h=>?_;apply bu _;refine iw hJ (bn:=[]) [(k,bB b (sl d27 b.ak p)),(i,.cells #[.int .i64 0,.int .i64 0,.slice none 0 0] 24),(g,de a (sl d10 a.marks Q)),(f,bB u0 (sl d3 u0.ak c4))] C (by first|rfl|simp only[bN]|(simp only[bN];rfl)) _ (AS a.marks j ba) (fun cv bb ad G H cy=>?_);simp only[bN] at H;subst G;obtain ⟨d43,d,rfl,cS⟩:=ad.len;refine ⟨⟨Z,(k,bB b (sl d27 b.ak p))::(i,.cells #[.int .i64 0,.int .i64 0,.slice none 0 0] 24)::(g,de a (sl d10 a.marks Q))::(f,bB u0 (sl d3 u0.ak c4))::(bb++C)⟩,Le.refl _,?_⟩;apply aJ;try apply bu _
 apply ah hJ;refine aC hJ fun ae=>?_;obtain ⟨V,L,s,q,bc⟩:=ad.lY ((k,bB b (sl d27 b.ak p))::(i,.cells #[.int .i64 0,.int .i64 0,.slice none 0 0] 24)::(g,de a (sl d43 c d))::(f,bB u0 (sl d3 u0.ak c4))::C) [(k,bB b (sl d27 b.ak p)),(i,.cells #[.int .i64 0,.int .i64 0,.slice none 0 0] 24),(g,de a (sl d43 c d)),(f,bB u0 (sl d3 u0.ak c4))] C (by first|rfl|simp only[bN]|(simp only[bN];rfl)) (by first|rfl|simp only[bN]|(simp only[bN];rfl)) ae (bg.cons K (bg.cons B (bg.cons z (bg.cons y (I.E4)))));clear ae;refine cq (F:=⟨V,(k,bB b (sl d27 b.ak p))::(i,.cells #[.int .i64 0,.int .i64 0,.slice none 0 0] 24)::(g,de a (sl d43 c d))::(f,bB u0 (sl d3 u0.ak c4))::C⟩) hJ bc ?_;obtain ⟨c0,da,S⟩:=q.op;have s:bg V ((k,bB b (sl d27 b.ak p))::(i,.cells #[.int .i64 0,.int .i64 0,.slice none 0 0] 24)::(g,de a (sl d43 c d))::(f,bB u0 (sl d3 u0.ak c4))::C):=s;replace e:=e.mono L;clear n;obtain ⟨_,_,n⟩:=e.op;replace j:=j.mono L;clear o;obtain ⟨_,_,o⟩:=j.op;replace K:=s.hd;replace B:=s.tl.hd;replace z:=s.tl.tl.hd;replace y:=s.tl.tl.tl.hd;replace I:=I.mono L s.tl.tl.tl.tl;replace m:=m.mono L;refine aC hJ fun bd=>?_;apply aG hJ;revert h;refine bS fun D bj h=>?_;obtain ⟨bk,al⟩:=nF bj;apply bu _;intro t f69;have T:=cT f69;have ao:=cY f69;have bm:=bO.cons ao bd;try simp only[aN] at ao
 try apply bu _
 refine qh (r:=bK) (l:=b.ak) (x:=(⟨a.name,a.from_,a.wide,a.aD,c⟩:aS)) (cs:=#[.string ⟨⟨a.name⟩⟩,.int .i64 a.from_.low,.int .i64 a.from_.high,.int .i64 a.wide,.int .i64 a.aD.low,.int .i64 a.aD.high,.slice d43 c.length d]) (e2:=31) [(t,de a (sl d43 c d)),(k,bB b (sl d27 b.ak p)),(i,.cells #[.int .i64 0,.int .i64 0,.slice none 0 0] 24),(g,de a (sl d43 c d)),(f,bB u0 (sl d3 u0.ak c4))] [] (by first|rfl|simp only[bN]|(simp only[bN];rfl)) I bm bk ⟨_,rfl,q⟩ dz T rfl rfl nU nU vJ vL rfl vK aL aL (fun db bo W G H dd=>?_);simp only[bN] at H;subst G;rw[<-al] at W;clear al;obtain ⟨d77,M,rfl,df⟩:=W.len;refine ⟨⟨V,(t,de a (sl d43 c d))::(k,bB b (sl d27 b.ak p))::(i,.cells #[.int .i64 0,.int .i64 0,.slice none 0 0] 24)::(g,de a (sl d43 c d))::(f,bB u0 (sl d3 u0.ak c4))::bo⟩,Le.refl _,?_⟩;apply aJ;try apply bu _
 apply ah hJ;refine aC hJ fun ar=>?_;obtain ⟨a0,N,u,O,br⟩:=W.lY ((t,de a (sl d43 c d))::(k,bB b (sl d77 D M))::(i,.cells #[.int .i64 0,.int .i64 0,.slice none 0 0] 24)::(g,de a (sl d43 c d))::(f,bB u0 (sl d3 u0.ak c4))::[]) [(t,de a (sl d43 c d)),(k,bB b (sl d77 D M)),(i,.cells #[.int .i64 0,.int .i64 0,.slice none 0 0] 24),(g,de a (sl d43 c d)),(f,bB u0 (sl d3 u0.ak c4))] [] (by first|rfl|simp only[bN]|(simp only[bN];rfl)) (by first|rfl|simp only[bN]|(simp only[bN];rfl)) ar (bg.cons T (bg.cons K (bg.cons B (bg.cons z (bg.cons y (bg.nil _))))));clear ar;refine cq (F:=⟨a0,(t,de a (sl d43 c d))::(k,bB b (sl d77 D M))::(i,.cells #[.int .i64 0,.int .i64 0,.slice none 0 0] 24)::(g,de a (sl d43 c d))::(f,bB u0 (sl d3 u0.ak c4))::[]⟩) hJ br ?_;obtain ⟨dk,dp,a2⟩:=O.op;have u:bg a0 ((t,de a (sl d43 c d))::(k,bB b (sl d77 D M))::(i,.cells #[.int .i64 0,.int .i64 0,.slice none 0 0] 24)::(g,de a (sl d43 c d))::(f,bB u0 (sl d3 u0.ak c4))::[]):=u;replace e:=e.mono N;clear n;obtain ⟨_,_,n⟩:=e.op;replace j:=j.mono N;clear o;obtain ⟨_,_,o⟩:=j.op;replace q:=q.mono N;clear S;obtain ⟨_,_,S⟩:=q.op;replace T:=u.hd;replace K:=u.tl.hd;replace B:=u.tl.tl.hd;replace z:=u.tl.tl.tl.hd;replace y:=u.tl.tl.tl.tl.hd;replace m:=m.mono N;apply aG hJ;revert h;refine bS fun dq bs h=>?_;apply bu _;refine cN hJ _ (xo m (⟨b.steps,b.aR,D⟩:ax) O bs) fun v b0 P w hR=>?_;obtain ⟨ds,rfl,a3⟩:=hR;have w:bg b0 ((t,de a (sl d43 c d))::(k,bB b (sl d77 D M))::(i,.cells #[.int .i64 0,.int .i64 0,.slice none 0 0] 24)::(g,de a (sl d43 c d))::(f,bB u0 (sl d3 u0.ak c4))::[]):=w;replace e:=e.mono P;clear n;obtain ⟨_,_,n⟩:=e.op;replace j:=j.mono P;clear o;obtain ⟨_,_,o⟩:=j.op;replace O:=O.mono P;clear a2;obtain ⟨_,_,a2⟩:=O.op;replace q:=q.mono P;clear S;obtain ⟨_,_,S⟩:=q.op;replace T:=w.hd;replace K:=w.tl.hd;replace B:=w.tl.tl.hd;replace z:=w.tl.tl.tl.hd;replace y:=w.tl.tl.tl.tl.hd;obtain ⟨d99,dt,rfl,du,dv,dC⟩:=id a3;apply aJ;try apply bu _
 cases h;refine b5 ?_;exact ⟨_,(((R).trans L).trans N).trans P,Le.sub (List.nil_sublist _),_,rfl,a3⟩
theorem IQ {ro:Addr->Option Value}{b off:Nat}:aE Tryz.prog 102 #[.pointer (some ⟨b,off,none⟩)] ⟨ro,[]⟩ (fun v _=>v= .pointer (some ⟨b,off+1,none⟩)):=by
 refine aE.go Tryz.func102 rfl Tryz.ntmps102 Tryz.results102 an fun main J hJ A a hd hs=>?_;have c:=hs 0;clear hs;repeat refine ah hJ ?_
 refine aG hJ ?_;apply ag _;repeat refine ah hJ ?_
 refine aG hJ ?_;apply ag _;refine aO ?_;simp only[*,go_sem]
theorem tv {α:Type}{l:List α}{i:Nat}{x y:α}(h:l[i]?=some x):(l.set i y)[i]?=some y:=by
 rw[List.getElem?_set_self (List.getElem?_eq_some_iff.1 h).1]
def xC (u0:ax)(c:Int)(b:bX)(g:Int)(h:Int):Option (ax×Int):=
 ai (ef u0) fun e=>cond ((e != 0)) (some ((⟨0,0,([]:(List aS))⟩:ax),e)) (ai (jN u0 c) fun i=>cond (!i) (some ((⟨0,0,([]:(List aS))⟩:ax),6)) (cond (decide (b.low<g)) (some ((⟨0,0,([]:(List aS))⟩:ax),1)) (cond (decide (b.high<b.low)) (some ((⟨0,0,([]:(List aS))⟩:ax),1)) (cond (decide (h<b.high)) (some ((⟨0,0,([]:(List aS))⟩:ax),1)) (ai (tu u0) fun d=>ai (bD d.ak c) fun a=>cond (decide ((if b.high<a.from_.high then b.high else a.from_.high)<(if a.from_.low<b.low then b.low else a.from_.low))) (some ((⟨0,0,([]:(List aS))⟩:ax),9)) (ai (tj (⟨d.steps,d.aR,((d.ak.set (c).toNat (⟨a.name,(⟨(if a.from_.low<b.low then b.low else a.from_.low),a.from_.high⟩:bX),a.wide,a.aD,a.marks⟩:aS)).set (c).toNat (⟨a.name,(⟨(if a.from_.low<b.low then b.low else a.from_.low),(if b.high<a.from_.high then b.high else a.from_.high)⟩:bX),a.wide,a.aD,a.marks⟩:aS))⟩:ax)) fun f=>some (f.1,f.2)))))))
theorem IS {ro:Addr->Option Value}(m:dw ro)(u0:ax){s1:Value}(f:aH bK ro s1 u0.ak)(e:Int)(b:bX)(bb:Int)(bc:Int){r:(ax×Int)}(h:xC u0 e b bb bc=some r):eZ Tryz.prog 101 #[cn u0 s1,.int .i64 e,.agg #[.int .i64 b.low,.int .i64 b.high],.int .i64 bb,.int .i64 bc,.func (.func 102) #[] #[]] ro (fun v aF=>∃bd,v= .tuple #[cn r.1 bd,.int .i64 r.2]/\aH bK aF bd r.1.ak):=by
 obtain ⟨d3,c4,rfl,hq,hr,n⟩:=id f;unfold xC at h;refine aE.go Tryz.func101 rfl Tryz.ntmps101 Tryz.results101 an fun main J hJ A ht hd hs=>?_;have hv:=hs 0;have k1:=hs 1;have hx:=hs 2;have hy:=hs 3;have hz:=hs 4;have hA:=hs 5;clear hs;apply aA hJ;apply bu _;intro i f8;have s:=cT f8;have dp:=cY f8;try simp only[aN] at dp
 intro j f9;have t:=cT f9;have dq:=cY f9;try simp only[aN] at dq
 intro k f10;have u:=cT f10;have ds:=cY f10;try simp only[aN] at ds
 try apply bu _
 refine ah hJ (aA hJ ?_);revert h;refine bS fun hB dt h=>?_;apply bu _;refine bh hJ _ (kU (m.mono aY) u0 (f.mono aY) dt) (aJ ?_);try apply bu _
 apply aA hJ;apply bu _;revert h;refine aV hJ (fun ao h=>?_) fun ao h=>?_
 .try simp only[Int.ofNat_lt] at ao
  apply aA hJ;apply bu _;cases h;refine b5 ?_;exact ⟨_,Ext.refl _,Le.sub (List.nil_sublist _),_,rfl,aH.nil _ _⟩
 try simp only[Int.ofNat_lt] at ao
 refine aK hJ (ah hJ ?_);refine aU hJ (ah hJ ?_);apply aG hJ;revert h;refine bS fun hD du h=>?_;apply bu _;refine bh hJ _ (sL u0 (f.mono aY) e du) (aJ ?_);try apply bu _
 revert h;refine aV hJ (fun ar h=>?_) fun ar h=>?_
 .try simp only[Int.ofNat_lt] at ar
  apply aA hJ;apply bu _;cases h;refine b5 ?_;exact ⟨_,Ext.refl _,Le.sub (List.nil_sublist _),_,rfl,aH.nil _ _⟩
 try simp only[Int.ofNat_lt] at ar
 apply aA hJ;revert h;refine cS (fun a0 h=>?_) fun a0 h=>?_
 .try simp only[Int.ofNat_lt] at a0
  try apply bu _
  refine dn hJ dz ?_;apply aA hJ;apply bu _;cases h;refine b5 ?_;exact ⟨_,Ext.refl _,Le.sub (List.nil_sublist _),_,rfl,aH.nil _ _⟩
 try simp only[Int.ofNat_lt] at a0
 revert h;refine cS (fun a2 h=>?_) fun a2 h=>?_
 .try simp only[Int.ofNat_lt] at a2
  try apply bu _
  refine dn hJ dz ?_;apply aA hJ;apply bu _;cases h;refine b5 ?_;exact ⟨_,Ext.refl _,Le.sub (List.nil_sublist _),_,rfl,aH.nil _ _⟩
 try simp only[Int.ofNat_lt] at a2
 try apply bu _
 revert h;refine aV hJ (fun a3 h=>?_) fun a3 h=>?_
 .try simp only[Int.ofNat_lt] at a3
  apply aA hJ;apply bu _;cases h;refine b5 ?_;exact ⟨_,Ext.refl _,Le.sub (List.nil_sublist _),_,rfl,aH.nil _ _⟩
 try simp only[Int.ofNat_lt] at a3
 refine aK hJ (ah hJ ?_);apply aG hJ;revert h;refine bS fun c dv h=>?_;apply bu _;refine AT hJ _ (B2 u0 f dv) [(k,.cells #[.int .i64 0,.int .i64 0,.slice none 0 0] 24),(j,.cells #[.int .i64 b.low,.int .i64 b.high] 28),(i,bB u0 (sl d3 u0.ak c4))] [] (by first|rfl|simp only[bN]|(simp only[bN];rfl)) fun v p hE D Q hR dC dE dT=>?_;obtain ⟨hF,rfl,V⟩:=hR;simp only[bN] at dE;subst dC;have Q:bg p ((k,.cells #[.int .i64 0,.int .i64 0,.slice none 0 0] 24)::(j,.cells #[.int .i64 b.low,.int .i64 b.high] 28)::(i,bB u0 (sl d3 u0.ak c4))::[]):=Q;replace f:=f.mono D;clear n;obtain ⟨_,_,n⟩:=f.op;replace u:=Q.hd;replace t:=Q.tl.hd;replace s:=Q.tl.tl.hd;replace m:=m.mono D;obtain ⟨d26,g,rfl,hG⟩:=V.len;apply aJ;try apply bu _
 intro l f33;have E:=cT f33;have bj:=cY f33;have hH:=bO.cons bj dT;try simp only[aN] at bj
 try apply bu _
 apply ah hJ;refine aC hJ fun ea=>?_;apply aG hJ;revert h;refine bS fun a eb h=>?_;obtain ⟨hI,hK,R⟩:=cG eb;obtain ⟨d,G,hL,rfl,rfl,hM,ec,q⟩:=V.sd R;obtain ⟨hN,rfl,a4⟩:=ec;obtain ⟨d39,W,rfl,hP,hQ,hS⟩:=id a4;have ed:=ea.nd;simp only[keys,List.map_cons,List.map_nil,List.map_append,List.cons_append,List.nil_append,List.nodup_cons,List.mem_cons,List.mem_append,List.not_mem_nil,or_false,not_or] at ed;have bk:=q 0 _ rfl;simp only[go_sem] at bk;have hT:=(Array.getElem?_eq_some_iff.1 bk).1;have bm:=q 1 _ rfl;simp only[go_sem] at bm;have hV:=(Array.getElem?_eq_some_iff.1 bm).1;have bo:=q 2 _ rfl;simp only[go_sem] at bo;have hX:=(Array.getElem?_eq_some_iff.1 bo).1;have br:=q 3 _ rfl;simp only[go_sem] at br;have hY:=(Array.getElem?_eq_some_iff.1 br).1;have bs:=q 4 _ rfl;simp only[go_sem] at bs;have hZ:=(Array.getElem?_eq_some_iff.1 bs).1;have b0:=q 5 _ rfl;simp only[go_sem] at b0;have h0:=(Array.getElem?_eq_some_iff.1 b0).1;have b1:=q 6 _ rfl;simp only[go_sem] at b1;have h1:=(Array.getElem?_eq_some_iff.1 b1).1;try apply bu _
 refine bh hJ _ IQ (aJ ?_);try apply bu _
 apply ah hJ;refine aC hJ fun h2=>?_;refine ey hJ mixed [] (.pure 0 (.pure 1 (.pure 2 (.pure 3 (.pure 4 (.pure 6 (.rd 7 (.pure 9 (.pure 10 (.pure 11 (.pure 13 (.rd 14 (.two 5 (.pure 8 (.one 12 (.pure 15 (.pure 16 (.pure 17 (.one 18 (.pure 19 (.pure 20 (.one 21 .done))))))))) 12 (.pure 15 (.one 5 (.pure 8 (.pure 16 (.pure 17 (.one 18 (.pure 19 (.pure 20 (.one 21 .done)))))))))))))))))))))) ⟨p,[(l,bB c (sl (some ⟨d,0,none⟩) c.ak g)),(k,.cells #[.int .i64 0,.int .i64 0,.slice none 0 0] 24),(j,.cells #[.int .i64 b.low,.int .i64 b.high] 28),(i,bB u0 (sl d3 u0.ak c4))]⟩ dz aj ?_;apply bu _;refine vA ?_ ?_
 .have b2:aW bK p 31 (.slice (some ⟨d,0,none⟩) c.ak.length g) (c.ak.set (e).toNat (⟨a.name,(⟨(if a.from_.low<b.low then b.low else a.from_.low),a.from_.high⟩:bX),a.wide,a.aD,a.marks⟩:aS)) [(d,Obj.cells (bI G ((e).toNat*7+1) [.int .i64 (if a.from_.low<b.low then b.low else a.from_.low)]) 31)]:=by have w:=V.part (y:=(⟨a.name,(⟨(if a.from_.low<b.low then b.low else a.from_.low),a.from_.high⟩:bX),a.wide,a.aD,a.marks⟩:aS)) R 1 [.int .i64 (if a.from_.low<b.low then b.low else a.from_.low)] [.string ⟨⟨a.name⟩⟩,.int .i64 a.from_.low,.int .i64 a.from_.high,.int .i64 a.wide,.int .i64 a.aD.low,.int .i64 a.aD.high,.slice d39 a.marks.length W] [.string ⟨⟨a.name⟩⟩,.int .i64 (if a.from_.low<b.low then b.low else a.from_.low),.int .i64 a.from_.high,.int .i64 a.wide,.int .i64 a.aD.low,.int .i64 a.aD.high,.slice d39 a.marks.length W] q rfl rfl an ⟨_,rfl,a4⟩;exact w
  have a5:=tv (y:=(⟨a.name,(⟨(if a.from_.low<b.low then b.low else a.from_.low),a.from_.high⟩:bX),a.wide,a.aD,a.marks⟩:aS)) R;obtain ⟨h3,eh,x⟩:=b2.dL a5;obtain ⟨h4,rfl,b3⟩:=eh;obtain ⟨d168,b4,rfl,h5,h6,h7⟩:=id b3;have et:=x 0 _ rfl;simp only[go_sem] at et;have ev:=x 1 _ rfl;simp only[go_sem] at ev;have eQ:=x 2 _ rfl;simp only[go_sem] at eQ;have eS:=x 3 _ rfl;simp only[go_sem] at eS;have e0:=x 4 _ rfl;simp only[go_sem] at e0;have e1:=x 5 _ rfl;simp only[go_sem] at e1;have X:aW bK p 31 (.slice (some ⟨d,0,none⟩) c.ak.length g) ((c.ak.set (e).toNat (⟨a.name,(⟨(if a.from_.low<b.low then b.low else a.from_.low),a.from_.high⟩:bX),a.wide,a.aD,a.marks⟩:aS)).set (e).toNat (⟨a.name,(⟨(if a.from_.low<b.low then b.low else a.from_.low),(if b.high<a.from_.high then b.high else a.from_.high)⟩:bX),a.wide,a.aD,a.marks⟩:aS)) [(d,Obj.cells (bI (bI G ((e).toNat*7+1) [.int .i64 (if a.from_.low<b.low then b.low else a.from_.low)]) ((e).toNat*7+2) [.int .i64 (if b.high<a.from_.high then b.high else a.from_.high)]) 31)]:=by have w:=b2.part (y:=(⟨a.name,(⟨(if a.from_.low<b.low then b.low else a.from_.low),(if b.high<a.from_.high then b.high else a.from_.high)⟩:bX),a.wide,a.aD,a.marks⟩:aS)) a5 2 [.int .i64 (if b.high<a.from_.high then b.high else a.from_.high)] [.string ⟨⟨a.name⟩⟩,.int .i64 (if a.from_.low<b.low then b.low else a.from_.low),.int .i64 a.from_.high,.int .i64 a.wide,.int .i64 a.aD.low,.int .i64 a.aD.high,.slice d168 a.marks.length b4] [.string ⟨⟨a.name⟩⟩,.int .i64 (if a.from_.low<b.low then b.low else a.from_.low),.int .i64 (if b.high<a.from_.high then b.high else a.from_.high),.int .i64 a.wide,.int .i64 a.aD.low,.int .i64 a.aD.high,.slice d168 a.marks.length b4] x rfl rfl an ⟨_,rfl,b3⟩;exact w
  have ca:=tv (y:=(⟨a.name,(⟨(if a.from_.low<b.low then b.low else a.from_.low),(if b.high<a.from_.high then b.high else a.from_.high)⟩:bX),a.wide,a.aD,a.marks⟩:aS)) a5;obtain ⟨h8,e2,H⟩:=X.dL ca;obtain ⟨h9,rfl,e3⟩:=e2;obtain ⟨d178,ib,rfl,ih,ik,il⟩:=id e3;have fa:=H 0 _ rfl;simp only[go_sem] at fa;have fb:=H 1 _ rfl;simp only[go_sem] at fb;have fc:=H 2 _ rfl;simp only[go_sem] at fc;have fg:=H 3 _ rfl;simp only[go_sem] at fg;have fh:=H 4 _ rfl;simp only[go_sem] at fh;have fi:=H 5 _ rfl;simp only[go_sem] at fi;apply bu _;refine ah hJ (ah hJ ?_);obtain ⟨cb,a6⟩:∃o,o=(bI (bI G ((e).toNat*7+1) [.int .i64 (if a.from_.low<b.low then b.low else a.from_.low)]) ((e).toNat*7+2) [.int .i64 (if b.high<a.from_.high then b.high else a.from_.high)]):=⟨_,rfl⟩
  refine cq (F:=⟨p,(l,bB c (sl (some ⟨d,0,none⟩) c.ak g))::(k,.cells #[.int .i64 0,.int .i64 0,.slice none 0 0] 24)::(j,.cells #[.int .i64 b.low,.int .i64 b.high] 28)::(i,bB u0 (sl d3 u0.ak c4))::[(d,Obj.cells cb 31)]⟩) hJ (by rw[a6];exact Le.refl _) ?_;rw[<-a6] at X;clear a6;obtain ⟨im,fj,I⟩:=X.dL ca;obtain ⟨iv,rfl,z⟩:=fj;obtain ⟨d188,ix,rfl,jC,j1,Y⟩:=id z;have fl:=I 0 _ rfl;simp only[go_sem] at fl;have fp:=I 1 _ rfl;simp only[go_sem] at fp;have fr:=I 2 _ rfl;simp only[go_sem] at fr;have fs:=I 3 _ rfl;simp only[go_sem] at fs;have ft:=I 4 _ rfl;simp only[go_sem] at ft;have fu:=I 5 _ rfl;simp only[go_sem] at fu;refine aC hJ fun j2=>?_;refine eN hJ mixed 9 ⟨p,[(l,bB c (sl (some ⟨d,0,none⟩) c.ak g)),(k,.cells #[.int .i64 0,.int .i64 0,.slice none 0 0] 24),(j,.cells #[.int .i64 b.low,.int .i64 b.high] 28),(i,bB u0 (sl d3 u0.ak c4)),(d,Obj.cells cb 31)]⟩ dz aj ?_;apply bu _;revert h;refine aV hJ (fun a7 h=>?_) fun a7 h=>?_
  ·(try simp only[Int.ofNat_lt] at a7);apply ah hJ;refine aC hJ fun kh=>?_;apply aG hJ;apply bu _;cases h;refine b5 ?_;exact ⟨_,D,Le.sub (List.nil_sublist _),_,rfl,aH.nil _ _⟩
  try simp only[Int.ofNat_lt] at a7
  refine aK hJ (ah hJ ?_);refine aC hJ fun cc=>?_;obtain ⟨cd,Z,K,S,fv⟩:=X.lY ((l,bB c (sl (some ⟨d,0,none⟩) c.ak g))::(k,.cells #[.int .i64 0,.int .i64 0,.slice none 0 0] 24)::(j,.cells #[.int .i64 b.low,.int .i64 b.high] 28)::(i,bB u0 (sl d3 u0.ak c4))::[]) [(l,bB c (sl (some ⟨d,0,none⟩) c.ak g)),(k,.cells #[.int .i64 0,.int .i64 0,.slice none 0 0] 24),(j,.cells #[.int .i64 b.low,.int .i64 b.high] 28),(i,bB u0 (sl d3 u0.ak c4))] [] (by first|rfl|simp only[bN]|(simp only[bN];rfl)) (by first|rfl|simp only[bN]|(simp only[bN];rfl)) cc (bg.cons E (bg.cons u (bg.cons t (bg.cons s (bg.nil _)))));clear cc;refine cq (F:=⟨cd,(l,bB c (sl (some ⟨d,0,none⟩) c.ak g))::(k,.cells #[.int .i64 0,.int .i64 0,.slice none 0 0] 24)::(j,.cells #[.int .i64 b.low,.int .i64 b.high] 28)::(i,bB u0 (sl d3 u0.ak c4))::[]⟩) hJ fv ?_;obtain ⟨kj,kk,cf⟩:=S.op;have K:bg cd ((l,bB c (sl (some ⟨d,0,none⟩) c.ak g))::(k,.cells #[.int .i64 0,.int .i64 0,.slice none 0 0] 24)::(j,.cells #[.int .i64 b.low,.int .i64 b.high] 28)::(i,bB u0 (sl d3 u0.ak c4))::[]):=K;replace f:=f.mono Z;clear n;obtain ⟨_,_,n⟩:=f.op;replace z:=z.mono Z;clear Y;obtain ⟨_,_,Y⟩:=z.op;replace E:=K.hd;replace u:=K.tl.hd;replace t:=K.tl.tl.hd;replace s:=K.tl.tl.tl.hd;replace m:=m.mono Z;apply aG hJ;revert h;refine bS fun kl fw h=>?_;apply bu _;refine cN hJ _ (xo m (⟨c.steps,c.aR,((c.ak.set (e).toNat (⟨a.name,(⟨(if a.from_.low<b.low then b.low else a.from_.low),a.from_.high⟩:bX),a.wide,a.aD,a.marks⟩:aS)).set (e).toNat (⟨a.name,(⟨(if a.from_.low<b.low then b.low else a.from_.low),(if b.high<a.from_.high then b.high else a.from_.high)⟩:bX),a.wide,a.aD,a.marks⟩:aS))⟩:ax) S fw) fun v fx T L hR=>?_;obtain ⟨km,rfl,ck⟩:=hR;have L:bg fx ((l,bB c (sl (some ⟨d,0,none⟩) c.ak g))::(k,.cells #[.int .i64 0,.int .i64 0,.slice none 0 0] 24)::(j,.cells #[.int .i64 b.low,.int .i64 b.high] 28)::(i,bB u0 (sl d3 u0.ak c4))::[]):=L;replace f:=f.mono T;clear n;obtain ⟨_,_,n⟩:=f.op;replace S:=S.mono T;clear cf;obtain ⟨_,_,cf⟩:=S.op;replace z:=z.mono T;clear Y;obtain ⟨_,_,Y⟩:=z.op;replace E:=L.hd;replace u:=L.tl.hd;replace t:=L.tl.tl.hd;replace s:=L.tl.tl.tl.hd;replace m:=m.mono T;obtain ⟨d215,kn,rfl,kp,kq,ks⟩:=id ck;apply aJ;try apply bu _
  cases h;refine b5 ?_;exact ⟨_,((D).trans Z).trans T,Le.sub (List.nil_sublist _),_,rfl,ck⟩
 have cl:aW bK p 31 (.slice (some ⟨d,0,none⟩) c.ak.length g) (c.ak.set (e).toNat (⟨a.name,(⟨(if a.from_.low<b.low then b.low else a.from_.low),a.from_.high⟩:bX),a.wide,a.aD,a.marks⟩:aS)) [(d,Obj.cells (bI G ((e).toNat*7+1) [.int .i64 (if a.from_.low<b.low then b.low else a.from_.low)]) 31)]:=by have w:=V.part (y:=(⟨a.name,(⟨(if a.from_.low<b.low then b.low else a.from_.low),a.from_.high⟩:bX),a.wide,a.aD,a.marks⟩:aS)) R 1 [.int .i64 (if a.from_.low<b.low then b.low else a.from_.low)] [.string ⟨⟨a.name⟩⟩,.int .i64 a.from_.low,.int .i64 a.from_.high,.int .i64 a.wide,.int .i64 a.aD.low,.int .i64 a.aD.high,.slice d39 a.marks.length W] [.string ⟨⟨a.name⟩⟩,.int .i64 (if a.from_.low<b.low then b.low else a.from_.low),.int .i64 a.from_.high,.int .i64 a.wide,.int .i64 a.aD.low,.int .i64 a.aD.high,.slice d39 a.marks.length W] q rfl rfl an ⟨_,rfl,a4⟩;exact w
 have a8:=tv (y:=(⟨a.name,(⟨(if a.from_.low<b.low then b.low else a.from_.low),a.from_.high⟩:bX),a.wide,a.aD,a.marks⟩:aS)) R;obtain ⟨kt,fz,B⟩:=cl.dL a8;obtain ⟨kv,rfl,cv⟩:=fz;obtain ⟨d225,cy,rfl,kx,ky,k0⟩:=id cv;have gg:=B 0 _ rfl;simp only[go_sem] at gg;have gj:=B 1 _ rfl;simp only[go_sem] at gj;have gl:=B 2 _ rfl;simp only[go_sem] at gl;have gn:=B 3 _ rfl;simp only[go_sem] at gn;have gp:=B 4 _ rfl;simp only[go_sem] at gp;have gy:=B 5 _ rfl;simp only[go_sem] at gy;have ab:aW bK p 31 (.slice (some ⟨d,0,none⟩) c.ak.length g) ((c.ak.set (e).toNat (⟨a.name,(⟨(if a.from_.low<b.low then b.low else a.from_.low),a.from_.high⟩:bX),a.wide,a.aD,a.marks⟩:aS)).set (e).toNat (⟨a.name,(⟨(if a.from_.low<b.low then b.low else a.from_.low),(if b.high<a.from_.high then b.high else a.from_.high)⟩:bX),a.wide,a.aD,a.marks⟩:aS)) [(d,Obj.cells (bI (bI G ((e).toNat*7+1) [.int .i64 (if a.from_.low<b.low then b.low else a.from_.low)]) ((e).toNat*7+2) [.int .i64 (if b.high<a.from_.high then b.high else a.from_.high)]) 31)]:=by have w:=cl.part (y:=(⟨a.name,(⟨(if a.from_.low<b.low then b.low else a.from_.low),(if b.high<a.from_.high then b.high else a.from_.high)⟩:bX),a.wide,a.aD,a.marks⟩:aS)) a8 2 [.int .i64 (if b.high<a.from_.high then b.high else a.from_.high)] [.string ⟨⟨a.name⟩⟩,.int .i64 (if a.from_.low<b.low then b.low else a.from_.low),.int .i64 a.from_.high,.int .i64 a.wide,.int .i64 a.aD.low,.int .i64 a.aD.high,.slice d225 a.marks.length cy] [.string ⟨⟨a.name⟩⟩,.int .i64 (if a.from_.low<b.low then b.low else a.from_.low),.int .i64 (if b.high<a.from_.high then b.high else a.from_.high),.int .i64 a.wide,.int .i64 a.aD.low,.int .i64 a.aD.high,.slice d225 a.marks.length cy] B rfl rfl an ⟨_,rfl,cv⟩;exact w
 have c0:=tv (y:=(⟨a.name,(⟨(if a.from_.low<b.low then b.low else a.from_.low),(if b.high<a.from_.high then b.high else a.from_.high)⟩:bX),a.wide,a.aD,a.marks⟩:aS)) a8;obtain ⟨k2,g0,M⟩:=ab.dL c0;obtain ⟨lb,rfl,g1⟩:=g0;obtain ⟨d235,lh,rfl,lj,lk,ll⟩:=id g1;have g2:=M 0 _ rfl;simp only[go_sem] at g2;have g3:=M 1 _ rfl;simp only[go_sem] at g3;have g4:=M 2 _ rfl;simp only[go_sem] at g4;have g7:=M 3 _ rfl;simp only[go_sem] at g7;have ha:=M 4 _ rfl;simp only[go_sem] at ha;have hc:=M 5 _ rfl;simp only[go_sem] at hc;apply bu _;refine ah hJ (ah hJ ?_);obtain ⟨da,a9⟩:∃o,o=(bI (bI G ((e).toNat*7+1) [.int .i64 (if a.from_.low<b.low then b.low else a.from_.low)]) ((e).toNat*7+2) [.int .i64 (if b.high<a.from_.high then b.high else a.from_.high)]):=⟨_,rfl⟩
 refine cq (F:=⟨p,(l,bB c (sl (some ⟨d,0,none⟩) c.ak g))::(k,.cells #[.int .i64 0,.int .i64 0,.slice none 0 0] 24)::(j,.cells #[.int .i64 b.low,.int .i64 b.high] 28)::(i,bB u0 (sl d3 u0.ak c4))::[(d,Obj.cells da 31)]⟩) hJ (by rw[a9];exact Le.refl _) ?_;rw[<-a9] at ab;clear a9;obtain ⟨ln,hf,N⟩:=ab.dL c0;obtain ⟨lr,rfl,C⟩:=hf;obtain ⟨d245,lv,rfl,lx,ly,ad⟩:=id C;have hg:=N 0 _ rfl;simp only[go_sem] at hg;have hh:=N 1 _ rfl;simp only[go_sem] at hh;have hi:=N 2 _ rfl;simp only[go_sem] at hi;have hj:=N 3 _ rfl;simp only[go_sem] at hj;have hk:=N 4 _ rfl;simp only[go_sem] at hk;have hl:=N 5 _ rfl;simp only[go_sem] at hl;refine aC hJ fun lL=>?_;refine eN hJ mixed 9 ⟨p,[(l,bB c (sl (some ⟨d,0,none⟩) c.ak g)),(k,.cells #[.int .i64 0,.int .i64 0,.slice none 0 0] 24),(j,.cells #[.int .i64 b.low,.int .i64 b.high] 28),(i,bB u0 (sl d3 u0.ak c4)),(d,Obj.cells da 31)]⟩ dz aj ?_;apply bu _;revert h;refine aV hJ (fun ba h=>?_) fun ba h=>?_
 .try simp only[Int.ofNat_lt] at ba
  apply ah hJ;refine aC hJ fun l1=>?_;apply aG hJ;apply bu _;cases h;refine b5 ?_;exact ⟨_,D,Le.sub (List.nil_sublist _),_,rfl,aH.nil _ _⟩
 try simp only[Int.ofNat_lt] at ba
 refine aK hJ (ah hJ ?_);refine aC hJ fun db=>?_;obtain ⟨dd,ae,O,U,hn⟩:=ab.lY ((l,bB c (sl (some ⟨d,0,none⟩) c.ak g))::(k,.cells #[.int .i64 0,.int .i64 0,.slice none 0 0] 24)::(j,.cells #[.int .i64 b.low,.int .i64 b.high] 28)::(i,bB u0 (sl d3 u0.ak c4))::[]) [(l,bB c (sl (some ⟨d,0,none⟩) c.ak g)),(k,.cells #[.int .i64 0,.int .i64 0,.slice none 0 0] 24),(j,.cells #[.int .i64 b.low,.int .i64 b.high] 28),(i,bB u0 (sl d3 u0.ak c4))] [] (by first|rfl|simp only[bN]|(simp only[bN];rfl)) (by first|rfl|simp only[bN]|(simp only[bN];rfl)) db (bg.cons E (bg.cons u (bg.cons t (bg.cons s (bg.nil _)))));clear db;refine cq (F:=⟨dd,(l,bB c (sl (some ⟨d,0,none⟩) c.ak g))::(k,.cells #[.int .i64 0,.int .i64 0,.slice none 0 0] 24)::(j,.cells #[.int .i64 b.low,.int .i64 b.high] 28)::(i,bB u0 (sl d3 u0.ak c4))::[]⟩) hJ hn ?_;obtain ⟨l2,l3,df⟩:=U.op;have O:bg dd ((l,bB c (sl (some ⟨d,0,none⟩) c.ak g))::(k,.cells #[.int .i64 0,.int .i64 0,.slice none 0 0] 24)::(j,.cells #[.int .i64 b.low,.int .i64 b.high] 28)::(i,bB u0 (sl d3 u0.ak c4))::[]):=O;replace f:=f.mono ae;clear n;obtain ⟨_,_,n⟩:=f.op;replace C:=C.mono ae;clear ad;obtain ⟨_,_,ad⟩:=C.op;replace E:=O.hd;replace u:=O.tl.hd;replace t:=O.tl.tl.hd;replace s:=O.tl.tl.tl.hd;replace m:=m.mono ae;apply aG hJ;revert h;refine bS fun l4 ho h=>?_;apply bu _;refine cN hJ _ (xo m (⟨c.steps,c.aR,((c.ak.set (e).toNat (⟨a.name,(⟨(if a.from_.low<b.low then b.low else a.from_.low),a.from_.high⟩:bX),a.wide,a.aD,a.marks⟩:aS)).set (e).toNat (⟨a.name,(⟨(if a.from_.low<b.low then b.low else a.from_.low),(if b.high<a.from_.high then b.high else a.from_.high)⟩:bX),a.wide,a.aD,a.marks⟩:aS))⟩:ax) U ho) fun v hp al P hR=>?_;obtain ⟨ma,rfl,dk⟩:=hR;have P:bg hp ((l,bB c (sl (some ⟨d,0,none⟩) c.ak g))::(k,.cells #[.int .i64 0,.int .i64 0,.slice none 0 0] 24)::(j,.cells #[.int .i64 b.low,.int .i64 b.high] 28)::(i,bB u0 (sl d3 u0.ak c4))::[]):=P;replace f:=f.mono al;clear n;obtain ⟨_,_,n⟩:=f.op;replace U:=U.mono al;clear df;obtain ⟨_,_,df⟩:=U.op;replace C:=C.mono al;clear ad;obtain ⟨_,_,ad⟩:=C.op;replace E:=P.hd;replace u:=P.tl.hd;replace t:=P.tl.tl.hd;replace s:=P.tl.tl.tl.hd;obtain ⟨mf,mi,rfl,ml,mn,mr⟩:=id dk;apply aJ;try apply bu _
 cases h;refine b5 ?_;exact ⟨_,((D).trans ae).trans al,Le.sub (List.nil_sublist _),_,rfl,dk⟩
def xD (u0:ax)(b:Int)(c:bX):Option (ax×Int):=
 ai (xC u0 b c 0 (IntKind.i64.wrap (u0.steps - 1))) fun a=>some (a.1,a.2)
theorem IT {ro:Addr->Option Value}(e:dw ro)(u0:ax){s1:Value}(f:aH bK ro s1 u0.ak)(b:Int)(a:bX){r:(ax×Int)}(h:xD u0 b a=some r):eZ Tryz.prog 29 #[cn u0 s1,.int .i64 b,.agg #[.int .i64 a.low,.int .i64 a.high]] ro (fun v aF=>∃c,v= .tuple #[cn r.1 c,.int .i64 r.2]/\aH bK aF c r.1.ak):=by
 unfold xD at h;refine aE.go Tryz.func29 rfl Tryz.ntmps29 Tryz.results29 an fun main J hJ A n hd hs=>?_;have o:=hs 0;have k1:=hs 1;have p:=hs 2;clear hs;apply aB hJ _;refine bf fun q s g=>?_;try simp only[aN] at g
 refine bf fun t u i=>?_;try simp only[aN] at i
 refine bf fun w x j=>?_;try simp only[aN] at j
 try apply ag _
 apply aA hJ;revert h;refine bS fun y k h=>?_;cases h;apply ag _;refine cN hJ _ (IS e u0 f b a 0 (IntKind.i64.wrap (u0.steps - 1)) k) fun v z l m hR=>?_;obtain ⟨B,rfl,d⟩:=hR;simp only[bW] at m;obtain ⟨d18,C,rfl,D,E,-⟩:=id d;apply aJ;try apply ag _
 refine b5 ?_;exact ⟨_,l,Le.sub (List.nil_sublist _),_,rfl,d⟩
def o9 (c:Int)(d:(aP->aP->Option Int))(st:(Int×(List aP))):Option (Fl (Int×(List aP)) (Unit×(List aP))):=
 cond (decide (c<st.1)) (ai (bD st.2 st.1) fun b=>ai (bD st.2 (IntKind.i64.wrap (st.1 - 1))) fun a=>ai (d b a) fun e=>cond (decide (e<0)) (ai (bD (st.2.set (st.1).toNat a) (IntKind.i64.wrap (st.1 - 1))) fun f=>some (.nx ((IntKind.i64.wrap (st.1 - 1)),((st.2.set (st.1).toNat a).set (IntKind.i64.wrap (st.1 - 1)).toNat b)))) (some (.bk (st.1,st.2)))) (some (.bk (st.1,st.2)))
def mS (a:Int)(b:Int)(c:(aP->aP->Option Int))(st:(Int×(List aP))):Option (Fl (Int×(List aP)) (Unit×(List aP))):=
 cond (decide (st.1<b)) (ai (aQ (o9 a c) fu (st.1,st.2)) fun o=>az o (fun d=>some (.nx ((IntKind.i64.wrap (st.1+1)),d.2))) (fun _ _=>none) (fun r=>some (.rt r))) (some (.bk (st.1,st.2)))
def q9 (u0:(List aP))(a:Int)(b:Int)(c:(aP->aP->Option Int)):Option (Unit×(List aP)):=
 cond (List.isEmpty u0) none (ai (aQ (mS a b c) fu ((IntKind.i64.wrap (a+1)),u0)) fun o=>az o (fun d=>some ((),d.2)) (fun _ _=>none) (fun r=>some r))
theorem IU {ro:Addr->Option Value}(u0:(List aP)){bT:Value}{K:List (Nat×Obj)}(x:aW eP ro 91 bT u0 K)(k:Int)(B:Int)(n:(aP->aP->Option Int)){lB:FuncId}{pe pg:Array Value}(a2:aI Tryz.prog lB=true/\∀(aF:Addr->Option Value),Ext ro aF->∀(y0:aP) (L:aP) (z:Int),n y0 L=some z->aE Tryz.prog lB (pe++#[y0.v,L.v]++pg) ⟨aF,[]⟩ (fun v _=>v= .int .i64 z)){r:(Unit×(List aP))}(h:q9 u0 k B n=some r):aE Tryz.prog 190 #[bT,.int .i64 k,.int .i64 B,.func (.func lB) pe pg] ⟨ro,K⟩ (fun v G=>∃M,(v= .tuple #[]/\aW eP ro 91 bT r.2 M)/\Le ⟨ro,M⟩ G):=by
 obtain ⟨d1,c2,rfl,cv⟩:=x.len;unfold q9 at h;revert h;refine cS (fun N h=>?_) fun N h=>?_
 .cases h
 obtain ⟨c,a3,rfl,rfl,cy⟩:=x.fN N;refine aE.go Tryz.func190 rfl Tryz.ntmps190 Tryz.results190 an fun main J hJ A a4 hd hs=>?_;have a5:=hs 0;have k1:=hs 1;have a6:=hs 2;have a7:=hs 3;clear hs;apply ah hJ;refine aC hJ fun c0=>?_;apply aM hJ _;apply aU hJ;revert h;refine bS fun a8 p a9=>?_;refine bP hJ (rg 12 41 [8,9]) (fun m C F'=>∃(q:Array Value) (j:Int) (s:(List aP)),aQ (mS k B n) m (j,s)=some a8/\F'=⟨ro,[(c,Obj.cells q 91)]⟩/\aW eP ro 91 (.slice (some ⟨c,0,none⟩) u0.length c2) s [(c,Obj.cells q 91)]/\slot C 8= .int .i64 j) fu ?_ ?_
 .refine ⟨a3,(IntKind.i64.wrap (k+1)),u0,p,rfl,x,?_⟩;simp only[*,go_sem]
 rintro t ba F' O ⟨q,j,s,p,rfl,P,bb⟩;obtain ⟨Q,R,S⟩:=O.pick [0,1,2,3] aL;simp only[*,go_sem] at Q R S;clear O a4 hd a5 k1 a6 a7;obtain _|t:=t
 .exact absurd p (by simp only[aQ,reduceCtorEq,not_false_eq_true])
 revert p;refine bS fun da h u=>?_;unfold mS at h;try dsimp only at h
 refine ah hJ (ah hJ ?_);refine aC hJ fun db=>?_;apply aM hJ _;revert h;refine aV hJ (fun bc h=>?_) fun bc h=>?_
 .refine aK hJ (ah hJ ?_);refine aU hJ (ah hJ ?_);refine aC hJ fun dd=>?_;apply aM hJ _;apply aU hJ;revert h;refine bS fun bd w T=>?_;refine bP hJ (rg 18 35 [9]) (fun m C F'=>∃(e:Array Value) (a:Int) (f:(List aP)),aQ (o9 k n) m (a,f)=some bd/\F'=⟨ro,[(c,Obj.cells e 91)]⟩/\aW eP ro 91 (.slice (some ⟨c,0,none⟩) u0.length c2) f [(c,Obj.cells e 91)]/\slot C 9= .int .i64 a) fu ?_ ?_
  .refine ⟨q,j,s,w,rfl,P,?_⟩;simp only[*,go_sem]
  rintro m2 bj F' D ⟨e,a,f,w,rfl,g,df⟩;obtain ⟨bk,bm,bo⟩:=D.pick [0,1,2,3,8,12,13,14,17] aL;simp only[*,go_sem] at bk bm bo;have dk:cj (rg 12 41 [8,9]) bj ba:=(D.eC aL).trans bx;clear D Q R S bb;obtain _|m2:=m2
  .exact absurd w (by simp only[aQ,reduceCtorEq,not_false_eq_true])
  revert w;refine bS fun dp h l=>?_;unfold o9 at h;try dsimp only at h
  refine ah hJ (ah hJ ?_);refine aC hJ fun dq=>?_;refine dR hJ mixed 17 1 bx aj ?_;revert h;refine cS (fun br h=>?_) fun br h=>?_
  .revert h;refine bS fun d bs h=>?_;obtain ⟨ds,dt,U⟩:=cG bs;have du:a<((u0.length:Nat):Int):=by have:=g.count;omega
   obtain ⟨b0,b1,V⟩:=g.dL U;obtain rfl:b0=d.cells:=b1;have W:=V 0 _ rfl;simp only[go_sem] at W;have dv:=(Array.getElem?_eq_some_iff.1 W).1;have X:=V 1 _ rfl;simp only[go_sem] at X;have dC:=(Array.getElem?_eq_some_iff.1 X).1;revert h;refine bS fun b b2 h=>?_;obtain ⟨dE,dT,b3⟩:=cG b2;have ea:IntKind.i64.wrap (a - 1)<((u0.length:Nat):Int):=by have:=g.count;omega
   obtain ⟨b4,ca,Y⟩:=g.dL b3;obtain rfl:b4=b.cells:=ca;have Z:=Y 0 _ rfl;simp only[go_sem] at Z;have eb:=(Array.getElem?_eq_some_iff.1 Z).1;have ab:=Y 1 _ rfl;simp only[go_sem] at ab;have ec:=(Array.getElem?_eq_some_iff.1 ab).1;revert h;refine bS fun ed cb h=>?_;(try apply ag _);refine ⟨_,dW hJ fun F hF=>a2.2 _ (j6 hF) d b _ cb,eB ?_⟩;(try apply ag _);revert h;refine aV hJ (fun cc h=>?_) fun cc h=>?_
   .refine aK hJ (ah hJ ?_);apply aU hJ;refine aC hJ fun eh=>?_;refine ey hJ mixed [15,16,17] (.pure 0 (.pure 1 (.pure 2 (.pure 3 (.pure 4 (.pure 5 (.pure 6 (.pure 7 (.pure 8 (.rd 9 (.pure 10 (.pure 11 (.pure 12 (.rd 13 (.pure 14 (.last 15 (.pure 16 (.last 17 .done)))))))))))))))))) ⟨ro,[(c,Obj.cells e 91)]⟩ bx aj ?_;have E:aW eP ro 91 (.slice (some ⟨c,0,none⟩) u0.length c2) (f.set (a).toNat b) [(c,Obj.cells (bI e ((a).toNat*2) [.int .i64 b.step,.int .i64 b.cL]) 91)]:=by have H:=g.gS (i:=(a).toNat) (y:=b) (by have:=U;have:=(List.getElem?_eq_some_iff.1 this).1;simpa only[List.length_set] using this) (cs:=[.int .i64 b.step,.int .i64 b.cL]) rfl;exact H
    revert h;refine bS fun cd cf h=>?_;cases h;obtain ⟨et,ev,ad⟩:=cG cf;have eQ:IntKind.i64.wrap (a - 1)<((u0.length:Nat):Int):=by have:=E.count;omega
    obtain ⟨ck,cl,ae⟩:=E.dL ad;obtain rfl:ck=cd.cells:=cl;have al:=ae 0 _ rfl;simp only[go_sem] at al;have eS:=(Array.getElem?_eq_some_iff.1 al).1;have ao:=ae 1 _ rfl;simp only[go_sem] at ao;have e0:=(Array.getElem?_eq_some_iff.1 ao).1;have ar:aW eP ro 91 (.slice (some ⟨c,0,none⟩) u0.length c2) ((f.set (a).toNat b).set (IntKind.i64.wrap (a - 1)).toNat d) [(c,Obj.cells (bI (bI e ((a).toNat*2) [.int .i64 b.step,.int .i64 b.cL]) ((IntKind.i64.wrap (a - 1)).toNat*2) [.int .i64 d.step,.int .i64 d.cL]) 91)]:=by have H:=E.gS (i:=(IntKind.i64.wrap (a - 1)).toNat) (y:=d) (by have:=ad;have:=(List.getElem?_eq_some_iff.1 this).1;simpa only[List.length_set] using this) (cs:=[.int .i64 d.step,.int .i64 d.cL]) rfl;exact H
    (try apply ag _);obtain ⟨a0,I⟩:∃o,o=(bI (bI e ((a).toNat*2) [.int .i64 b.step,.int .i64 b.cL]) ((IntKind.i64.wrap (a - 1)).toNat*2) [.int .i64 d.step,.int .i64 d.cL]):=⟨_,rfl⟩
    refine cq (F:=⟨ro,[(c,Obj.cells a0 91)]⟩) hJ (by rw[I];exact Le.refl _) ?_;rw[<-I] at ar;clear I;refine aC hJ fun e1=>?_;apply aM hJ _;(try apply ag _);refine ⟨m2,Nat.lt_succ_self _,_,Le.sub (List.Sublist.refl _),a0,(IntKind.i64.wrap (a - 1)),((f.set (a).toNat b).set (IntKind.i64.wrap (a - 1)).toNat d),l,rfl,ar,?_⟩;simp only[*,go_sem]
   cases h;apply bJ;simp only[go_sem];obtain rfl:=sI l;clear l;have h:=T;dsimp only[az] at h;cases h;refine aC hJ fun e2=>?_;apply aM hJ _;(try apply ag _);refine ⟨t,Nat.lt_succ_self _,_,Le.sub (List.Sublist.refl _),e,(IntKind.i64.wrap (j+1)),f,u,rfl,g,?_⟩;simp only[*,go_sem]
  cases h;try apply ag _
  refine cE hJ ?_;apply bJ;simp only[go_sem];obtain rfl:=sI l;clear l;have h:=T;dsimp only[az] at h;cases h;refine aC hJ fun e3=>?_;apply aM hJ _;try apply ag _
  refine ⟨t,Nat.lt_succ_self _,_,Le.sub (List.Sublist.refl _),e,(IntKind.i64.wrap (j+1)),f,u,rfl,g,?_⟩;simp only[*,go_sem]
 cases h;apply bJ;simp only[go_sem];obtain rfl:=sI u;clear u;have h:=a9;dsimp only[az] at h;cases h;apply ag _;exact ⟨_,P,Le.sub (List.Sublist.refl _)⟩
def tw (u0:(List aP))(a:(aP->aP->Option Int))(st:(Int×Int×Int×Bool×Bool)):Option (Fl (Int×Int×Int×Bool×Bool) (Unit×(List aP))):=
 cond (decide ((IntKind.i64.wrap (st.2.1 - st.1))<=12)) (ai (q9 u0 st.1 st.2.1 a) fun b=>some (.rt ((),b.2))) (none)
def rf (u0:(List aP))(a:Int)(b:Int)(c:Int)(d:(aP->aP->Option Int)):Option (Unit×(List aP)):=
 cond (List.isEmpty u0) none (ai (aQ (tw u0 d) fu (a,b,c,true,true)) fun o=>az o (fun e=>some ((),u0)) (fun _ _=>none) (fun r=>some r))
theorem IV {ro:Addr->Option Value}(u0:(List aP)){bT:Value}{p:List (Nat×Obj)}(g:aW eP ro 91 bT u0 p)(i:Int)(j:Int)(k:Int)(b:(aP->aP->Option Int)){kA:FuncId}{mT mU:Array Value}(q:aI Tryz.prog kA=true/\∀(aF:Addr->Option Value),Ext ro aF->∀(y0:aP) (s:aP) (z:Int),b y0 s=some z->aE Tryz.prog kA (mT++#[y0.v,s.v]++mU) ⟨aF,[]⟩ (fun v _=>v= .int .i64 z)){r:(Unit×(List aP))}(h:rf u0 i j k b=some r):aE Tryz.prog 158 #[bT,.int .i64 i,.int .i64 j,.int .i64 k,.func (.func kA) mT mU] ⟨ro,p⟩ (fun v G=>∃c,(v= .tuple #[]/\aW eP ro 91 bT r.2 c)/\Le ⟨ro,c⟩ G):=by
 obtain ⟨d1,c2,rfl,V⟩:=g.len;unfold rf at h;revert h;refine cS (fun t h=>?_) fun t h=>?_
 .cases h
 obtain ⟨u,C,rfl,rfl,W⟩:=g.fN t;refine aE.go Tryz.func158 rfl Tryz.ntmps158 Tryz.results158 an fun main J hJ A D hd hs=>?_;have E:=hs 0;have k1:=hs 1;have F:=hs 2;have H:=hs 3;have I:=hs 4;clear hs;apply ah hJ;refine aC hJ fun X=>?_;apply aM hJ _;apply ah hJ;refine aC hJ fun Y=>?_;apply aM hJ _;apply aU hJ;revert h;refine bS fun K d L=>?_;refine bP hJ (rg 10 138 [1,2,3]) (fun m a F'=>∃(e:Int) (f:Int) (l:Int) (n:Bool) (o:Bool),aQ (tw u0 b) m (e,f,l,n,o)=some K/\F'=⟨ro,[(u,Obj.cells C 91)]⟩/\slot a 1= .int .i64 e/\slot a 2= .int .i64 f/\slot a 3= .int .i64 l/\slot a 10= .bool n/\slot a 11= .bool o) fu ?_ ?_
 .refine ⟨i,j,k,true,true,d,rfl,?_⟩;simp only[*,go_sem]
 rintro w Z F' x ⟨e,f,l,n,o,d,rfl,ab,ad,ae,al,ao⟩;obtain ⟨M,N,O⟩:=x.pick [0,4] aL;simp only[*,go_sem] at M N O;clear x D hd E k1 F H I;obtain _|w:=w
 .exact absurd d (by simp only[aQ,reduceCtorEq,not_false_eq_true])
 revert d;refine bS fun ar h y=>?_;unfold tw at h;try dsimp only at h
 refine aU hJ (ah hJ ?_);refine aC hJ fun a0=>?_;apply aM hJ _;refine ah hJ (ah hJ ?_);refine aC hJ fun a2=>?_;apply aM hJ _;revert h;refine aV hJ (fun P h=>?_) fun P h=>?_
 .apply ah hJ;refine aC hJ fun a3=>?_;apply aG hJ;revert h;refine bS fun a4 Q h=>?_;cases h;apply ag _;refine en hJ [] [] _ (IU u0 g e f b ⟨q.1,fun _ R=>q.2 _ (Ext.trans (Ext.refl _) R)⟩ Q) (fun a5 a6 S c T a7=>?_);obtain ⟨rfl,B⟩:=S;obtain ⟨U,rfl⟩:=B.eI;simp only[bN] at T;subst c;refine ⟨⟨ro,[(u,Obj.cells U 91)]⟩,Le.refl _,?_⟩;try apply ag _
  obtain rfl:=sI y;clear y;have h:=L;dsimp only[az] at h;cases h;refine b5 ?_;exact ⟨_,B,Le.sub (List.Sublist.refl _)⟩
 cases h
def tA (u0:(List aP))(a:(aP->aP->Option Int)):Option (Unit×(List aP)):=
 cond (List.isEmpty u0) none (ai (jP (IntKind.u64.wrap (u0.length:Int))) fun b=>ai (rf u0 0 (u0.length:Int) b a) fun c=>some ((),c.2))
theorem IW {ro:Addr->Option Value}(u0:(List aP)){bT:Value}{d:List (Nat×Obj)}(b:aW eP ro 91 bT u0 d)(c:(aP->aP->Option Int)){bQ:FuncId}{bY bZ:Array Value}(e:aI Tryz.prog bQ=true/\∀(aF:Addr->Option Value),Ext ro aF->∀(y0:aP) (f:aP) (z:Int),c y0 f=some z->aE Tryz.prog bQ (bY++#[y0.v,f.v]++bZ) ⟨aF,[]⟩ (fun v _=>v= .int .i64 z)){r:(Unit×(List aP))}(h:tA u0 c=some r):aE Tryz.prog 117 #[bT,.func (.func bQ) bY bZ] ⟨ro,d⟩ (fun v G=>∃a,(v= .tuple #[]/\aW eP ro 91 bT r.2 a)/\Le ⟨ro,a⟩ G):=by
 obtain ⟨d1,c2,rfl,s⟩:=b.len;unfold tA at h;revert h;refine cS (fun g h=>?_) fun g h=>?_
 .cases h
 obtain ⟨j,t,rfl,rfl,u⟩:=b.fN g;refine aE.go Tryz.func117 rfl Tryz.ntmps117 Tryz.results117 an fun main J hJ A w hd hs=>?_;have x:=hs 0;have k1:=hs 1;clear hs;apply ah hJ;refine aC hJ fun y=>?_;apply aG hJ;apply bu _;refine aC hJ fun B=>?_;apply aG hJ;revert h;refine bS fun k l h=>?_;apply bu _;refine bh hJ _ (sR (IntKind.u64.wrap (u0.length:Int)) l) (aJ ?_);revert h;refine bS fun C m h=>?_;try apply bu _
 refine en hJ [] [] _ (IV u0 b 0 (u0.length:Int) k c ⟨e.1,fun _ n=>e.2 _ (Ext.trans (Ext.refl _) n)⟩ m) (fun D E o a p F=>?_);obtain ⟨rfl,i⟩:=o;obtain ⟨q,rfl⟩:=i.eI;simp only[bN] at p;subst a;refine ⟨⟨ro,[(j,Obj.cells q 91)]⟩,Le.refl _,?_⟩;try apply bu _
 cases h;apply ag _;exact ⟨_,i,Le.sub (List.Sublist.refl _)⟩
def xE (a:Int)(st:Int):Option (Fl Int Unit):=
 cond (decide (a<st)) (none) (some (.bk st))
def xF (a:Int)(b:Int)(st:Int):Option (Fl Int Unit):=
 cond (decide (st<b)) (ai (aQ (xE a) fu st) fun o=>az o (fun c=>some (.nx (IntKind.i64.wrap (st+1)))) (fun _ _=>none) (fun r=>some (.rt r))) (some (.bk st))
def xG (a:Int)(b:Int)(c:(aP->aP->Option Int)):Option Unit:=
 ai (aQ (xF a b) fu (IntKind.i64.wrap (a+1))) fun o=>az o (fun d=>some ()) (fun _ _=>none) (fun r=>some r)
theorem IX {ro:Addr->Option Value}(a:Int)(d:Int)(k:(aP->aP->Option Int)){lB:FuncId}{pe pg:Array Value}(N:aI Tryz.prog lB=true/\∀(aF:Addr->Option Value),Ext ro aF->∀(y0:aP) (l:aP) (z:Int),k y0 l=some z->aE Tryz.prog lB (pe++#[y0.v,l.v]++pg) ⟨aF,[]⟩ (fun v _=>v= .int .i64 z)){r:Unit}(h:xG a d k=some r):aE Tryz.prog 190 #[.slice none 0 0,.int .i64 a,.int .i64 d,.func (.func lB) pe pg] ⟨ro,[]⟩ (fun v _=>v= .tuple #[]):=by
 unfold xG at h;refine aE.go Tryz.func190 rfl Tryz.ntmps190 Tryz.results190 an fun main J hJ A t hd hs=>?_;have u:=hs 0;have k1:=hs 1;have w:=hs 2;have x:=hs 3;clear hs;apply aA hJ;apply bu _;apply aU hJ;revert h;refine bS fun y b B=>?_;have h:=trivial;refine bP hJ (rg 12 41 [8,9]) (fun m e F'=>∃(v1:Int),aQ (xF a d) m v1=some y/\F'=⟨ro,[]⟩/\slot e 8= .int .i64 v1) fu ?_ ?_
 .refine ⟨(IntKind.i64.wrap (a+1)),b,rfl,?_⟩;simp only[*,go_sem,-h]
 rintro f C F' n ⟨v1,b,rfl,D⟩;have h:=True.intro;obtain ⟨o,p,q⟩:=n.pick [0,1,2,3] aL;simp only[*,go_sem,-h] at o p q;clear n t hd u k1 w x;obtain _|f:=f
 .exact absurd b (by simp only[aQ,reduceCtorEq,not_false_eq_true])
 clear h;revert b;refine bS fun O h g=>?_;unfold xF at h;try dsimp only at h
 refine ah hJ (aA hJ ?_);apply bu _;revert h;refine aV hJ (fun E h=>?_) fun E h=>?_
 .refine aK hJ (ah hJ ?_);refine aU hJ (ah hJ ?_);apply aG hJ;apply bu _;apply aU hJ;revert h;refine bS fun F c G=>?_;have h:=trivial;refine bP hJ (rg 18 35 [9]) (fun m e F'=>∃(i:Int),aQ (xE a) m i=some F/\F'=⟨ro,[]⟩/\slot e 9= .int .i64 i) fu ?_ ?_
  .refine ⟨v1,c,rfl,?_⟩;simp only[*,go_sem,-h]
  rintro m2 H F' j ⟨i,c,rfl,P⟩;have h:=True.intro;obtain ⟨I,K,L⟩:=j.pick [0,1,2,3,8,12,13,14,17] aL;simp only[*,go_sem,-h] at I K L;have Q:cj (rg 12 41 [8,9]) H C:=(j.eC aL).trans dz;clear j o p q D;obtain _|m2:=m2
  .exact absurd c (by simp only[aQ,reduceCtorEq,not_false_eq_true])
  clear h;revert c;refine bS fun R h s=>?_;unfold xE at h;try dsimp only at h
  refine ah hJ (ah hJ ?_);refine dR hJ mixed 17 0 dz aj ?_;revert h;refine cS (fun M h=>?_) fun M h=>?_
  .cases h
  try apply bu _
  refine dr hJ dz ?_;apply bJ;simp only[go_sem];cases h;obtain rfl:=sI s;clear s;have h:=G;dsimp only[az] at h;apply aG hJ;apply bu _;cases h;have h:=True.intro;try apply bu _
  refine ⟨f,Nat.lt_succ_self _,_,Le.sub (List.Sublist.refl _),(IntKind.i64.wrap (v1+1)),g,rfl,?_⟩;simp only[*,go_sem,-h]
 apply bJ;simp only[go_sem];cases h;obtain rfl:=sI g;clear g;have h:=B;dsimp only[az] at h;try (have h':=Option.some.inj h;clear h;subst h')
 try simp only[*,go_sem]
def xH (a:(aP->aP->Option Int))(st:(Int×Int×Int×Bool×Bool)):Option (Fl (Int×Int×Int×Bool×Bool) Unit):=
 cond (decide ((IntKind.i64.wrap (st.2.1 - st.1))<=12)) (ai (xG st.1 st.2.1 a) fun b=>some (.rt ())) (none)
def tB (a:Int)(b:Int)(c:Int)(d:(aP->aP->Option Int)):Option Unit:=
 ai (aQ (xH d) fu (a,b,c,true,true)) fun o=>az o (fun e=>some ()) (fun _ _=>none) (fun r=>some r)
theorem IY {ro:Addr->Option Value}(d:Int)(e:Int)(f:Int)(b:(aP->aP->Option Int)){kA:FuncId}{mT mU:Array Value}(j:aI Tryz.prog kA=true/\∀(aF:Addr->Option Value),Ext ro aF->∀(y0:aP) (k:aP) (z:Int),b y0 k=some z->aE Tryz.prog kA (mT++#[y0.v,k.v]++mU) ⟨aF,[]⟩ (fun v _=>v= .int .i64 z)){r:Unit}(h:tB d e f b=some r):aE Tryz.prog 158 #[.slice none 0 0,.int .i64 d,.int .i64 e,.int .i64 f,.func (.func kA) mT mU] ⟨ro,[]⟩ (fun v _=>v= .tuple #[]):=by
 unfold tB at h;refine aE.go Tryz.func158 rfl Tryz.ntmps158 Tryz.results158 an fun main J hJ A p hd hs=>?_;have q:=hs 0;have k1:=hs 1;have s:=hs 2;have t:=hs 3;have u:=hs 4;clear hs;apply aB hJ _;apply aB hJ _;apply aU hJ;revert h;refine bS fun w c x=>?_;refine bP hJ (rg 10 138 [1,2,3]) (fun m a F'=>∃(v1:Int) (v2:Int) (g:Int) (v4:Bool) (i:Bool),aQ (xH b) m (v1,v2,g,v4,i)=some w/\F'=⟨ro,[]⟩/\slot a 1= .int .i64 v1/\slot a 2= .int .i64 v2/\slot a 3= .int .i64 g/\slot a 10= .bool v4/\slot a 11= .bool i) fu ?_ ?_
 .refine ⟨d,e,f,true,true,c,rfl,?_⟩;simp only[*,go_sem]
 rintro l G F' n ⟨v1,v2,g,v4,i,c,rfl,H,I,K,L,M⟩;obtain ⟨y,B,C⟩:=n.pick [0,4] aL;simp only[*,go_sem] at y B C;clear n p hd q k1 s t u;obtain _|l:=l
 .exact absurd c (by simp only[aQ,reduceCtorEq,not_false_eq_true])
 revert c;refine bS fun N h o=>?_;unfold xH at h;try dsimp only at h
 refine aU hJ (ah hJ ?_);apply aM hJ _;refine ah hJ (aA hJ ?_);apply ag _;revert h;refine aV hJ (fun D h=>?_) fun D h=>?_
 .apply aA hJ;revert h;refine bS fun O E h=>?_;cases h;apply ag _;refine bh hJ _ (IX (lB:=kA) (pe:=mT) (pg:=mU) v1 v2 b ⟨j.1,fun _ F=>j.2 _ (Ext.trans aY F)⟩ E) ?_;try apply ag _
  obtain rfl:=sI o;clear o;have h:=x;dsimp only[az] at h;try (have h':=Option.some.inj h;clear h;subst h')
  try (refine aO ?_)
  try simp only[*,go_sem]
 cases h
def tC (a:(aP->aP->Option Int)):Option Unit:=
 ai (jP (IntKind.u64.wrap 0)) fun x1=>ai (tB 0 0 x1 a) fun x3=>some ()
theorem IZ {ro:Addr->Option Value}(a:(aP->aP->Option Int)){bQ:FuncId}{bY bZ:Array Value}(b:aI Tryz.prog bQ=true/\∀(aF:Addr->Option Value),Ext ro aF->∀(y0:aP) (c:aP) (z:Int),a y0 c=some z->aE Tryz.prog bQ (bY++#[y0.v,c.v]++bZ) ⟨aF,[]⟩ (fun v _=>v= .int .i64 z)){r:Unit}(h:tC a=some r):aE Tryz.prog 117 #[.slice none 0 0,.func (.func bQ) bY bZ] ⟨ro,[]⟩ (fun v _=>v= .tuple #[]):=by
 unfold tC at h;refine aE.go Tryz.func117 rfl Tryz.ntmps117 Tryz.results117 an fun main J hJ A g hd hs=>?_;have i:=hs 0;have k1:=hs 1;clear hs;apply aB hJ _;apply aG hJ;revert h;refine bS fun x1 d h=>?_;apply ag _;refine bh hJ _ (sR (IntKind.u64.wrap 0) d) (aJ ?_);revert h;refine bS fun x3 e h=>?_;try apply ag _
 refine bh hJ _ (IY (kA:=bQ) (mT:=bY) (mU:=bZ) 0 0 x1 a ⟨b.1,fun _ f=>b.2 _ (Ext.trans aY f)⟩ e) ?_;try apply ag _
 try (have h':=Option.some.inj h;clear h;subst h')
 try simp only[*,go_sem]
end Go.Proofs.YtlchekhkopimhaaGreatDoor
end
section
namespace Go.Sep
open Go Go.Conc
open Go.ConcN (sumTo upd upd_ne upd_same)
def g8 (P:Program):Frame:={(default:Frame) with fn:=P.funcs.size,defers:=[],mode:=.panicking [goexitEntry]}
section
variable {P:Program}{f:FuncId}{fn:Func}{cd:Code}{w:World}{caps args:Array Value}
theorem B3 (a:P.funcs[f]?=some fn)(b:(fn.name== "runtime.NumGoroutine")=false)(hb:fn.body=some cd):
  stepG P false (born P {target:=.fn (.func f) caps,args:=args}) w= .go (G ((baseD f).at {tmps:=args++caps++Array.replicate (fn.ntmps - (args++caps).size) undef,defers:=[]} [.code cd]) [g8 P]) w #[]:=by
 have c:¬fn.name= "runtime.NumGoroutine":=by simpa using b
 rw[<-enter_atD (args++caps) a hb]
 simp[born,G,stepG,unwind,callDeferred,invoke,callFunc,a,c,hb,GStep.after,seen_none,g8]
theorem B4 {b:Frame}{a:Act}{todo:List Item}(hn:b.kind= .deferred)(hd:a.defers=[])(d:P.funcs[b.fn]?=some fn)(c:fn.results=#[]):
  stepG P false (G {b.at a todo with mode:=.returning} [g8 P]) w= .go (G (g8 P) []) w #[]:=by
 have he:(results fn a.tmps).events P w #[]=#[]:=events_results_none c _ _
 have hv:(results fn a.tmps).run P w= .ok (.tuple #[]) w:=results_none c _ P w
 simp[G,stepG,unwind,doReturn,Frame.at,hn,hd,d,hv,he,g8,goexitEntry,seen_none,GStep.after]
theorem B5:stepG P false (G (g8 P) []) w= .go {frame:=g8 P,callers:=[],status:=.finished,dying:=none} w #[]:=by
 have e:(default:Frame).todo=[]:=rfl;simp[G,stepG,unwind,g8,goexitEntry,Frame.catches,e]
end
section
variable {c:Cy}{i:Nat}{F:af}{f fd:FuncId}
def I0 (c:Cy)(i:Nat)(fd:FuncId)(v:Value):Ex->Act->af->Ph->Prop
 | .exit _,_,_,_=>False
 |_,a,_,ph=>a.defers=[dcall fd #[v]]/\(ph.mp= .idle\/ph.mp= .fin)/\ph.gp= .cnt/\ph.stored=c.bs i/\ph.deaf=0
end
attribute [go_sem] I0
end Go.Sep
end
section
namespace Go.Sep
open Go Go.Conc
def xI {S:Type}(b:Act->af->S->Prop)(Q:Ex->Act->af->S->Prop):Ex->Act->af->S->Prop
 | .normal,a,F,ph=>b a F ph
 |e,a,F,ph=>Q e a F ph
attribute [go_sem] xI
theorem I1 {P:Program}{main:Bool}{S:Type}{JF:S->Goroutine->af->Prop}{fi:FuncId}{Q:Ex->Act->af->S->Prop}{a:Act}{F:af}{ph:S}(hM:∀ph,ez P main (JF ph)){x:Code}(b:Act->af->S->Prop)
  (c:cV JF fi x (xI b Q) a F ph) (d:∀a F ph,b a F ph->Q .normal a F ph):cV JF fi x Q a F ph:=
 c.mono fun e a F ph h=>by
  cases e with
  |normal=>exact d a F ph h
  |exit i=>exact h
  |ret=>exact h
theorem bL {P:Program}{main:Bool}{S:Type}{JF:S->Goroutine->af->Prop}{fi:FuncId}{Q:Ex->Act->af->S->Prop}{a:Act}{F:af}{ph:S}(hM:∀ph,ez P main (JF ph)){id:Nat}{ops:Array Oper}
  (h:∀K:Act->af->S->Prop,(∀a F ph,Q .normal a F ph->K a F ph)->ay JF fi ops 0 ops.size K a F ph):cV JF fi (.region id ops false) Q a F ph:=oU hM (h _ fun _ _ _ h=>h)
theorem B6 {S:Type}{b:Act->af->S->Prop}{Q:Ex->Act->af->S->Prop}{a:Act}{F:af}{ph:S}(h:b a F ph):xI b Q .normal a F ph:=h
def kB (x y:Int):Int:=IntKind.u64.wrap ((BitVec.ofInt 64 x&&& BitVec.ofInt 64 y).toNat:Int)
@[go_sem] theorem SH (x y:Int):IntKind.u64.wrap ((@HAnd.hAnd (BitVec 64) (BitVec 64) (BitVec 64) (@instHAndOfAndOp (BitVec IntKind.u64.bits) (@BitVec.instAndOp IntKind.u64.bits)) (BitVec.ofInt 64 x) (BitVec.ofInt 64 y)).toNat:Int)=kB x y:=rfl
theorem xJ (v t:Nat)(hv:v<2147483648)(ht:t<=1):kB ((v:Int)*4294967296+(t:Int)) 2147483648=0:=Go.ConcN.st_flag v t hv ht
theorem xK (v t:Nat)(hv:v<2147483648)(ht:t<=1):kB ((v:Int)*4294967296+(t:Int)) 2147483647=(t:Int):=Go.ConcN.st_waiters v t hv ht
theorem xL (v t:Nat)(ht:t<=1):((v:Int)*4294967296+(t:Int)).fdiv 4294967296=v:=by
 rw[Int.fdiv_eq_ediv_of_nonneg _ aL];omega
end Go.Sep
end
section
namespace Go.Proofs.YtlchekhkopimhaaGreatDoor
open Go Go.Sep Go.Proofs
set_option maxRecDepth 100000
set_option maxHeartbeats 4000000
theorem B7 (l:List Int)(n:Int)(b:l.length<=1000000):oL l n=some (decide (n∈l)):=by
 unfold oL;have key:aQ (oK l n) fu (false,0)=some (cP (cr (fun i=>match l[i]? with|none=>none|some x=>if x==n then some true else none) l.length) (false,(l.length:Int))):=by
  refine gz _ (fun i=>(false,(i:Int))) l.length b (fun i hi=>?_) ?_
  .unfold oK;simp only[gX hi,cond_true,gk,List.getElem?_eq_getElem hi,ai,gA (show i<=1000000 by omega)];cases l[i]==n<;>rfl
  .unfold oK;simp only[gY,cond_false]
 rw[key];cases h:cr (fun i=>match l[i]? with|none=>none|some x=>if x==n then some true else none) l.length with
 |some r=>
  obtain ⟨i,hi,a,-⟩:=jq h;simp only[List.getElem?_eq_getElem hi] at a;split at a
  .rename_i hn;cases a;have:n∈l:=by rw[<-LawfulBEq.eq_of_beq hn];exact List.getElem_mem hi
   simp[ai,cP,az,this]
  .cases a
 |none=>
  have:n∉l:=fun hn=>by
   obtain ⟨i,hi,rfl⟩:=List.getElem_of_mem hn;have:=fH.1 h i hi;simp only[List.getElem?_eq_getElem hi,beq_self_eq_true,if_true] at this;cases this
  simp[ai,cP,az,this]
def v0 (w:Nat):aT:=⟨⟨0,0,0,0⟩,⟨0,0,0,0⟩,(w:Int)⟩
def mV (b:ax)(v:aT):Bool:=(jm b v).getD false
def vP (b:ax)(w:Nat):List aT:=(e9 b.ak 0 (v0 w)).filter (mV b)
theorem xM {b:ax}(h:b8 b){w:Nat}{u:aT}(hu:u∈e9 b.ak 0 (v0 w)):u.aR=(w:Int)/\mP b u.au.at u.av.at:=by
 obtain ⟨c,-,d⟩:=(k6 b.ak 0 (v0 w) u (by have:=h.many;omega)).1 hu;refine ⟨c,fun i hi=>?_⟩;have a:b.ak[i]?=some b.ak[i]:=List.getElem?_eq_getElem hi;have:=d i _ a;rw[Nat.zero_add] at this;obtain ⟨⟨a1,e,f,g⟩,c1,c2,c3,c4⟩:=js h a;omega
theorem ri {b:ax}(h:b8 b){w:Nat}(hw:w<16){u:aT}(hu:u∈e9 b.ak 0 (v0 w)):∃r,jm b u=some r/\(r=true↔ki b u.au.at u.av.at (Nat.testBit w)):=by
 obtain ⟨a,c⟩:=xM h hu;exact HQ h c (fun _ _=>rfl) (fun _ _=>rfl) fun i hi=>wQ a hw (by have:=h.many;omega)
theorem B8 {b:ax}:∀l:List aT,(∀u∈l,∃r,jm b u=some r)->l.flatMap (leaf b)=(l.filter (mV b)).map some
 |[],_=>rfl
 |u::l,h=>by
  obtain ⟨r,a⟩:=h u an
  rw[List.flatMap_cons,B8 l fun x c=>h x (by simp[c])]
  unfold leaf mV
  rw[a]
  cases r
  .rw[List.filter_cons_of_neg (by simp[a])];rfl
  .rw[List.filter_cons_of_pos (by simp[a])];rfl
theorem B9 {b:ax}(h:b8 b){w:Nat}(hw:w<16):qC b (w:Int)=(vP b w).map some:=by
 rw[HS h];exact B8 _ fun u hu=>(ri h hw hu).imp fun _ x=>x.1
theorem I2:∀(l acc:List aT),acc.length+l.length<=1000000->q6 acc (l.map some)=some (acc++l):=by
 have key:∀(l acc:List aT),acc.length+l.length<=1000000->j8 oW (l.map some) acc=some (.nx (acc++l)):=by
  intro l
  induction l with
  |nil=>intro acc _;simp[j8]
  |cons x l ih=>
   intro acc a;simp only[List.length_cons] at a;rw[List.map_cons];have hb:oW x acc=some (.nx (acc++[x])):=by
    unfold oW;rw[s3 _ _ (by simp;omega)];rfl
   unfold j8;rw[hb];simp only[ai];rw[ih (acc++[x]) (by simp;omega),List.append_assoc];rfl
 intro l acc a;unfold q6;rw[key l acc a];rfl
def pop (w:Nat):Nat:=((List.range 4).filter (Nat.testBit w)).length
theorem I3:∀w:Nat,w<16->qo (w:Int)=some ((pop w:Nat):Int):=by decide+kernel
theorem I4:∀n:Nat,n<5->iO 1 (n:Int)=some ((2 ^ n:Nat):Int):=by decide+kernel
def iV (b:ax)(k:Nat):List aT:=(List.range k).flatMap fun w=>if ((pop w:Nat):Int)<=b.aR then vP b w else []
def bH (b:ax):List aT:=iV b (2 ^ b.ak.length)
theorem xN (b:ax)(k:Nat):iV b (k+1)=iV b k++if ((pop k:Nat):Int)<=b.aR then vP b k else []:=by
 unfold iV;rw[List.range_succ,List.flatMap_append,List.flatMap_cons,List.flatMap_nil,List.append_nil]
theorem Ca {st:Int}:∀r:List aS,(∀s∈r,Bd st s)->jS r<=9 ^ r.length
 |[],_=>Nat.le_refl _
 |s::r,h=>by
  have ih:=Ca r fun x a=>h x (by simp[a])
  obtain ⟨⟨a1,b,c,d⟩,c1,c2,c3,c4⟩:=h s an
  have e1:dG s.from_<=3:=by unfold dG;omega
  have e2:dG s.aD<=3:=by unfold dG;omega
  rw[jS,List.length_cons,Nat.pow_succ]
  calc dG s.from_*(dG s.aD*jS r)<=3*(3*9 ^ r.length):=Nat.mul_le_mul e1 (Nat.mul_le_mul e2 ih)
   _=9 ^ r.length*9:=aa
theorem Cb {b:ax}(h:b8 b)(w:Nat):(vP b w).length<=6561:=by
 have a:(vP b w).length<=(e9 b.ak 0 (v0 w)).length:=List.length_filter_le _ _;rw[wT] at a;have c:=Ca b.ak fun s hs=>by
  obtain ⟨i,hi,rfl⟩:=List.getElem_of_mem hs;exact js h (List.getElem?_eq_getElem hi)
 have d:9 ^ b.ak.length<=9 ^ 4:=Nat.pow_le_pow_right aa h.many.2;have:(9:Nat) ^ 4=6561:=aL;omega
theorem xO {b:ax}(h:b8 b):∀k,(iV b k).length<=k*6561
 |0=>by simp[iV]
 |k+1=>by
  have ih:=xO h k
  have a:=Cb h k
  rw[xN,List.length_append,Nat.add_mul]
  split
  .omega
  .simp;omega
theorem kC {b:ax}(h:b8 b):2 ^ b.ak.length<=16:=Nat.le_trans (Nat.pow_le_pow_right aa h.many.2) aL
theorem xP {b:ax}(h:b8 b):(bH b).length<=104976:=by
 have c:=xO h (2 ^ b.ak.length);have a:=kC h;have d:2 ^ b.ak.length*6561<=16*6561:=Nat.mul_le_mul_right _ a;unfold bH;omega
theorem Cc {b:ax}(h:b8 b):oY b=some (bH b):=by
 unfold oY;rw[I4 _ (by have:=h.many;omega)];simp only[ai];have c:=kC h;have key:aQ (oX b ((2 ^ b.ak.length:Nat):Int)) fu (([]:List aT),0)=some (cP (cr (fun _=>none) (2 ^ b.ak.length)) (bH b,((2 ^ b.ak.length:Nat):Int))):=by
  refine gz (fun _=>none) (fun i=>(iV b i,(i:Int))) _ aa (fun i hi=>?_) ?_
  .unfold oX;rw[gX hi,I3 _ aa];simp only[cond,ai];rw[mL aa,xN];by_cases a:((pop i:Nat):Int)<=b.aR
   .rw[decide_eq_true a];simp only[if_pos a];unfold qD;simp only;rw[B9 h aa,I2 _ _ (by have:=xO h i;have:=Cb h i;omega)];rfl
   .rw[decide_eq_false a];simp only[if_neg a,List.append_nil];rfl
  .unfold oX;rw[gY];rfl
 rw[key,fH.2 (fun _ _=>rfl)];rfl
theorem lC {b:ax}(h:b8 b)(a:ef b=some 0){f:ax->Option Bool}(c:f b=some true):iF b f=some (if (bH b).length=0 then ((⟨⟨0,0,[]⟩,[]⟩:dD),9) else ((⟨b,bH b⟩:dD),0)):=by
 unfold iF;rw[a];simp only[ai];rw[c,Cc h];simp only;by_cases e:(bH b).length=0
 .rw[if_pos e,e];rfl
 .rw[if_neg e];have:(((bH b).length:Int)==0)=false:=by simp;intro x;exact e (by rw[x];rfl)
  rw[this];rfl
def gM (n len:Nat):Int:=if n=len then 1 else if n=0 then 2 else 0
theorem Cd {x:dD}{p:aT->Bool}{is:aT->Option Bool}(h:∀v∈x.bF,is v=some (p v))(f:x.bF.length<=1000000):mb x is=some (gM (x.bF.countP p) x.bF.length):=by
 have key:∀(l:List aT) (i c:Nat),(∀v∈l,is v=some (p v))->c+l.length<=1000000->b7 (oe is) i l (c:Int)=some (.nx ((c+l.countP p:Nat):Int)):=by
  intro l
  induction l with
  |nil=>intro i c _ _;rfl
  |cons v l ih=>
   intro i c hv d;simp only[List.length_cons] at d;rw[mK];have e1:IntKind.i64.wrap ((c:Int)+1)=((c+1:Nat):Int):=gA aa;have hb:oe is i v (c:Int)=some (.nx (if p v then ((c+1:Nat):Int) else (c:Int))):=by
    unfold oe;rw[hv v an,e1];cases p v<;>rfl
   rw[hb];cases b:p v
   .simp only[ai,Bool.false_eq_true,if_false];rw[ih (i+1) c (fun x a=>hv x (by simp[a])) aa,List.countP_cons_of_neg (by simp[b])]
   .simp only[ai,if_true];rw[ih (i+1) (c+1) (fun x a=>hv x (by simp[a])) aa,List.countP_cons_of_pos b,show c+1+l.countP p=c+(l.countP p+1) by omega]
 unfold mb;have:=key x.bF 0 0 h aa;rw[Nat.zero_add] at this;rw[show ((0:Nat):Int)=0 from rfl] at this;rw[this];simp only[ai,az];unfold gM;by_cases e:x.bF.countP p=x.bF.length
 .rw[if_pos e,e];simp
 .rw[if_neg e];have:((((x.bF.countP p:Nat):Int))==(x.bF.length:Int))=false:=by simp;omega
  rw[this];by_cases e0:x.bF.countP p=0
  .rw[if_pos e0,e0];rfl
  .rw[if_neg e0];have:((((x.bF.countP p:Nat):Int))==0)=false:=by simp at e0 ⊢;omega
   rw[this];rfl
def jW (b:ax)(v:aT)(w:Nat)(step:Int)(i:Nat):Option Bool:=match b.ak[i]? with
 |none=>none
 |some x=>if !Nat.testBit w i&&decide ((step - v.au.at i+b.steps) % b.steps<x.wide) then some true else none
def rj (b:ax)(v:aT)(w:Nat)(step:Int):Bool:=(cr (jW b v w step) b.ak.length).getD false
theorem I5 {b:ax}(h:b8 b){v:aT}{w:Nat}(hw:w<16)(hv:v.aR=(w:Int))(d:mP b v.au.at v.av.at){step:Int}(hs:0<=step/\step<b.steps):j9 b v step=some (rj b v w step):=by
 have key:b7 (qs b v step) 0 b.ak false=some (cP (cr (jW b v w step) b.ak.length) false):=by
  refine qV b.ak (jW b v w step) (fun _=>false) fun i x a=>?_;have hi:=(List.getElem?_eq_some_iff.1 a).1;have c:i<4:=by have:=h.many;omega
  have f:=h.steps;have g:=d i hi;unfold qs jW;rw[wQ hv hw c,a];simp only[ai];cases Nat.testBit w i
  .simp only[Bool.not_false,cond_true,Bool.true_and];rw[aZ.get_at _ c];simp only[ai];unfold fD;rw[if_neg (show ¬b.steps=0 by omega),wr (show -9223372036854775808<=step - v.au.at i/\step - v.au.at i<9223372036854775808 by omega),wr aa,qY aa];simp only;by_cases e:(step - v.au.at i+b.steps) % b.steps<x.wide
   .rw[decide_eq_true e];rfl
   .rw[decide_eq_false e];rfl
  .rfl
 unfold j9;rw[key];unfold rj;cases j:cr (jW b v w step) b.ak.length<;>rfl
def I6 (b:ax)(v:aT)(w:Nat):Bool:=(List.range b.steps.toNat).all fun (j:Nat)=>rj b v w (j:Int)
theorem tD {b:ax}(h:b8 b){v:aT}(hv:v∈bH b):∃w:Nat,w<16/\w<2 ^ b.ak.length/\((pop w:Nat):Int)<=b.aR/\v.aR=(w:Int)/\mP b v.au.at v.av.at/\v∈vP b w:=by
 unfold bH iV at hv;obtain ⟨w,hw,a⟩:=List.mem_flatMap.1 hv;have:=kC h;have c:=List.mem_range.1 hw;split at a
 .rename_i d;obtain ⟨e,f⟩:=xM h (List.mem_filter.1 a).1;exact ⟨w,aa,c,d,e,f,a⟩
 .cases a
theorem xQ (b:ax):∃g,mJ b=some g/\(g=true->gZ b/\b8 b/\ef b=some 0/\mI b=some 0):=by
 unfold mJ;obtain ⟨g,hg,hs⟩:=HR b;rw[hg];cases g
 .have hb:=hs rfl;obtain ⟨r,e1,e2,e3,_⟩:=wP hb;simp only[ai,Bool.not_false,cond_true];rw[e2];refine ⟨r==0,rfl,fun h=>?_⟩;obtain rfl:r=0:=by simpa using h
  exact ⟨hb,e3.1 rfl,e1,rfl⟩
 .exact ⟨false,rfl,fun h=>by cases h⟩
def wv (v:aT):Nat:=v.aR.toNat
theorem Ce {v:aT}{w:Nat}(h:v.aR=(w:Int)):wv v=w:=by unfold wv;rw[h];rfl
def cv (b:ax)(v:aT)(j:Nat):Bool:=rj b v (wv v) (j:Int)
def cl (b:ax)(v:aT):Bool:=I6 b v (wv v)
theorem Cf {b:ax}(h:b8 b){v:aT}(hv:v∈bH b){j:Nat}(e:j<b.steps.toNat):j9 b v (j:Int)=some (cv b v j):=by
 obtain ⟨w,c,_,_,a,d,_⟩:=tD h hv;have:=I5 h c a d (step:=(j:Int)) aa;unfold cv;rw[Ce a];exact this
theorem I7 {b:ax}(h:b8 b)(a:ef b=some 0){j:Nat}(c:j<b.steps.toNat):o6 b (j:Int)=some (if (bH b).length=0 then (0,9) else (gM ((bH b).countP fun v=>cv b v j) (bH b).length,0)):=by
 have g:=h.steps;unfold o6;have d:mc b (j:Int)=some true:=by
  unfold mc sK;rw[jr,wr aa];unfold cQ;rw[decide_eq_true (p:=(0:Int)<=(j:Int)) aa,decide_eq_true (p:=(j:Int)<=b.steps - 1) aa];rfl
 rw[lC h a (f:=fun y0=>mc y0 (j:Int)) d];by_cases e:(bH b).length=0
 .rw[if_pos e,if_pos e];rfl
 .rw[if_neg e,if_neg e];simp only[ai];have:=xP h;rw[Cd (p:=fun v=>cv b v j) (fun v hv=>by unfold qt;simp only;rw[Cf h hv c];rfl) (by simp only;omega)];rfl
def tE (b:ax)(k:Nat):List Nat:=(List.range k).filter fun j=>!((bH b).any fun v=>cv b v j)
def iW (b:ax)(k:Nat):List Int:=(tE b k).map fun (j:Nat)=>(j:Int)
theorem I8 (b:ax)(k:Nat):iW b (k+1)=iW b k++if (bH b).any (fun v=>cv b v k) then [] else [(k:Int)]:=by
 unfold iW tE;rw[List.range_succ,List.filter_append,List.map_append];congr 1;cases h:(bH b).any (fun v=>cv b v k)
 .rw[List.filter_cons_of_pos (by simp[h])];rfl
 .rw[List.filter_cons_of_neg (by simp[h])];rfl
theorem Cg (b:ax)(k:Nat):(iW b k).length<=k:=by
 unfold iW tE;rw[List.length_map];exact Nat.le_trans (List.length_filter_le _ _) an
theorem I9 (b:ax)(k j:Nat):(j:Int)∈iW b k↔j<k/\∀v∈bH b,cv b v j=false:=by
 unfold iW tE;rw[List.mem_map];constructor
 .rintro ⟨i,hi,e⟩;obtain rfl:i=j:=aa;obtain ⟨c,a⟩:=List.mem_filter.1 hi;refine ⟨List.mem_range.1 c,fun v hv=>?_⟩;cases d:cv b v i
  .rfl
  .have:(bH b).any (fun v=>cv b v i)=true:=List.any_eq_true.2 ⟨v,hv,d⟩;rw[this] at a;cases a
 .rintro ⟨c,a⟩;refine ⟨j,List.mem_filter.2 ⟨List.mem_range.2 c,?_⟩,rfl⟩;have:(bH b).any (fun v=>cv b v j)=false:=by
   rw[List.any_eq_false];intro v hv;rw[a v hv];simp
  rw[this];rfl
theorem Ch {b:ax}{x9:dD×Int}(a:x9.1.round=b)(j:Nat):∀(l:List aT) (i:Nat),(∀v∈l,j9 b v (j:Int)=some (cv b v j))->b7 (oZ x9 (j:Int)) i l ()=some (if l.any (fun v=>cv b v j) then .br 1 () else .nx ())
 |[],i,_=>rfl
 |v::l,i,h=>by
  rw[mK]
  have hb:oZ x9 (j:Int) i v ()=some (if cv b v j then .br 1 () else .nx ()):=by
   unfold oZ
   rw[a,h v an]
   cases cv b v j<;>rfl
  rw[hb]
  cases c:cv b v j
  .simp only[ai,Bool.false_eq_true,if_false]
   rw[Ch a j l (i+1) fun u hu=>h u (by simp[hu])]
   simp[List.any_cons,c]
  .simp[List.any_cons,c,ai]
theorem Ja {b:ax}(h:b8 b)(a:ef b=some 0):o4 b=some (if (bH b).length=0 then ([],9) else (iW b b.steps.toNat,0)):=by
 have c:=h.steps;unfold o4;rw[lC h a (f:=iA) rfl];by_cases e:(bH b).length=0
 .rw[if_pos e,if_pos e];rfl
 .rw[if_neg e,if_neg e];simp only[ai];have key:aQ (o3 b ((⟨b,bH b⟩:dD),0)) fu (([]:List Int),0)=some (cP (cr (fun _=>(none:Option ((List Int)×Int))) b.steps.toNat) (iW b b.steps.toNat,(b.steps.toNat:Int))):=by
   refine gz _ (fun i=>(iW b i,(i:Int))) b.steps.toNat aa (fun i hi=>?_) ?_
   .unfold o3;rw[decide_eq_true (p:=(i:Int)<b.steps) aa];simp only[cond];rw[Ch (b:=b) rfl i (bH b) 0 fun v hv=>Cf h hv hi,I8,gA aa];have:=Cg b i;cases (bH b).any (fun v=>cv b v i)
    .simp only[ai,az,Bool.false_eq_true,if_false];rw[s3 _ _ (by simp;omega)];rfl
    .simp only[ai,az,if_true,List.append_nil];rfl
   .unfold o3;rw[decide_eq_false (p:=((b.steps.toNat:Nat):Int)<b.steps) aa];rfl
  rw[key,fH.2 (fun _ _=>rfl)];rfl
theorem tF {n len:Nat}(h:n<=len)(b:len≠0):(gM n len=1↔n=len)/\(gM n len=2↔n=0):=by
 unfold gM;by_cases a:n=len
 .rw[if_pos a];exact ⟨⟨fun _=>a,fun _=>rfl⟩,⟨fun x=>(by cases x),fun x=>aa⟩⟩
 .rw[if_neg a];by_cases c:n=0
  .rw[if_pos c];exact ⟨⟨fun x=>(by cases x),fun x=>absurd x a⟩,⟨fun _=>c,fun _=>rfl⟩⟩
  .rw[if_neg c];exact ⟨⟨fun x=>(by cases x),fun x=>absurd x a⟩,⟨fun x=>(by cases x),fun x=>absurd x c⟩⟩
def jx (b:ax)(w:Nat):Bool:=!(vP b w).isEmpty
theorem Jb {b:ax}(h:b8 b){w:Nat}(hw:w<16):kr b (w:Int)=some (jx b w):=by
 unfold kr qD jx;rw[B9 h hw];cases vP b w<;>rfl
def mW (b:ax)(f s:Nat->Int):Prop:=∀i x,b.ak[i]?=some x->(x.from_.low<=f i/\f i<=x.from_.high)/\x.aD.low<=s i/\s i<=x.aD.high
theorem Jc {b:ax}{f s a s':Nat->Int}{W c:Nat->Bool}(h:∀i,i<b.ak.length->a i=f i/\s' i=s i/\c i=W i)(ht:ki b f s W):ki b a s' c:=by
 intro i j x y d g hi k m hm l n e;obtain ⟨a1,o,p⟩:=h i (List.getElem?_eq_some_iff.1 d).1;obtain ⟨c1,c2,c3⟩:=h j (List.getElem?_eq_some_iff.1 g).1;have:=ht i j x y d g (p▸hi) (c3▸k) m hm l n e;unfold eR at this ⊢;rw[a1,o,c1,c2];exact this
theorem xR {b:ax}(h:b8 b){w:Nat}(hw:w<16):jx b w=true↔∃f s,mW b f s/\ki b f s (Nat.testBit w):=by
 have t:=h.many;constructor
 .intro m;obtain ⟨v,hv⟩:∃v,v∈vP b w:=by
   unfold jx at m;cases e:vP b w with
   |nil=>rw[e] at m;cases m
   |cons v l=>exact ⟨v,an⟩
  obtain ⟨d,n⟩:=List.mem_filter.1 hv;obtain ⟨r,o,ht⟩:=ri h hw d;obtain ⟨-,-,p⟩:=(k6 b.ak 0 (v0 w) v aa).1 d;refine ⟨v.au.at,v.av.at,fun i x k=>by have:=p i x k;rwa [Nat.zero_add] at this,ht.1 ?_⟩;unfold mV at n;rw[o] at n;exact n
 .rintro ⟨f,s,hb,ht⟩
  let g:(Nat->Int)->Nat->Int:=fun f i=>if i<b.ak.length then f i else 0
  let v:aT:=⟨⟨g f 0,g f 1,g f 2,g f 3⟩,⟨g s 0,g s 1,g s 2,g s 3⟩,(w:Int)⟩
  have c:∀j,j<4->v.au.at j=g f j/\v.av.at j=g s j:=by
   intro j a;rcases four a with rfl|rfl|rfl|rfl<;>exact ⟨rfl,rfl⟩
  have hg:∀f i,i<b.ak.length->g f i=f i:=fun f i hi=>if_pos hi;have d:v∈e9 b.ak 0 (v0 w):=by
   refine (k6 b.ak 0 (v0 w) v aa).2 ⟨rfl,fun j a u=>?_,fun j x k=>?_⟩
   .rw[(c j a).1,(c j a).2];have:¬j<b.ak.length:=aa;show (if j<b.ak.length then f j else 0)=_/\(if j<b.ak.length then s j else 0)=_;rw[if_neg this,if_neg this];rcases four a with rfl|rfl|rfl|rfl<;>exact ⟨rfl,rfl⟩
   .have a:=(List.getElem?_eq_some_iff.1 k).1;rw[Nat.zero_add,(c j aa).1,(c j aa).2,hg f j a,hg s j a];exact hb j x k
  obtain ⟨r,o,q⟩:=ri h hw d;have:r=true:=q.2 (Jc (fun i hi=>by rw[(c i aa).1,(c i aa).2,hg f i hi,hg s i hi];exact ⟨rfl,rfl,rfl⟩) ht);have hv:v∈vP b w:=List.mem_filter.2 ⟨d,by unfold mV;rw[o,this];rfl⟩;unfold jx;cases e:vP b w with
  |nil=>rw[e] at hv;cases hv
  |cons _ _=>rfl
def Jd (l:List aS)(N:List Nat):List aS:=N.filterMap fun j=>l[j]?
def eC (b:ax)(N:List Nat):ax:=⟨b.steps,b.aR,Jd b.ak N⟩
def lD (s:aS):Int:=(s.from_.high - s.from_.low+1)*(s.aD.high - s.aD.low+1)
theorem tG:∀(l:List aS) (c:Int),l.foldl (fun n s=>n*((s.from_.high - s.from_.low+1)*(s.aD.high - s.aD.low+1))) c=c*wn l
 |[],c=>by simp[wn]
 |s::l,c=>by
  unfold wn
  simp only[List.foldl_cons]
  rw[tG l,tG l,Int.one_mul,Int.mul_assoc]
theorem xS (s:aS)(l:List aS):wn (s::l)=lD s*wn l:=by
 have:=tG (s::l) 1;unfold wn lD;rw[List.foldl_cons,tG,Int.one_mul];rfl
theorem Ci {b:ax}(h:b8 b){w:Nat}(hw:w<16){v:aT}:v∈vP b w↔v.aR=(w:Int)/\mW b v.au.at v.av.at/\(∀j,j<4->b.ak.length<=j->v.au.at j=0/\v.av.at j=0)/\ki b v.au.at v.av.at (Nat.testBit w):=by
 have m:=h.many;have d:∀j,j<4->(v0 w).au.at j=0/\(v0 w).av.at j=0:=fun j a=>by
  rcases four a with rfl|rfl|rfl|rfl<;>exact ⟨rfl,rfl⟩
 unfold vP;rw[List.mem_filter];constructor
 .rintro ⟨c,e⟩;obtain ⟨r,f,ht⟩:=ri h hw c;obtain ⟨e1,e2,e3⟩:=(k6 b.ak 0 (v0 w) v aa).1 c;refine ⟨e1,fun i x g=>?_,fun j a k=>?_,ht.1 ?_⟩
  .have:=e3 i x g
   rwa [Nat.zero_add] at this
  .have:=e2 j a (.inr aa);rw[(d j a).1,(d j a).2] at this;exact this
  .unfold mV at e;rw[f] at e;exact e
 .rintro ⟨e1,e2,e3,l⟩
  have c:v∈e9 b.ak 0 (v0 w):=(k6 b.ak 0 (v0 w) v aa).2 ⟨e1,fun j a k=>by
   rw[(d j a).1,(d j a).2];exact e3 j a aa,fun j s hs=>by
   rw[Nat.zero_add]
   exact e2 j s hs⟩
  obtain ⟨r,f,ht⟩:=ri h hw c;refine ⟨c,?_⟩;unfold mV;rw[f];exact ht.2 l
structure tH (b:ax)(v:aT):Prop where
 lt:wv v<2 ^ b.ak.length
 mX:((pop (wv v):Nat):Int)<=b.aR
 wr:v.aR=((wv v:Nat):Int)
 lE:mW b v.au.at v.av.at
 out:∀j,j<4->b.ak.length<=j->v.au.at j=0/\v.av.at j=0
 pn:ki b v.au.at v.av.at (Nat.testBit (wv v))
theorem pq {b:ax}(h:b8 b){v:aT}:v∈bH b↔tH b v:=by
 have e:=kC h;unfold bH iV;rw[List.mem_flatMap];constructor
 .rintro ⟨w,hw,hv⟩;have a:=List.mem_range.1 hw;split at hv
  .rename_i c;obtain ⟨e1,e2,e3,d⟩:=(Ci h aa).1 hv;obtain rfl:=Ce e1;exact ⟨a,c,e1,e2,e3,d⟩
  .cases hv
 .intro s;have:=s.lt;exact ⟨wv v,List.mem_range.2 s.lt,by rw[if_pos s.mX];exact (Ci h aa).2 ⟨s.wr,s.lE,s.out,s.pn⟩⟩
theorem tJ {r:List aS}{i:Nat}{v u:aT}(a:i+1+r.length<=4)(hu:u∈e9 r (i+1) v):u.au.at i=v.au.at i/\u.av.at i=v.av.at i:=
 ((k6 r (i+1) v u a).1 hu).2.1 i aa (.inl aa)
theorem Cj:∀(r:List aS) (i:Nat) (v:aT),i+r.length<=4->(e9 r i v).Nodup
 |[],_,_,_=>by simp[e9]
 |s::r,i,v,d=>by
  simp only[List.length_cons] at d
  have hi:i<4:=aa
  unfold e9 List.Nodup
  rw[List.pairwise_flatMap]
  refine ⟨fun a _=>?_,?_⟩
  .rw[List.pairwise_flatMap]
   refine ⟨fun t _=>Cj r (i+1) _ aa,List.pairwise_lt_range.imp ?_⟩
   intro t1 t2 f x b y c e
   have e1:=(tJ aa b).2
   have e2:=(tJ aa c).2
   simp only[vf,aZ.q2 _ hi hi,if_true] at e1 e2
   subst e
   omega
  .refine List.pairwise_lt_range.imp ?_
   intro a1 j f x b y c e
   obtain ⟨t1,_,g⟩:=List.mem_flatMap.1 b
   obtain ⟨t2,_,h⟩:=List.mem_flatMap.1 c
   have e1:=(tJ aa g).1
   have e2:=(tJ aa h).1
   simp only[vf,aZ.q2 _ hi hi,if_true] at e1 e2
   subst e
   omega
theorem xT {b:ax}(h:b8 b):(bH b).Nodup:=by
 have f:=h.many;unfold bH iV List.Nodup;rw[List.pairwise_flatMap];refine ⟨fun w _=>?_,List.pairwise_lt_range.imp ?_⟩
 .split
  .exact (Cj _ _ _ aa).filter _
  .exact List.Pairwise.nil
 .intro w1 w2 i x c y d e;have g:∀{w:Nat} {z:aT},z∈(if ((pop w:Nat):Int)<=b.aR then vP b w else [])->z.aR=(w:Int):=by
   intro w z a;split at a
   .exact (xM h (List.mem_filter.1 a).1).1
   .cases a
  have e1:=g c;have e2:=g d;subst e;omega
theorem Je {α:Type}{l m:List α}(a:l.Nodup)(hm:m.Nodup)(h:∀x,x∈l↔x∈m):l.length=m.length:=
 ((List.perm_ext_iff_of_nodup a hm).2 h).length_eq
theorem Jf {b:ax}(h:b8 b)(p:aT->Bool):((bH b).filter p).Nodup:=(xT h).filter p
theorem rm {b:ax}(h:b8 b)(a:ef b=some 0):iG b=some (((bH b).length:Int),0):=by
 unfold iG;rw[a,Cc h];rfl
theorem xU {b:ax}(h:b8 b)(a:ef b=some 0){i:Nat}(hi:i<b.ak.length):lz b (i:Int)=some (if (bH b).length=0 then (0,9) else (gM ((bH b).countP fun v=>Nat.testBit (wv v) i) (bH b).length,0)):=by
 have d:=h.many;unfold lz;have c:mg b (i:Int)=some true:=by
  unfold mg jN;rw[jr,wr aa];unfold cQ;rw[decide_eq_true (p:=(0:Int)<=(i:Int)) aa,decide_eq_true (p:=(i:Int)<=(b.ak.length:Int) - 1) aa];rfl
 rw[lC h a (f:=fun y0=>mg y0 (i:Int)) c];by_cases e:(bH b).length=0
 .rw[if_pos e,if_pos e];rfl
 .rw[if_neg e,if_neg e];simp only[ai];have:=xP h
  rw[Cd (p:=fun v=>Nat.testBit (wv v) i) (fun v hv=>by
   have s:=(pq h).1 hv;have g:=kC h;have:=s.lt;unfold qu;rw[wQ s.wr aa aa]
   rfl) (by simp only;omega)]
  rfl
def g9 (c d:bX):Prop:=d.low<=c.low/\c.low<=c.high/\c.high<=d.high
structure ej (b o:ax):Prop where
 steps:o.steps=b.steps
 aR:o.aR<=b.aR/\0<=o.aR
 len:o.ak.length=b.ak.length
 each:∀(i:Nat) (x:aS),b.ak[i]?=some x->∃y:aS,o.ak[i]?=some y/\y.name=x.name/\y.wide=x.wide/\y.marks=x.marks/\g9 y.from_ x.from_/\g9 y.aD x.aD
theorem ej.back {b o:ax}(n:ej b o){i:Nat}{y:aS}(a:o.ak[i]?=some y):∃x:aS,b.ak[i]?=some x/\y.name=x.name/\y.wide=x.wide/\y.marks=x.marks/\g9 y.from_ x.from_/\g9 y.aD x.aD:=by
 have hi:=(List.getElem?_eq_some_iff.1 a).1;have c:b.ak[i]?=some (b.ak[i]'(by have:=n.len;omega)):=List.getElem?_eq_getElem _;obtain ⟨f,d,e⟩:=n.each i _ c;rw[a] at d;obtain rfl:=Option.some.inj d;exact ⟨_,c,e⟩
theorem ej.lE {b o:ax}(n:ej b o){f s:Nat->Int}(h:mW o f s):mW b f s:=by
 intro i x a;obtain ⟨y,c,_,_,_,c1,c2⟩:=n.each i x a;have:=h i y c;unfold g9 at c1 c2;omega
theorem ej.pl {b o:ax}(n:ej b o)(f s:Nat->Int)(i:Nat)(m:bE):eR o f s i m=eR b f s i m:=by
 unfold eR;rw[n.steps]
theorem ej.pn {b o:ax}(n:ej b o){f s:Nat->Int}{W:Nat->Bool}:ki o f s W↔ki b f s W:=by
 constructor
 .intro h i j x y a c hi d m hm g k e;obtain ⟨x',l,_,_,ex,_⟩:=n.each i x a;obtain ⟨p,q,_,_,r,_⟩:=n.each j y c;have:=h i j x' p l q hi d m (by rw[ex];exact hm) g (by rw[r];exact k) e
  rwa [n.pl,n.pl] at this
 .intro h i j x y a c hi d m hm g k e;obtain ⟨x',l,_,_,ex,_⟩:=n.back a;obtain ⟨p,q,_,_,r,_⟩:=n.back c;have:=h i j x' p l q hi d m (by rw[<-ex];exact hm) g (by rw[<-r];exact k) e;rw[n.pl,n.pl];exact this
theorem ej.state {b o:ax}(n:ej b o){v:aT}:tH o v↔tH b v/\mW o v.au.at v.av.at/\((pop (wv v):Nat):Int)<=o.aR:=by
 have c:=n.len;have hw:=n.aR;constructor
 .intro s;exact ⟨⟨c▸s.lt,by have:=s.mX;omega,s.wr,n.lE s.lE,fun j a h=>s.out j a aa,n.pn.1 s.pn⟩,s.lE,s.mX⟩
 .rintro ⟨s,d,e⟩;exact ⟨c▸s.lt,e,s.wr,d,fun j a h=>s.out j a aa,n.pn.2 s.pn⟩
theorem Ck:∀{l m:List aS} (k:Nat) (x:List UInt8),l.length=m.length->(∀(i:Nat) (a:aS),l[i]?=some a->∃c:aS,m[i]?=some c/\c.name=a.name)->(m.take k).any (fun o=>o.name==x)=(l.take k).any fun o=>o.name==x
 |[],[],k,x,_,_=>by simp
 |[],_::_,_,_,h,_=>by cases h
 |_::_,[],_,_,h,_=>by cases h
 |a::l,c::m,0,x,_,_=>by simp
 |a::l,c::m,k+1,x,b,h=>by
  obtain ⟨g,d,hn⟩:=h 0 a rfl
  obtain rfl:=Option.some.inj d
  have:=Ck (l:=l) (m:=m) k x (by simpa using b) fun i e f=>h (i+1) e f
  simp only[List.take_succ_cons,List.any_cons]
  rw[this,hn]
theorem Jg {x y:aS}(b:y.wide=x.wide)(a:y.marks=x.marks):cr (fO y) y.marks.length=cr (fO x) x.marks.length:=by
 rw[a];refine Hw fun i _=>?_;unfold fO;rw[b,a]
theorem Cm {st:Int}:∀{l m:List aS},l.length=m.length->(∀s∈l,Bd st s)->(∀(i:Nat) (a:aS),l[i]?=some a->∃c:aS,m[i]?=some c/\g9 c.from_ a.from_/\g9 c.aD a.aD)->1<=wn m/\wn m<=wn l
 |[],[],_,_,_=>by simp[wn]
 |[],_::_,h,_,_=>by cases h
 |_::_,[],h,_,_=>by cases h
 |a::l,c::m,e,hb,h=>by
  obtain ⟨k,f,hn⟩:=h 0 a rfl
  obtain rfl:=Option.some.inj f
  obtain ⟨i1,i2⟩:=Cm (l:=l) (m:=m) (by simpa using e) (fun s hs=>hb s (by simp[hs])) fun i g j=>h (i+1) g j
  obtain ⟨⟨a1,n,o,p⟩,c1,c2,c3,c4⟩:=hb a an
  obtain ⟨⟨n1,q,n3⟩,r,t,u⟩:=hn
  rw[xS,xS]
  have f1:1<=lD c:=by
   unfold lD
   have:=Int.mul_le_mul (a:=1) (b:=1) (c:=c.from_.high - c.from_.low+1) (d:=c.aD.high - c.aD.low+1) aa aa aa aa
   simpa using this
  have f2:lD c<=lD a:=by
   unfold lD
   exact Int.mul_le_mul aa aa aa aa
  constructor
  .have:=Int.mul_le_mul (a:=1) (b:=1) f1 i1 aa aa
   simpa using this
  .exact Int.mul_le_mul f2 i2 aa aa
theorem ej.mY {b o:ax}(n:ej b o)(h:b8 b):b8 o:=by
 have j:=n.len;have hw:=n.aR;have l:∀s∈b.ak,Bd b.steps s:=fun s hs=>by
  obtain ⟨i,hi,rfl⟩:=List.getElem_of_mem hs;exact js h (List.getElem?_eq_getElem hi)
 refine ⟨by rw[n.steps];exact h.steps,by have:=h.aR;omega,by have:=h.many;omega,fun i hi=>?_,?_⟩
 .have d:o.ak[i]?=some (o.ak[i]'hi):=List.getElem?_eq_getElem hi;generalize (o.ak[i]'hi)=y at d;obtain ⟨x,k,e1,e2,e3,⟨c1,c2,c3⟩,c4,u,v⟩:=n.back d;have hb:=js h k;have hs:=h.each i aa;unfold gB at hs ⊢;rw[k] at hs;rw[d];simp only at hs ⊢
  rw[Ck i y.name j.symm fun i a e=>by
   obtain ⟨c,f,g,_⟩:=n.each i a e
   exact ⟨c,f,g⟩]
  rw[Jg e2 e3,e1,e2,e3,n.steps];obtain ⟨⟨a1,w,z,A⟩,d1,d2,d3,d4⟩:=hb;have m:(ins y.from_ 0 (b.steps - 1)&&decide (y.from_.high - y.from_.low<3))=true:=by
   unfold ins;simp;omega
  have p:(ins y.aD (-3) 3&&decide (y.aD.high - y.aD.low<3))=true:=by
   unfold ins;simp;omega
  have q:(ins x.from_ 0 (b.steps - 1)&&decide (x.from_.high - x.from_.low<3))=true:=by
   unfold ins;simp;omega
  have r:(ins x.aD (-3) 3&&decide (x.aD.high - x.aD.low<3))=true:=by
   unfold ins;simp;omega
  rw[m,p];rw[q,r] at hs;exact hs
 .exact Int.le_trans (Cm j.symm l fun i a e=>by
   obtain ⟨c,f,_,_,_,g,t⟩:=n.each i a e
   exact ⟨c,f,g,t⟩).2 h.ways
theorem ej.sm {b o:ax}(n:ej b o)(h:gZ b):gZ o:=by
 refine ⟨by rw[n.len];exact h.1,fun s hs=>?_⟩;obtain ⟨i,hi,rfl⟩:=List.getElem_of_mem hs;obtain ⟨x,a,e1,e2,e3,_⟩:=n.back (List.getElem?_eq_getElem hi);have:=h.2 x (List.mem_of_getElem? a);unfold qW at this ⊢;rw[e1,e3];exact this
theorem ej.check {b o:ax}(n:ej b o)(h:b8 b)(hb:gZ b):ef o=some 0/\mI o=some 0:=by
 obtain ⟨r,e1,e2,e3,_⟩:=wP (n.sm hb);obtain rfl:=e3.2 (n.mY h);exact ⟨e1,e2⟩
theorem ej.sub {b o:ax}(n:ej b o)(h:b8 b){v:aT}(hv:v∈bH o):v∈bH b:=
 (pq h).2 (n.state.1 ((pq (n.mY h)).1 hv)).1
theorem ej.mX {b o:ax}(n:ej b o)(h:b8 b):(bH o).length<=(bH b).length:=
 List.Nodup.length_le_of_subset (xT (n.mY h)) fun _ hv=>n.sub h hv
theorem ej.count {b o:ax}(n:ej b o)(h:b8 b)(p:aT->Bool)(c:∀v,tH b v->(p v=true↔mW o v.au.at v.av.at/\((pop (wv v):Nat):Int)<=o.aR)):(bH o).length=(bH b).countP p:=by
 rw[List.countP_eq_length_filter];refine Je (xT (n.mY h)) (Jf h p) fun v=>?_;rw[pq (n.mY h),List.mem_filter,pq h,n.state];constructor
 .rintro ⟨s,a⟩;exact ⟨s,(c v s).2 a⟩
 .rintro ⟨s,a⟩;exact ⟨s,(c v s).1 a⟩
theorem Jh {l m:List aT}(hs:∀v∈m,v∈l)(hm:m.length≠0)(p:aT->Bool):gM (l.countP p) l.length=0\/gM (l.countP p) l.length=gM (m.countP p) m.length:=by
 have d:l.length≠0:=by
  intro e;obtain ⟨v,hv⟩:=List.exists_mem_of_length_pos (l:=m) aa;have:=List.length_pos_of_mem (hs v hv);omega
 obtain ⟨a,n1⟩:=tF (n:=l.countP p) List.countP_le_length d;obtain ⟨b,c⟩:=tF (n:=m.countP p) List.countP_le_length hm;rw[List.countP_eq_length] at a b;rw[List.countP_eq_zero] at n1 c;by_cases e1:gM (l.countP p) l.length=1
 .exact .inr (e1.trans (b.2 fun v hv=>a.1 e1 v (hs v hv)).symm)
 .by_cases e2:gM (l.countP p) l.length=2
  .exact .inr (e2.trans (c.2 fun v hv=>n1.1 e2 v (hs v hv)).symm)
  .left;unfold gM at e1 e2 ⊢;split
   .rename_i h;rw[if_pos h] at e1;exact absurd rfl e1
   .rename_i h;rw[if_neg h] at e2;split
    .rename_i f;rw[if_pos f] at e2;exact absurd rfl e2
    .rfl
end Go.Proofs.YtlchekhkopimhaaGreatDoor
end

/- A part of the proof: QT9. -/
import Derived.Test.YtcoalekambhghaaGreatDoorQT8
import Derived.Conc.AtomicLaws2
set_option linter.all false
section
namespace Go.Sep
open Go Go.Conc
open Go.ConcN (sumTo upd upd_ne upd_same)
open Go.ConcM (MuAt muA msA muBlock OsLater)
open Go.ConcR (WgAt wgBlock stA smA)
theorem aE.entry {P:Program}{main:Bool}{S:Type}{JF:S->Goroutine->ag->Prop}{fi f:FuncId}{ops:Array Oper}{j n:Nat}{Q:Act->ag->S->Prop}{a:Act}{F:ag}{ph:S}{d:Option Tmp}(v:Value)(hM:dN P main (JF ph))(e:Entry P f (fun _=>pure v))
  {vals:List Value} (g:At ops j a f vals d) (h:aE JF fi ops (j+1) n Q (bB a d v) F ph):aE JF fi ops j (n+1) Q a F ph:=fun b c cs hb i=>by
 obtain ⟨fn,f1,f2,f3,f4,f5⟩:=e.ex
 obtain ⟨o,cD,dm,ho,hg,k,_,rfl⟩:=g
 rw[List.range'_succ,c7 hb.round]
 refine hM.move (fr':=b.at (a.put o.dst v) (.inRegion ops (List.range' (j+1) n)::c)) (fun w=>stepG_entry_pure v ho (cr hg) hb.kind k f1 f2 f3 f4 f5) (by rw[<-c7 hb.round];exact h b c cs hb i)
theorem aE.shr {P:Program}{main:Bool}{S:Type}{JF:S->Goroutine->ag->Prop}{fi:FuncId}{ops:Array Oper}{j n:Nat}{Q:Act->ag->S->Prop}{a:Act}{F:ag}{ph:S}{d:Option Tmp}{t e:TypeId}{k b:IntKind}{u m:Int}(v:Int)(hM:dN P main (JF ph)){x y:Operand}
  (f:ie ops j a (.binOp .shr t x y e) d) (g:ev a x= .int k u) (i:ev a y= .int b m) (hm:0<=m) (hv:u.fdiv (2 ^ min m.toNat k.bits)=v) (h:aE JF fi ops (j+1) n Q (bB a d (.int k v)) F ph):aE JF fi ops j (n+1) Q a F ph:=by
 obtain ⟨o,ho,hg,l,rfl⟩:=f
 have c:¬m<0:=ai
 have e1:execOp a.eval o=(do eqGuard .shr t x y (.int k u) (.int b m);pure (.value (<-binOp .shr t (.int k u) (.int b m))):Sem Next):=by
  unfold execOp
  simp only[l,eE,g,i]
  simp
 refine aE.plain hM (.int k v) ho hg (fun w=>?_) (fun w=>?_) h
 .rw[e1];subst hv;simp[eqGuard,binOp,Op.shift,c]
 .rw[e1];subst hv;simp[eqGuard,binOp,Op.shift,c]
end Go.Sep
end
section
namespace Go.Sep
open Go Go.Conc
def qN (op:BinOp)(u v:Value):Option Value:=match op with
 | .shl=>match u,v with
  | .int k a,.int _ b=>if b<0 then none else some (.int k (k.wrap (a*2 ^ min b.toNat k.bits)))
  |_,_=>none
 | .shr=>match u,v with
  | .int k a,.int _ b=>if b<0 then none else some (.int k (a.fdiv (2 ^ min b.toNat k.bits)))
  |_,_=>none
 |_=>k9 op u v
def mC (P:Program)(op:Op)(a:Act):Option Value:=match op with
 | .move x| .assign x=>some (ev a x)
 | .nilCheck x=>match ev a x with
  | .pointer (some ad)=>some (.pointer (some ad))
  |_=>none
 | .pick c x y=>match ev a c with
  | .bool b=>some (if b then ev a x else ev a y)
  |_=>none
 | .binOp op t x y _=>qN op (ev a x) (ev a y)
 | .unOp op _ x=>kg op (ev a x)
 | .convert src dst x=>ko P src dst (ev a x)
 | .fieldAddr s x n=>match ev a x with
  | .pointer (some ad)=>match dr P s n with
   |some k=>some (.pointer (some (ad.add k)))
   |none=>none
  |_=>none
 |_=>none
theorem FR {P:Program}{op:BinOp}{t:TypeId}{x y:Operand}{u v r:Value}(h:qN op u v=some r)(w:World):
  (do eqGuard op t x y u v;pure (.value (<-binOp op t u v)):Sem Next).run P w= .ok (.value r) w/\(do eqGuard op t x y u v;pure (.value (<-binOp op t u v)):Sem Next).events P w #[]=#[]:=by
 unfold qN at h
 split at h
 .split at h
  case h_2=>cases h
  split at h
  .cases h
  .rename_i hb;cases h;simp[eqGuard,binOp,Op.shift,hb]
 .split at h
  case h_2=>cases h
  split at h
  .cases h
  .rename_i hb;cases h;simp[eqGuard,binOp,Op.shift,hb]
 .rename_i n1 c
  unfold k9 at h
  split at h
  case h_3=>cases h
  case h_2=>
   rename_i a b
   cases op<;>simp only[reduceCtorEq] at h<;>(cases h;simp[eqGuard,binOp,Op.stringOp,ByteArray.toList_eq])
  rename_i k a e b
  split at h
  case isFalse=>cases h
  rename_i d
  subst d
  cases op<;>simp only[binOp,ne_eq,not_true_eq_false,if_false,Op.intArith,Op.intDiv,Op.intCmp,Op.intBits,Op.shift,eqGuard] at h ⊢<;>first
   |(cases h;done)
   |(exact absurd rfl n1)
   |(exact absurd rfl c)
   |(cases h;simp;done)
   |(split at h
     .cases h
     .rename_i hb;cases h;simp[hb])
theorem z7 {P:Program}{o:Oper}{a:Act}{v:Value}(h:mC P o.op a=some v)(w:World):(execOp a.eval o).run P w= .ok (.value v) w/\(execOp a.eval o).events P w #[]=#[]:=by
 obtain ⟨dst,op,type,pos,after,guard⟩:=o;unfold execOp;simp only[eE] at h ⊢;unfold mC at h;cases op<;>simp only[reduceCtorEq] at h ⊢
 case move x=>cases h;simp
 case assign x=>cases h;simp
 case nilCheck x=>
  split at h
  .rename_i ad e;cases h;simp[e]
  .cases h
 case pick c x y=>
  split at h
  .rename_i b hb;cases h;simp[hb,asBool]
  .cases h
 case binOp op t x y r=>have:=FR (P:=P) (t:=t) (x:=x) (y:=y) h w;simpa using this
 case unOp op t x=>
  revert h;cases ev a x<;>cases op<;>simp only[kg,reduceCtorEq,false_implies,Option.some.injEq]<;>intro h<;>subst h<;>simp[Op.unary,Op.intArith]
 case convert src dst x=>
  revert h;cases e:ev a x<;>simp only[ko,reduceCtorEq,false_implies];intro h;split at h
  .rename_i k1 A i j;cases h;simp[convert,run_underlying i,run_underlying j,Conv.intToInt]
  .cases h
 case fieldAddr s x n=>
  split at h
  case h_2=>cases h
  rename_i ad l;split at h
  case h_2=>cases h
  rename_i k d;cases h;unfold dr at d;split at d
  case h_2=>cases d
  rename_i B g;split at d
  case h_2=>cases d
  rename_i f p;split at d
  case h_2=>cases d
  rename_i m hm;cases d;obtain ⟨inf,q,u⟩:=Option.map_eq_some_iff.1 hm;have z:Instr.sureAddr (.pointer (some ad))=(Pure.pure ad:Sem Addr):=rfl;simp[Instr.fieldAt,run_underlying g,g,p,l,z,fieldPlace,Go.sizeOf,typeInfo,q,u,Result.andThen,Result.evThen]
def gU (P:Program)(ops:Array Oper)(K:Act->Prop):List Oper->Act->Prop
 |[],a=>K a
 |o::rest,a=>match cx ops o a with
  |some true=>match mC P o.op a with
   |some v=>gU P ops K rest (bB a o.dst v)
   |none=>False
  |some false=>gU P ops K rest (bB a o.dst undef)
  |none=>False
theorem FT {P:Program}{ops:Array Oper}{K:Act->Prop}{a:Act}:gU P ops K [] a=K a:=(Eq.refl _).trans (Eq.refl _)
theorem FU {P:Program}{ops:Array Oper}{K:Act->Prop}{o:Oper}{rest:List Oper}{a:Act}:gU P ops K (o::rest) a=match cx ops o a with
  |some true=>match mC P o.op a with
   |some v=>gU P ops K rest (bB a o.dst v)
   |none=>False
  |some false=>gU P ops K rest (bB a o.dst undef)
  |none=>False:=(Eq.refl _).trans (Eq.refl _)
attribute [go_sem] FT FU mC qN
section
variable {P:Program}{main:Bool}{S:Type}{JF:S->Goroutine->ag->Prop}{fi:FuncId}{ops:Array Oper}{F:ag}{ph:S}{Q:Act->ag->S->Prop}
theorem ve (hM:dN P main (JF ph)):∀(l:List Oper) (i n:Nat) (a:Act),(∀j o,l[j]?=some o->ops[i+j]?=some o)->gU P ops (fun b=>aE JF fi ops (i+l.length) n Q b F ph) l a->aE JF fi ops i (l.length+n) Q a F ph
 |[],i,n,a,_,h=>by rw[List.length_nil,Nat.zero_add];exact h
 |o::rest,i,n,a,f,h=>by
  have ho:ops[i]?=some o:=f 0 o rfl
  have g:∀j x,rest[j]?=some x->ops[i+1+j]?=some x:=fun j x k=>by rw[Nat.add_assoc,Nat.add_comm 1 j];exact f (j+1) x k
  have e:(o::rest).length+n=(rest.length+n)+1:=by rw[List.length_cons];omega
  have e2:∀b,aE JF fi ops (i+(o::rest).length) n Q b F ph->aE JF fi ops (i+1+rest.length) n Q b F ph:=fun b x=>by
   rw[show i+1+rest.length=i+(o::rest).length by rw[List.length_cons];omega];exact x
  rw[e]
  have mono:∀(l:List Oper) (a:Act) {K c:Act->Prop},(∀a,K a->c a)->gU P ops K l a->gU P ops c l a:=by
   intro l
   induction l with
   |nil=>intro a K c d h;exact d a h
   |cons o l ih=>
    intro a K c d h
    unfold gU at h ⊢
    cases hg:cx ops o a with
    |none=>rw[hg] at h;exact h.elim
    |some t=>
     rw[hg] at h
     cases t with
     |false=>exact ih _ d h
     |true=>
      simp only at h ⊢
      cases hv:mC P o.op a with
      |none=>rw[hv] at h;exact h.elim
      |some v=>rw[hv] at h;exact ih _ d h
  unfold gU at h
  split at h
  .rename_i hg
   split at h
   .rename_i v hv
    exact aE.plain hM v ho hg (fun w=>(z7 hv w).1) (fun w=>(z7 hv w).2) (ve hM rest (i+1) n _ g (mono _ _ e2 h))
   .exact h.elim
  .rename_i hg
   exact aE.skip hM ho hg (ve hM rest (i+1) n _ g (mono _ _ e2 h))
  .exact h.elim
theorem aE.pure (hM:dN P main (JF ph))(m:Nat){i n:Nat}{a:Act}(l:List Oper)(c:(ops.toList.drop i).take m=l)(hm:l.length=m)(h:gU P ops (fun d=>aE JF fi ops (i+m) n Q d F ph) l a):aE JF fi ops i (m+n) Q a F ph:=by
 subst hm;refine ve hM l i n a (fun j o b=>?_) h;rw[<-c] at b;have e:j<l.length:=by
  rcases Nat.lt_or_ge j l.length with x|x
  .exact x
  .rw[c,List.getElem?_eq_none x] at b;cases b
 rw[List.getElem?_take,if_pos e,List.getElem?_drop] at b;simpa using b
end
end Go.Sep
end
section
namespace Go.Sep
open Go Go.Conc
open Go.ConcN (sumTo upd upd_ne upd_same)
open Go.ConcM (MuAt muA msA muBlock OsLater)
open Go.ConcR (WgAt wgBlock stA smA)
section
variable {c:Cy}{i:Nat}{ph:Ph}{ops:Array Oper}{j n:Nat}{Q:Act->ag->Ph->Prop}{a:Act}{F:ag}{f fi:FuncId}{d:Option Tmp}
theorem Inv.group {k:Nat}{φ:Nat->Ph}{p0:P0}{s:Sh}(h:Inv c.n c.bs k φ p0 s)(hi:i<c.n)(he:φ i=ph)(a:ph.gp≠ .new)(b:ph.gp≠ .cnt){gp:Gp}(d:gp≠ .new){wg ws:Int}
  (hw:cS c.n (upd φ i {ph with gp:=gp}) p0 wg ws):Inv c.n c.bs k (upd φ i {ph with gp:=gp}) p0 {s with wg:=wg,ws:=ws}:=by
 obtain ⟨C,S,W,L,m,hm⟩:=h.m
 refine h.fU hi he a d ⟨C,S,W,L,m,zN hm hi _ (.inl (by rw[he]))⟩ hw ?_ (fun _=>?_)
 .have:=h.i.all i hi
  rw[he] at this
  exact (FJ this).symm
 .have:=h.i.done i hi (by rw[he];exact b) (by rw[he];exact a)
  rw[he] at this
  exact this
end
end Go.Sep
end
section
namespace Go.Sep
open Go Go.Conc
open Go.ConcN (sumTo upd upd_ne upd_same)
theorem aE.defer {P:Program}{main:Bool}{S:Type}{JF:S->Goroutine->ag->Prop}{fi f:FuncId}{ops:Array Oper}{j n:Nat}{Q:Act->ag->S->Prop}{a:Act}{F:ag}{ph:S}(hM:dN P main (JF ph)){o:Oper}{cD:Array Operand}{dm:Array TypeId}{vals:Array Value}
  (ho:ops[j]?=some o) (hg:cx ops o a=some true) (e:o.op= .defer {callee:=.value (.func f),args:=cD,argTypes:=dm}) (hd:o.dst=none) (hv:cD.map a.eval=vals)
  (h:∀c:Act,(∀i,slot c i=slot a i)->sz c=sz a->c.defers=dcall f vals::a.defers->aE JF fi ops (j+1) n Q c F ph):aE JF fi ops j (n+1) Q a F ph:=fun b d cs hb g=>by
 rw[List.range'_succ,c7 hb.round]
 refine hM.move (fr':=b.at (Act.put ⟨a.tmps,dcall f (cD.map a.eval)::a.defers⟩ o.dst undef) (.inRegion ops (List.range' (j+1) n)::d)) (fun w=>stepG_defer ho (cr hg) hb.kind e) ?_
 rw[<-c7 hb.round,hd,hv]
 exact h ⟨a.tmps,dcall f vals::a.defers⟩ (fun _=>rfl) rfl rfl b d cs hb g
section
variable {c:Cy}{i:Nat}{ph:Ph}{F:ag}{f:FuncId}
def jr (f:FuncId)(R:Value->ag->Ph->Prop):Ex->Act->ag->Ph->Prop
 | .exit _,_,_,_=>False
 |_,a,F,ph=>a.defers=[dcall f #[]]/\ph.gp= .gone/\∃b,ph.deaf=b+1/\R (.tuple #[]) F {ph with deaf:=b}
def vg (R:ag->Ph->Prop):Ex->Act->ag->Ph->Prop
 | .exit _,_,_,_=>False
 |_,a,F,ph=>a.defers=[]/\R F ph
end
attribute [go_sem] jr vg
end Go.Sep
end
section
namespace Go.Sep
open Go Go.Conc
open Go.ConcN (sumTo upd upd_ne upd_same)
open Go.ConcM (MuAt muA msA muBlock OsLater)
open Go.ConcR (WgAt wgBlock stA smA)
section
variable {d:Nat}
theorem FV {c:Cy}:Ev0 c d d #[]:=⟨aB,rfl⟩
theorem FW {c:Cy}:Ev0 c d (d+1) #[cj .disable]:=⟨fun e he=>by simp at he;exact .inl he,rfl⟩
theorem FX {c:Cy}:Ev0 c (d+1) d #[cj .enable]:=⟨fun e he=>by simp at he;exact .inr (.inl he),rfl⟩
theorem FY {c:Cy}{ad:Addr}(h:ad.block=c.Wg):Ev0 c d d #[⟨.cell ad,false,true⟩,⟨.cell ad,true,true⟩]:=
 ⟨fun e he=>by simp at he;rcases he with he|he<;>exact .inr (.inr ⟨ad,h,.inl ⟨_,he⟩⟩),by simp[deafBehind]⟩
theorem FZ {c:Cy}{ad:Addr}(h:ad.block=c.Wg):Ev0 c d d #[cj (.read ad)]:=⟨fun e he=>by simp at he;exact .inr (.inr ⟨ad,h,.inr (.inl he)⟩),by simp[deafBehind,cj]⟩
end
end Go.Sep
end
section
namespace Go.Sep
open Go Go.Conc
variable {P:Program}
section
variable {Φ:Goroutine->ag->Prop}{fi:FuncId}
theorem F2 {P:Program}{main:Bool}{S:Type}{JF:S->Goroutine->ag->Prop}{ph:S}(hJ:Closed P main (JF ph)){c:Code}{Q:Ex->Act->ag->S->Prop}{a:Act}{F F':ag}(hle:Le F F')(h:cH JF fi c Q a F ph):cH JF fi c Q a F' ph:=
 fun b k cs hb d=>hJ.mono hle (h b k cs hb d)
theorem vh {P:Program}{main:Bool}{S:Type}{JF:S->Goroutine->ag->Prop}{ph:S}(hJ:Closed P main (JF ph)){c:Code}{Q:Ex->Act->ag->S->Prop}{a:Act}{F:ag}(h:bP (keys F.own)->aP F.ro F.own->cH JF fi c Q a F ph):cH JF fi c Q a F ph:=by
 intro b k cs hb d;by_cases hw:∃w,Has F w
 .obtain ⟨w,hw⟩:=hw;refine h ⟨hw.nodup⟩ (fun b hb off sp=>?_) b k cs hb d;cases e:F.ro ⟨b,off,sp⟩ with
  |none=>rfl
  |some v=>exact absurd hb (hw.apart _ v e)
 .exact hJ.step fun w f=>absurd ⟨w,f⟩ hw
end
theorem z8 {ro:Addr->Option Value}{b a off:Nat}{sp:Option Nat}{o:Obj}(h:ro ⟨a,off,sp⟩=none)(c:a≠b):bY ro b o ⟨a,off,sp⟩=none:=by simp[bY,h,c]
theorem z9 {ro:Addr->Option Value}{a b2:Nat}{b c:Obj}(f:bP (keys [(b2,c),(a,b)]))(e:aP ro [(b2,c),(a,b)]):
  ∃d,Ext ro d/\Le ⟨d,[]⟩ ⟨ro,[(b2,c),(a,b)]⟩/\(∀off v,cellOf b off=some v->d ⟨a,off,none⟩=some v)/\(∀off v,cellOf c off=some v->d ⟨b2,off,none⟩=some v):=by
 have hd:=f.1
 simp only[keys,List.map_cons,List.map_nil,List.nodup_cons,List.mem_cons,List.not_mem_nil,not_or] at hd
 have r1:∀off sp,ro ⟨a,off,sp⟩=none:=e a (by simp[keys])
 have r2:∀off sp,ro ⟨b2,off,sp⟩=none:=e b2 (by simp[keys])
 have g:b2≠a:=by obtain ⟨⟨z,-⟩,-⟩:=hd;exact z
 have t2:∀off sp,bY ro a b ⟨b2,off,sp⟩=none:=fun off sp=>z8 (r2 off sp) g
 have k1:Le ⟨bY ro a b,[(b2,c)]⟩ ⟨ro,[(b2,c),(a,b)]⟩:=kz (by simp[lk, *]) aB (by simp[aQ,Ne.symm, *])
 have i:Le ⟨bY (bY ro a b) b2 c,[]⟩ ⟨bY ro a b,[(b2,c)]⟩:=kz (by simp only[lk];simp) aB trivial
 exact ⟨_,(fY _ _ _).trans (fY _ _ _),i.trans k1,fun off v h=>fY _ _ _ _ _ ((ep r1).trans h),fun off v h=>(ep t2).trans h⟩
end Go.Sep
end
section
namespace Go.Proofs.YtcoalekambhghaaGreatDoor
open Go Go.Sep Go.Proofs
set_option maxRecDepth 100000
set_option maxHeartbeats 4000000
theorem F3 {ro:Addr->Option Value}(u0:aL)(bits:Int){s2:Value}(d:aI bK ro s2 u0.aj){b2 h:Nat}(e:ro ⟨b2,0,none⟩=some (.int .i64 u0.steps))(f:ro ⟨b2,1,none⟩=some (.int .i64 u0.au))(g:ro ⟨b2,2,none⟩=some s2)(i:ro ⟨h,0,none⟩=some (.int .u64 bits)):
  kH Tryz.prog 139 #[] #[.pointer (some ⟨b2,0,none⟩),.pointer (some ⟨h,0,none⟩)] bw.v (n7 u0 bits) ro:=by
 refine ⟨by simp only[go_sem],fun aK b σ step I p q r k s c s' a main J hJ own l=>?_⟩
 replace d:=d.mono b
 replace e:=b _ _ e
 replace f:=b _ _ f
 replace g:=b _ _ g
 replace i:=b _ _ i
 refine c8.go hJ Tryz.func139 rfl Tryz.ntmps139 Tryz.results139 aB fun A t hd hs=>?_
 have u:=hs 0
 have k1:=hs 1
 have w:=hs 2
 clear hs
 repeat refine af hJ ?_
 refine ah hJ ?_
 try simp only[*,go_sem,-a]
 intro b3 f3;have r3:=aV f3;have n3:=aW f3
 try simp only[*,go_sem,-a]
 repeat refine af hJ ?_
 refine ah hJ ?_
 try simp only[*,go_sem,-a]
 intro b4 f4;have m:=aV f4;have j:=aW f4
 simp only[aQ] at j
 try simp only[*,go_sem,-a]
 repeat refine af hJ ?_
 refine ah hJ ?_
 try simp only[*,go_sem,-a]
 repeat refine af hJ ?_
 refine ah hJ ?_
 try simp only[*,go_sem,-a]
 refine c8.less hJ ((D3 u0 d k (b2:=b2) (b3:=b3) (b4:=b4) e f g j.1 m r3 6 0 ⟨⟨0,0,0,0⟩,⟨0,0,0,0⟩,bits⟩ s c s' a main J hJ own l).mono ?_)
 rintro v F' ⟨n,hle,rfl,o⟩
 exact ⟨_,hle,n,Le.sub (List.sublist_append_right _ _),o⟩
theorem Aa {ro:Addr->Option Value}(u0:aL){s2:Value}(e:aI bK ro s2 u0.aj)(b:Int){r:List (Option bw)}(h:n8 u0 b=some r):
  ee Tryz.prog 120 #[.agg #[.int .i64 u0.steps,.int .i64 u0.au,s2],.int .u64 b] ro (fun v aK=>∃f a c,v= .func (.func f) a c/\kH Tryz.prog f a c bw.v r aK):=by
 obtain rfl:n7 u0 b=r:=Option.some.inj h
 clear h
 obtain ⟨ad,cap,rfl,le,n,-⟩:=id e
 refine aF.go Tryz.func120 rfl Tryz.ntmps120 Tryz.results120 aB fun main J hJ A o hd hs=>?_
 have p:=hs 0
 have k1:=hs 1
 clear hs
 repeat refine af hJ ?_
 refine ah hJ ?_
 apply bt _
 intro b2 f2;have r2:=aV f2;have q:=aW f2
 try apply bt _
 intro s g;have j:=aV g;have k:=aW g
 simp only[aQ] at k
 try apply bt _
 repeat refine af hJ ?_
 refine ah hJ ?_
 apply bt _
 repeat refine af hJ ?_
 refine aJ hJ fun nd=>?_
 obtain ⟨l,i,hle,d,m⟩:=z9 nd (aP.cons j (aP.cons r2 (aP.nil _)))
 refine aG ?_
 apply bt _
 exact ⟨l,i,hle,_,_,_,rfl,F3 u0 b (e.mono i) (d 0 _ rfl) (d 1 _ rfl) (d 2 _ rfl) (m 0 _ rfl)⟩
def mD (x:bw)(st:List bw):Option (Fl (List bw) Unit):=ax (fZ st ([x])) fun y=>some (.nx y)
def oB (u0:List bw)(a:List (Option bw)):Option (List bw):=ax (jl mD a u0) fun o=>aH o (fun st=>some st) (fun _ _=>none) (fun _=>none)
theorem F4 {ro:Addr->Option Value}{bz:List (Nat×Obj)}(u0:List bw){q:Value}(s:bx gN ro 84 q u0 bz)(t:List (Option bw)){bL:FuncId}{bQ bR:Array Value}(E:kH Tryz.prog bL bQ bR bw.v t ro){r:List bw}(h:oB u0 t=some r):
  aF Tryz.prog 119 #[q,.func (.func bL) bQ bR] ⟨ro,bz⟩ (fun v G=>∃u,bx gN ro 84 v r u/\Le ⟨ro,u⟩ G):=by
 unfold oB at h
 obtain ⟨d0,F,rfl,H⟩:=s.len
 refine aF.yJ Tryz.func119 rfl Tryz.ntmps119 Tryz.results119 aB fun main J hJ A I hd hs=>?_
 have K:=hs 0
 have k1:=hs 1
 clear hs
 refine af hJ ?_
 refine ah hJ ?_
 apply aa _
 intro e f1;have r1:=aV f1;have n1:=aW f1
 try apply aa _
 refine af hJ ?_
 refine af hJ ?_
 refine ah hJ ?_
 apply aa _
 have h':=an h;clear h;obtain ⟨ab,L,m⟩:=h';have h:=True.intro
 refine yG hJ bw.v cU E aT aT (ρ:=Unit) (fun (j:List bw) M=>∃(d7:Option Addr) (b:Nat) (c:List (Nat×Obj)),M=(e,.cells #[.slice d7 j.length b] 105)::c/\bx gN ro 84 (.slice d7 j.length b) j c/\j.length<=b) (f:=mD) L ?_ ?_ av ?_ ?_
 .exact ⟨d0,F,bz,rfl,s,H⟩
 .rintro d4 n g N v6 x2 ad h main J hJ _ ⟨d7,b,c,rfl,o,O⟩
  unfold mD at h
  try dsimp only at h
  generalize i:lH _ _ _=k
  have ae:sz k=13:=by rw[<-i,yF];simp only[*,go_sem]
  have al:k.defers=[]:=by rw[<-i];rfl
  have ao:slot k 2= .pointer (some ⟨e,0,none⟩):=by rw[<-i,pO];simp only[*,go_sem]
  have ar:slot k 7= .agg #[.int .i64 x2.az.e0,.int .i64 x2.az.e1,.int .i64 x2.az.e2,.int .i64 x2.az.e3,.int .i64 x2.aA.e0,.int .i64 x2.aA.e1,.int .i64 x2.aA.e2,.int .i64 x2.aA.e3,.int .u64 x2.au]:=by rw[<-i,pO];simp only[*,go_sem]
  clear i I hd K k1
  refine iJ hJ fun d a=>?_
  replace a:aP ro ((n,.loop g)::(d4,.deferred (some []))::(e,.cells #[.slice d7 v6.length b] 105)::c):=a
  have r3:=a.hd
  have a0:=a.tl.hd
  have r1:=a.tl.tl.hd
  clear a
  replace d:=d.nd
  simp only[keys,List.map_cons,List.map_nil,List.map_append,List.cons_append,List.nil_append,List.nodup_cons,List.mem_cons,List.mem_append,List.not_mem_nil,or_false,not_or] at d
  refine aJ hJ fun P=>?_
  refine ah hJ ?_
  apply aa _
  intro w f17;have a2:=aV f17;have y:=aW f17
  have a3:=bP.cons y P
  try simp only[aQ] at y
  try apply aa _
  simp only[pL,go_sem]
  refine ⟨g,cU,N,?_⟩
  try apply aa _
  refine aY hJ ?_
  refine aJ hJ fun Q=>?_
  refine ah hJ ?_
  have h':=an h;clear h;obtain ⟨a4,R,h⟩:=h'
  obtain ⟨S,z⟩:=iF R
  apply aa _
  intro B f20;have T:=aV f20;have C:=aW f20
  have U:=bP.cons C Q
  try simp only[aQ] at C
  try apply aa _
  refine iH (r:=gN) (l:=v6) (x:=x2) (cs:=#[.int .i64 x2.az.e0,.int .i64 x2.az.e1,.int .i64 x2.az.e2,.int .i64 x2.az.e3,.int .i64 x2.aA.e0,.int .i64 x2.aA.e1,.int .i64 x2.aA.e2,.int .i64 x2.aA.e3,.int .u64 x2.au]) (e2:=84) [(B,.cells #[.int .i64 x2.az.e0,.int .i64 x2.az.e1,.int .i64 x2.az.e2,.int .i64 x2.az.e3,.int .i64 x2.aA.e0,.int .i64 x2.aA.e1,.int .i64 x2.aA.e2,.int .i64 x2.aA.e3,.int .u64 x2.au] 84),(w,.cells #[.int .i64 x2.az.e0,.int .i64 x2.az.e1,.int .i64 x2.az.e2,.int .i64 x2.az.e3,.int .i64 x2.aA.e0,.int .i64 x2.aA.e1,.int .i64 x2.aA.e2,.int .i64 x2.aA.e3,.int .u64 x2.au] 84),(n,.loop {g with state:=.busy}),(d4,.deferred (some [])),(e,.cells #[.slice d7 v6.length b] 105)] [] (by first|rfl|simp only[bh]|(simp only[bh];rfl)) o U S rfl ak T rfl rfl ya ya CA CC rfl CB av av (fun a5 D p c V a6=>?_)
  simp only[bh] at V
  subst c
  rw[<-z] at p;clear z
  obtain ⟨d28,W,rfl,X⟩:=p.len
  refine ⟨⟨ro,(B,.cells #[.int .i64 x2.az.e0,.int .i64 x2.az.e1,.int .i64 x2.az.e2,.int .i64 x2.az.e3,.int .i64 x2.aA.e0,.int .i64 x2.aA.e1,.int .i64 x2.aA.e2,.int .i64 x2.aA.e3,.int .u64 x2.au] 84)::(w,.cells #[.int .i64 x2.az.e0,.int .i64 x2.az.e1,.int .i64 x2.az.e2,.int .i64 x2.az.e3,.int .i64 x2.aA.e0,.int .i64 x2.aA.e1,.int .i64 x2.aA.e2,.int .i64 x2.aA.e3,.int .u64 x2.au] 84)::(n,.loop {g with state:=.busy})::(d4,.deferred (some []))::(e,.cells #[.slice d7 v6.length b] 105)::D⟩,Le.refl _,?_⟩
  refine aS ?_
  try apply aa _
  have h':=Option.some.inj h;clear h;subst h'
  simp only[sW,lF,go_sem]
  refine ⟨{g with state:=.busy},cU,?_⟩
  apply bt _
  refine ⟨_,Le.sub (List.Sublist.cons _ (List.Sublist.cons _ (List.Sublist.refl _))),rfl,d28,W,D,rfl,p,X⟩
 .rintro d49 Y Z _ v6 ⟨d7,b,c,rfl,o,O⟩ d a
  replace a:aP ro ((Y,.loop Z)::(d49,.deferred (some []))::(e,.cells #[.slice d7 v6.length b] 105)::c):=a
  have a7:=a.hd
  have a8:=a.tl.hd
  have r1:=a.tl.tl.hd
  clear a
  replace d:=d.nd
  simp only[keys,List.map_cons,List.map_nil,List.map_append,List.cons_append,List.nil_append,List.nodup_cons,List.mem_cons,List.mem_append,List.not_mem_nil,or_false,not_or] at d
  refine ⟨fun ho=>?_,fun k1 ho=>?_⟩
  .subst ho;have h:=m;dsimp only[aH] at h
   refine af hJ ?_
   refine ah hJ ?_
   apply aa _
   have h':=Option.some.inj h;clear h;subst h'
   refine aG ?_
   apply bt _
   exact ⟨c,o,Le.sub (List.Sublist.cons _ (List.Sublist.cons _ (List.Sublist.cons _ (List.Sublist.refl _))))⟩
  subst ho;have h:=m;dsimp only[aH] at h
  cases h
 intro k1 a9 ho;subst ho;have h:=m;dsimp only[aH] at h
 cases h
def mE (u0:aL)(a:Int)(st:((List bw)×Int)):Option (Fl ((List bw)×Int) (List bw)):=
 cond (decide (st.2<a)) (ax (nJ st.2) fun b=>cond (decide (b<=u0.au)) (ax (n8 u0 st.2) fun c=>ax (oB st.1 c) fun d=>some (.nx (d,(IntKind.u64.wrap (st.2+1))))) (some (.nx (st.1,(IntKind.u64.wrap (st.2+1)))))) (some (.bk (st.1,st.2)))
def mF (u0:aL):Option (List bw):=
 ax (ji 1 (u0.aj.length:Int)) fun a=>ax (bg (mE u0 a) fu (([]:List bw),0)) fun o=>aH o (fun b=>some b.1) (fun _ _=>none) (fun r=>some r)
theorem Ab {ro:Addr->Option Value}(u0:aL){s1:Value}(a:aI bK ro s1 u0.aj){r:(List bw)}(h:mF u0=some r):ee Tryz.prog 74 #[.agg #[.int .i64 u0.steps,.int .i64 u0.au,s1]] ro (fun v aK=>∃B,v=B/\aI gN aK B r):=by
 obtain ⟨d3,c4,rfl,ar,a0,f⟩:=id a;unfold mF at h;refine aF.go Tryz.func74 rfl Tryz.ntmps74 Tryz.results74 aB fun main J hJ A N hd hs=>?_;have O:=hs 0;clear hs;refine af hJ ?_;refine ah hJ ?_;apply aa _;intro b f8;have n:=aV f8;have P:=aW f8;try simp only[aQ] at P
 try apply aa _
 refine af hJ ?_;refine ah hJ ?_;apply aa _;refine af hJ ?_;refine af hJ ?_;refine ah hJ ?_;have h':=an h;clear h;obtain ⟨C,D,h⟩:=h';obtain ⟨a2,Q⟩:=lq D;clear D;try simp only[go_sem] at Q
 try apply aa _
 refine aY hJ ?_;have h':=an h;clear h;obtain ⟨R,i,S⟩:=h';have h:=True.intro;refine bO hJ [3,4,10,11,12,13,14,15,16,17,18,19,20,21,22,23,24] (fun m E F'=>∃(c:Addr->Option Value) (d12:Option Addr) (j:Nat) (d:List (Nat×Obj)) (v11:(List bw)) (e:Int),bg (mE u0 C) m (v11,e)=some R/\F'=⟨c,(b,.cells #[.int .i64 u0.steps,.int .i64 u0.au,.slice d3 u0.aj.length c4] 87)::d⟩/\Ext ro c/\bx gN c 84 (.slice d12 v11.length j) v11 d/\v11.length<=j/\slot E 3= .slice d12 v11.length j/\slot E 10= .int .u64 e) fu ?_ ?_
 .refine ⟨ro,none,0,[],([]:List bw),0,i,rfl,Ext.refl _,bx.nil _ _ _,Nat.le_refl _,?_⟩;simp only[*,go_sem,-h]
 rintro o k F' g ⟨c,d12,j,d,v11,e,i,rfl,p,l,T,a3,a4⟩;have h:=True.intro;refine iJ hJ fun _ t=>?_;have t:aP c ((b,.cells #[.int .i64 u0.steps,.int .i64 u0.au,.slice d3 u0.aj.length c4] 87)::d):=t;replace a:=a.mono p;clear f;obtain ⟨_,_,f⟩:=a.op;replace n:=t.hd;have a5:sz k=26:=by rw[g.size];simp only[*,go_sem,-h]
 have a6:k.defers=[]:=by rw[g.defers];simp only[*,go_sem,-h]
 have a7:slot k 1= .pointer (some ⟨b,0,none⟩):=by rw[g.ay 1 av];simp only[*,go_sem,-h]
 have a8:slot k 2= .slice none 0 0:=by rw[g.ay 2 av];simp only[*,go_sem,-h]
 have a9:slot k 9= .int .u64 C:=by rw[g.ay 9 av];simp only[*,go_sem,-h]
 clear g N hd O;obtain _|o:=o
 .exact absurd i (by simp only[bg,reduceCtorEq,not_false_eq_true])
 have h':=an i;clear i h;obtain ⟨ba,h,q⟩:=h';unfold mE at h;try dsimp only at h
 refine af hJ ?_;refine aJ hJ fun bb=>?_;refine ah hJ ?_;apply aa _;refine af hJ ?_;have h':=aD h;clear h;rcases h' with ⟨u,h⟩|⟨u,h⟩
 .try simp only[Int.ofNat_lt] at u
  refine aN hJ ak ?_;refine aR hJ ?_;refine af hJ ?_;refine aY hJ ?_;refine af hJ ?_;refine aJ hJ fun bc=>?_;refine ah hJ ?_;apply aa _;refine af hJ ?_;refine aJ hJ fun bd=>?_;refine cu hJ mixed 6 ⟨c,[(b,.cells #[.int .i64 u0.steps,.int .i64 u0.au,.slice d3 u0.aj.length c4] 87)]⟩ ak aT ?_;have h':=an h;clear h;obtain ⟨bj,U,h⟩:=h';apply aa _;refine ⟨_,eo hJ fun F hF=>yR e U,e6 ?_⟩;try apply aa _
  have h':=aD h;clear h;rcases h' with ⟨w,h⟩|⟨w,h⟩
  ·(try simp only[Int.ofNat_lt] at w);refine aN hJ ak ?_;refine aJ hJ fun bk=>?_;refine ah hJ ?_;have h':=an h;clear h;obtain ⟨V,W,h⟩:=h';apply aa _;refine cz hJ _ (Aa u0 a e W) fun v x y s hR=>?_;obtain ⟨bm,bo,br,rfl,X⟩:=hR;have s:aP x ((b,.cells #[.int .i64 u0.steps,.int .i64 u0.au,.slice d3 u0.aj.length c4] 87)::d):=s;replace a:=a.mono y;clear f;obtain ⟨_,_,f⟩:=a.op;replace n:=s.hd;replace l:=l.mono y s.tl;refine aS ?_;have h':=an h;clear h;obtain ⟨Y,Z,h⟩:=h';(try apply aa _);refine dA hJ (bz:=d) [(b,.cells #[.int .i64 u0.steps,.int .i64 u0.au,.slice d3 u0.aj.length c4] 87)] [] (by first|rfl|simp only[bh]|(simp only[bh];rfl)) _ (F4 v11 l V X Z) (fun bs G H ab ad b0=>?_);simp only[bh] at ad;subst ab;obtain ⟨d46,ae,rfl,al⟩:=H.len;refine ⟨⟨x,(b,.cells #[.int .i64 u0.steps,.int .i64 u0.au,.slice d3 u0.aj.length c4] 87)::G⟩,Le.refl _,?_⟩;refine aS ?_;(try apply aa _);refine aJ hJ fun b1=>?_;refine ah hJ ?_;apply aa _;have h':=Option.some.inj h;clear h;subst h';have h:=True.intro;(try apply aa _);refine ⟨o,Nat.lt_succ_self _,_,Le.sub (List.Sublist.refl _),x,d46,ae,G,Y,(IntKind.u64.wrap (e+1)),q,rfl,(p.trans y),H,al,?_⟩;simp only[*,go_sem,-h]
  try simp only[Int.ofNat_lt] at w
  refine aM hJ ak ?_;refine aR hJ ?_;refine aJ hJ fun b2=>?_;refine ah hJ ?_;apply aa _;have h':=Option.some.inj h;clear h;subst h';have h:=True.intro;try apply aa _
  refine ⟨o,Nat.lt_succ_self _,_,Le.sub (List.Sublist.refl _),c,d12,j,d,v11,(IntKind.u64.wrap (e+1)),q,rfl,p,l,T,?_⟩;simp only[*,go_sem,-h]
 try simp only[Int.ofNat_lt] at u
 refine aM hJ ak ?_;refine bI ?_;simp only[go_sem];have h':=Option.some.inj h;clear h;subst h';have h':=Option.some.inj q;clear q;subst h';have h:=S;dsimp only[aH] at h;refine af hJ ?_;refine aJ hJ fun b3=>?_;refine ah hJ ?_;apply aa _;have h':=Option.some.inj h;clear h;subst h';refine aJ hJ fun I=>?_;obtain ⟨K,L,z,M,ao⟩:=l.gA ((b,.cells #[.int .i64 u0.steps,.int .i64 u0.au,.slice d3 u0.aj.length c4] 87)::[]) [(b,.cells #[.int .i64 u0.steps,.int .i64 u0.au,.slice d3 u0.aj.length c4] 87)] [] (by first|rfl|simp only[bh]|(simp only[bh];rfl)) (by first|rfl|simp only[bh]|(simp only[bh];rfl)) I (aP.cons n (aP.nil _));clear I;refine cv (F:=⟨K,(b,.cells #[.int .i64 u0.steps,.int .i64 u0.au,.slice d3 u0.aj.length c4] 87)::[]⟩) hJ ao ?_;obtain ⟨b4,ca,cb⟩:=M.op;have z:aP K ((b,.cells #[.int .i64 u0.steps,.int .i64 u0.au,.slice d3 u0.aj.length c4] 87)::[]):=z;replace a:=a.mono L;clear f;obtain ⟨_,_,f⟩:=a.op;replace n:=z.hd;refine aG ?_;apply bt _;exact ⟨_,(p).trans L,Le.sub (List.nil_sublist _),_,rfl,M⟩
def vi (a:bw)(st:Bool):Option (Fl Bool Unit):=
 some (.br 1000000000 true)
def iW (u0:aL)(a:Int):Option Bool:=
 ax (n8 u0 a) fun b=>ax (jl (vi) b false) fun o=>aH o (fun d=>some false) (fun k c=>cond (k==1000000000) (some c) (none)) (fun _=>none)
theorem qO {ro:Addr->Option Value}(u0:aL){s1:Value}(d:aI bK ro s1 u0.aj)(l:Int){r:Bool}(h:iW u0 l=some r):aF Tryz.prog 76 #[.agg #[.int .i64 u0.steps,.int .i64 u0.au,s1],.int .u64 l] ⟨ro,[]⟩ (fun v _=>v= .bool r):=by
 obtain ⟨d3,c4,rfl,O,P,u⟩:=id d;unfold iW at h;refine aF.yJ Tryz.func76 rfl Tryz.ntmps76 Tryz.results76 aB fun main J hJ A y hd hs=>?_;have z:=hs 0;have k1:=hs 1;clear hs;refine af hJ ?_;refine ah hJ ?_;apply aa _;intro i f8;have m:=aV f8;have B:=aW f8;try simp only[aQ] at B
 intro e f9;have n:=aV f9;have C:=aW f9;try simp only[aQ] at C
 try apply aa _
 refine af hJ ?_;refine af hJ ?_;refine ah hJ ?_;have h':=an h;clear h;obtain ⟨Q,D,h⟩:=h';apply aa _;refine cz hJ _ (Aa u0 d l D) fun v o E j hR=>?_;obtain ⟨R,S,T,rfl,F⟩:=hR;have j:aP o ((e,.cells #[.bool false] 4)::(i,.cells #[.int .i64 u0.steps,.int .i64 u0.au,.slice d3 u0.aj.length c4] 87)::[]):=j;replace d:=d.mono E;clear u;obtain ⟨_,_,u⟩:=d.op;replace n:=j.hd;replace m:=j.tl.hd;try apply aa _
 have h':=an h;clear h;obtain ⟨U,G,p⟩:=h';have h:=True.intro;refine yG hJ bw.v cU F aT aT (ρ:=Unit) (fun (H:Bool) I=>I=(e,.cells #[.bool H] 4)::(i,.cells #[.int .i64 u0.steps,.int .i64 u0.au,.slice d3 u0.aj.length c4] 87)::[]) (f:=vi) G ?_ ?_ av ?_ ?_
 .exact rfl
 .rintro d17 K q L s b V h main J hJ _ rfl;unfold vi at h;try dsimp only at h
  generalize g:lH _ _ _=k;have W:sz k=9:=by rw[<-g,yF];simp only[*,go_sem]
  have X:k.defers=[]:=by rw[<-g];rfl
  have Y:slot k 4= .pointer (some ⟨e,0,none⟩):=by rw[<-g,pO];simp only[*,go_sem]
  have Z:slot k 8= .agg #[.int .i64 b.az.e0,.int .i64 b.az.e1,.int .i64 b.az.e2,.int .i64 b.az.e3,.int .i64 b.aA.e0,.int .i64 b.aA.e1,.int .i64 b.aA.e2,.int .i64 b.aA.e3,.int .u64 b.au]:=by rw[<-g,pO];simp only[*,go_sem]
  clear g y hd z k1;refine iJ hJ fun c a=>?_;replace a:aP o ((K,.loop q)::(d17,.deferred (some []))::(e,.cells #[.bool s] 4)::(i,.cells #[.int .i64 u0.steps,.int .i64 u0.au,.slice d3 u0.aj.length c4] 87)::[]):=a;have ab:=a.hd;have ad:=a.tl.hd;have n:=a.tl.tl.hd;have m:=a.tl.tl.tl.hd;clear a;replace c:=c.nd;simp only[keys,List.map_cons,List.map_nil,List.map_append,List.cons_append,List.nil_append,List.nodup_cons,List.mem_cons,List.mem_append,List.not_mem_nil,or_false,not_or] at c;refine aR hJ ?_;simp only[pL,go_sem];refine ⟨q,cU,L,?_⟩;try apply aa _
  refine aY hJ ?_;refine af hJ ?_;refine ah hJ ?_;apply aa _;refine aG ?_;have h':=Option.some.inj h;clear h;subst h';simp only[sW,lF,go_sem];refine ⟨{q with state:=.busy},cU,?_⟩;apply bt _;refine ⟨_,Le.sub (List.Sublist.refl _),rfl,rfl⟩
 .rintro d179 M N _ s rfl c a;replace a:aP o ((M,.loop N)::(d179,.deferred (some []))::(e,.cells #[.bool s] 4)::(i,.cells #[.int .i64 u0.steps,.int .i64 u0.au,.slice d3 u0.aj.length c4] 87)::[]):=a;have ae:=a.hd;have al:=a.tl.hd;have n:=a.tl.tl.hd;have m:=a.tl.tl.tl.hd;clear a;replace c:=c.nd;simp only[keys,List.map_cons,List.map_nil,List.map_append,List.cons_append,List.nil_append,List.nodup_cons,List.mem_cons,List.mem_append,List.not_mem_nil,or_false,not_or] at c;refine ⟨fun ho=>?_,fun k1 ho=>?_⟩
  .subst ho;have h:=p;dsimp only[aH] at h;refine af hJ ?_;refine ah hJ ?_;apply aa _;have h':=Option.some.inj h;clear h;subst h';refine aJ hJ fun t=>?_;replace t:=t.nd;(try simp only[keys,List.map_cons,List.map_nil,List.map_append,List.cons_append,List.nil_append,List.nodup_cons,List.mem_cons,List.mem_append,List.not_mem_nil,or_false,not_or] at t);refine aG ?_;simp only[*,go_sem]
  subst ho;have h:=p;dsimp only[aH] at h;have h':=aD h;clear h;rcases h' with ⟨w,h⟩|⟨w,h⟩
  .obtain rfl:k1=1000000000:=by simpa using w
   unfold s0;rw[if_pos (show (1000000000:Nat)=pN from rfl)];have h':=Option.some.inj h;clear h;subst h';simp only[*,go_sem]
  cases h
 intro k1 ao ho;subst ho;have h:=p;dsimp only[aH] at h;have h':=aD h;clear h;rcases h' with ⟨x,h⟩|⟨x,h⟩
 .obtain rfl:k1=1000000000:=by simpa using x
  decide
 cases h
def ig (u0:aL)(c:(aL->Option Bool)):Option (dQ×Int):=
 ax (fN u0) fun a=>cond ((a != 0)) (some ((⟨(⟨0,0,([]:(List bf))⟩:aL),([]:(List bw))⟩:dQ),a)) (ax (c u0) fun d=>cond (!d) (some ((⟨(⟨0,0,([]:(List bf))⟩:aL),([]:(List bw))⟩:dQ),6)) (ax (mF u0) fun b=>cond (((b.length:Int)==0)) (some ((⟨(⟨0,0,([]:(List bf))⟩:aL),([]:(List bw))⟩:dQ),9)) (some ((⟨u0,b⟩:dQ),0))))
theorem js {ro:Addr->Option Value}(e:dh ro)(u0:aL){s1:Value}(b:aI bK ro s1 u0.aj)(j:(aL->Option Bool)){bL:FuncId}{bQ bR:Array Value}(o:aO Tryz.prog bL=true/\∀(aK:Addr->Option Value),Ext ro aK->∀(y0:aL) (k:Value) (z:Bool),aI bK aK k y0.aj->j y0=some z->aF Tryz.prog bL (bQ++#[.agg #[.int .i64 y0.steps,.int .i64 y0.au,k]]++bR) ⟨aK,[]⟩ (fun v _=>v= .bool z)){r:(dQ×Int)}(h:ig u0 j=some r):ee Tryz.prog 66 #[.agg #[.int .i64 u0.steps,.int .i64 u0.au,s1],.func (.func bL) bQ bR] ro (fun v aK=>∃l w1,v= .tuple #[.agg #[.int .i64 r.1.round.steps,.int .i64 r.1.round.au,l,w1],.int .i64 r.2]/\aI bK aK l r.1.round.aj/\aI gN aK w1 r.1.bJ):=by
 obtain ⟨d3,c4,rfl,G,H,m⟩:=id b;unfold ig at h;refine aF.go Tryz.func66 rfl Tryz.ntmps66 Tryz.results66 aB fun main J hJ A I hd hs=>?_;have K:=hs 0;have k1:=hs 1;clear hs;refine af hJ ?_;refine ah hJ ?_;apply aa _;intro p f8;have q:=aV f8;have s:=aW f8;try simp only[aQ] at s
 intro t f9;have u:=aV f9;have w:=aW f9;try simp only[aQ] at w
 try apply aa _
 refine af hJ ?_;refine af hJ ?_;refine ah hJ ?_;have h':=an h;clear h;obtain ⟨L,x,h⟩:=h';apply aa _;refine bp hJ _ (jm (e.mono aZ) u0 (b.mono aZ) x) (aS ?_);try apply aa _
 refine af hJ ?_;refine ah hJ ?_;apply aa _;have h':=aD h;clear h;rcases h' with ⟨f,h⟩|⟨f,h⟩
 .try simp only[Int.ofNat_lt] at f
  refine aN hJ ak ?_;refine af hJ ?_;refine ah hJ ?_;apply aa _;have h':=Option.some.inj h;clear h;subst h';refine aG ?_;apply bt _;exact ⟨_,Ext.refl _,Le.sub (List.nil_sublist _),_,_,rfl,aI.nil _ _,aI.nil _ _⟩
 try simp only[Int.ofNat_lt] at f
 refine aM hJ ak ?_;refine aR hJ ?_;refine af hJ ?_;refine ah hJ ?_;apply aa _;intro y f13;have B:=aV f13;have C:=aW f13;try simp only[aQ] at C
 try apply aa _
 refine af hJ ?_;refine af hJ ?_;refine ah hJ ?_;have h':=an h;clear h;obtain ⟨M,D,h⟩:=h';apply aa _;refine bp hJ _ (o.2 _ (fun a v h=>aZ a v h) u0 _ _ (b.mono aZ) D) (aS ?_);try apply aa _
 have h':=aD h;clear h;rcases h' with ⟨g,h⟩|⟨g,h⟩
 .try simp only[Int.ofNat_lt] at g
  refine aN hJ ak ?_;refine af hJ ?_;refine ah hJ ?_;apply aa _;have h':=Option.some.inj h;clear h;subst h';refine aG ?_;apply bt _;exact ⟨_,Ext.refl _,Le.sub (List.nil_sublist _),_,_,rfl,aI.nil _ _,aI.nil _ _⟩
 try simp only[Int.ofNat_lt] at g
 refine aM hJ ak ?_;refine aR hJ ?_;refine af hJ ?_;refine af hJ ?_;refine ah hJ ?_;have h':=an h;clear h;obtain ⟨N,E,h⟩:=h';apply aa _;refine cz hJ _ (Ab u0 b E) fun v F d c hR=>?_;obtain ⟨O,rfl,n⟩:=hR;have c:aP F ((y,.cells #[.int .i64 u0.steps,.int .i64 u0.au,.slice d3 u0.aj.length c4,.slice none 0 0] 107)::(t,.cells #[.int .i64 0,.int .i64 0,.slice none 0 0,.slice none 0 0] 107)::(p,.cells #[.int .i64 u0.steps,.int .i64 u0.au,.slice d3 u0.aj.length c4] 24)::[]):=c;replace b:=b.mono d;clear m;obtain ⟨_,_,m⟩:=b.op;replace B:=c.hd;replace u:=c.tl.hd;replace q:=c.tl.tl.hd;replace e:=e.mono d;obtain ⟨d24,P,rfl,Q,R,S⟩:=id n;refine aS ?_;try apply aa _
 refine af hJ ?_;refine ah hJ ?_;apply aa _;have h':=aD h;clear h;rcases h' with ⟨i,h⟩|⟨i,h⟩
 .try simp only[Int.ofNat_lt] at i
  refine aN hJ ak ?_;refine af hJ ?_;refine ah hJ ?_;apply aa _;have h':=Option.some.inj h;clear h;subst h';refine aG ?_;apply bt _;exact ⟨_,d,Le.sub (List.nil_sublist _),_,_,rfl,aI.nil _ _,aI.nil _ _⟩
 try simp only[Int.ofNat_lt] at i
 refine aM hJ ak ?_;refine aR hJ ?_;refine af hJ ?_;refine ah hJ ?_;apply aa _;have h':=Option.some.inj h;clear h;subst h';refine aG ?_;apply bt _;exact ⟨_,d,Le.sub (List.nil_sublist _),_,_,rfl,b,n⟩
def ju (u0:aL):Option (Int×Int):=
 ax (fN u0) fun a=>cond ((a != 0)) (some (0,a)) (ax (mF u0) fun b=>some ((b.length:Int),0))
theorem oC {ro:Addr->Option Value}(b:dh ro)(u0:aL){s1:Value}(a:aI bK ro s1 u0.aj){r:(Int×Int)}(h:ju u0=some r):aF Tryz.prog 23 #[.agg #[.int .i64 u0.steps,.int .i64 u0.au,s1]] ⟨ro,[]⟩ (fun v _=>v= .tuple #[.int .i64 r.1,.int .i64 r.2]):=by
 obtain ⟨d3,c4,rfl,o,p,e⟩:=id a;unfold ju at h;refine aF.go Tryz.func23 rfl Tryz.ntmps23 Tryz.results23 aB fun main J hJ A q hd hs=>?_;have s:=hs 0;clear hs;refine af hJ ?_;refine ah hJ ?_;apply aa _;intro g f8;have i:=aV f8;have j:=aW f8;try simp only[aQ] at j
 try apply aa _
 refine af hJ ?_;refine af hJ ?_;refine ah hJ ?_;have h':=an h;clear h;obtain ⟨t,k,h⟩:=h';apply aa _;refine bp hJ _ (jm (b.mono aZ) u0 (a.mono aZ) k) (aS ?_);try apply aa _
 refine af hJ ?_;refine ah hJ ?_;apply aa _;have h':=aD h;clear h;rcases h' with ⟨c,h⟩|⟨c,h⟩
 .try simp only[Int.ofNat_lt] at c
  refine aN hJ ak ?_;refine af hJ ?_;refine ah hJ ?_;apply aa _;have h':=Option.some.inj h;clear h;subst h';refine aG ?_;simp only[*,go_sem]
 try simp only[Int.ofNat_lt] at c
 refine aM hJ ak ?_;refine aR hJ ?_;refine af hJ ?_;refine ah hJ ?_;have h':=an h;clear h;obtain ⟨u,l,h⟩:=h';apply aa _;refine cz hJ _ (Ab u0 a l) fun v m f d hR=>?_;obtain ⟨w,rfl,n⟩:=hR;have d:aP m ((g,.cells #[.int .i64 u0.steps,.int .i64 u0.au,.slice d3 u0.aj.length c4] 24)::[]):=d;replace a:=a.mono f;clear e;obtain ⟨_,_,e⟩:=a.op;replace i:=d.hd;replace b:=b.mono f;obtain ⟨d19,x,rfl,y,z,B⟩:=id n;refine aS ?_;try apply aa _
 have h':=Option.some.inj h;clear h;subst h';refine aG ?_;simp only[*,go_sem]
def kQ (u0:aL):Option (Bool×Int):=
 ax (fN u0) fun a=>cond ((a != 0)) (some (false,a)) (ax (iW u0 0) fun b=>some (b,0))
theorem vj {ro:Addr->Option Value}(c:dh ro)(u0:aL){s1:Value}(a:aI bK ro s1 u0.aj){r:(Bool×Int)}(h:kQ u0=some r):aF Tryz.prog 35 #[.agg #[.int .i64 u0.steps,.int .i64 u0.au,s1]] ⟨ro,[]⟩ (fun v _=>v= .tuple #[.bool r.1,.int .i64 r.2]):=by
 obtain ⟨d3,c4,rfl,g,i,j⟩:=id a;unfold kQ at h;refine aF.go Tryz.func35 rfl Tryz.ntmps35 Tryz.results35 aB fun main J hJ A k hd hs=>?_;have l:=hs 0;clear hs;refine af hJ ?_;refine ah hJ ?_;apply aa _;intro m f8;have n:=aV f8;have d:=aW f8;try simp only[aQ] at d
 try apply aa _
 refine af hJ ?_;refine af hJ ?_;refine ah hJ ?_;have h':=an h;clear h;obtain ⟨o,e,h⟩:=h';apply aa _;refine bp hJ _ (jm (c.mono aZ) u0 (a.mono aZ) e) (aS ?_);try apply aa _
 refine af hJ ?_;refine ah hJ ?_;apply aa _;have h':=aD h;clear h;rcases h' with ⟨b,h⟩|⟨b,h⟩
 .try simp only[Int.ofNat_lt] at b
  refine aN hJ ak ?_;refine af hJ ?_;refine ah hJ ?_;apply aa _;have h':=Option.some.inj h;clear h;subst h';refine aG ?_;simp only[*,go_sem]
 try simp only[Int.ofNat_lt] at b
 refine aM hJ ak ?_;refine aR hJ ?_;refine af hJ ?_;refine ah hJ ?_;have h':=an h;clear h;obtain ⟨p,f,h⟩:=h';apply aa _;refine bp hJ _ (qO u0 (a.mono aZ) 0 f) (aS ?_);try apply aa _
 have h':=Option.some.inj h;clear h;subst h';refine aG ?_;simp only[*,go_sem]
def qP (u0:aL):Option (Int×Int):=
 ax (ig u0 iN) fun a=>cond ((a.2 != 0)) (some (0,a.2)) (ax (nO a.1 (p8 a.1.round)) fun b=>some (b,0))
theorem Ac {ro:Addr->Option Value}(c:dh ro)(u0:aL){s1:Value}(b:aI bK ro s1 u0.aj){r:(Int×Int)}(h:qP u0=some r):aF Tryz.prog 18 #[.agg #[.int .i64 u0.steps,.int .i64 u0.au,s1]] ⟨ro,[]⟩ (fun v _=>v= .tuple #[.int .i64 r.1,.int .i64 r.2]):=by
 obtain ⟨d3,c4,rfl,x,y,g⟩:=id b;unfold qP at h;refine aF.go Tryz.func18 rfl Tryz.ntmps18 Tryz.results18 aB fun main J hJ A z hd hs=>?_;have B:=hs 0;clear hs;refine af hJ ?_;refine ah hJ ?_;apply aa _;intro l f8;have m:=aV f8;have n:=aW f8;try simp only[aQ] at n
 try apply aa _
 refine af hJ ?_;refine ah hJ ?_;have h':=an h;clear h;obtain ⟨a,o,h⟩:=h';apply aa _;refine cz hJ _ (js c (bL:=67) (bQ:=#[]) (bR:=#[]) u0 b iN ⟨by simp only[go_sem],fun p i y0 _ _ q h=>by simp only[go_sem];exact p7 y0 q h⟩ o) fun v s j d hR=>?_;obtain ⟨C,D,rfl,e,k⟩:=hR;have d:aP s ((l,.cells #[.int .i64 u0.steps,.int .i64 u0.au,.slice d3 u0.aj.length c4] 24)::[]):=d;replace b:=b.mono j;clear g;obtain ⟨_,_,g⟩:=b.op;replace m:=d.hd;replace c:=c.mono j;obtain ⟨d16,t,rfl,E,F,G⟩:=id e;obtain ⟨d23,H,rfl,I,K,L⟩:=id k;refine aS ?_;try apply aa _
 intro M f28;have N:=aV f28;have u:=aW f28;try simp only[aQ] at u
 try apply aa _
 refine af hJ ?_;refine af hJ ?_;refine ah hJ ?_;apply aa _;have h':=aD h;clear h;rcases h' with ⟨f,h⟩|⟨f,h⟩
 .try simp only[Int.ofNat_lt] at f
  refine aN hJ ak ?_;refine af hJ ?_;refine ah hJ ?_;apply aa _;have h':=Option.some.inj h;clear h;subst h';refine aG ?_;simp only[*,go_sem]
 try simp only[Int.ofNat_lt] at f
 refine aM hJ ak ?_;refine aR hJ ?_;refine af hJ ?_;refine ah hJ ?_;have h':=an h;clear h;obtain ⟨O,w,h⟩:=h';apply aa _;refine bp hJ _ (tu (bL:=69) (bQ:=#[.agg #[.int .i64 a.1.round.steps,.int .i64 a.1.round.au,.slice d16 a.1.round.aj.length t]]) (bR:=#[]) a.1 (e.mono aZ) (k.mono aZ) (p8 a.1.round) ⟨by simp only[go_sem],fun p i y0 _ h=>by simp only[go_sem];exact DG a.1.round ((e.mono aZ).mono i) y0 h⟩ w) (aS ?_);try apply aa _
 have h':=Option.some.inj h;clear h;subst h';refine aG ?_;simp only[*,go_sem]
def vk (a:(dQ×Int))(b:Int)(i47:Nat)(c:bw)(st:Unit):Option (Fl Unit ((List Int)×Int)):=
 ax (nP a.1.round c b) fun d=>cond (d) (some (.br 1 ())) (some (.nx ()))
def vl (u0:aL)(a:(dQ×Int))(st:((List Int)×Int)):Option (Fl ((List Int)×Int) ((List Int)×Int)):=
 cond (decide (st.2<u0.steps)) (ax (b7 (vk a st.2) 0 a.1.bJ ()) fun o=>aH o (fun c=>ax (fZ st.1 ([st.2])) fun b=>some (.nx (b,(IntKind.i64.wrap (st.2+1))))) (fun _ d=>some (.nx (st.1,(IntKind.i64.wrap (st.2+1))))) (fun r=>some (.rt r))) (some (.bk (st.1,st.2)))
def vm (u0:aL):Option ((List Int)×Int):=
 ax (ig u0 iN) fun a=>cond ((a.2 != 0)) (some (([]:(List Int)),a.2)) (ax (bg (vl u0 a) fu (([]:List Int),0)) fun o=>aH o (fun b=>some (b.1,0)) (fun _ _=>none) (fun r=>some r))
theorem F5 {ro:Addr->Option Value}(t:dh ro)(u0:aL){s1:Value}(j:aI bK ro s1 u0.aj){r:((List Int)×Int)}(h:vm u0=some r):ee Tryz.prog 19 #[.agg #[.int .i64 u0.steps,.int .i64 u0.au,s1]] ro (fun v aK=>∃V,v= .tuple #[V,.int .i64 r.2]/\aI rI aK V r.1):=by
 obtain ⟨d3,c4,rfl,eb,ec,C⟩:=id j;unfold vm at h;refine aF.go Tryz.func19 rfl Tryz.ntmps19 Tryz.results19 aB fun main J hJ A bd hd hs=>?_;have bj:=hs 0;clear hs;refine af hJ ?_;refine ah hJ ?_;apply aa _;intro g f8;have L:=aV f8;have bk:=aW f8;try simp only[aQ] at bk
 try apply aa _
 refine BD hJ ?_;refine af hJ ?_;refine ah hJ ?_;have h':=an h;clear h;obtain ⟨a,bm,h⟩:=h';apply aa _;refine cz hJ _ (js t (bL:=67) (bQ:=#[]) (bR:=#[]) u0 j iN ⟨by simp only[go_sem],fun ed eh y0 _ _ bo h=>by simp only[go_sem];exact p7 y0 bo h⟩ bm) fun v u D M hR=>?_;obtain ⟨et,ev,rfl,w,E⟩:=hR;have M:aP u ((g,.cells #[.int .i64 u0.steps,.int .i64 u0.au,.slice d3 u0.aj.length c4] 24)::[]):=M;replace j:=j.mono D;clear C;obtain ⟨_,_,C⟩:=j.op;replace L:=M.hd;replace t:=t.mono D;obtain ⟨d16,k,rfl,eQ,eS,W⟩:=id w;obtain ⟨d23,i,rfl,e0,br,N⟩:=id E;refine aS ?_;try apply aa _
 intro e f28;have X:=aV f28;have bs:=aW f28;try simp only[aQ] at bs
 try apply aa _
 refine af hJ ?_;refine af hJ ?_;refine ah hJ ?_;apply aa _;have h':=aD h;clear h;rcases h' with ⟨O,h⟩|⟨O,h⟩
 .try simp only[Int.ofNat_lt] at O
  refine aN hJ ak ?_;refine af hJ ?_;refine ah hJ ?_;apply aa _;have h':=Option.some.inj h;clear h;subst h';refine aG ?_;apply bt _;exact ⟨_,D,Le.sub (List.nil_sublist _),_,rfl,aI.nil _ _⟩
 try simp only[Int.ofNat_lt] at O
 refine aM hJ ak ?_;refine aR hJ ?_;refine af hJ ?_;refine ah hJ ?_;apply aa _;refine af hJ ?_;refine BC hJ ?_;refine af hJ ?_;refine af hJ ?_;refine ah hJ ?_;apply aa _;refine aY hJ ?_;have h':=an h;clear h;obtain ⟨b0,y,b1⟩:=h';have h:=True.intro;refine bO hJ [6,7,9,20,21,22,23,24,25,26,27,28,29,30,31,32,33,34,35,36,37,38,39,40] (fun m G F'=>∃(d31:Option Addr) (s:Nat) (z:List (Nat×Obj)) (v30:(List Int)) (d:Int),bg (vl u0 a) m (v30,d)=some b0/\F'=⟨u,(e,.cells #[.int .i64 a.1.round.steps,.int .i64 a.1.round.au,.slice d16 a.1.round.aj.length k,.slice d23 a.1.bJ.length i] 107)::(g,.cells #[.int .i64 u0.steps,.int .i64 u0.au,.slice d3 u0.aj.length c4] 24)::z⟩/\bx rI u 3 (.slice d31 v30.length s) v30 z/\v30.length<=s/\slot G 6= .slice d31 v30.length s/\slot G 20= .int .i64 d) fu ?_ ?_
 .refine ⟨none,0,[],([]:List Int),0,y,rfl,bx.nil _ _ _,Nat.le_refl _,?_⟩;simp only[*,go_sem,-h]
 rintro H p F' q ⟨d31,s,z,v30,d,y,rfl,P,b2,b3,b4⟩;have h:=True.intro;have ca:sz p=42:=by rw[q.size];simp only[*,go_sem,-h]
 have cb:p.defers=[]:=by rw[q.defers];simp only[*,go_sem,-h]
 have cc:slot p 2= .slice none 0 0:=by rw[q.ay 2 av];simp only[*,go_sem,-h]
 have cd:slot p 3= .int .i64 0:=by rw[q.ay 3 av];simp only[*,go_sem,-h]
 have cf:slot p 4= .pointer (some ⟨e,0,none⟩):=by rw[q.ay 4 av];simp only[*,go_sem,-h]
 have ck:slot p 19= .int .i64 u0.steps:=by rw[q.ay 19 av];simp only[*,go_sem,-h]
 clear q bd hd bj;obtain _|H:=H
 .exact absurd y (by simp only[bg,reduceCtorEq,not_false_eq_true])
 have h':=an y;clear y h;obtain ⟨e1,h,I⟩:=h';unfold vl at h;try dsimp only at h
 refine af hJ ?_;refine aJ hJ fun e3=>?_;refine ah hJ ?_;apply aa _;refine af hJ ?_;have h':=aD h;clear h;rcases h' with ⟨Q,h⟩|⟨Q,h⟩
 .try simp only[Int.ofNat_lt] at Q
  refine aN hJ ak ?_;refine aR hJ ?_;refine af hJ ?_;refine aY hJ ?_;refine af hJ ?_;refine aJ hJ fun fa=>?_;refine ah hJ ?_;apply aa _;refine af hJ ?_;refine af hJ ?_;refine aJ hJ fun fb=>?_;refine ah hJ ?_;apply aa _;refine aY hJ ?_;have h':=an h;clear h;obtain ⟨cl,o,Y⟩:=h';have h:=True.intro;refine bO hJ [9,26,27,28,29,30,31,32,33,34,35] (fun m G F'=>∃(i47:Nat),m=a.1.bJ.length - i47/\i47<=a.1.bJ.length/\b7 (vk a d) i47 (a.1.bJ.drop i47) ()=some cl/\F'=⟨u,(e,.cells #[.int .i64 a.1.round.steps,.int .i64 a.1.round.au,.slice d16 a.1.round.aj.length k,.slice d23 a.1.bJ.length i] 107)::(g,.cells #[.int .i64 u0.steps,.int .i64 u0.au,.slice d3 u0.aj.length c4] 24)::z⟩/\slot G 26= .int .i64 (i47:Int)) a.1.bJ.length ?_ ?_
  .refine ⟨0,(Nat.sub_zero _).symm,Nat.zero_le _,o,rfl,?_⟩;simp only[*,go_sem,-h]
  rintro m2 c F' b ⟨i47,rfl,fc,o,rfl,fg⟩;have h:=True.intro;have fh:sz c=42:=by rw[b.size];simp only[*,go_sem,-h]
  have fi:c.defers=[]:=by rw[b.defers];simp only[*,go_sem,-h]
  have fj:slot c 2= .slice none 0 0:=by rw[b.ay 2 av];simp only[*,go_sem,-h]
  have fl:slot c 3= .int .i64 0:=by rw[b.ay 3 av];simp only[*,go_sem,-h]
  have fp:slot c 4= .pointer (some ⟨e,0,none⟩):=by rw[b.ay 4 av];simp only[*,go_sem,-h]
  have fr:slot c 6= .slice d31 v30.length s:=by rw[b.ay 6 av];simp only[*,go_sem,-h]
  have fs:slot c 7= .int .i64 d:=by rw[b.ay 7 av];simp only[*,go_sem,-h]
  have ft:slot c 19= .int .i64 u0.steps:=by rw[b.ay 19 av];simp only[*,go_sem,-h]
  have fv:slot c 20= .int .i64 d:=by rw[b.ay 20 av];simp only[*,go_sem,-h]
  have fw:slot c 21= .bool true:=by rw[b.ay 21 av];simp only[*,go_sem,-h]
  have fx:slot c 22= .int .i64 d:=by rw[b.ay 22 av];simp only[*,go_sem,-h]
  have fz:slot c 23= .pointer (some ⟨e,3,none⟩):=by rw[b.ay 23 av];simp only[*,go_sem,-h]
  have gg:slot c 24= .slice d23 a.1.bJ.length i:=by rw[b.ay 24 av];simp only[*,go_sem,-h]
  have gj:slot c 25= .int .i64 (a.1.bJ.length:Int):=by rw[b.ay 25 av];simp only[*,go_sem,-h]
  have gl:cq [6,7,9,20,21,22,23,24,25,26,27,28,29,30,31,32,33,34,35,36,37,38,39,40] c p:=(b.cR av).trans ak;clear b ca cb cc cd cf ck b3 b4;refine af hJ ?_;refine ah hJ ?_;apply aa _;refine af hJ ?_;rcases Nat.lt_or_ge i47 a.1.bJ.length with cy|Z
  .refine aN hJ ak ?_;refine aR hJ ?_;obtain ⟨ab,R⟩:∃x,a.1.bJ[i47]?=some x:=⟨_,List.getElem?_eq_getElem cy⟩
   rw[er R] at o;have h':=an o;clear o h;obtain ⟨gn,h,S⟩:=h';unfold vk at h;(try dsimp only at h);obtain ⟨gp,c0,da,db,f⟩:=N _ _ R;obtain rfl:c0=ab.cells:=db;cases da;have ad:=f 0 _ rfl;simp only[go_sem] at ad;have ae:=f 1 _ rfl;simp only[go_sem] at ae;have al:=f 2 _ rfl;simp only[go_sem] at al;have ao:=f 3 _ rfl;simp only[go_sem] at ao;have ar:=f 4 _ rfl;simp only[go_sem] at ar;have a0:=f 5 _ rfl;simp only[go_sem] at a0;have a2:=f 6 _ rfl;simp only[go_sem] at a2;have a3:=f 7 _ rfl;simp only[go_sem] at a3;have a4:=f 8 _ rfl;simp only[go_sem] at a4;clear f R;refine af hJ ?_;refine aY hJ ?_;refine af hJ ?_;refine aJ hJ fun dd=>?_;refine ah hJ ?_;apply aa _;intro gy f56;have g0:=aV f56;have a5:=aW f56;have g1:=bP.cons a5 dd;(try simp only[aQ] at a5);(try apply aa _);refine af hJ ?_;refine aJ hJ fun g2=>?_;refine ah hJ ?_;have h':=an h;clear h;obtain ⟨g3,df,h⟩:=h';apply aa _;refine bp hJ _ (tw a.1.round (w.mono aZ) ab d df) ?_;(try apply aa _);have h':=aD h;clear h;rcases h' with ⟨T,h⟩|⟨T,h⟩
   ·(try simp only[Int.ofNat_lt] at T);refine aN hJ ak ?_;refine bI ?_;simp only[go_sem];have h':=Option.some.inj h;clear h;subst h';have h':=Option.some.inj S;clear S;subst h';have h:=Y;dsimp only[aH] at h;clear ad ae al ao ar a0 a2 a3 a4;refine aJ hJ fun g4=>?_;refine ah hJ ?_;apply aa _;have h':=Option.some.inj h;clear h;subst h';have h:=True.intro;(try apply aa _);refine ⟨H,Nat.lt_succ_self _,_,Le.sub (List.Sublist.cons _ (List.Sublist.refl _)),d31,s,z,v30,(IntKind.i64.wrap (d+1)),I,rfl,P,b2,?_⟩;simp only[*,go_sem,-h]
   (try simp only[Int.ofNat_lt] at T);refine aM hJ ak ?_;refine aR hJ ?_;have h':=Option.some.inj h;clear h;subst h';have h:=True.intro;have g7:=dF (n:=i47) (by have:=br;omega);refine ah hJ ?_;apply aa _;refine ⟨a.1.bJ.length - (i47+1),ai,_,Le.sub (List.Sublist.cons _ (List.Sublist.refl _)),i47+1,rfl,ai,S,rfl,?_⟩;simp only[*,go_sem,-h]
  have ha:=Nat.not_lt.2 Z;refine aM hJ ak ?_;rw[List.drop_eq_nil_of_le Z] at o;have h':=Option.some.inj o;clear o h;subst h';have h:=Y;dsimp only[aH] at h;refine bI ?_;simp only[go_sem];refine aJ hJ fun dk=>?_;refine ah hJ ?_;have h':=an h;clear h;obtain ⟨dp,dq,h⟩:=h';obtain ⟨ds,a6⟩:=iF dq;apply aa _;intro a7 f64;have dt:=aV f64;have a8:=aW f64;have du:=bP.cons a8 dk;try simp only[aQ] at a8
  try apply aa _
  refine iH (r:=rI) (l:=v30) (x:=d) (cs:=#[.int .i64 d]) (e2:=3) [(a7,.cells #[.int .i64 d] 3),(e,.cells #[.int .i64 a.1.round.steps,.int .i64 a.1.round.au,.slice d16 a.1.round.aj.length k,.slice d23 a.1.bJ.length i] 107),(g,.cells #[.int .i64 u0.steps,.int .i64 u0.au,.slice d3 u0.aj.length c4] 24)] [] (by first|rfl|simp only[bh]|(simp only[bh];rfl)) P du ds rfl ak dt rfl rfl ga ga kF jJ rfl kG av av (fun hc a9 U dv dC hf=>?_);simp only[bh] at dC;subst dv;rw[<-a6] at U;clear a6;obtain ⟨d72,dE,rfl,dT⟩:=U.len;refine ⟨⟨u,(a7,.cells #[.int .i64 d] 3)::(e,.cells #[.int .i64 a.1.round.steps,.int .i64 a.1.round.au,.slice d16 a.1.round.aj.length k,.slice d23 a.1.bJ.length i] 107)::(g,.cells #[.int .i64 u0.steps,.int .i64 u0.au,.slice d3 u0.aj.length c4] 24)::a9⟩,Le.refl _,?_⟩;refine aS ?_;try apply aa _
  refine aJ hJ fun hg=>?_;refine ah hJ ?_;apply aa _;have h':=Option.some.inj h;clear h;subst h';have h:=True.intro;try apply aa _
  refine ⟨H,Nat.lt_succ_self _,_,Le.sub (List.Sublist.cons _ (List.Sublist.refl _)),d72,dE,a9,dp,(IntKind.i64.wrap (d+1)),I,rfl,U,dT,?_⟩;simp only[*,go_sem,-h]
 try simp only[Int.ofNat_lt] at Q
 refine aM hJ ak ?_;refine bI ?_;simp only[go_sem];have h':=Option.some.inj h;clear h;subst h';have h':=Option.some.inj I;clear I;subst h';have h:=b1;dsimp only[aH] at h;refine af hJ ?_;refine aJ hJ fun hh=>?_;refine ah hJ ?_;apply aa _;have h':=Option.some.inj h;clear h;subst h';refine aJ hJ fun ba=>?_;obtain ⟨bb,B,K,bc,ea⟩:=P.gA ((e,.cells #[.int .i64 a.1.round.steps,.int .i64 a.1.round.au,.slice d16 a.1.round.aj.length k,.slice d23 a.1.bJ.length i] 107)::(g,.cells #[.int .i64 u0.steps,.int .i64 u0.au,.slice d3 u0.aj.length c4] 24)::[]) [(e,.cells #[.int .i64 a.1.round.steps,.int .i64 a.1.round.au,.slice d16 a.1.round.aj.length k,.slice d23 a.1.bJ.length i] 107),(g,.cells #[.int .i64 u0.steps,.int .i64 u0.au,.slice d3 u0.aj.length c4] 24)] [] (by first|rfl|simp only[bh]|(simp only[bh];rfl)) (by first|rfl|simp only[bh]|(simp only[bh];rfl)) ba (aP.cons X (aP.cons L (aP.nil _)));clear ba;refine cv (F:=⟨bb,(e,.cells #[.int .i64 a.1.round.steps,.int .i64 a.1.round.au,.slice d16 a.1.round.aj.length k,.slice d23 a.1.bJ.length i] 107)::(g,.cells #[.int .i64 u0.steps,.int .i64 u0.au,.slice d3 u0.aj.length c4] 24)::[]⟩) hJ ea ?_;obtain ⟨hi,hj,hk⟩:=bc.op;have K:aP bb ((e,.cells #[.int .i64 a.1.round.steps,.int .i64 a.1.round.au,.slice d16 a.1.round.aj.length k,.slice d23 a.1.bJ.length i] 107)::(g,.cells #[.int .i64 u0.steps,.int .i64 u0.au,.slice d3 u0.aj.length c4] 24)::[]):=K;replace w:=w.mono B;clear W;obtain ⟨_,_,W⟩:=w.op;replace E:=E.mono B;clear N;obtain ⟨_,_,N⟩:=E.op;replace j:=j.mono B;clear C;obtain ⟨_,_,C⟩:=j.op;replace X:=K.hd;replace L:=K.tl.hd;replace t:=t.mono B;refine aG ?_;apply bt _;exact ⟨_,(D).trans B,Le.sub (List.nil_sublist _),_,rfl,bc⟩
def vn (i32:Nat)(i50:Nat)(b:bw)(st:(Int×(List (Int×Int)))):Option (Fl (Int×(List (Int×Int))) (Int×Int×Int)):=
 ax (bl.get b.aA (i32:Int)) fun a=>some (.nx ((if st.1<((cA (cw st.2 a (IntKind.i64.wrap (((cA st.2 a).getD 0)+1))) a).getD 0) then ((cA (cw st.2 a (IntKind.i64.wrap (((cA st.2 a).getD 0)+1))) a).getD 0) else st.1),(cw st.2 a (IntKind.i64.wrap (((cA st.2 a).getD 0)+1)))))
def vo (b:(dQ×Int))(i32:Nat)(c:bf)(st:(Int×Int)):Option (Fl (Int×Int) (Int×Int×Int)):=
 ax (b7 (vn i32) 0 b.1.bJ (0,([]:(List (Int×Int))))) fun o=>aH o (fun a=>cond (decide (a.1<st.2)) (some (.nx ((i32:Int),a.1))) (some (.nx (st.1,st.2)))) (fun _ _=>none) (fun r=>some (.rt r))
def vp (u0:aL):Option (Int×Int×Int):=
 ax (ig u0 iN) fun a=>cond ((a.2 != 0)) (some (0,0,a.2)) (ax (b7 (vo a) 0 u0.aj ((-1),(a.1.bJ.length:Int))) fun o=>aH o (fun b=>some (b.1,b.2,0)) (fun _ _=>none) (fun r=>some r))
theorem F6 {ro:Addr->Option Value}(C:dh ro)(u0:aL){s1:Value}(u:aI bK ro s1 u0.aj){r:(Int×Int×Int)}(h:vp u0=some r):aF Tryz.prog 49 #[.agg #[.int .i64 u0.steps,.int .i64 u0.au,s1]] ⟨ro,[]⟩ (fun v _=>v= .tuple #[.int .i64 r.1,.int .i64 r.2.1,.int .i64 r.2.2]):=by
 obtain ⟨d3,c4,rfl,dq,M,D⟩:=id u;unfold vp at h;refine aF.go Tryz.func49 rfl Tryz.ntmps49 Tryz.results49 aB fun main J hJ A S hd hs=>?_;have T:=hs 0;clear hs;refine af hJ ?_;refine ah hJ ?_;apply aa _;intro y f8;have U:=aV f8;have V:=aW f8;try simp only[aQ] at V
 try apply aa _
 refine af hJ ?_;refine ah hJ ?_;have h':=an h;clear h;obtain ⟨a,W,h⟩:=h';apply aa _;refine cz hJ _ (js C (bL:=67) (bQ:=#[]) (bR:=#[]) u0 u iN ⟨by simp only[go_sem],fun ds dt y0 _ _ X h=>by simp only[go_sem];exact p7 y0 X h⟩ W) fun v z N E hR=>?_;obtain ⟨du,dv,rfl,Y,Z⟩:=hR;have E:aP z ((y,.cells #[.int .i64 u0.steps,.int .i64 u0.au,.slice d3 u0.aj.length c4] 24)::[]):=E;replace u:=u.mono N;clear D;obtain ⟨_,_,D⟩:=u.op;replace U:=E.hd;replace C:=C.mono N;obtain ⟨d16,F,rfl,dC,dE,dT⟩:=id Y;obtain ⟨d23,B,rfl,ea,ab,ad⟩:=id Z;refine aS ?_;try apply aa _
 intro o f28;have eb:=aV f28;have ae:=aW f28;try simp only[aQ] at ae
 try apply aa _
 refine af hJ ?_;refine af hJ ?_;refine ah hJ ?_;apply aa _;have h':=aD h;clear h;rcases h' with ⟨G,h⟩|⟨G,h⟩
 .try simp only[Int.ofNat_lt] at G
  refine aN hJ ak ?_;refine af hJ ?_;refine ah hJ ?_;apply aa _;have h':=Option.some.inj h;clear h;subst h';refine aG ?_;simp only[*,go_sem]
 try simp only[Int.ofNat_lt] at G
 refine aM hJ ak ?_;refine aR hJ ?_;refine af hJ ?_;refine cu hJ mixed 5 ⟨z,[(o,.cells #[.int .i64 a.1.round.steps,.int .i64 a.1.round.au,.slice d16 a.1.round.aj.length F,.slice d23 a.1.bJ.length B] 107),(y,.cells #[.int .i64 u0.steps,.int .i64 u0.au,.slice d3 u0.aj.length c4] 24)]⟩ ak aT ?_;apply aa _;refine af hJ ?_;refine af hJ ?_;refine ah hJ ?_;apply aa _;refine aY hJ ?_;have h':=an h;clear h;obtain ⟨al,i,ao⟩:=h';have h:=True.intro;refine bO hJ [2,3,6,7,8,10,25,26,27,28,29,30,31,32,33,34,35,36,37,38,39,40,41,42,43,44,45,46,47,48,49,50,51,52,53,54,55,56,57] (fun m p F'=>∃(i32:Nat) (v30:Int) (w:Int),m=u0.aj.length - i32/\i32<=u0.aj.length/\b7 (vo a) i32 (u0.aj.drop i32) (v30,w)=some al/\F'=⟨z,(o,.cells #[.int .i64 a.1.round.steps,.int .i64 a.1.round.au,.slice d16 a.1.round.aj.length F,.slice d23 a.1.bJ.length B] 107)::(y,.cells #[.int .i64 u0.steps,.int .i64 u0.au,.slice d3 u0.aj.length c4] 24)::[]⟩/\slot p 25= .int .i64 (i32:Int)/\slot p 2= .int .i64 v30/\slot p 3= .int .i64 w) u0.aj.length ?_ ?_
 .refine ⟨0,(-1),(a.1.bJ.length:Int),(Nat.sub_zero _).symm,Nat.zero_le _,i,rfl,?_⟩;simp only[*,go_sem,-h]
 rintro ec q F' s ⟨i32,v30,w,rfl,ed,i,rfl,ar,a0,a2⟩;have h:=True.intro;have a3:sz q=60:=by rw[s.size];simp only[*,go_sem,-h]
 have a4:q.defers=[]:=by rw[s.defers];simp only[*,go_sem,-h]
 have a5:slot q 4= .int .i64 a.2:=by rw[s.ay 4 av];simp only[*,go_sem,-h]
 have a6:slot q 5= .pointer (some ⟨o,0,none⟩):=by rw[s.ay 5 av];simp only[*,go_sem,-h]
 have a7:slot q 24= .int .i64 (u0.aj.length:Int):=by rw[s.ay 24 av];simp only[*,go_sem,-h]
 clear s S hd T;refine af hJ ?_;refine ah hJ ?_;apply aa _;refine af hJ ?_;rcases Nat.lt_or_ge i32 u0.aj.length with a8|O
 .refine aN hJ ak ?_;refine aR hJ ?_;obtain ⟨eh,H⟩:∃x,u0.aj[i32]?=some x:=⟨_,List.getElem?_eq_getElem a8⟩
  rw[er H] at i;have h':=an i;clear i h;obtain ⟨et,h,P⟩:=h';unfold vo at h;try dsimp only at h
  obtain ⟨a9,ev,ba,bb,j⟩:=D _ _ H;obtain ⟨eQ,rfl,bc⟩:=bb;obtain ⟨d41,eS,rfl,fa,fb,fc⟩:=id bc;cases ba;have bd:=j 0 _ rfl;simp only[go_sem] at bd;have bj:=j 1 _ rfl;simp only[go_sem] at bj;have bk:=j 2 _ rfl;simp only[go_sem] at bk;have bm:=j 3 _ rfl;simp only[go_sem] at bm;have bo:=j 4 _ rfl;simp only[go_sem] at bo;have br:=j 5 _ rfl;simp only[go_sem] at br;have bs:=j 6 _ rfl;simp only[go_sem] at bs;clear j H;refine af hJ ?_;refine aY hJ ?_;refine af hJ ?_;refine ah hJ ?_;apply aa _;refine af hJ ?_;refine ah hJ ?_;apply aa _;refine Dn fun I f47=>?_;have fg:=aV f47;have b0:=aW f47;try simp only[aQ] at b0
  refine aS ?_;try apply aa _
  refine af hJ ?_;refine af hJ ?_;refine ah hJ ?_;apply aa _;refine aY hJ ?_;have h':=an h;clear h;obtain ⟨b1,k,b2⟩:=h';have h:=True.intro;refine bO hJ [8,10,32,33,34,35,36,37,38,39,40,41,42,43,44,45,46,47,48,49,50,51] (fun m p F'=>∃(i50:Nat) (t:Int) (e:(List (Int×Int))),m=a.1.bJ.length - i50/\i50<=a.1.bJ.length/\b7 (vn i32) i50 (a.1.bJ.drop i50) (t,e)=some b1/\F'=⟨z,(I,nG e)::(o,.cells #[.int .i64 a.1.round.steps,.int .i64 a.1.round.au,.slice d16 a.1.round.aj.length F,.slice d23 a.1.bJ.length B] 107)::(y,.cells #[.int .i64 u0.steps,.int .i64 u0.au,.slice (some a9) u0.aj.length c4] 24)::[]⟩/\slot p 32= .int .i64 (i50:Int)/\slot p 8= .int .i64 t) a.1.bJ.length ?_ ?_
  .refine ⟨0,0,([]:(List (Int×Int))),(Nat.sub_zero _).symm,Nat.zero_le _,k,rfl,?_⟩;simp only[*,go_sem,-h]
  rintro m2 c F' b ⟨i50,t,e,rfl,fh,k,rfl,fi,fj⟩;have h:=True.intro;have fl:sz c=60:=by rw[b.size];simp only[*,go_sem,-h]
  have fp:c.defers=[]:=by rw[b.defers];simp only[*,go_sem,-h]
  have fr:slot c 2= .int .i64 v30:=by rw[b.ay 2 av];simp only[*,go_sem,-h]
  have fs:slot c 3= .int .i64 w:=by rw[b.ay 3 av];simp only[*,go_sem,-h]
  have ft:slot c 4= .int .i64 a.2:=by rw[b.ay 4 av];simp only[*,go_sem,-h]
  have fu:slot c 5= .pointer (some ⟨o,0,none⟩):=by rw[b.ay 5 av];simp only[*,go_sem,-h]
  have fv:slot c 6= .int .i64 (i32:Int):=by rw[b.ay 6 av];simp only[*,go_sem,-h]
  have fw:slot c 7= .map (some I):=by rw[b.ay 7 av];simp only[*,go_sem,-h]
  have fx:slot c 24= .int .i64 (u0.aj.length:Int):=by rw[b.ay 24 av];simp only[*,go_sem,-h]
  have fz:slot c 25= .int .i64 (i32:Int):=by rw[b.ay 25 av];simp only[*,go_sem,-h]
  have gg:slot c 26= .bool true:=by rw[b.ay 26 av];simp only[*,go_sem,-h]
  have gj:slot c 27= .int .i64 (i32:Int):=by rw[b.ay 27 av];simp only[*,go_sem,-h]
  have gl:slot c 28= .map (some I):=by rw[b.ay 28 av];simp only[*,go_sem,-h]
  have gn:slot c 29= .pointer (some ⟨o,3,none⟩):=by rw[b.ay 29 av];simp only[*,go_sem,-h]
  have gp:slot c 30= .slice d23 a.1.bJ.length B:=by rw[b.ay 30 av];simp only[*,go_sem,-h]
  have gy:slot c 31= .int .i64 (a.1.bJ.length:Int):=by rw[b.ay 31 av];simp only[*,go_sem,-h]
  have g0:cq [2,3,6,7,8,10,25,26,27,28,29,30,31,32,33,34,35,36,37,38,39,40,41,42,43,44,45,46,47,48,49,50,51,52,53,54,55,56,57] c q:=(b.cR av).trans ak;clear b a3 a4 a5 a6 a7 a0 a2 ar;refine af hJ ?_;refine ah hJ ?_;apply aa _;refine af hJ ?_;rcases Nat.lt_or_ge i50 a.1.bJ.length with b3|Q
  .refine aN hJ ak ?_;refine aR hJ ?_;obtain ⟨d,K⟩:∃x,a.1.bJ[i50]?=some x:=⟨_,List.getElem?_eq_getElem b3⟩
   rw[er K] at k;have h':=an k;clear k h;obtain ⟨g1,h,b4⟩:=h';unfold vn at h;(try dsimp only at h);obtain ⟨g2,ca,cb,cc,g⟩:=ad _ _ K;obtain rfl:ca=d.cells:=cc;cases cb;have cd:=g 0 _ rfl;simp only[go_sem] at cd;have cf:=g 1 _ rfl;simp only[go_sem] at cf;have ck:=g 2 _ rfl;simp only[go_sem] at ck;have cl:=g 3 _ rfl;simp only[go_sem] at cl;have cy:=g 4 _ rfl;simp only[go_sem] at cy;have c0:=g 5 _ rfl;simp only[go_sem] at c0;have da:=g 6 _ rfl;simp only[go_sem] at da;have db:=g 7 _ rfl;simp only[go_sem] at db;have dd:=g 8 _ rfl;simp only[go_sem] at dd;clear g K;refine af hJ ?_;refine aY hJ ?_;refine af hJ ?_;refine ah hJ ?_;apply aa _;intro g3 f58;have g4:=aV f58;have df:=aW f58;(try simp only[aQ] at df);(try apply aa _);refine af hJ ?_;refine ah hJ ?_;have h':=an h;clear h;obtain ⟨f,R,h⟩:=h';obtain ⟨g7,ha,-⟩:=bl.get_some R;have dk:([.int .i64 d.az.e0,.int .i64 d.az.e1,.int .i64 d.az.e2,.int .i64 d.az.e3,.int .i64 d.aA.e0,.int .i64 d.aA.e1,.int .i64 d.aA.e2,.int .i64 d.aA.e3,.int .u64 d.au]:List Value)[4+((i32:Int):Int).toNat]?=some (.int .i64 f):=bl.pS [.int .i64 d.az.e0,.int .i64 d.az.e1,.int .i64 d.az.e2,.int .i64 d.az.e3] [.int .u64 d.au] R;(try simp only[go_sem] at dk);(try apply aa _);refine yO (l:=e) ak ?_;(try refine aS ?_);(try apply aa _);refine Dp (l:=e) (v:=IntKind.i64.wrap (((cA e f).getD 0)+1)) ak ?_;(try refine aS ?_);(try apply aa _);refine ah hJ ?_;apply aa _;refine yO (l:=(cw e f (IntKind.i64.wrap (((cA e f).getD 0)+1)))) ak ?_;(try refine aS ?_);(try apply aa _);have h':=Option.some.inj h;clear h;subst h';have h:=True.intro;have hc:=dF (n:=i50) (by have:=ab;omega);refine ah hJ ?_;apply aa _;refine ⟨a.1.bJ.length - (i50+1),ai,_,Le.sub (List.Sublist.cons _ (List.Sublist.refl _)),i50+1,(if t<((cA (cw e f (IntKind.i64.wrap (((cA e f).getD 0)+1))) f).getD 0) then ((cA (cw e f (IntKind.i64.wrap (((cA e f).getD 0)+1))) f).getD 0) else t),(cw e f (IntKind.i64.wrap (((cA e f).getD 0)+1))),rfl,ai,b4,rfl,?_⟩;simp only[*,go_sem,-h]
  have hf:=Nat.not_lt.2 Q;refine aM hJ ak ?_;rw[List.drop_eq_nil_of_le Q] at k;have h':=Option.some.inj k;clear k h;subst h';have h:=b2;dsimp only[aH] at h;refine bI ?_;simp only[go_sem];refine af hJ ?_;refine ah hJ ?_;apply aa _;have h':=aD h;clear h;rcases h' with ⟨L,h⟩|⟨L,h⟩
  ·(try simp only[Int.ofNat_lt] at L);refine aN hJ ak ?_;refine ah hJ ?_;apply aa _;have h':=Option.some.inj h;clear h;subst h';have h:=True.intro;have dp:=dF (n:=i32) (by have:=M;omega);refine ah hJ ?_;apply aa _;refine ⟨u0.aj.length - (i32+1),ai,_,Le.sub (List.Sublist.cons _ (List.Sublist.refl _)),i32+1,(i32:Int),t,rfl,ai,P,rfl,?_⟩;simp only[*,go_sem,-h]
  try simp only[Int.ofNat_lt] at L
  refine aM hJ ak ?_;refine aR hJ ?_;have h':=Option.some.inj h;clear h;subst h';have h:=True.intro;have dp:=dF (n:=i32) (by have:=M;omega);refine ah hJ ?_;apply aa _;refine ⟨u0.aj.length - (i32+1),ai,_,Le.sub (List.Sublist.cons _ (List.Sublist.refl _)),i32+1,v30,w,rfl,ai,P,rfl,?_⟩;simp only[*,go_sem,-h]
 have hg:=Nat.not_lt.2 O;refine aM hJ ak ?_;rw[List.drop_eq_nil_of_le O] at i;have h':=Option.some.inj i;clear i h;subst h';have h:=ao;dsimp only[aH] at h;refine bI ?_;simp only[go_sem];refine af hJ ?_;refine ah hJ ?_;apply aa _;have h':=Option.some.inj h;clear h;subst h';refine aG ?_;simp only[*,go_sem]
def kR (u0:aL)(a:(List Int))(st:(Int×(List bf))):Option (Fl (Int×(List bf)) Bool):=
 cond (decide (st.1<(a.length:Int))) (ax (bM a st.1) fun b=>ax (bM u0.aj b) fun c=>ax (fZ st.2 ([c])) fun d=>some (.nx ((IntKind.i64.wrap (st.1+1)),d))) (some (.bk (st.1,st.2)))
def gG (u0:aL)(a:(List Int)):Option Bool:=
 ax (bg (kR u0 a) fu (0,([]:List bf))) fun o=>aH o (fun c=>cond (((a.length:Int)==0)) (some true) (ax (kQ (⟨u0.steps,u0.au,c.2⟩:aL)) fun b=>cond ((b.2==0)) (some b.1) (some false))) (fun _ _=>none) (fun r=>some r)
theorem kS {ro:Addr->Option Value}(M:dh ro)(u0:aL){s1:Value}(N:aI bK ro s1 u0.aj)(k:(List Int)){z:Value}(O:aI rI ro z k){r:Bool}(h:gG u0 k=some r):aF Tryz.prog 36 #[.agg #[.int .i64 u0.steps,.int .i64 u0.au,s1],z] ⟨ro,[]⟩ (fun v _=>v= .bool r):=by
 obtain ⟨d3,c4,rfl,b2,b3,P⟩:=id N;obtain ⟨d10,Q,rfl,b4,ca,R⟩:=id O;unfold gG at h;refine aF.go Tryz.func36 rfl Tryz.ntmps36 Tryz.results36 aB fun main J hJ A S hd hs=>?_;have T:=hs 0;have k1:=hs 1;clear hs;refine af hJ ?_;refine ah hJ ?_;apply aa _;intro f f15;have cb:=aV f15;have U:=aW f15;try simp only[aQ] at U
 try apply aa _
 refine af hJ ?_;refine ah hJ ?_;apply aa _;intro g f16;have cc:=aV f16;have V:=aW f16;try simp only[aQ] at V
 try apply aa _
 refine af hJ ?_;refine ah hJ ?_;apply aa _;refine af hJ ?_;refine af hJ ?_;refine ah hJ ?_;apply aa _;refine aY hJ ?_;have h':=an h;clear h;obtain ⟨W,j,X⟩:=h';have h:=True.intro;refine bO hJ [6,11,12,13,14,15,16,17,18,19,20,21,22,23,24,25,26,27,28,29] (fun m Y F'=>∃(d19:Option Addr) (c:Nat) (o:List (Nat×Obj)) (n:Int) (b:(List bf)),bg (kR u0 k) m (n,b)=some W/\F'=⟨ro,(g,.cells #[.int .i64 u0.steps,.int .i64 u0.au,.slice d19 b.length c] 24)::(f,.cells #[.int .i64 u0.steps,.int .i64 u0.au,.slice d3 u0.aj.length c4] 24)::o⟩/\bx bK ro 56 (.slice d19 b.length c) b o/\b.length<=c/\slot Y 6= .int .i64 n) fu ?_ ?_
 .refine ⟨none,0,[],0,([]:List bf),j,rfl,bx.nil _ _ _,Nat.le_refl _,?_⟩;simp only[*,go_sem,-h]
 rintro p i F' e ⟨d19,c,o,n,b,j,rfl,B,cd,cf⟩;have h:=True.intro;have ck:sz i=43:=by rw[e.size];simp only[*,go_sem,-h]
 have cl:i.defers=[]:=by rw[e.defers];simp only[*,go_sem,-h]
 have cy:slot i 1= .slice d10 k.length Q:=by rw[e.ay 1 av];simp only[*,go_sem,-h]
 have c0:slot i 2= .pointer (some ⟨f,0,none⟩):=by rw[e.ay 2 av];simp only[*,go_sem,-h]
 have da:slot i 4= .bool false:=by rw[e.ay 4 av];simp only[*,go_sem,-h]
 have db:slot i 5= .pointer (some ⟨g,0,none⟩):=by rw[e.ay 5 av];simp only[*,go_sem,-h]
 clear e S hd T k1;obtain _|p:=p
 .exact absurd j (by simp only[bg,reduceCtorEq,not_false_eq_true])
 have h':=an j;clear j h;obtain ⟨dd,h,q⟩:=h';unfold kR at h;try dsimp only at h
 refine af hJ ?_;refine af hJ ?_;refine aJ hJ fun df=>?_;refine ah hJ ?_;apply aa _;have h':=aD h;clear h;rcases h' with ⟨s,h⟩|⟨s,h⟩
 .try simp only[Int.ofNat_lt] at s
  refine aN hJ ak ?_;refine aR hJ ?_;refine af hJ ?_;refine aY hJ ?_;refine aJ hJ fun Z=>?_;refine eG hJ mixed [13] (.pure 0 (.rd 1 (.pure 2 (.rd 3 (.pure 4 (.pure 5 (.pure 6 (.rd 7 (.pure 8 (.rd 9 (.one 10 (.one 11 (.pure 12 (.last 13 .done)))))))))))))) ⟨ro,[(g,.cells #[.int .i64 u0.steps,.int .i64 u0.au,.slice d19 b.length c] 24),(f,.cells #[.int .i64 u0.steps,.int .i64 u0.au,.slice d3 u0.aj.length c4] 24)]⟩ ak aT ?_;have h':=an h;clear h;obtain ⟨ab,ad,h⟩:=h';obtain ⟨dk,dp,C⟩:=dc ad;obtain ⟨dq,ae,al,ao,D⟩:=R _ _ C;obtain rfl:ae=[.int .i64 ab]:=ao;cases al;have ar:=D 0 _ rfl;simp only[go_sem] at ar;clear D C;have h':=an h;clear h;obtain ⟨a,a0,h⟩:=h';obtain ⟨ds,dt,E⟩:=dc a0;obtain ⟨F,du,a2,a3,d⟩:=P _ _ E;obtain ⟨dv,rfl,G⟩:=a3;obtain ⟨d89,t,rfl,dC,dE,dT⟩:=id G;cases a2;have a4:=d 0 _ rfl;simp only[go_sem] at a4;have a5:=d 1 _ rfl;simp only[go_sem] at a5;have a6:=d 2 _ rfl;simp only[go_sem] at a6;have a7:=d 3 _ rfl;simp only[go_sem] at a7;have a8:=d 4 _ rfl;simp only[go_sem] at a8;have a9:=d 5 _ rfl;simp only[go_sem] at a9;have ba:=d 6 _ rfl;simp only[go_sem] at ba;clear d E;have h':=an h;clear h;obtain ⟨bb,bc,h⟩:=h';obtain ⟨bd,H⟩:=iF bc;try apply aa _
  intro I f96;have bj:=aV f96;have K:=aW f96;have bk:=bP.cons K Z;try simp only[aQ] at K
  try apply aa _
  refine iH (r:=bK) (l:=b) (x:=a) (cs:=#[.string ⟨⟨a.name⟩⟩,.int .i64 a.from_.low,.int .i64 a.from_.high,.int .i64 a.wide,.int .i64 a.aC.low,.int .i64 a.aC.high,.slice d89 a.marks.length t]) (e2:=56) [(I,.cells #[.string ⟨⟨a.name⟩⟩,.int .i64 a.from_.low,.int .i64 a.from_.high,.int .i64 a.wide,.int .i64 a.aC.low,.int .i64 a.aC.high,.slice d89 a.marks.length t] 56),(g,.cells #[.int .i64 u0.steps,.int .i64 u0.au,.slice d19 b.length c] 24),(f,.cells #[.int .i64 u0.steps,.int .i64 u0.au,.slice (some F) u0.aj.length c4] 24)] [] (by first|rfl|simp only[bh]|(simp only[bh];rfl)) B bk bd ⟨_,rfl,G⟩ ak bj rfl rfl lC lC sL sN rfl sM av av (fun ea L u bm bo eb=>?_);simp only[bh] at bo;subst bm;rw[<-H] at u;clear H;obtain ⟨d104,br,rfl,bs⟩:=u.len;refine ⟨⟨ro,(I,.cells #[.string ⟨⟨a.name⟩⟩,.int .i64 a.from_.low,.int .i64 a.from_.high,.int .i64 a.wide,.int .i64 a.aC.low,.int .i64 a.aC.high,.slice d89 a.marks.length t] 56)::(g,.cells #[.int .i64 u0.steps,.int .i64 u0.au,.slice d19 b.length c] 24)::(f,.cells #[.int .i64 u0.steps,.int .i64 u0.au,.slice (some F) u0.aj.length c4] 24)::L⟩,Le.refl _,?_⟩;refine ⟨ak,gb ?_⟩;try apply aa _
  refine aJ hJ fun ec=>?_;refine ah hJ ?_;apply aa _;have h':=Option.some.inj h;clear h;subst h';have h:=True.intro;try apply aa _
  refine ⟨p,Nat.lt_succ_self _,_,Le.sub (List.Sublist.cons _ (List.Sublist.refl _)),d104,br,L,(IntKind.i64.wrap (n+1)),bb,q,rfl,u,bs,?_⟩;simp only[*,go_sem,-h]
 try simp only[Int.ofNat_lt] at s
 refine aM hJ ak ?_;refine bI ?_;simp only[go_sem];have h':=Option.some.inj h;clear h;subst h';have h':=Option.some.inj q;clear q;subst h';have h:=X;dsimp only[aH] at h;refine af hJ ?_;refine af hJ ?_;refine aJ hJ fun ed=>?_;refine ah hJ ?_;apply aa _;have h':=aD h;clear h;rcases h' with ⟨w,h⟩|⟨w,h⟩
 .try simp only[Int.ofNat_lt] at w
  refine aN hJ ak ?_;refine af hJ ?_;refine aJ hJ fun eh=>?_;refine ah hJ ?_;apply aa _;have h':=Option.some.inj h;clear h;subst h';refine aG ?_;simp only[*,go_sem]
 try simp only[Int.ofNat_lt] at w
 refine aM hJ ak ?_;refine aR hJ ?_;refine af hJ ?_;refine aJ hJ fun b0=>?_;refine ah hJ ?_;have h':=an h;clear h;obtain ⟨et,b1,h⟩:=h';apply aa _;refine bp hJ _ (vj (M.mono aZ) (⟨u0.steps,u0.au,b⟩:aL) (B.fM [(g,.cells #[.int .i64 u0.steps,.int .i64 u0.au,.slice d19 b.length c] 24),(f,.cells #[.int .i64 u0.steps,.int .i64 u0.au,.slice d3 u0.aj.length c4] 24)] [] (by first|rfl|simp only[bh]|(simp only[bh];rfl)) b0) b1) (aS ?_);try apply aa _
 refine af hJ ?_;refine aJ hJ fun ev=>?_;refine ah hJ ?_;have h':=aD h;clear h;rcases h' with ⟨y,h⟩|⟨y,h⟩
 .try simp only[Int.ofNat_lt] at y
  try apply aa _
  have h':=Option.some.inj h;clear h;subst h';refine aG ?_;simp only[*,go_sem]
 try simp only[Int.ofNat_lt] at y
 try apply aa _
 have h':=Option.some.inj h;clear h;subst h';refine aG ?_;simp only[*,go_sem]
def vq (u0:aL)(b:Int):Option (Int×Int):=
 ax (ig u0 (fun y0=>qa y0 b)) fun a=>cond ((a.2 != 0)) (some (0,a.2)) (ax (nO a.1 (fun y0=>p9 y0 a.1 b)) fun c=>some (c,0))
theorem F7 {ro:Addr->Option Value}(f:dh ro)(u0:aL){s1:Value}(d:aI bK ro s1 u0.aj)(a:Int){r:(Int×Int)}(h:vq u0 a=some r):aF Tryz.prog 20 #[.agg #[.int .i64 u0.steps,.int .i64 u0.au,s1],.int .i64 a] ⟨ro,[]⟩ (fun v _=>v= .tuple #[.int .i64 r.1,.int .i64 r.2]):=by
 obtain ⟨d3,c4,rfl,O,P,i⟩:=id d;unfold vq at h;refine aF.go Tryz.func20 rfl Tryz.ntmps20 Tryz.results20 aB fun main J hJ A Q hd hs=>?_;have R:=hs 0;have k1:=hs 1;clear hs;refine af hJ ?_;refine ah hJ ?_;apply aa _;intro j f8;have l:=aV f8;have C:=aW f8;try simp only[aQ] at C
 intro e f9;have x:=aV f9;have D:=aW f9;try simp only[aQ] at D
 try apply aa _
 refine af hJ ?_;refine aJ hJ fun y=>?_;obtain ⟨m,k,z⟩:=gB (b:=e) (o:=(.cells #[.int .i64 a] 3)) [] ((j,.cells #[.int .i64 u0.steps,.int .i64 u0.au,.slice d3 u0.aj.length c4] 24)::[]) y x (aP.cons l (aP.nil _));clear y;have g:bY ro e (.cells #[.int .i64 a] 3) ⟨e,0,none⟩=some (.int .i64 a):=by rw[ep x];rfl
 generalize bY ro e (.cells #[.int .i64 a] 3)=B at m k z g;refine cv (F:=⟨B,(j,.cells #[.int .i64 u0.steps,.int .i64 u0.au,.slice d3 u0.aj.length c4] 24)::[]⟩) hJ z ?_;have k:aP B ((j,.cells #[.int .i64 u0.steps,.int .i64 u0.au,.slice d3 u0.aj.length c4] 24)::[]):=k;replace d:=d.mono m;clear i;obtain ⟨_,_,i⟩:=d.op;replace l:=k.hd;replace f:=f.mono m;refine ah hJ ?_;have h':=an h;clear h;obtain ⟨n,E,h⟩:=h';apply aa _;refine cz hJ _ (js f (bL:=71) (bQ:=#[]) (bR:=#[.pointer (some ⟨e,0,none⟩)]) u0 d (fun y0=>qa y0 a) ⟨by simp only[go_sem],fun G c y0 _ H I p=>by simp only[go_sem];exact DK y0 I a (c _ _ g) p⟩ E) fun v K q s hR=>?_;obtain ⟨S,T,rfl,t,u⟩:=hR;have s:aP K ((j,.cells #[.int .i64 u0.steps,.int .i64 u0.au,.slice d3 u0.aj.length c4] 24)::[]):=s;replace d:=d.mono q;clear i;obtain ⟨_,_,i⟩:=d.op;replace l:=s.hd;replace f:=f.mono q;replace g:=q _ _ g;obtain ⟨d41,U,rfl,V,W,X⟩:=id t;obtain ⟨d48,Y,rfl,Z,ab,ad⟩:=id u;refine aS ?_;try apply aa _
 intro L f53;have ae:=aV f53;have M:=aW f53;try simp only[aQ] at M
 try apply aa _
 refine af hJ ?_;refine af hJ ?_;refine ah hJ ?_;apply aa _;have h':=aD h;clear h;rcases h' with ⟨w,h⟩|⟨w,h⟩
 .try simp only[Int.ofNat_lt] at w
  refine aN hJ ak ?_;refine af hJ ?_;refine ah hJ ?_;apply aa _;have h':=Option.some.inj h;clear h;subst h';refine aG ?_;simp only[*,go_sem]
 try simp only[Int.ofNat_lt] at w
 refine aM hJ ak ?_;refine aR hJ ?_;refine af hJ ?_;refine ah hJ ?_;have h':=an h;clear h;obtain ⟨al,N,h⟩:=h';apply aa _;refine bp hJ _ (tu (bL:=73) (bQ:=#[]) (bR:=#[.pointer (some ⟨L,0,none⟩),.pointer (some ⟨e,0,none⟩)]) n.1 (t.mono aZ) (u.mono aZ) (fun y0=>p9 y0 n.1 a) ⟨by simp only[go_sem],fun G c y0 H p=>by simp only[go_sem];exact DI y0 n.1 (c _ _ (by simp only[ag.dz,go_sem, *,-h])) (c _ _ (by simp only[ag.dz,go_sem, *,-h])) ((t.mono aZ).mono c) (c _ _ (by simp only[ag.dz,go_sem, *,-h])) ((u.mono aZ).mono c) (c _ _ (by simp only[ag.dz,go_sem, *,-h])) a (c _ _ (aZ _ _ g)) p⟩ N) (aS ?_);try apply aa _
 have h':=Option.some.inj h;clear h;subst h';refine aG ?_;simp only[*,go_sem]
def vr (u0:aL)(b:Int):Option (Int×Int):=
 ax (ig u0 (fun y0=>qh y0 b)) fun a=>cond ((a.2 != 0)) (some (0,a.2)) (ax (nO a.1 (fun y0=>qi y0 b)) fun c=>some (c,0))
theorem F8 {ro:Addr->Option Value}(e:dh ro)(u0:aL){s1:Value}(c:aI bK ro s1 u0.aj)(a:Int){r:(Int×Int)}(h:vr u0 a=some r):aF Tryz.prog 45 #[.agg #[.int .i64 u0.steps,.int .i64 u0.au,s1],.int .i64 a] ⟨ro,[]⟩ (fun v _=>v= .tuple #[.int .i64 r.1,.int .i64 r.2]):=by
 obtain ⟨d3,c4,rfl,N,O,g⟩:=id c;unfold vr at h;refine aF.go Tryz.func45 rfl Tryz.ntmps45 Tryz.results45 aB fun main J hJ A P hd hs=>?_;have Q:=hs 0;have k1:=hs 1;clear hs;refine af hJ ?_;refine ah hJ ?_;apply aa _;intro i f8;have k:=aV f8;have B:=aW f8;try simp only[aQ] at B
 intro d f9;have t:=aV f9;have C:=aW f9;try simp only[aQ] at C
 try apply aa _
 refine af hJ ?_;refine aJ hJ fun u=>?_;obtain ⟨l,j,w⟩:=gB (b:=d) (o:=(.cells #[.int .i64 a] 3)) [] ((i,.cells #[.int .i64 u0.steps,.int .i64 u0.au,.slice d3 u0.aj.length c4] 24)::[]) u t (aP.cons k (aP.nil _));clear u;have f:bY ro d (.cells #[.int .i64 a] 3) ⟨d,0,none⟩=some (.int .i64 a):=by rw[ep t];rfl
 generalize bY ro d (.cells #[.int .i64 a] 3)=x at l j w f;refine cv (F:=⟨x,(i,.cells #[.int .i64 u0.steps,.int .i64 u0.au,.slice d3 u0.aj.length c4] 24)::[]⟩) hJ w ?_;have j:aP x ((i,.cells #[.int .i64 u0.steps,.int .i64 u0.au,.slice d3 u0.aj.length c4] 24)::[]):=j;replace c:=c.mono l;clear g;obtain ⟨_,_,g⟩:=c.op;replace k:=j.hd;replace e:=e.mono l;refine ah hJ ?_;have h':=an h;clear h;obtain ⟨D,E,h⟩:=h';apply aa _;refine cz hJ _ (js e (bL:=102) (bQ:=#[]) (bR:=#[.pointer (some ⟨d,0,none⟩)]) u0 c (fun y0=>qh y0 a) ⟨by simp only[go_sem],fun G m y0 _ H I n=>by simp only[go_sem];exact DT y0 I a (m _ _ f) n⟩ E) fun v K p q hR=>?_;obtain ⟨R,S,rfl,y,z⟩:=hR;have q:aP K ((i,.cells #[.int .i64 u0.steps,.int .i64 u0.au,.slice d3 u0.aj.length c4] 24)::[]):=q;replace c:=c.mono p;clear g;obtain ⟨_,_,g⟩:=c.op;replace k:=q.hd;replace e:=e.mono p;replace f:=p _ _ f;obtain ⟨d41,T,rfl,U,V,W⟩:=id y;obtain ⟨d48,X,rfl,Y,Z,ab⟩:=id z;refine aS ?_;try apply aa _
 intro ad f53;have ae:=aV f53;have L:=aW f53;try simp only[aQ] at L
 try apply aa _
 refine af hJ ?_;refine af hJ ?_;refine ah hJ ?_;apply aa _;have h':=aD h;clear h;rcases h' with ⟨s,h⟩|⟨s,h⟩
 .try simp only[Int.ofNat_lt] at s
  refine aN hJ ak ?_;refine af hJ ?_;refine ah hJ ?_;apply aa _;have h':=Option.some.inj h;clear h;subst h';refine aG ?_;simp only[*,go_sem]
 try simp only[Int.ofNat_lt] at s
 refine aM hJ ak ?_;refine aR hJ ?_;refine af hJ ?_;refine ah hJ ?_;have h':=an h;clear h;obtain ⟨al,M,h⟩:=h';apply aa _;refine bp hJ _ (tu (bL:=103) (bQ:=#[]) (bR:=#[.pointer (some ⟨d,0,none⟩)]) D.1 (y.mono aZ) (z.mono aZ) (fun y0=>qi y0 a) ⟨by simp only[go_sem],fun G m y0 H n=>by simp only[go_sem];exact DU y0 a (m _ _ (aZ _ _ f)) n⟩ M) (aS ?_);try apply aa _
 have h':=Option.some.inj h;clear h;subst h';refine aG ?_;simp only[*,go_sem]
def qQ (u0:aL):Option (aL×Int):=
 ax (ig u0 iN) fun a=>cond ((a.2 != 0)) (some ((⟨0,0,([]:(List bf))⟩:aL),a.2)) (some (u0,0))
theorem vt {ro:Addr->Option Value}(d:dh ro)(u0:aL){s1:Value}(a:aI bK ro s1 u0.aj){r:(aL×Int)}(h:qQ u0=some r):ee Tryz.prog 82 #[.agg #[.int .i64 u0.steps,.int .i64 u0.au,s1]] ro (fun v aK=>∃f,v= .tuple #[.agg #[.int .i64 r.1.steps,.int .i64 r.1.au,f],.int .i64 r.2]/\aI bK aK f r.1.aj):=by
 obtain ⟨d3,c4,rfl,w,x,g⟩:=id a;unfold qQ at h;refine aF.go Tryz.func82 rfl Tryz.ntmps82 Tryz.results82 aB fun main J hJ A y hd hs=>?_;have z:=hs 0;clear hs;refine af hJ ?_;refine ah hJ ?_;apply aa _;intro i f8;have j:=aV f8;have k:=aW f8;try simp only[aQ] at k
 intro l f9;have m:=aV f9;have n:=aW f9;try simp only[aQ] at n
 try apply aa _
 refine af hJ ?_;refine af hJ ?_;refine ah hJ ?_;have h':=an h;clear h;obtain ⟨B,o,h⟩:=h';apply aa _;refine cz hJ _ (js d (bL:=67) (bQ:=#[]) (bR:=#[]) u0 a iN ⟨by simp only[go_sem],fun C D y0 _ _ p h=>by simp only[go_sem];exact p7 y0 p h⟩ o) fun v q b c hR=>?_;obtain ⟨E,F,rfl,s,t⟩:=hR;have c:aP q ((l,.cells #[.int .i64 0,.int .i64 0,.slice none 0 0] 24)::(i,.cells #[.int .i64 u0.steps,.int .i64 u0.au,.slice d3 u0.aj.length c4] 24)::[]):=c;replace a:=a.mono b;clear g;obtain ⟨_,_,g⟩:=a.op;replace m:=c.hd;replace j:=c.tl.hd;replace d:=d.mono b;obtain ⟨d17,G,rfl,H,I,K⟩:=id s;obtain ⟨d24,L,rfl,M,N,O⟩:=id t;refine aS ?_;try apply aa _
 intro P f29;have Q:=aV f29;have u:=aW f29;try simp only[aQ] at u
 try apply aa _
 refine af hJ ?_;refine ah hJ ?_;apply aa _;have h':=aD h;clear h;rcases h' with ⟨e,h⟩|⟨e,h⟩
 .try simp only[Int.ofNat_lt] at e
  refine aN hJ ak ?_;refine af hJ ?_;refine ah hJ ?_;apply aa _;have h':=Option.some.inj h;clear h;subst h';refine aG ?_;apply bt _;exact ⟨_,b,Le.sub (List.nil_sublist _),_,rfl,aI.nil _ _⟩
 try simp only[Int.ofNat_lt] at e
 refine aM hJ ak ?_;refine aR hJ ?_;refine af hJ ?_;refine ah hJ ?_;apply aa _;have h':=Option.some.inj h;clear h;subst h';refine aG ?_;apply bt _;exact ⟨_,b,Le.sub (List.nil_sublist _),_,rfl,a⟩
def vu (a:(bw->Option Int))(i23:Nat)(b:bw)(st:(List Int)):Option (Fl (List Int) (List Int)):=
 ax (a b) fun c=>ax (fZ st ([c])) fun d=>some (.nx d)
def qR (u0:dQ)(a:(bw->Option Int)):Option (List Int):=
 ax (b7 (vu a) 0 u0.bJ ([]:List Int)) fun o=>aH o (fun b=>ax (uq b) fun c=>ax (uu c.2) fun d=>some d) (fun _ _=>none) (fun r=>some r)
theorem Ad {ro:Addr->Option Value}(u0:dQ){s1:Value}(p:aI bK ro s1 u0.round.aj){G:Value}(q:aI gN ro G u0.bJ)(u:(bw->Option Int)){bL:FuncId}{bQ bR:Array Value}(Z:aO Tryz.prog bL=true/\∀(aK:Addr->Option Value),Ext ro aK->∀(y0:bw) (z:Int),u y0=some z->aF Tryz.prog bL (bQ++#[y0.v]++bR) ⟨aK,[]⟩ (fun v _=>v= .int .i64 z)){r:(List Int)}(h:qR u0 u=some r):ee Tryz.prog 98 #[.agg #[.int .i64 u0.round.steps,.int .i64 u0.round.au,s1,G],.func (.func bL) bQ bR] ro (fun v aK=>∃H,v=H/\aI rI aK H r):=by
 obtain ⟨d3,c4,rfl,c0,da,I⟩:=id p;obtain ⟨d10,c,rfl,db,ab,w⟩:=id q;unfold qR at h;refine aF.go Tryz.func98 rfl Tryz.ntmps98 Tryz.results98 aB fun main J hJ A ad hd hs=>?_;have ae:=hs 0;have k1:=hs 1;clear hs;refine af hJ ?_;refine ah hJ ?_;apply aa _;intro d f15;have K:=aV f15;have al:=aW f15;try simp only[aQ] at al
 try apply aa _
 refine af hJ ?_;refine ah hJ ?_;apply aa _;refine af hJ ?_;refine af hJ ?_;refine ah hJ ?_;apply aa _;refine aY hJ ?_;have h':=an h;clear h;obtain ⟨ao,f,ar⟩:=h';have h:=True.intro;refine bO hJ [5,7,11,12,13,14,15,16,17,18,19,20,21] (fun m L F'=>∃(i23:Nat) (d17:Option Addr) (s:Nat) (y:List (Nat×Obj)) (g:(List Int)),m=u0.bJ.length - i23/\i23<=u0.bJ.length/\b7 (vu u) i23 (u0.bJ.drop i23) g=some ao/\F'=⟨ro,(d,.cells #[.int .i64 u0.round.steps,.int .i64 u0.round.au,.slice d3 u0.round.aj.length c4,.slice d10 u0.bJ.length c] 107)::y⟩/\bx rI ro 3 (.slice d17 g.length s) g y/\g.length<=s/\slot L 11= .int .i64 (i23:Int)/\slot L 5= .slice d17 g.length s) u0.bJ.length ?_ ?_
 .refine ⟨0,none,0,[],([]:List Int),(Nat.sub_zero _).symm,Nat.zero_le _,f,rfl,bx.nil _ _ _,Nat.le_refl _,?_⟩;simp only[*,go_sem,-h]
 rintro dd j F' i ⟨i23,d17,s,y,g,rfl,df,f,rfl,M,dk,dp,dq⟩;have h:=True.intro;have ds:sz j=26:=by rw[i.size];simp only[*,go_sem,-h]
 have dt:j.defers=[]:=by rw[i.defers];simp only[*,go_sem,-h]
 have du:slot j 1= .func (.func bL) bQ bR:=by rw[i.ay 1 av];simp only[*,go_sem,-h]
 have dv:slot j 4= .slice none 0 0:=by rw[i.ay 4 av];simp only[*,go_sem,-h]
 have dC:slot j 9= .slice d10 u0.bJ.length c:=by rw[i.ay 9 av];simp only[*,go_sem,-h]
 have dE:slot j 10= .int .i64 (u0.bJ.length:Int):=by rw[i.ay 10 av];simp only[*,go_sem,-h]
 clear i ad hd ae k1;refine af hJ ?_;refine ah hJ ?_;apply aa _;refine af hJ ?_;rcases Nat.lt_or_ge i23 u0.bJ.length with a0|N
 .refine aN hJ ak ?_;refine aR hJ ?_;obtain ⟨b,B⟩:∃x,u0.bJ[i23]?=some x:=⟨_,List.getElem?_eq_getElem a0⟩
  rw[er B] at f;have h':=an f;clear f h;obtain ⟨dT,h,a2⟩:=h';unfold vu at h;try dsimp only at h
  obtain ⟨O,a3,a4,a5,e⟩:=w _ _ B;obtain rfl:a3=b.cells:=a5;cases a4;have a6:=e 0 _ rfl;simp only[go_sem] at a6;have a7:=e 1 _ rfl;simp only[go_sem] at a7;have a8:=e 2 _ rfl;simp only[go_sem] at a8;have a9:=e 3 _ rfl;simp only[go_sem] at a9;have ba:=e 4 _ rfl;simp only[go_sem] at ba;have bb:=e 5 _ rfl;simp only[go_sem] at bb;have bc:=e 6 _ rfl;simp only[go_sem] at bc;have bd:=e 7 _ rfl;simp only[go_sem] at bd;have bj:=e 8 _ rfl;simp only[go_sem] at bj;clear e B;refine af hJ ?_;refine aY hJ ?_;refine af hJ ?_;refine aJ hJ fun bk=>?_;refine ah hJ ?_;apply aa _;intro P f32;have ea:=aV f32;have Q:=aW f32;have eb:=bP.cons Q bk;try simp only[aQ] at Q
  try apply aa _
  refine aJ hJ fun bm=>?_;refine ah hJ ?_;have h':=an h;clear h;obtain ⟨t,bo,h⟩:=h';apply aa _;refine bp hJ _ (Z.2 _ (fun a v h=>aZ a v h) b _ bo) (aS ?_);have h':=an h;clear h;obtain ⟨br,bs,h⟩:=h';obtain ⟨b0,R⟩:=iF bs;try apply aa _
  intro S f37;have b1:=aV f37;have T:=aW f37;have b2:=bP.cons T bm;try simp only[aQ] at T
  try apply aa _
  refine iH (r:=rI) (l:=g) (x:=t) (cs:=#[.int .i64 t]) (e2:=3) [(S,.cells #[.int .i64 t] 3),(P,.cells #[.int .i64 b.az.e0,.int .i64 b.az.e1,.int .i64 b.az.e2,.int .i64 b.az.e3,.int .i64 b.aA.e0,.int .i64 b.aA.e1,.int .i64 b.aA.e2,.int .i64 b.aA.e3,.int .u64 b.au] 84),(d,.cells #[.int .i64 u0.round.steps,.int .i64 u0.round.au,.slice d3 u0.round.aj.length c4,.slice (some O) u0.bJ.length c] 107)] [] (by first|rfl|simp only[bh]|(simp only[bh];rfl)) M b2 b0 rfl ak b1 rfl rfl ga ga kF jJ rfl kG av av (fun ec U C k o ed=>?_);simp only[bh] at o;subst k;rw[<-R] at C;clear R;obtain ⟨d45,b3,rfl,b4⟩:=C.len;refine ⟨⟨ro,(S,.cells #[.int .i64 t] 3)::(P,.cells #[.int .i64 b.az.e0,.int .i64 b.az.e1,.int .i64 b.az.e2,.int .i64 b.az.e3,.int .i64 b.aA.e0,.int .i64 b.aA.e1,.int .i64 b.aA.e2,.int .i64 b.aA.e3,.int .u64 b.au] 84)::(d,.cells #[.int .i64 u0.round.steps,.int .i64 u0.round.au,.slice d3 u0.round.aj.length c4,.slice (some O) u0.bJ.length c] 107)::U⟩,Le.refl _,?_⟩;refine aS ?_;try apply aa _
  have h':=Option.some.inj h;clear h;subst h';have h:=True.intro;have eh:=dF (n:=i23) (by have:=ab;omega);refine ah hJ ?_;apply aa _;refine ⟨u0.bJ.length - (i23+1),ai,_,Le.sub (List.Sublist.cons _ (List.Sublist.cons _ (List.Sublist.refl _))),i23+1,d45,b3,U,br,rfl,ai,a2,rfl,C,b4,?_⟩;simp only[*,go_sem,-h]
 have et:=Nat.not_lt.2 N;refine aM hJ ak ?_;rw[List.drop_eq_nil_of_le N] at f;have h':=Option.some.inj f;clear f h;subst h';have h:=ar;dsimp only[aH] at h;refine bI ?_;simp only[go_sem];refine af hJ ?_;refine aJ hJ fun ev=>?_;refine ah hJ ?_;have h':=an h;clear h;obtain ⟨ca,cb,h⟩:=h';apply aa _;refine dA hJ [(d,.cells #[.int .i64 u0.round.steps,.int .i64 u0.round.au,.slice d3 u0.round.aj.length c4,.slice d10 u0.bJ.length c] 107)] [] (by first|rfl|simp only[bh]|(simp only[bh];rfl)) _ (El g M cb) (fun eQ cc cd k o eS=>?_);obtain ⟨rfl,cf⟩:=cd;simp only[bh] at o;subst k;refine ⟨⟨ro,(d,.cells #[.int .i64 u0.round.steps,.int .i64 u0.round.au,.slice d3 u0.round.aj.length c4,.slice d10 u0.bJ.length c] 107)::cc⟩,Le.refl _,?_⟩;try apply aa _
 refine af hJ ?_;refine aJ hJ fun fa=>?_;refine ah hJ ?_;have h':=an h;clear h;obtain ⟨fb,ck,h⟩:=h';apply aa _;refine dA hJ [(d,.cells #[.int .i64 u0.round.steps,.int .i64 u0.round.au,.slice d3 u0.round.aj.length c4,.slice d10 u0.bJ.length c] 107)] [] (by first|rfl|simp only[bh]|(simp only[bh];rfl)) _ (Em ca.2 cf ck) (fun fc cl V k o fg=>?_);simp only[bh] at o;subst k;obtain ⟨d62,fh,rfl,fi⟩:=V.len;refine ⟨⟨ro,(d,.cells #[.int .i64 u0.round.steps,.int .i64 u0.round.au,.slice d3 u0.round.aj.length c4,.slice d10 u0.bJ.length c] 107)::cl⟩,Le.refl _,?_⟩;refine aS ?_;try apply aa _
 have h':=Option.some.inj h;clear h;subst h';refine aJ hJ fun W=>?_;obtain ⟨X,D,E,Y,cy⟩:=V.gA ((d,.cells #[.int .i64 u0.round.steps,.int .i64 u0.round.au,.slice d3 u0.round.aj.length c4,.slice d10 u0.bJ.length c] 107)::[]) [(d,.cells #[.int .i64 u0.round.steps,.int .i64 u0.round.au,.slice d3 u0.round.aj.length c4,.slice d10 u0.bJ.length c] 107)] [] (by first|rfl|simp only[bh]|(simp only[bh];rfl)) (by first|rfl|simp only[bh]|(simp only[bh];rfl)) W (aP.cons K (aP.nil _));clear W;refine cv (F:=⟨X,(d,.cells #[.int .i64 u0.round.steps,.int .i64 u0.round.au,.slice d3 u0.round.aj.length c4,.slice d10 u0.bJ.length c] 107)::[]⟩) hJ cy ?_;obtain ⟨fj,fl,fp⟩:=Y.op;have E:aP X ((d,.cells #[.int .i64 u0.round.steps,.int .i64 u0.round.au,.slice d3 u0.round.aj.length c4,.slice d10 u0.bJ.length c] 107)::[]):=E;replace q:=q.mono D;clear w;obtain ⟨_,_,w⟩:=q.op;replace p:=p.mono D;clear I;obtain ⟨_,_,I⟩:=p.op;replace K:=E.hd;refine aG ?_;apply bt _;exact ⟨_,D,Le.sub (List.nil_sublist _),_,rfl,Y⟩
def vv (u0:aL)(b:Int):Option ((List Int)×Int):=
 ax (ig u0 (fun y0=>qc y0 b)) fun a=>cond ((a.2 != 0)) (some (([]:(List Int)),a.2)) (ax (qR a.1 (fun y0=>qd y0 b)) fun c=>some (c,0))
theorem F9 {ro:Addr->Option Value}(d:dh ro)(u0:aL){s1:Value}(a:aI bK ro s1 u0.aj)(c:Int){r:((List Int)×Int)}(h:vv u0 c=some r):ee Tryz.prog 43 #[.agg #[.int .i64 u0.steps,.int .i64 u0.au,s1],.int .i64 c] ro (fun v aK=>∃z,v= .tuple #[z,.int .i64 r.2]/\aI rI aK z r.1):=by
 obtain ⟨d3,c4,rfl,Y,Z,f⟩:=id a;unfold vv at h;refine aF.go Tryz.func43 rfl Tryz.ntmps43 Tryz.results43 aB fun main J hJ A ab hd hs=>?_;have ad:=hs 0;have k1:=hs 1;clear hs;refine af hJ ?_;refine ah hJ ?_;apply aa _;intro j f8;have q:=aV f8;have K:=aW f8;try simp only[aQ] at K
 intro g f9;have B:=aV f9;have L:=aW f9;try simp only[aQ] at L
 try apply aa _
 refine af hJ ?_;refine aJ hJ fun C=>?_;obtain ⟨k,s,D⟩:=gB (b:=g) (o:=(.cells #[.int .i64 c] 3)) [] ((j,.cells #[.int .i64 u0.steps,.int .i64 u0.au,.slice d3 u0.aj.length c4] 24)::[]) C B (aP.cons q (aP.nil _));clear C;have e:bY ro g (.cells #[.int .i64 c] 3) ⟨g,0,none⟩=some (.int .i64 c):=by rw[ep B];rfl
 generalize bY ro g (.cells #[.int .i64 c] 3)=E at k s D e;refine cv (F:=⟨E,(j,.cells #[.int .i64 u0.steps,.int .i64 u0.au,.slice d3 u0.aj.length c4] 24)::[]⟩) hJ D ?_;have s:aP E ((j,.cells #[.int .i64 u0.steps,.int .i64 u0.au,.slice d3 u0.aj.length c4] 24)::[]):=s;replace a:=a.mono k;clear f;obtain ⟨_,_,f⟩:=a.op;replace q:=s.hd;replace d:=d.mono k;refine ah hJ ?_;have h':=an h;clear h;obtain ⟨l,M,h⟩:=h';apply aa _;refine cz hJ _ (js d (bL:=96) (bQ:=#[]) (bR:=#[.pointer (some ⟨g,0,none⟩)]) u0 a (fun y0=>qc y0 c) ⟨by simp only[go_sem],fun N u y0 _ O P w=>by simp only[go_sem];exact DL y0 P c (u _ _ e) w⟩ M) fun v Q m x hR=>?_;obtain ⟨ae,al,rfl,n,p⟩:=hR;have x:aP Q ((j,.cells #[.int .i64 u0.steps,.int .i64 u0.au,.slice d3 u0.aj.length c4] 24)::[]):=x;replace a:=a.mono m;clear f;obtain ⟨_,_,f⟩:=a.op;replace q:=x.hd;replace d:=d.mono m;replace e:=m _ _ e;obtain ⟨d41,R,rfl,ao,ar,G⟩:=id n;obtain ⟨d48,S,rfl,a0,a2,H⟩:=id p;refine aS ?_;try apply aa _
 intro T f53;have U:=aV f53;have V:=aW f53;try simp only[aQ] at V
 try apply aa _
 refine af hJ ?_;refine af hJ ?_;refine ah hJ ?_;apply aa _;have h':=aD h;clear h;rcases h' with ⟨y,h⟩|⟨y,h⟩
 .try simp only[Int.ofNat_lt] at y
  refine aN hJ ak ?_;refine af hJ ?_;refine ah hJ ?_;apply aa _;have h':=Option.some.inj h;clear h;subst h';refine aG ?_;apply bt _;exact ⟨_,(k).trans m,Le.sub (List.nil_sublist _),_,rfl,aI.nil _ _⟩
 try simp only[Int.ofNat_lt] at y
 refine aM hJ ak ?_;refine aR hJ ?_;refine af hJ ?_;refine ah hJ ?_;have h':=an h;clear h;obtain ⟨a3,W,h⟩:=h';apply aa _;refine cz hJ _ (Ad (bL:=99) (bQ:=#[]) (bR:=#[.pointer (some ⟨g,0,none⟩)]) l.1 n p (fun y0=>qd y0 c) ⟨by simp only[go_sem],fun N u y0 O w=>by simp only[go_sem];exact DN y0 c (u _ _ e) w⟩ W) fun v X i t hR=>?_;obtain ⟨a4,rfl,I⟩:=hR;have t:aP X ((T,.cells #[.int .i64 l.1.round.steps,.int .i64 l.1.round.au,.slice d41 l.1.round.aj.length R,.slice d48 l.1.bJ.length S] 107)::(j,.cells #[.int .i64 u0.steps,.int .i64 u0.au,.slice d3 u0.aj.length c4] 24)::[]):=t;replace a:=a.mono i;clear f;obtain ⟨_,_,f⟩:=a.op;replace n:=n.mono i;clear G;obtain ⟨_,_,G⟩:=n.op;replace p:=p.mono i;clear H;obtain ⟨_,_,H⟩:=p.op;replace U:=t.hd;replace q:=t.tl.hd;replace d:=d.mono i;replace e:=i _ _ e;obtain ⟨d62,a5,rfl,a6,a7,a8⟩:=id I;refine aS ?_;try apply aa _
 have h':=Option.some.inj h;clear h;subst h';refine aG ?_;apply bt _;exact ⟨_,((k).trans m).trans i,Le.sub (List.nil_sublist _),_,rfl,I⟩
def vw (u0:aL)(b:Int):Option ((List Int)×Int):=
 ax (ig u0 (fun y0=>qf y0 b)) fun a=>cond ((a.2 != 0)) (some (([]:(List Int)),a.2)) (ax (qR a.1 (fun y0=>qg y0 b)) fun c=>some (c,0))
theorem Ga {ro:Addr->Option Value}(d:dh ro)(u0:aL){s1:Value}(a:aI bK ro s1 u0.aj)(c:Int){r:((List Int)×Int)}(h:vw u0 c=some r):ee Tryz.prog 44 #[.agg #[.int .i64 u0.steps,.int .i64 u0.au,s1],.int .i64 c] ro (fun v aK=>∃z,v= .tuple #[z,.int .i64 r.2]/\aI rI aK z r.1):=by
 obtain ⟨d3,c4,rfl,Y,Z,f⟩:=id a;unfold vw at h;refine aF.go Tryz.func44 rfl Tryz.ntmps44 Tryz.results44 aB fun main J hJ A ab hd hs=>?_;have ad:=hs 0;have k1:=hs 1;clear hs;refine af hJ ?_;refine ah hJ ?_;apply aa _;intro j f8;have q:=aV f8;have K:=aW f8;try simp only[aQ] at K
 intro g f9;have B:=aV f9;have L:=aW f9;try simp only[aQ] at L
 try apply aa _
 refine af hJ ?_;refine aJ hJ fun C=>?_;obtain ⟨k,s,D⟩:=gB (b:=g) (o:=(.cells #[.int .i64 c] 3)) [] ((j,.cells #[.int .i64 u0.steps,.int .i64 u0.au,.slice d3 u0.aj.length c4] 24)::[]) C B (aP.cons q (aP.nil _));clear C;have e:bY ro g (.cells #[.int .i64 c] 3) ⟨g,0,none⟩=some (.int .i64 c):=by rw[ep B];rfl
 generalize bY ro g (.cells #[.int .i64 c] 3)=E at k s D e;refine cv (F:=⟨E,(j,.cells #[.int .i64 u0.steps,.int .i64 u0.au,.slice d3 u0.aj.length c4] 24)::[]⟩) hJ D ?_;have s:aP E ((j,.cells #[.int .i64 u0.steps,.int .i64 u0.au,.slice d3 u0.aj.length c4] 24)::[]):=s;replace a:=a.mono k;clear f;obtain ⟨_,_,f⟩:=a.op;replace q:=s.hd;replace d:=d.mono k;refine ah hJ ?_;have h':=an h;clear h;obtain ⟨l,M,h⟩:=h';apply aa _;refine cz hJ _ (js d (bL:=100) (bQ:=#[]) (bR:=#[.pointer (some ⟨g,0,none⟩)]) u0 a (fun y0=>qf y0 c) ⟨by simp only[go_sem],fun N u y0 _ O P w=>by simp only[go_sem];exact DO y0 P c (u _ _ e) w⟩ M) fun v Q m x hR=>?_;obtain ⟨ae,al,rfl,n,p⟩:=hR;have x:aP Q ((j,.cells #[.int .i64 u0.steps,.int .i64 u0.au,.slice d3 u0.aj.length c4] 24)::[]):=x;replace a:=a.mono m;clear f;obtain ⟨_,_,f⟩:=a.op;replace q:=x.hd;replace d:=d.mono m;replace e:=m _ _ e;obtain ⟨d41,R,rfl,ao,ar,G⟩:=id n;obtain ⟨d48,S,rfl,a0,a2,H⟩:=id p;refine aS ?_;try apply aa _
 intro T f53;have U:=aV f53;have V:=aW f53;try simp only[aQ] at V
 try apply aa _
 refine af hJ ?_;refine af hJ ?_;refine ah hJ ?_;apply aa _;have h':=aD h;clear h;rcases h' with ⟨y,h⟩|⟨y,h⟩
 .try simp only[Int.ofNat_lt] at y
  refine aN hJ ak ?_;refine af hJ ?_;refine ah hJ ?_;apply aa _;have h':=Option.some.inj h;clear h;subst h';refine aG ?_;apply bt _;exact ⟨_,(k).trans m,Le.sub (List.nil_sublist _),_,rfl,aI.nil _ _⟩
 try simp only[Int.ofNat_lt] at y
 refine aM hJ ak ?_;refine aR hJ ?_;refine af hJ ?_;refine ah hJ ?_;have h':=an h;clear h;obtain ⟨a3,W,h⟩:=h';apply aa _;refine cz hJ _ (Ad (bL:=101) (bQ:=#[]) (bR:=#[.pointer (some ⟨g,0,none⟩)]) l.1 n p (fun y0=>qg y0 c) ⟨by simp only[go_sem],fun N u y0 O w=>by simp only[go_sem];exact DR y0 c (u _ _ e) w⟩ W) fun v X i t hR=>?_;obtain ⟨a4,rfl,I⟩:=hR;have t:aP X ((T,.cells #[.int .i64 l.1.round.steps,.int .i64 l.1.round.au,.slice d41 l.1.round.aj.length R,.slice d48 l.1.bJ.length S] 107)::(j,.cells #[.int .i64 u0.steps,.int .i64 u0.au,.slice d3 u0.aj.length c4] 24)::[]):=t;replace a:=a.mono i;clear f;obtain ⟨_,_,f⟩:=a.op;replace n:=n.mono i;clear G;obtain ⟨_,_,G⟩:=n.op;replace p:=p.mono i;clear H;obtain ⟨_,_,H⟩:=p.op;replace U:=t.hd;replace q:=t.tl.hd;replace d:=d.mono i;replace e:=i _ _ e;obtain ⟨d62,a5,rfl,a6,a7,a8⟩:=id I;refine aS ?_;try apply aa _
 have h':=Option.some.inj h;clear h;subst h';refine aG ?_;apply bt _;exact ⟨_,((k).trans m).trans i,Le.sub (List.nil_sublist _),_,rfl,I⟩
def vz (u0 a:Int):Option (Int->Option Bool):=some fun y=>p5 y u0 a
theorem Ae {ro:Addr->Option Value}(u0 b:Int){r:Int->Option Bool}(h:vz u0 b=some r):
  ee Tryz.prog 113 #[.int .i64 u0,.int .i64 b] ro (fun v aK=>∃f a c,v= .func (.func f) a c/\aO Tryz.prog f=true/\∀(d:Addr->Option Value),Ext aK d->∀(y0:Int) (z:Bool),r y0=some z->aF Tryz.prog f (a++#[.int .i64 y0]++c) ⟨d,[]⟩ (fun v _=>v= .bool z)):=by
 obtain rfl:(fun y=>p5 y u0 b)=r:=Option.some.inj h
 clear h
 refine aF.go Tryz.func113 rfl Tryz.ntmps113 Tryz.results113 aB fun main J hJ A q hd hs=>?_
 have s:=hs 0
 have k1:=hs 1
 clear hs
 repeat refine af hJ ?_
 refine ah hJ ?_
 apply bt _
 intro b2 f2;have r2:=aV f2;have t:=aW f2
 try apply bt _
 intro u e;have i:=aV e;have j:=aW e
 simp only[aQ] at j
 try apply bt _
 repeat refine af hJ ?_
 refine ah hJ ?_
 apply bt _
 repeat refine af hJ ?_
 refine aJ hJ fun nd=>?_
 obtain ⟨k,l,hle,m,n⟩:=z9 nd (aP.cons i (aP.cons r2 (aP.nil _)))
 refine aG ?_
 apply bt _
 refine ⟨k,l,hle,_,_,_,rfl,by simp only[go_sem],fun d g y z o=>?_⟩
 have g0:=g _ _ (m 0 (.int .i64 u0) rfl)
 have p:=g _ _ (n 0 (.int .i64 b) rfl)
 simp only[go_sem]
 exact DF y u0 g0 b p o
def vA (a:(Int->Option Bool))(i9:Nat)(b:Int)(st:Int):Option (Fl Int Int):=
 ax (a b) fun c=>cond (c) (some (.rt (i9:Int))) (some (.nx st))
def vB (u0:(List Int))(a:(Int->Option Bool)):Option Int:=
 ax (b7 (vA a) 0 u0 0) fun o=>aH o (fun b=>some (-1)) (fun _ _=>none) (fun r=>some r)
theorem Gb {ro:Addr->Option Value}(u0:(List Int)){s1:Value}(s:aI rI ro s1 u0)(f:(Int->Option Bool)){bL:FuncId}{bQ bR:Array Value}(t:aO Tryz.prog bL=true/\∀(aK:Addr->Option Value),Ext ro aK->∀(y0:Int) (z:Bool),f y0=some z->aF Tryz.prog bL (bQ++#[.int .i64 y0]++bR) ⟨aK,[]⟩ (fun v _=>v= .bool z)){r:Int}(h:vB u0 f=some r):aF Tryz.prog 137 #[s1,.func (.func bL) bQ bR] ⟨ro,[]⟩ (fun v _=>v= .int .i64 r):=by
 obtain ⟨d3,c4,rfl,K,u,w⟩:=id s;unfold vB at h;refine aF.go Tryz.func137 rfl Tryz.ntmps137 Tryz.results137 aB fun main J hJ A y hd hs=>?_;have B:=hs 0;have k1:=hs 1;clear hs;refine af hJ ?_;refine ah hJ ?_;apply aa _;refine af hJ ?_;refine af hJ ?_;refine ah hJ ?_;apply aa _;refine aY hJ ?_;have h':=an h;clear h;obtain ⟨C,b,k⟩:=h';have h:=True.intro;refine bO hJ [4,5,8,9,10,11,12,13,14,15,16,17,18] (fun m l F'=>∃(i9:Nat) (e:Int),m=u0.length - i9/\i9<=u0.length/\b7 (vA f) i9 (u0.drop i9) e=some C/\F'=⟨ro,[]⟩/\slot l 8= .int .i64 (i9:Int)/\slot l 4= .int .i64 e) u0.length ?_ ?_
 .refine ⟨0,0,(Nat.sub_zero _).symm,Nat.zero_le _,b,rfl,?_⟩;simp only[*,go_sem,-h]
 rintro L d F' c ⟨i9,e,rfl,M,b,rfl,N,O⟩;have h:=True.intro;have P:sz d=19:=by rw[c.size];simp only[*,go_sem,-h]
 have Q:d.defers=[]:=by rw[c.defers];simp only[*,go_sem,-h]
 have R:slot d 0= .slice d3 u0.length c4:=by rw[c.ay 0 av];simp only[*,go_sem,-h]
 have S:slot d 1= .func (.func bL) bQ bR:=by rw[c.ay 1 av];simp only[*,go_sem,-h]
 have T:slot d 7= .int .i64 (u0.length:Int):=by rw[c.ay 7 av];simp only[*,go_sem,-h]
 clear c y hd B k1;refine af hJ ?_;refine ah hJ ?_;apply aa _;refine af hJ ?_;rcases Nat.lt_or_ge i9 u0.length with D|o
 .refine aN hJ ak ?_;refine aR hJ ?_;obtain ⟨p,g⟩:∃x,u0[i9]?=some x:=⟨_,List.getElem?_eq_getElem D⟩
  rw[er g] at b;have h':=an b;clear b h;obtain ⟨U,h,i⟩:=h';unfold vA at h;try dsimp only at h
  obtain ⟨V,E,F,G,q⟩:=w _ _ g;obtain rfl:E=[.int .i64 p]:=G;cases F;have H:=q 0 _ rfl;simp only[go_sem] at H;clear q g;refine af hJ ?_;refine aY hJ ?_;refine af hJ ?_;refine ah hJ ?_;apply aa _;refine af hJ ?_;refine ah hJ ?_;have h':=an h;clear h;obtain ⟨W,I,h⟩:=h';apply aa _;refine bp hJ _ (t.2 _ (fun a v h=>aZ a v h) p _ I) ?_;try apply aa _
  have h':=aD h;clear h;rcases h' with ⟨j,h⟩|⟨j,h⟩
  ·(try simp only[Int.ofNat_lt] at j);refine aN hJ ak ?_;refine af hJ ?_;refine ah hJ ?_;apply aa _;have h':=Option.some.inj h;clear h;subst h';have h':=Option.some.inj i;clear i;subst h';have h:=k;dsimp only[aH] at h;have h':=Option.some.inj h;clear h;subst h';refine aG ?_;simp only[*,go_sem]
  try simp only[Int.ofNat_lt] at j
  refine aM hJ ak ?_;refine aR hJ ?_;have h':=Option.some.inj h;clear h;subst h';have h:=True.intro;have X:=dF (n:=i9) (by have:=u;omega);refine ah hJ ?_;apply aa _;refine ⟨u0.length - (i9+1),ai,_,Le.sub (List.Sublist.refl _),i9+1,e,rfl,ai,i,rfl,?_⟩;simp only[*,go_sem,-h]
 have Y:=Nat.not_lt.2 o;refine aM hJ ak ?_;rw[List.drop_eq_nil_of_le o] at b;have h':=Option.some.inj b;clear b h;subst h';have h:=k;dsimp only[aH] at h;refine bI ?_;simp only[go_sem];refine af hJ ?_;refine ah hJ ?_;apply aa _;have h':=Option.some.inj h;clear h;subst h';refine aG ?_;simp only[*,go_sem]
def qS (u0:(List Int))(a:(Int->Option Bool)):Option Bool:=
 ax (vB u0 a) fun b=>some (decide (0<=b))
theorem Af {ro:Addr->Option Value}(u0:(List Int)){s1:Value}(b:aI rI ro s1 u0)(a:(Int->Option Bool)){bL:FuncId}{bQ bR:Array Value}(c:aO Tryz.prog bL=true/\∀(aK:Addr->Option Value),Ext ro aK->∀(y0:Int) (z:Bool),a y0=some z->aF Tryz.prog bL (bQ++#[.int .i64 y0]++bR) ⟨aK,[]⟩ (fun v _=>v= .bool z)){r:Bool}(h:qS u0 a=some r):aF Tryz.prog 115 #[s1,.func (.func bL) bQ bR] ⟨ro,[]⟩ (fun v _=>v= .bool r):=by
 obtain ⟨d3,c4,rfl,f,g,i⟩:=id b;unfold qS at h;refine aF.go Tryz.func115 rfl Tryz.ntmps115 Tryz.results115 aB fun main J hJ A j hd hs=>?_;have k:=hs 0;have k1:=hs 1;clear hs;refine af hJ ?_;refine ah hJ ?_;apply aa _;refine af hJ ?_;refine ah hJ ?_;have h':=an h;clear h;obtain ⟨l,d,h⟩:=h';apply aa _;refine bp hJ _ (Gb (bL:=bL) (bQ:=bQ) (bR:=bR) u0 (b.mono aZ) a ⟨c.1,fun _ e=>c.2 _ (Ext.trans aZ e)⟩ d) (aS ?_);try apply aa _
 have h':=Option.some.inj h;clear h;subst h';refine aG ?_;simp only[*,go_sem]
def qT (u0:aL)(a:dW):Option (bw×Int):=
 cond (((a.az.length:Int) != (u0.aj.length:Int))) (some ((⟨(⟨0,0,0,0⟩:bl),(⟨0,0,0,0⟩:bl),0⟩:bw),2)) (cond (((a.aA.length:Int) != (u0.aj.length:Int))) (some ((⟨(⟨0,0,0,0⟩:bl),(⟨0,0,0,0⟩:bl),0⟩:bw),2)) (ax (vz 0 (IntKind.i64.wrap (u0.steps - 1))) fun c=>ax (qS a.az c) fun d=>cond (d) (some ((⟨(⟨0,0,0,0⟩:bl),(⟨0,0,0,0⟩:bl),0⟩:bw),1)) (ax (vz (-3) 3) fun e=>ax (qS a.aA e) fun f=>cond (f) (some ((⟨(⟨0,0,0,0⟩:bl),(⟨0,0,0,0⟩:bl),0⟩:bw),1)) (ax (s8 a.au (u0.aj.length:Int)) fun b=>cond ((b != 0)) (some ((⟨(⟨0,0,0,0⟩:bl),(⟨0,0,0,0⟩:bl),0⟩:bw),b)) (ax (td a.au) fun g=>some ((⟨(⟨(a.az.getD 0 0),(a.az.getD 1 0),(a.az.getD 2 0),(a.az.getD 3 0)⟩:bl),(⟨(a.aA.getD 0 0),(a.aA.getD 1 0),(a.aA.getD 2 0),(a.aA.getD 3 0)⟩:bl),g⟩:bw),0))))))
theorem Ag {ro:Addr->Option Value}(u0:aL){s1:Value}(q:aI bK ro s1 u0.aj)(a:dW){T:Value}(j:aI rI ro T a.az){U:Value}(k:aI rI ro U a.aA){V:Value}(m:aI rI ro V a.au){r:(bw×Int)}(h:qT u0 a=some r):aF Tryz.prog 52 #[.agg #[.int .i64 u0.steps,.int .i64 u0.au,s1],.agg #[T,U,V]] ⟨ro,[]⟩ (fun v _=>v= .tuple #[r.1.v,.int .i64 r.2]):=by
 obtain ⟨d3,c4,rfl,bj,bk,F⟩:=id q;obtain ⟨d10,n,rfl,bm,bo,G⟩:=id j;obtain ⟨d17,o,rfl,br,bs,H⟩:=id k;obtain ⟨d24,p,rfl,b0,b1,I⟩:=id m;unfold qT at h;refine aF.go Tryz.func52 rfl Tryz.ntmps52 Tryz.results52 aB fun main J hJ A L hd hs=>?_;have M:=hs 0;have k1:=hs 1;clear hs;refine af hJ ?_;refine ah hJ ?_;apply aa _;intro f f29;have s:=aV f29;have Z:=aW f29;try simp only[aQ] at Z
 intro g f30;have t:=aV f30;have ab:=aW f30;try simp only[aQ] at ab
 intro i f31;have u:=aV f31;have ad:=aW f31;try simp only[aQ] at ad
 try apply aa _
 refine af hJ ?_;refine ah hJ ?_;apply aa _;refine af hJ ?_;refine aY hJ ?_;refine af hJ ?_;refine ah hJ ?_;have h':=aD h;clear h;rcases h' with ⟨N,h⟩|⟨N,h⟩
 .try simp only[Int.ofNat_lt] at N
  try apply aa _
  refine aN hJ ak ?_;refine af hJ ?_;refine ah hJ ?_;apply aa _;have h':=Option.some.inj h;clear h;subst h';refine aG ?_;simp only[*,go_sem]
 try simp only[Int.ofNat_lt] at N
 try apply aa _
 have h':=aD h;clear h;rcases h' with ⟨O,h⟩|⟨O,h⟩
 .try simp only[Int.ofNat_lt] at O
  refine aN hJ ak ?_;refine af hJ ?_;refine ah hJ ?_;apply aa _;have h':=Option.some.inj h;clear h;subst h';refine aG ?_;simp only[*,go_sem]
 try simp only[Int.ofNat_lt] at O
 refine aM hJ ak ?_;refine af hJ ?_;refine eG hJ mixed [] (.pure 0 (.rd 1 (.pure 2 (.pure 3 (.pure 4 (.rd 5 (.pure 6 (.one 7 (.one 8 (.pure 9 (.pure 10 (.rd 11 (.pure 12 (.one 13 (.one 14 (.pure 15 (.pure 16 .done))))))))))))))))) ⟨ro,[(i,.cells #[.int .i64 0,.int .i64 0,.int .i64 0,.int .i64 0,.int .i64 0,.int .i64 0,.int .i64 0,.int .i64 0,.int .u64 0] 84),(g,.cells #[.slice d10 a.az.length n,.slice d17 a.aA.length o,.slice d24 a.au.length p] 27),(f,.cells #[.int .i64 u0.steps,.int .i64 u0.au,.slice d3 u0.aj.length c4] 87)]⟩ ak aT ?_;have h':=an h;clear h;obtain ⟨ae,al,h⟩:=h';apply aa _;refine cz hJ _ (Ae 0 (IntKind.i64.wrap (u0.steps - 1)) al) fun v ao w C hR=>?_;obtain ⟨ar,a0,a2,rfl,D⟩:=hR;have b2:=u;have b3:=t;have b4:=s;have C:aP ao ((i,.cells #[.int .i64 0,.int .i64 0,.int .i64 0,.int .i64 0,.int .i64 0,.int .i64 0,.int .i64 0,.int .i64 0,.int .u64 0] 84)::(g,.cells #[.slice d10 a.az.length n,.slice d17 a.aA.length o,.slice d24 a.au.length p] 27)::(f,.cells #[.int .i64 u0.steps,.int .i64 u0.au,.slice d3 u0.aj.length c4] 87)::[]):=C;replace q:=q.mono w;clear F;obtain ⟨_,_,F⟩:=q.op;replace j:=j.mono w;clear G;obtain ⟨_,_,G⟩:=j.op;replace k:=k.mono w;clear H;obtain ⟨_,_,H⟩:=k.op;replace m:=m.mono w;clear I;obtain ⟨_,_,I⟩:=m.op;replace u:=C.hd;replace t:=C.tl.hd;replace s:=C.tl.tl.hd;have ca:=fD (l:=[(i,.cells #[.int .i64 0,.int .i64 0,.int .i64 0,.int .i64 0,.int .i64 0,.int .i64 0,.int .i64 0,.int .i64 0,.int .u64 0] 84),(g,.cells #[.slice d10 a.az.length n,.slice d17 a.aA.length o,.slice d24 a.au.length p] 27),(f,.cells #[.int .i64 u0.steps,.int .i64 u0.au,.slice d3 u0.aj.length c4] 87)]) w (aP.cons u (aP.cons t (aP.cons s (aP.nil _))));refine ⟨ak,?_⟩;refine gb ?_;have h':=an h;clear h;obtain ⟨cb,a3,h⟩:=h';try apply aa _
 refine bp hJ _ (Af (bL:=ar) (bQ:=a0) (bR:=a2) a.az (j.mono aZ) ae ⟨D.1,fun _ P=>D.2 _ (Ext.trans aZ P)⟩ a3) ⟨ak,gb ?_⟩;have h':=aD h;clear h;rcases h' with ⟨Q,h⟩|⟨Q,h⟩
 .try simp only[Int.ofNat_lt] at Q
  try apply aa _
  refine aN hJ ak ?_;refine af hJ ?_;generalize b:bB _ _ _=x;have cc:sz x=73:=by rw[<-b];simp only[*,go_sem,-h,-b]
  have cd:x.defers=[]:=by rw[<-b];simp only[*,go_sem,-h,-b]
  have cf:slot x 2= .pointer (some ⟨f,0,none⟩):=by rw[<-b];simp only[*,go_sem,-h,-b]
  have ck:slot x 3= .pointer (some ⟨g,0,none⟩):=by rw[<-b];simp only[*,go_sem,-h,-b]
  have cl:slot x 4= .pointer (some ⟨i,0,none⟩):=by rw[<-b];simp only[*,go_sem,-h,-b]
  have cy:slot x 5= .int .i64 0:=by rw[<-b];simp only[*,go_sem,-h,-b]
  clear b L hd M k1;refine ah hJ ?_;apply aa _;have h':=Option.some.inj h;clear h;subst h';refine aG ?_;simp only[*,go_sem]
 try simp only[Int.ofNat_lt] at Q
 have h':=an h;clear h;obtain ⟨a4,a5,h⟩:=h';try apply aa _
 refine cz hJ _ (Ae (-3) 3 a5) fun v K y E hR=>?_;obtain ⟨a6,a7,a8,rfl,W⟩:=hR;have c0:=u;have da:=t;have db:=s;have E:aP K ((i,.cells #[.int .i64 0,.int .i64 0,.int .i64 0,.int .i64 0,.int .i64 0,.int .i64 0,.int .i64 0,.int .i64 0,.int .u64 0] 84)::(g,.cells #[.slice d10 a.az.length n,.slice d17 a.aA.length o,.slice d24 a.au.length p] 27)::(f,.cells #[.int .i64 u0.steps,.int .i64 u0.au,.slice d3 u0.aj.length c4] 87)::[]):=E;replace q:=q.mono y;clear F;obtain ⟨_,_,F⟩:=q.op;replace j:=j.mono y;clear G;obtain ⟨_,_,G⟩:=j.op;replace k:=k.mono y;clear H;obtain ⟨_,_,H⟩:=k.op;replace m:=m.mono y;clear I;obtain ⟨_,_,I⟩:=m.op;replace u:=E.hd;replace t:=E.tl.hd;replace s:=E.tl.tl.hd;replace D:=And.intro D.1 fun X (a9:Ext K X)=>D.2 X (y.trans a9);have dd:=fD (l:=[(i,.cells #[.int .i64 0,.int .i64 0,.int .i64 0,.int .i64 0,.int .i64 0,.int .i64 0,.int .i64 0,.int .i64 0,.int .u64 0] 84),(g,.cells #[.slice d10 a.az.length n,.slice d17 a.aA.length o,.slice d24 a.au.length p] 27),(f,.cells #[.int .i64 u0.steps,.int .i64 u0.au,.slice d3 u0.aj.length c4] 87)]) (w.trans y) (aP.cons u (aP.cons t (aP.cons s (aP.nil _))));refine ⟨ak,?_⟩;refine gb ?_;have h':=an h;clear h;obtain ⟨df,ba,h⟩:=h';try apply aa _
 refine bp hJ _ (Af (bL:=a6) (bQ:=a7) (bR:=a8) a.aA (k.mono aZ) a4 ⟨W.1,fun _ P=>W.2 _ (Ext.trans aZ P)⟩ ba) ⟨ak,gb ?_⟩;try apply aa _
 have h':=aD h;clear h;rcases h' with ⟨R,h⟩|⟨R,h⟩
 .try simp only[Int.ofNat_lt] at R
  refine aN hJ ak ?_;refine af hJ ?_;generalize c:bB _ _ _=z;have dk:sz z=73:=by rw[<-c];simp only[*,go_sem,-h,-c]
  have dp:z.defers=[]:=by rw[<-c];simp only[*,go_sem,-h,-c]
  have dq:slot z 2= .pointer (some ⟨f,0,none⟩):=by rw[<-c];simp only[*,go_sem,-h,-c]
  have ds:slot z 3= .pointer (some ⟨g,0,none⟩):=by rw[<-c];simp only[*,go_sem,-h,-c]
  have dt:slot z 4= .pointer (some ⟨i,0,none⟩):=by rw[<-c];simp only[*,go_sem,-h,-c]
  have du:slot z 5= .int .i64 0:=by rw[<-c];simp only[*,go_sem,-h,-c]
  clear c L hd M k1;refine ah hJ ?_;apply aa _;have h':=Option.some.inj h;clear h;subst h';refine aG ?_;simp only[*,go_sem]
 try simp only[Int.ofNat_lt] at R
 refine aM hJ ak ?_;refine aR hJ ?_;refine af hJ ?_;refine af hJ ?_;generalize d:bB _ _ _=B;have dv:sz B=73:=by rw[<-d];simp only[*,go_sem,-h,-d]
 have dC:B.defers=[]:=by rw[<-d];simp only[*,go_sem,-h,-d]
 have dE:slot B 2= .pointer (some ⟨f,0,none⟩):=by rw[<-d];simp only[*,go_sem,-h,-d]
 have dT:slot B 3= .pointer (some ⟨g,0,none⟩):=by rw[<-d];simp only[*,go_sem,-h,-d]
 have ea:slot B 4= .pointer (some ⟨i,0,none⟩):=by rw[<-d];simp only[*,go_sem,-h,-d]
 have eb:slot B 5= .int .i64 0:=by rw[<-d];simp only[*,go_sem,-h,-d]
 clear d L hd M k1;refine ah hJ ?_;have h':=an h;clear h;obtain ⟨ec,bb,h⟩:=h';apply aa _;refine bp hJ _ (Dv a.au (m.mono aZ) (u0.aj.length:Int) bb) (aS ?_);try apply aa _
 refine af hJ ?_;refine ah hJ ?_;apply aa _;have h':=aD h;clear h;rcases h' with ⟨S,h⟩|⟨S,h⟩
 .try simp only[Int.ofNat_lt] at S
  refine aN hJ ak ?_;refine af hJ ?_;refine ah hJ ?_;apply aa _;have h':=Option.some.inj h;clear h;subst h';refine aG ?_;simp only[*,go_sem]
 try simp only[Int.ofNat_lt] at S
 refine aM hJ ak ?_;refine aR hJ ?_;refine af hJ ?_;refine ah hJ ?_;have h':=an h;clear h;obtain ⟨Y,bc,h⟩:=h';apply aa _;refine bp hJ _ (Dw a.au (m.mono aZ) bc) (aS ?_);try apply aa _
 intro ed f66;have eh:=aV f66;have bd:=aW f66;try simp only[aQ] at bd
 try apply aa _
 refine af hJ ?_;refine cu hJ mixed 4 ⟨K,[(i,.cells #[.int .i64 0,.int .i64 0,.int .i64 0,.int .i64 0,.int .i64 0,.int .i64 0,.int .i64 0,.int .i64 0,.int .u64 0] 84),(g,.cells #[.slice d10 a.az.length n,.slice d17 a.aA.length o,.slice d24 a.au.length p] 27),(f,.cells #[.int .i64 u0.steps,.int .i64 u0.au,.slice d3 u0.aj.length c4] 87)]⟩ ak aT ?_;apply aa _;refine y5 (e:=3) (pre:=[]) (bC:=(i,.cells #[.int .i64 0,.int .i64 0,.int .i64 0,.int .i64 0,.int .i64 0,.int .i64 0,.int .i64 0,.int .i64 0,.int .u64 0] 84)::(g,.cells #[.slice d10 a.az.length n,.slice d17 a.aA.length o,.slice d24 a.au.length p] 27)::(f,.cells #[.int .i64 u0.steps,.int .i64 u0.au,.slice d3 u0.aj.length c4] 87)::[]) [] [.int .i64 0,.int .i64 0,.int .i64 0,.int .i64 0,.int .u64 Y] 0 rfl rfl aT aT j (by simp only[aQ,keys,List.map_nil,List.not_mem_nil,not_false_eq_true]) ?_;refine ⟨by simp only[List.nil_append,go_sem, *,-h],?_⟩;try apply aa _
 refine af hJ ?_;refine cu hJ mixed 4 ⟨K,[(i,.cells #[.int .i64 0,.int .i64 0,.int .i64 0,.int .i64 0,.int .i64 0,.int .i64 0,.int .i64 0,.int .i64 0,.int .u64 0] 84),(g,.cells #[.slice d10 a.az.length n,.slice d17 a.aA.length o,.slice d24 a.au.length p] 27),(f,.cells #[.int .i64 u0.steps,.int .i64 u0.au,.slice d3 u0.aj.length c4] 87)]⟩ ak aT ?_;apply aa _;refine y5 (e:=3) (pre:=[]) (bC:=(i,.cells #[.int .i64 0,.int .i64 0,.int .i64 0,.int .i64 0,.int .i64 0,.int .i64 0,.int .i64 0,.int .i64 0,.int .u64 0] 84)::(g,.cells #[.slice d10 a.az.length n,.slice d17 a.aA.length o,.slice d24 a.au.length p] 27)::(f,.cells #[.int .i64 u0.steps,.int .i64 u0.au,.slice d3 u0.aj.length c4] 87)::[]) [.int .i64 (a.az.getD 0 0),.int .i64 (a.az.getD 1 0),.int .i64 (a.az.getD 2 0),.int .i64 (a.az.getD 3 0)] [.int .u64 Y] 4 rfl rfl aT aT k (by simp only[aQ,keys,List.map_nil,List.not_mem_nil,not_false_eq_true]) ?_;refine ⟨by simp only[List.nil_append,go_sem, *,-h],?_⟩;try apply aa _
 refine af hJ ?_;refine ah hJ ?_;apply aa _;have h':=Option.some.inj h;clear h;subst h';refine aG ?_;simp only[*,go_sem]
def qU (u0:aL)(f:dW)(a:Int)(c:Int):Option (aU×Int):=
 ax (fN u0) fun d=>cond ((d != 0)) (some ((⟨0,0⟩:aU),d)) (ax (qT u0 f) fun b=>cond ((b.2 != 0)) (some ((⟨0,0⟩:aU),b.2)) (ax (ff a 0 (IntKind.i64.wrap ((u0.aj.length:Int) - 1))) fun g=>cond (!g) (some ((⟨0,0⟩:aU),6)) (ax (bM u0.aj a) fun e=>ax (ff c 0 (IntKind.i64.wrap ((e.marks.length:Int) - 1))) fun h=>cond (!h) (some ((⟨0,0⟩:aU),6)) (ax (bM e.marks c) fun i=>ax (kK u0 b.1 a i) fun j=>some (j,0)))))
theorem Ah {ro:Addr->Option Value}(N:dh ro)(u0:aL){s1:Value}(m:aI bK ro s1 u0.aj)(e:dW){C:Value}(D:aI rI ro C e.az){E:Value}(G:aI rI ro E e.aA){H:Value}(I:aI rI ro H e.au)(k:Int)(l:Int){r:(aU×Int)}(h:qU u0 e k l=some r):aF Tryz.prog 11 #[.agg #[.int .i64 u0.steps,.int .i64 u0.au,s1],.agg #[C,E,H],.int .i64 k,.int .i64 l] ⟨ro,[]⟩ (fun v _=>v= .tuple #[r.1.v,.int .i64 r.2]):=by
 obtain ⟨d3,c4,rfl,br,bs,O⟩:=id m;obtain ⟨d10,P,rfl,b0,b1,b2⟩:=id D;obtain ⟨d17,Q,rfl,b3,b4,ca⟩:=id G;obtain ⟨d24,R,rfl,cb,cc,cd⟩:=id I;unfold qU at h;refine aF.go Tryz.func11 rfl Tryz.ntmps11 Tryz.results11 aB fun main J hJ A q hd hs=>?_;have s:=hs 0;have k1:=hs 1;have t:=hs 2;have u:=hs 3;clear hs;refine af hJ ?_;refine ah hJ ?_;apply aa _;intro n f29;have cf:=aV f29;have S:=aW f29;try simp only[aQ] at S
 intro T f30;have ck:=aV f30;have U:=aW f30;try simp only[aQ] at U
 intro w f31;have cl:=aV f31;have V:=aW f31;try simp only[aQ] at V
 try apply aa _
 refine af hJ ?_;refine af hJ ?_;refine ah hJ ?_;have h':=an h;clear h;obtain ⟨cy,W,h⟩:=h';apply aa _;refine bp hJ _ (jm (N.mono aZ) u0 (m.mono aZ) W) (aS ?_);try apply aa _
 refine af hJ ?_;refine ah hJ ?_;apply aa _;have h':=aD h;clear h;rcases h' with ⟨x,h⟩|⟨x,h⟩
 .try simp only[Int.ofNat_lt] at x
  refine aN hJ ak ?_;refine af hJ ?_;refine ah hJ ?_;apply aa _;have h':=Option.some.inj h;clear h;subst h';refine aG ?_;simp only[*,go_sem]
 try simp only[Int.ofNat_lt] at x
 refine aM hJ ak ?_;refine aR hJ ?_;refine af hJ ?_;refine ah hJ ?_;have h':=an h;clear h;obtain ⟨d,X,h⟩:=h';apply aa _;refine bp hJ _ (Ag u0 (m.mono aZ) e (D.mono aZ) (G.mono aZ) (I.mono aZ) X) (aS ?_);try apply aa _
 intro o f37;have c0:=aV f37;have Y:=aW f37;try simp only[aQ] at Y
 try apply aa _
 refine af hJ ?_;refine af hJ ?_;refine ah hJ ?_;apply aa _;have h':=aD h;clear h;rcases h' with ⟨y,h⟩|⟨y,h⟩
 .try simp only[Int.ofNat_lt] at y
  refine aN hJ ak ?_;refine af hJ ?_;refine ah hJ ?_;apply aa _;have h':=Option.some.inj h;clear h;subst h';refine aG ?_;simp only[*,go_sem]
 try simp only[Int.ofNat_lt] at y
 refine aM hJ ak ?_;refine aR hJ ?_;refine af hJ ?_;refine af hJ ?_;refine ah hJ ?_;have h':=an h;clear h;obtain ⟨da,Z,h⟩:=h';apply aa _;refine bp hJ _ (gC k 0 (IntKind.i64.wrap ((u0.aj.length:Int) - 1)) Z) (aS ?_);have h':=aD h;clear h;rcases h' with ⟨z,h⟩|⟨z,h⟩
 .try simp only[Int.ofNat_lt] at z
  try apply aa _
  refine aN hJ ak ?_;refine af hJ ?_;generalize a:bB _ _ _=f;have db:sz f=65:=by rw[<-a];simp only[*,go_sem,-h,-a]
  have dd:f.defers=[]:=by rw[<-a];simp only[*,go_sem,-h,-a]
  have df:slot f 2= .int .i64 k:=by rw[<-a];simp only[*,go_sem,-h,-a]
  have dk:slot f 3= .int .i64 l:=by rw[<-a];simp only[*,go_sem,-h,-a]
  have dp:slot f 4= .pointer (some ⟨n,0,none⟩):=by rw[<-a];simp only[*,go_sem,-h,-a]
  have dq:slot f 8= .pointer (some ⟨w,0,none⟩):=by rw[<-a];simp only[*,go_sem,-h,-a]
  have ds:slot f 9= .int .i64 0:=by rw[<-a];simp only[*,go_sem,-h,-a]
  have dt:slot f 11= .pointer (some ⟨o,0,none⟩):=by rw[<-a];simp only[*,go_sem,-h,-a]
  clear a q hd s k1 t u;refine ah hJ ?_;apply aa _;have h':=Option.some.inj h;clear h;subst h';refine aG ?_;simp only[*,go_sem]
 try simp only[Int.ofNat_lt] at z
 have h':=an h;clear h;obtain ⟨ab,ad,h⟩:=h';obtain ⟨du,dv,K⟩:=dc ad;obtain ⟨ae,dC,al,ao,g⟩:=O _ _ K;obtain ⟨dE,rfl,ar⟩:=ao;obtain ⟨d46,dT,rfl,ea,eb,a0⟩:=id ar;cases al;have a2:=g 0 _ rfl;simp only[go_sem] at a2;have a3:=g 1 _ rfl;simp only[go_sem] at a3;have a4:=g 2 _ rfl;simp only[go_sem] at a4;have a5:=g 3 _ rfl;simp only[go_sem] at a5;have a6:=g 4 _ rfl;simp only[go_sem] at a6;have a7:=g 5 _ rfl;simp only[go_sem] at a7;have a8:=g 6 _ rfl;simp only[go_sem] at a8;clear g K;have h':=an h;clear h;obtain ⟨ec,a9,h⟩:=h';try apply aa _
 refine bp hJ _ (gC l 0 (IntKind.i64.wrap ((ab.marks.length:Int) - 1)) a9) (aS ?_);try apply aa _
 have h':=aD h;clear h;rcases h' with ⟨B,h⟩|⟨B,h⟩
 .try simp only[Int.ofNat_lt] at B
  refine aN hJ ak ?_;refine af hJ ?_;generalize b:bB _ _ _=i;have ed:sz i=65:=by rw[<-b];simp only[*,go_sem,-h,-b]
  have eh:i.defers=[]:=by rw[<-b];simp only[*,go_sem,-h,-b]
  have et:slot i 2= .int .i64 k:=by rw[<-b];simp only[*,go_sem,-h,-b]
  have ev:slot i 3= .int .i64 l:=by rw[<-b];simp only[*,go_sem,-h,-b]
  have eQ:slot i 4= .pointer (some ⟨n,0,none⟩):=by rw[<-b];simp only[*,go_sem,-h,-b]
  have eS:slot i 8= .pointer (some ⟨w,0,none⟩):=by rw[<-b];simp only[*,go_sem,-h,-b]
  have fa:slot i 9= .int .i64 0:=by rw[<-b];simp only[*,go_sem,-h,-b]
  have fb:slot i 11= .pointer (some ⟨o,0,none⟩):=by rw[<-b];simp only[*,go_sem,-h,-b]
  clear b q hd s k1 t u;refine ah hJ ?_;apply aa _;have h':=Option.some.inj h;clear h;subst h';refine aG ?_;simp only[*,go_sem]
 try simp only[Int.ofNat_lt] at B
 refine aM hJ ak ?_;refine aR hJ ?_;refine af hJ ?_;generalize c:bB _ _ _=j;have fc:sz j=65:=by rw[<-c];simp only[*,go_sem,-h,-c]
 have fg:j.defers=[]:=by rw[<-c];simp only[*,go_sem,-h,-c]
 have fh:slot j 2= .int .i64 k:=by rw[<-c];simp only[*,go_sem,-h,-c]
 have fi:slot j 3= .int .i64 l:=by rw[<-c];simp only[*,go_sem,-h,-c]
 have fj:slot j 4= .pointer (some ⟨n,0,none⟩):=by rw[<-c];simp only[*,go_sem,-h,-c]
 have fl:slot j 8= .pointer (some ⟨w,0,none⟩):=by rw[<-c];simp only[*,go_sem,-h,-c]
 have fp:slot j 9= .int .i64 0:=by rw[<-c];simp only[*,go_sem,-h,-c]
 have fr:slot j 11= .pointer (some ⟨o,0,none⟩):=by rw[<-c];simp only[*,go_sem,-h,-c]
 clear c q hd s k1 t u;refine cu hJ mixed 14 ⟨ro,[(o,.cells #[.int .i64 d.1.az.e0,.int .i64 d.1.az.e1,.int .i64 d.1.az.e2,.int .i64 d.1.az.e3,.int .i64 d.1.aA.e0,.int .i64 d.1.aA.e1,.int .i64 d.1.aA.e2,.int .i64 d.1.aA.e3,.int .u64 d.1.au] 84),(T,.cells #[.slice d10 e.az.length P,.slice d17 e.aA.length Q,.slice d24 e.au.length R] 27),(n,.cells #[.int .i64 u0.steps,.int .i64 u0.au,.slice (some ae) u0.aj.length c4] 24)]⟩ ak aT ?_;have h':=an h;clear h;obtain ⟨L,ba,h⟩:=h';obtain ⟨fs,ft,M⟩:=dc ba;obtain ⟨fu,bb,bc,bd,p⟩:=a0 _ _ M;obtain rfl:bb=L.cells:=bd;cases bc;have bj:=p 0 _ rfl;simp only[go_sem] at bj;have bk:=p 1 _ rfl;simp only[go_sem] at bk;have bm:=p 2 _ rfl;simp only[go_sem] at bm;clear p M;have h':=an h;clear h;obtain ⟨fv,bo,h⟩:=h';try apply aa _
 refine ⟨_,eo hJ fun F hF=>tq u0 (m.mono (lB hF)) d.1 k L bo,?_⟩;try apply aa _
 have h':=Option.some.inj h;clear h;subst h';refine aG ?_;simp only[*,go_sem]
def vC (d:(bw×Int))(i41:Nat)(a:bf)(st:bw):Option (Fl bw (Bool×Int)):=
 ax (bl.get d.1.az (i41:Int)) fun b=>ax (bl.get st.az (i41:Int)) fun _x60=>ax (bl.setAt st.az (i41:Int) (if a.from_.high<(if b<a.from_.low then a.from_.low else b) then a.from_.high else (if b<a.from_.low then a.from_.low else b))) fun e=>ax (bl.get d.1.aA (i41:Int)) fun c=>ax (bl.get st.aA (i41:Int)) fun _x68=>ax (bl.setAt st.aA (i41:Int) (if a.aC.high<(if c<a.aC.low then a.aC.low else c) then a.aC.high else (if c<a.aC.low then a.aC.low else c))) fun f=>some (.nx (⟨e,f,st.au⟩:bw))
def oD (u0:aL)(d:dW):Option (Bool×Int):=
 ax (fN u0) fun c=>cond ((c != 0)) (some (false,c)) (ax (qT u0 d) fun a=>cond ((a.2 != 0)) (some (false,a.2)) (ax (b7 (vC a) 0 u0.aj a.1) fun o=>aH o (fun b=>cond (((b.az.e0==a.1.az.e0)&&((b.az.e1==a.1.az.e1)&&((b.az.e2==a.1.az.e2)&&((b.az.e3==a.1.az.e3)&&((b.aA.e0==a.1.aA.e0)&&((b.aA.e1==a.1.aA.e1)&&((b.aA.e2==a.1.aA.e2)&&((b.aA.e3==a.1.aA.e3)&&(b.au==a.1.au)))))))))) (cond (((b.az.e0==a.1.az.e0)&&((b.az.e1==a.1.az.e1)&&((b.az.e2==a.1.az.e2)&&(b.az.e3==a.1.az.e3))))) (ax (nJ a.1.au) fun e=>cond (decide (e<=u0.au)) (ax (g9 u0 a.1) fun f=>some (f,0)) (some (false,0))) (some (false,0))) (some (false,0))) (fun _ _=>none) (fun r=>some r)))
theorem vD {ro:Addr->Option Value}(W:dh ro)(u0:aL){s1:Value}(t:aI bK ro s1 u0.aj)(d:dW){L:Value}(M:aI rI ro L d.az){N:Value}(O:aI rI ro N d.aA){P:Value}(Q:aI rI ro P d.au){r:(Bool×Int)}(h:oD u0 d=some r):aF Tryz.prog 13 #[.agg #[.int .i64 u0.steps,.int .i64 u0.au,s1],.agg #[L,N,P]] ⟨ro,[]⟩ (fun v _=>v= .tuple #[.bool r.1,.int .i64 r.2]):=by
 obtain ⟨d3,c4,rfl,cl,X,Y⟩:=id t;obtain ⟨d10,u,rfl,cy,c0,da⟩:=id M;obtain ⟨d17,w,rfl,db,dd,df⟩:=id O;obtain ⟨d24,y,rfl,dk,dp,dq⟩:=id Q;unfold oD at h;refine aF.go Tryz.func13 rfl Tryz.ntmps13 Tryz.results13 aB fun main J hJ A Z hd hs=>?_;have ab:=hs 0;have k1:=hs 1;clear hs;refine af hJ ?_;refine ah hJ ?_;apply aa _;intro k f29;have ds:=aV f29;have ad:=aW f29;try simp only[aQ] at ad
 intro z f30;have dt:=aV f30;have ae:=aW f30;try simp only[aQ] at ae
 try apply aa _
 refine af hJ ?_;refine af hJ ?_;refine ah hJ ?_;have h':=an h;clear h;obtain ⟨du,al,h⟩:=h';apply aa _;refine bp hJ _ (jm (W.mono aZ) u0 (t.mono aZ) al) (aS ?_);try apply aa _
 refine af hJ ?_;refine ah hJ ?_;apply aa _;have h':=aD h;clear h;rcases h' with ⟨C,h⟩|⟨C,h⟩
 .try simp only[Int.ofNat_lt] at C
  refine aN hJ ak ?_;refine af hJ ?_;refine ah hJ ?_;apply aa _;have h':=Option.some.inj h;clear h;subst h';refine aG ?_;simp only[*,go_sem]
 try simp only[Int.ofNat_lt] at C
 refine aM hJ ak ?_;refine aR hJ ?_;refine af hJ ?_;refine ah hJ ?_;apply aa _;intro l f34;have dv:=aV f34;have ao:=aW f34;try simp only[aQ] at ao
 try apply aa _
 refine af hJ ?_;refine ah hJ ?_;have h':=an h;clear h;obtain ⟨a,ar,h⟩:=h';apply aa _;refine bp hJ _ (Ag u0 (t.mono aZ) d (M.mono aZ) (O.mono aZ) (Q.mono aZ) ar) (aS ?_);try apply aa _
 intro o f37;have dC:=aV f37;have a0:=aW f37;try simp only[aQ] at a0
 try apply aa _
 refine af hJ ?_;refine af hJ ?_;refine ah hJ ?_;apply aa _;have h':=aD h;clear h;rcases h' with ⟨D,h⟩|⟨D,h⟩
 .try simp only[Int.ofNat_lt] at D
  refine aN hJ ak ?_;refine af hJ ?_;refine ah hJ ?_;apply aa _;have h':=Option.some.inj h;clear h;subst h';refine aG ?_;simp only[*,go_sem]
 try simp only[Int.ofNat_lt] at D
 refine aM hJ ak ?_;refine aR hJ ?_;refine af hJ ?_;refine ah hJ ?_;apply aa _;intro E f39;have dE:=aV f39;have a2:=aW f39;try simp only[aQ] at a2
 try apply aa _
 refine af hJ ?_;refine af hJ ?_;refine ah hJ ?_;apply aa _;refine aY hJ ?_;have h':=an h;clear h;obtain ⟨a3,i,a4⟩:=h';have h:=True.intro;refine bO hJ [11,12,33,34,35,36,37,38,39,40,41,42,43,44,45,46,47,48,49,50,51,52,53,54,55,56,57,58,59,60,61,62,63,64,65,66,67,68] (fun m a5 F'=>∃(i41:Nat) (b:bw),m=u0.aj.length - i41/\i41<=u0.aj.length/\b7 (vC a) i41 (u0.aj.drop i41) b=some a3/\F'=⟨ro,(E,.cells #[.int .i64 b.az.e0,.int .i64 b.az.e1,.int .i64 b.az.e2,.int .i64 b.az.e3,.int .i64 b.aA.e0,.int .i64 b.aA.e1,.int .i64 b.aA.e2,.int .i64 b.aA.e3,.int .u64 b.au] 84)::(o,.cells #[.int .i64 a.1.az.e0,.int .i64 a.1.az.e1,.int .i64 a.1.az.e2,.int .i64 a.1.az.e3,.int .i64 a.1.aA.e0,.int .i64 a.1.aA.e1,.int .i64 a.1.aA.e2,.int .i64 a.1.aA.e3,.int .u64 a.1.au] 84)::(l,.cells #[.int .i64 u0.steps,.int .i64 u0.au,.slice d3 u0.aj.length c4] 87)::(z,.cells #[.slice d10 d.az.length u,.slice d17 d.aA.length w,.slice d24 d.au.length y] 27)::(k,.cells #[.int .i64 u0.steps,.int .i64 u0.au,.slice d3 u0.aj.length c4] 24)::[]⟩/\slot a5 33= .int .i64 (i41:Int)) u0.aj.length ?_ ?_
 .refine ⟨0,a.1,(Nat.sub_zero _).symm,Nat.zero_le _,i,rfl,?_⟩;simp only[*,go_sem,-h]
 rintro dT g F' f ⟨i41,b,rfl,ea,i,rfl,eb⟩;have h:=True.intro;have ec:sz g=92:=by rw[f.size];simp only[*,go_sem,-h]
 have ed:g.defers=[]:=by rw[f.defers];simp only[*,go_sem,-h]
 have eh:slot g 2= .pointer (some ⟨k,0,none⟩):=by rw[f.ay 2 av];simp only[*,go_sem,-h]
 have et:slot g 4= .bool false:=by rw[f.ay 4 av];simp only[*,go_sem,-h]
 have ev:slot g 5= .int .i64 0:=by rw[f.ay 5 av];simp only[*,go_sem,-h]
 have eQ:slot g 7= .pointer (some ⟨l,0,none⟩):=by rw[f.ay 7 av];simp only[*,go_sem,-h]
 have eS:slot g 8= .pointer (some ⟨o,0,none⟩):=by rw[f.ay 8 av];simp only[*,go_sem,-h]
 have fa:slot g 10= .pointer (some ⟨E,0,none⟩):=by rw[f.ay 10 av];simp only[*,go_sem,-h]
 have fb:slot g 31= .slice d3 u0.aj.length c4:=by rw[f.ay 31 av];simp only[*,go_sem,-h]
 have fc:slot g 32= .int .i64 (u0.aj.length:Int):=by rw[f.ay 32 av];simp only[*,go_sem,-h]
 clear f Z hd ab k1;refine af hJ ?_;refine ah hJ ?_;apply aa _;refine af hJ ?_;rcases Nat.lt_or_ge i41 u0.aj.length with a6|R
 .refine aN hJ ak ?_;refine aR hJ ?_;obtain ⟨c,G⟩:∃x,u0.aj[i41]?=some x:=⟨_,List.getElem?_eq_getElem a6⟩
  rw[er G] at i;have h':=an i;clear i h;obtain ⟨fg,h,a7⟩:=h';unfold vC at h;try dsimp only at h
  obtain ⟨B,fh,a8,a9,j⟩:=Y _ _ G;obtain ⟨fi,rfl,ba⟩:=a9;obtain ⟨d50,S,rfl,fj,fl,fp⟩:=id ba;cases a8;have bb:=j 0 _ rfl;simp only[go_sem] at bb;have bc:=j 1 _ rfl;simp only[go_sem] at bc;have bd:=j 2 _ rfl;simp only[go_sem] at bd;have bj:=j 3 _ rfl;simp only[go_sem] at bj;have bk:=j 4 _ rfl;simp only[go_sem] at bk;have bm:=j 5 _ rfl;simp only[go_sem] at bm;have bo:=j 6 _ rfl;simp only[go_sem] at bo;clear j G;refine af hJ ?_;refine aY hJ ?_;refine af hJ ?_;refine ah hJ ?_;apply aa _;intro T f56;have fr:=aV f56;have br:=aW f56;try simp only[aQ] at br
  try apply aa _
  refine af hJ ?_;refine cu hJ mixed 15 ⟨ro,[(T,.cells #[.string ⟨⟨c.name⟩⟩,.int .i64 c.from_.low,.int .i64 c.from_.high,.int .i64 c.wide,.int .i64 c.aC.low,.int .i64 c.aC.high,.slice d50 c.marks.length S] 56),(o,.cells #[.int .i64 a.1.az.e0,.int .i64 a.1.az.e1,.int .i64 a.1.az.e2,.int .i64 a.1.az.e3,.int .i64 a.1.aA.e0,.int .i64 a.1.aA.e1,.int .i64 a.1.aA.e2,.int .i64 a.1.aA.e3,.int .u64 a.1.au] 84),(l,.cells #[.int .i64 u0.steps,.int .i64 u0.au,.slice (some B) u0.aj.length c4] 87),(z,.cells #[.slice d10 d.az.length u,.slice d17 d.aA.length w,.slice d24 d.au.length y] 27),(k,.cells #[.int .i64 u0.steps,.int .i64 u0.au,.slice (some B) u0.aj.length c4] 24)]⟩ ak aT ?_;have h':=an h;clear h;obtain ⟨p,U,h⟩:=h';obtain ⟨fs,ft,-⟩:=bl.get_some U;have bs:([.int .i64 a.1.az.e0,.int .i64 a.1.az.e1,.int .i64 a.1.az.e2,.int .i64 a.1.az.e3,.int .i64 a.1.aA.e0,.int .i64 a.1.aA.e1,.int .i64 a.1.aA.e2,.int .i64 a.1.aA.e3,.int .u64 a.1.au]:List Value)[((i41:Int):Int).toNat]?=some (.int .i64 p):=bl.nF [.int .i64 a.1.aA.e0,.int .i64 a.1.aA.e1,.int .i64 a.1.aA.e2,.int .i64 a.1.aA.e3,.int .u64 a.1.au] U;try simp only[go_sem] at bs
  have h':=an h;clear h;obtain ⟨_x60,b0,h⟩:=h';obtain ⟨fu,fv,-⟩:=bl.get_some b0;have b1:((i41:Int):Int).toNat<4:=ai;have b2:0+((i41:Int):Int).toNat<9:=ai;try simp only[go_sem] at b1
  try simp only[go_sem] at b2
  have h':=an h;clear h;obtain ⟨e,b3,h⟩:=h';have fw:(([.int .i64 b.az.e0,.int .i64 b.az.e1,.int .i64 b.az.e2,.int .i64 b.az.e3,.int .i64 b.aA.e0,.int .i64 b.aA.e1,.int .i64 b.aA.e2,.int .i64 b.aA.e3,.int .u64 b.au]:List Value).set (i41) (.int .i64 (if c.from_.high<(if p<c.from_.low then c.from_.low else p) then c.from_.high else (if p<c.from_.low then c.from_.low else p)))).toArray=#[.int .i64 e.e0,.int .i64 e.e1,.int .i64 e.e2,.int .i64 e.e3,.int .i64 b.aA.e0,.int .i64 b.aA.e1,.int .i64 b.aA.e2,.int .i64 b.aA.e3,.int .u64 b.au]:=bl.y6 b3 [] [.int .i64 b.aA.e0,.int .i64 b.aA.e1,.int .i64 b.aA.e2,.int .i64 b.aA.e3,.int .u64 b.au] aB;try apply aa _
  refine cu hJ mixed 15 ⟨ro,[(T,.cells #[.string ⟨⟨c.name⟩⟩,.int .i64 c.from_.low,.int .i64 c.from_.high,.int .i64 c.wide,.int .i64 c.aC.low,.int .i64 c.aC.high,.slice d50 c.marks.length S] 56),(o,.cells #[.int .i64 a.1.az.e0,.int .i64 a.1.az.e1,.int .i64 a.1.az.e2,.int .i64 a.1.az.e3,.int .i64 a.1.aA.e0,.int .i64 a.1.aA.e1,.int .i64 a.1.aA.e2,.int .i64 a.1.aA.e3,.int .u64 a.1.au] 84),(l,.cells #[.int .i64 u0.steps,.int .i64 u0.au,.slice (some B) u0.aj.length c4] 87),(z,.cells #[.slice d10 d.az.length u,.slice d17 d.aA.length w,.slice d24 d.au.length y] 27),(k,.cells #[.int .i64 u0.steps,.int .i64 u0.au,.slice (some B) u0.aj.length c4] 24)]⟩ ak aT ?_;have h':=an h;clear h;obtain ⟨q,V,h⟩:=h';obtain ⟨fx,fz,-⟩:=bl.get_some V;have b4:([.int .i64 a.1.az.e0,.int .i64 a.1.az.e1,.int .i64 a.1.az.e2,.int .i64 a.1.az.e3,.int .i64 a.1.aA.e0,.int .i64 a.1.aA.e1,.int .i64 a.1.aA.e2,.int .i64 a.1.aA.e3,.int .u64 a.1.au]:List Value)[4+((i41:Int):Int).toNat]?=some (.int .i64 q):=bl.pS [.int .i64 a.1.az.e0,.int .i64 a.1.az.e1,.int .i64 a.1.az.e2,.int .i64 a.1.az.e3] [.int .u64 a.1.au] V;try simp only[go_sem] at b4
  have h':=an h;clear h;obtain ⟨_x68,ca,h⟩:=h';obtain ⟨gg,gj,-⟩:=bl.get_some ca;have cb:((i41:Int):Int).toNat<4:=ai;have cc:4+((i41:Int):Int).toNat<9:=ai;try simp only[go_sem] at cb
  try simp only[go_sem] at cc
  have h':=an h;clear h;obtain ⟨s,cd,h⟩:=h';have gl:(([.int .i64 e.e0,.int .i64 e.e1,.int .i64 e.e2,.int .i64 e.e3,.int .i64 b.aA.e0,.int .i64 b.aA.e1,.int .i64 b.aA.e2,.int .i64 b.aA.e3,.int .u64 b.au]:List Value).set (4+i41) (.int .i64 (if c.aC.high<(if q<c.aC.low then c.aC.low else q) then c.aC.high else (if q<c.aC.low then c.aC.low else q)))).toArray=#[.int .i64 e.e0,.int .i64 e.e1,.int .i64 e.e2,.int .i64 e.e3,.int .i64 s.e0,.int .i64 s.e1,.int .i64 s.e2,.int .i64 s.e3,.int .u64 b.au]:=bl.y6 cd [.int .i64 e.e0,.int .i64 e.e1,.int .i64 e.e2,.int .i64 e.e3] [.int .u64 b.au] aB;try apply aa _
  have h':=Option.some.inj h;clear h;subst h';have h:=True.intro;have gn:=dF (n:=i41) (by have:=X;omega);refine ah hJ ?_;apply aa _;refine ⟨u0.aj.length - (i41+1),ai,_,Le.sub (List.Sublist.cons _ (List.Sublist.refl _)),i41+1,(⟨e,s,b.au⟩:bw),rfl,ai,a7,rfl,?_⟩;simp only[*,go_sem,-h]
 have gp:=Nat.not_lt.2 R;refine aM hJ ak ?_;rw[List.drop_eq_nil_of_le R] at i;have h':=Option.some.inj i;clear i h;subst h';have h:=a4;dsimp only[aH] at h;refine bI ?_;simp only[go_sem];refine af hJ ?_;refine cu hJ mixed 25 ⟨ro,[(E,.cells #[.int .i64 b.az.e0,.int .i64 b.az.e1,.int .i64 b.az.e2,.int .i64 b.az.e3,.int .i64 b.aA.e0,.int .i64 b.aA.e1,.int .i64 b.aA.e2,.int .i64 b.aA.e3,.int .u64 b.au] 84),(o,.cells #[.int .i64 a.1.az.e0,.int .i64 a.1.az.e1,.int .i64 a.1.az.e2,.int .i64 a.1.az.e3,.int .i64 a.1.aA.e0,.int .i64 a.1.aA.e1,.int .i64 a.1.aA.e2,.int .i64 a.1.aA.e3,.int .u64 a.1.au] 84),(l,.cells #[.int .i64 u0.steps,.int .i64 u0.au,.slice d3 u0.aj.length c4] 87),(z,.cells #[.slice d10 d.az.length u,.slice d17 d.aA.length w,.slice d24 d.au.length y] 27),(k,.cells #[.int .i64 u0.steps,.int .i64 u0.au,.slice d3 u0.aj.length c4] 24)]⟩ ak aT ?_;have h':=aD h;clear h;rcases h' with ⟨H,h⟩|⟨H,h⟩
 .try simp only[Int.ofNat_lt] at H
  have h':=aD h;clear h;rcases h' with ⟨I,h⟩|⟨I,h⟩
  ·(try simp only[Int.ofNat_lt] at I);have h':=an h;clear h;obtain ⟨gy,cf,h⟩:=h';(try apply aa _);refine ⟨_,eo hJ fun F hF=>yR a.1.au cf,e6 ?_⟩;have h':=aD h;clear h;rcases h' with ⟨K,h⟩|⟨K,h⟩
   ·(try simp only[Int.ofNat_lt] at K);have h':=an h;clear h;obtain ⟨g0,ck,h⟩:=h';(try apply aa _);refine ⟨_,eo hJ fun F hF=>yX u0 (t.mono (lB hF)) a.1 ck,e6 ?_⟩;(try apply aa _);have h':=Option.some.inj h;clear h;subst h';refine aG ?_;simp only[*,go_sem]
   (try simp only[Int.ofNat_lt] at K);(try apply aa _);have h':=Option.some.inj h;clear h;subst h';refine aG ?_;simp only[*,go_sem]
  try simp only[Int.ofNat_lt] at I
  try apply aa _
  have h':=Option.some.inj h;clear h;subst h';refine aG ?_;simp only[*,go_sem]
 try simp only[Int.ofNat_lt] at H
 try apply aa _
 have h':=Option.some.inj h;clear h;subst h';refine aG ?_;simp only[*,go_sem]
def vE (b:(List bf))(st:(Int×(List bf))):Option (Fl (Int×(List bf)) aL):=
 cond (decide (st.1<(b.length:Int))) (ax (bM st.2 st.1) fun a=>ax (oa a.marks) fun c=>some (.nx ((IntKind.i64.wrap (st.1+1)),(st.2.set (st.1).toNat (⟨a.name,a.from_,a.wide,a.aC,c⟩:bf))))) (some (.bk (st.1,st.2)))
def qV (u0:aL):Option aL:=
 ax (uv u0.aj) fun a=>ax (bg (vE a) fu (0,a)) fun o=>aH o (fun b=>some (⟨u0.steps,u0.au,b.2⟩:aL)) (fun _ _=>none) (fun r=>some r)
theorem Ai {ro:Addr->Option Value}(u0:aL){s1:Value}(R:aI bK ro s1 u0.aj){r:aL}(h:qV u0=some r):aF Tryz.prog 80 #[.agg #[.int .i64 u0.steps,.int .i64 u0.au,s1]] ⟨ro,[]⟩ (fun v G=>∃aK z,Ext ro aK/\Le ⟨aK,z⟩ G/\∃S,v= .agg #[.int .i64 r.steps,.int .i64 r.au,S]/\bx bK aK 56 S r.aj z):=by
 obtain ⟨d3,c4,rfl,b0,b1,b2⟩:=id R;unfold qV at h;refine aF.go Tryz.func80 rfl Tryz.ntmps80 Tryz.results80 aB fun main J hJ A a6 hd hs=>?_;have a7:=hs 0;clear hs;refine af hJ ?_;refine ah hJ ?_;apply aa _;intro c f8;have K:=aV f8;have a8:=aW f8;try simp only[aQ] at a8
 intro d f9;have L:=aV f9;have a9:=aW f9;try simp only[aQ] at a9
 try apply aa _
 refine af hJ ?_;refine aJ hJ fun b3=>?_;refine ah hJ ?_;have h':=an h;clear h;obtain ⟨b,ba,h⟩:=h';apply aa _;refine dA hJ (bz:=[]) [(d,.cells #[.int .i64 0,.int .i64 0,.slice none 0 0] 24),(c,.cells #[.int .i64 u0.steps,.int .i64 u0.au,.slice d3 u0.aj.length c4] 24)] [] (by first|rfl|simp only[bh]|(simp only[bh];rfl)) _ (Eo u0.aj R ba) (fun b4 T U z bb ca=>?_);simp only[bh] at bb;subst z;obtain ⟨d17,e,rfl,cb⟩:=U.len;refine ⟨⟨ro,(d,.cells #[.int .i64 0,.int .i64 0,.slice none 0 0] 24)::(c,.cells #[.int .i64 u0.steps,.int .i64 u0.au,.slice d3 u0.aj.length c4] 24)::T⟩,Le.refl _,?_⟩;refine aS ?_;try apply aa _
 refine af hJ ?_;refine af hJ ?_;refine aJ hJ fun cc=>?_;refine ah hJ ?_;apply aa _;refine aY hJ ?_;have h':=an h;clear h;obtain ⟨bc,t,bd⟩:=h';have h:=True.intro;refine bO hJ [3,4,12,13,14,15,16,17,18,19,20,21,22,23,24,25] (fun m bj F'=>∃(n:Addr->Option Value) (B:List (Nat×Obj)) (f:Int) (u:(List bf)),bg (vE b) m (f,u)=some bc/\F'=⟨n,(d,.cells #[.int .i64 0,.int .i64 0,.slice none 0 0] 24)::(c,.cells #[.int .i64 u0.steps,.int .i64 u0.au,.slice d17 b.length e] 24)::B⟩/\Ext ro n/\bx bK n 56 (.slice d17 b.length e) u B/\slot bj 12= .int .i64 f) fu ?_ ?_
 .refine ⟨ro,T,0,b,t,rfl,Ext.refl _,U,?_⟩;simp only[*,go_sem,-h]
 rintro M p F' j ⟨n,B,f,u,t,rfl,V,q,cd⟩;have h:=True.intro;refine iJ hJ fun _ C=>?_;have C:aP n ((d,.cells #[.int .i64 0,.int .i64 0,.slice none 0 0] 24)::(c,.cells #[.int .i64 u0.steps,.int .i64 u0.au,.slice d17 b.length e] 24)::B):=C;replace L:=C.hd;replace K:=C.tl.hd;have cf:sz p=27:=by rw[j.size];simp only[*,go_sem,-h]
 have ck:p.defers=[]:=by rw[j.defers];simp only[*,go_sem,-h]
 have cl:slot p 1= .pointer (some ⟨c,0,none⟩):=by rw[j.ay 1 av];simp only[*,go_sem,-h]
 have cy:slot p 2= .pointer (some ⟨d,0,none⟩):=by rw[j.ay 2 av];simp only[*,go_sem,-h]
 have c0:slot p 10= .slice d17 b.length e:=by rw[j.ay 10 av];simp only[*,go_sem,-h]
 have da:slot p 11= .int .i64 (b.length:Int):=by rw[j.ay 11 av];simp only[*,go_sem,-h]
 clear j a6 hd a7;obtain _|M:=M
 .exact absurd t (by simp only[bg,reduceCtorEq,not_false_eq_true])
 have h':=an t;clear t h;obtain ⟨db,h,N⟩:=h';unfold vE at h;try dsimp only at h
 refine af hJ ?_;refine aJ hJ fun dd=>?_;refine ah hJ ?_;apply aa _;refine af hJ ?_;have h':=aD h;clear h;rcases h' with ⟨O,h⟩|⟨O,h⟩
 .try simp only[Int.ofNat_lt] at O
  refine aN hJ ak ?_;refine aR hJ ?_;refine af hJ ?_;refine aY hJ ?_;refine af hJ ?_;refine aJ hJ fun W=>?_;refine ah hJ ?_;have h':=an h;clear h;obtain ⟨a,bk,h⟩:=h';obtain ⟨df,dk,X⟩:=dc bk;have dp:f<((b.length:Nat):Int):=by have:=q.count;omega
  obtain ⟨g,P,dq,rfl,rfl,ds,bm,i⟩:=q.sQ X;obtain ⟨dt,rfl,w⟩:=bm;obtain ⟨d40,x,rfl,du,dv,Y⟩:=id w;have bo:=W.nd;simp only[keys,List.map_cons,List.map_nil,List.map_append,List.cons_append,List.nil_append,List.nodup_cons,List.mem_cons,List.mem_append,List.not_mem_nil,or_false,not_or] at bo;have Z:=i 0 _ rfl;simp only[go_sem] at Z;have dC:=(Array.getElem?_eq_some_iff.1 Z).1;have ab:=i 1 _ rfl;simp only[go_sem] at ab;have dE:=(Array.getElem?_eq_some_iff.1 ab).1;have ad:=i 2 _ rfl;simp only[go_sem] at ad;have dT:=(Array.getElem?_eq_some_iff.1 ad).1;have ae:=i 3 _ rfl;simp only[go_sem] at ae;have ea:=(Array.getElem?_eq_some_iff.1 ae).1;have al:=i 4 _ rfl;simp only[go_sem] at al;have eb:=(Array.getElem?_eq_some_iff.1 al).1;have ao:=i 5 _ rfl;simp only[go_sem] at ao;have ec:=(Array.getElem?_eq_some_iff.1 ao).1;have ar:=i 6 _ rfl;simp only[go_sem] at ar;have ed:=(Array.getElem?_eq_some_iff.1 ar).1;try apply aa _
  intro D f47;have a0:=aV f47;have a2:=aW f47;have eh:=bP.cons a2 W;try simp only[aQ] at a2
  try apply aa _
  refine aJ hJ fun et=>?_;refine cu hJ mixed 5 ⟨n,[(D,.cells #[.string ⟨⟨a.name⟩⟩,.int .i64 a.from_.low,.int .i64 a.from_.high,.int .i64 a.wide,.int .i64 a.aC.low,.int .i64 a.aC.high,.slice d40 a.marks.length x] 56),(d,.cells #[.int .i64 0,.int .i64 0,.slice none 0 0] 24),(c,.cells #[.int .i64 u0.steps,.int .i64 u0.au,.slice (some ⟨g,0,none⟩) b.length e] 24)]⟩ ak aT ?_;have h':=an h;clear h;obtain ⟨k,br,h⟩:=h';apply aa _;refine cz hJ _ (En a.marks w br) fun v E H s hR=>?_;obtain ⟨ev,rfl,a3⟩:=hR;have s:aP E ((D,.cells #[.string ⟨⟨a.name⟩⟩,.int .i64 a.from_.low,.int .i64 a.from_.high,.int .i64 a.wide,.int .i64 a.aC.low,.int .i64 a.aC.high,.slice d40 a.marks.length x] 56)::(d,.cells #[.int .i64 0,.int .i64 0,.slice none 0 0] 24)::(c,.cells #[.int .i64 u0.steps,.int .i64 u0.au,.slice (some ⟨g,0,none⟩) b.length e] 24)::[(g,Obj.cells P 56)]):=s;replace w:=w.mono H;clear Y;obtain ⟨_,_,Y⟩:=w.op;replace a0:=s.hd;replace L:=s.tl.hd;replace K:=s.tl.tl.hd;replace q:=q.mono H s.tl.tl.tl;obtain ⟨d69,I,rfl,eQ,eS,e0⟩:=id a3;have e1:=fD (l:=[(D,.cells #[.string ⟨⟨a.name⟩⟩,.int .i64 a.from_.low,.int .i64 a.from_.high,.int .i64 a.wide,.int .i64 a.aC.low,.int .i64 a.aC.high,.slice d40 a.marks.length x] 56),(d,.cells #[.int .i64 0,.int .i64 0,.slice none 0 0] 24),(c,.cells #[.int .i64 u0.steps,.int .i64 u0.au,.slice (some ⟨g,0,none⟩) b.length e] 24)]) H (aP.cons a0 (aP.cons L (aP.cons K (aP.nil _))));refine ⟨ak,?_⟩;refine g8 ?_;have a4:bx bK E 56 (.slice (some ⟨g,0,none⟩) b.length e) (u.set (f).toNat (⟨a.name,a.from_,a.wide,a.aC,k⟩:bf)) [(g,Obj.cells (bS P ((f).toNat*7+6) [.slice d69 k.length I]) 56)]:=by have bs:=q.part (y:=(⟨a.name,a.from_,a.wide,a.aC,k⟩:bf)) X 6 [.slice d69 k.length I] [.string ⟨⟨a.name⟩⟩,.int .i64 a.from_.low,.int .i64 a.from_.high,.int .i64 a.wide,.int .i64 a.aC.low,.int .i64 a.aC.high,.slice d40 a.marks.length x] [.string ⟨⟨a.name⟩⟩,.int .i64 a.from_.low,.int .i64 a.from_.high,.int .i64 a.wide,.int .i64 a.aC.low,.int .i64 a.aC.high,.slice d69 k.length I] i rfl rfl aB ⟨_,rfl,a3⟩;exact bs
  try apply aa _
  obtain ⟨a5,Q⟩:∃o,o=(bS P ((f).toNat*7+6) [.slice d69 k.length I]):=⟨_,rfl⟩
  refine cv (F:=⟨E,(D,.cells #[.string ⟨⟨a.name⟩⟩,.int .i64 a.from_.low,.int .i64 a.from_.high,.int .i64 a.wide,.int .i64 a.aC.low,.int .i64 a.aC.high,.slice d40 a.marks.length x] 56)::(d,.cells #[.int .i64 0,.int .i64 0,.slice none 0 0] 24)::(c,.cells #[.int .i64 u0.steps,.int .i64 u0.au,.slice (some ⟨g,0,none⟩) b.length e] 24)::[(g,Obj.cells a5 56)]⟩) hJ (by rw[Q];exact Le.refl _) ?_;rw[<-Q] at a4;clear Q;refine aJ hJ fun e2=>?_;refine ah hJ ?_;apply aa _;have h':=Option.some.inj h;clear h;subst h';have h:=True.intro;try apply aa _
  refine ⟨M,Nat.lt_succ_self _,_,Le.sub (List.Sublist.cons _ (List.Sublist.refl _)),E,[(g,Obj.cells a5 56)],(IntKind.i64.wrap (f+1)),(u.set (f).toNat (⟨a.name,a.from_,a.wide,a.aC,k⟩:bf)),N,rfl,(V.trans H),a4,?_⟩;simp only[*,go_sem,-h]
 try simp only[Int.ofNat_lt] at O
 refine aM hJ ak ?_;refine bI ?_;simp only[go_sem];have h':=Option.some.inj h;clear h;subst h';have h':=Option.some.inj N;clear N;subst h';have h:=bd;dsimp only[aH] at h;refine af hJ ?_;refine aJ hJ fun e3=>?_;refine ah hJ ?_;apply aa _;have h':=Option.some.inj h;clear h;subst h';refine aG ?_;apply bt _;exact ⟨_,_,V,Le.sub (.cons _ (.cons _ (List.Sublist.refl _))),_,rfl,q⟩
def vF (u0:aL)(a:bf):Option (aL×Int):=
 ax (fN u0) fun c=>cond ((c != 0)) (some ((⟨0,0,([]:(List bf))⟩:aL),c)) (ax (qV u0) fun b=>ax (oa a.marks) fun e=>ax (fZ b.aj ([(⟨a.name,a.from_,a.wide,a.aC,e⟩:bf)])) fun f=>ax (qQ (⟨b.steps,b.au,f⟩:aL)) fun d=>some (d.1,d.2))
theorem vG {ro:Addr->Option Value}(m:dh ro)(u0:aL){s1:Value}(e:aI bK ro s1 u0.aj)(a:bf){X:Value}(j:aI dJ ro X a.marks){r:(aL×Int)}(h:vF u0 a=some r):ee Tryz.prog 28 #[.agg #[.int .i64 u0.steps,.int .i64 u0.au,s1],.agg #[.string ⟨⟨a.name⟩⟩,.int .i64 a.from_.low,.int .i64 a.from_.high,.int .i64 a.wide,.int .i64 a.aC.low,.int .i64 a.aC.high,X]] ro (fun v aK=>∃Y,v= .tuple #[.agg #[.int .i64 r.1.steps,.int .i64 r.1.au,Y],.int .i64 r.2]/\aI bK aK Y r.1.aj):=by
 obtain ⟨d3,c4,rfl,b1,b2,n⟩:=id e;obtain ⟨d10,Q,rfl,b3,b4,o⟩:=id j;unfold vF at h;refine aF.go Tryz.func28 rfl Tryz.ntmps28 Tryz.results28 aB fun main J hJ A ca hd hs=>?_;have cb:=hs 0;have k1:=hs 1;clear hs;refine af hJ ?_;refine ah hJ ?_;apply aa _;intro f f15;have y:=aV f15;have a4:=aW f15;try simp only[aQ] at a4
 intro g f16;have z:=aV f16;have a5:=aW f16;try simp only[aQ] at a5
 intro i f17;have B:=aV f17;have a6:=aW f17;try simp only[aQ] at a6
 try apply aa _
 refine af hJ ?_;refine af hJ ?_;refine ah hJ ?_;have h':=an h;clear h;obtain ⟨cc,a7,h⟩:=h';apply aa _;refine bp hJ _ (jm (m.mono aZ) u0 (e.mono aZ) a7) (aS ?_);try apply aa _
 refine af hJ ?_;refine ah hJ ?_;apply aa _;have h':=aD h;clear h;rcases h' with ⟨U,h⟩|⟨U,h⟩
 .try simp only[Int.ofNat_lt] at U
  refine aN hJ ak ?_;refine af hJ ?_;refine ah hJ ?_;apply aa _;have h':=Option.some.inj h;clear h;subst h';refine aG ?_;apply bt _;exact ⟨_,Ext.refl _,Le.sub (List.nil_sublist _),_,rfl,aI.nil _ _⟩
 try simp only[Int.ofNat_lt] at U
 refine aM hJ ak ?_;refine aR hJ ?_;refine af hJ ?_;refine ah hJ ?_;have h':=an h;clear h;obtain ⟨b,a8,h⟩:=h';apply aa _;refine y8 hJ _ (Ai u0 e a8) [(i,.cells #[.int .i64 0,.int .i64 0,.slice none 0 0] 24),(g,.cells #[.string ⟨⟨a.name⟩⟩,.int .i64 a.from_.low,.int .i64 a.from_.high,.int .i64 a.wide,.int .i64 a.aC.low,.int .i64 a.aC.high,.slice d10 a.marks.length Q] 56),(f,.cells #[.int .i64 u0.steps,.int .i64 u0.au,.slice d3 u0.aj.length c4] 24)] [] (by first|rfl|simp only[bh]|(simp only[bh];rfl)) fun v Z C R G hR H I a9=>?_;obtain ⟨cd,rfl,K⟩:=hR;simp only[bh] at I;subst H;have G:aP Z ((i,.cells #[.int .i64 0,.int .i64 0,.slice none 0 0] 24)::(g,.cells #[.string ⟨⟨a.name⟩⟩,.int .i64 a.from_.low,.int .i64 a.from_.high,.int .i64 a.wide,.int .i64 a.aC.low,.int .i64 a.aC.high,.slice d10 a.marks.length Q] 56)::(f,.cells #[.int .i64 u0.steps,.int .i64 u0.au,.slice d3 u0.aj.length c4] 24)::[]):=G;replace e:=e.mono R;clear n;obtain ⟨_,_,n⟩:=e.op;replace j:=j.mono R;clear o;obtain ⟨_,_,o⟩:=j.op;replace B:=G.hd;replace z:=G.tl.hd;replace y:=G.tl.tl.hd;replace m:=m.mono R;obtain ⟨d27,p,rfl,cf⟩:=K.len;refine aS ?_;try apply aa _
 intro k f34;have L:=aV f34;have ab:=aW f34;have ck:=bP.cons ab a9;try simp only[aQ] at ab
 try apply aa _
 refine af hJ ?_;refine aJ hJ fun cl=>?_;refine ah hJ ?_;have h':=an h;clear h;obtain ⟨c,ba,h⟩:=h';apply aa _;refine dA hJ (bz:=[]) [(k,.cells #[.int .i64 b.steps,.int .i64 b.au,.slice d27 b.aj.length p] 24),(i,.cells #[.int .i64 0,.int .i64 0,.slice none 0 0] 24),(g,.cells #[.string ⟨⟨a.name⟩⟩,.int .i64 a.from_.low,.int .i64 a.from_.high,.int .i64 a.wide,.int .i64 a.aC.low,.int .i64 a.aC.high,.slice d10 a.marks.length Q] 56),(f,.cells #[.int .i64 u0.steps,.int .i64 u0.au,.slice d3 u0.aj.length c4] 24)] C (by first|rfl|simp only[bh]|(simp only[bh];rfl)) _ (y7 a.marks j ba) (fun cy bb ad H I c0=>?_);simp only[bh] at I;subst H;obtain ⟨d43,d,rfl,da⟩:=ad.len;refine ⟨⟨Z,(k,.cells #[.int .i64 b.steps,.int .i64 b.au,.slice d27 b.aj.length p] 24)::(i,.cells #[.int .i64 0,.int .i64 0,.slice none 0 0] 24)::(g,.cells #[.string ⟨⟨a.name⟩⟩,.int .i64 a.from_.low,.int .i64 a.from_.high,.int .i64 a.wide,.int .i64 a.aC.low,.int .i64 a.aC.high,.slice d10 a.marks.length Q] 56)::(f,.cells #[.int .i64 u0.steps,.int .i64 u0.au,.slice d3 u0.aj.length c4] 24)::(bb++C)⟩,Le.refl _,?_⟩;refine aS ?_;try apply aa _
 refine af hJ ?_;refine aJ hJ fun ae=>?_;obtain ⟨V,M,s,q,bc⟩:=ad.gA ((k,.cells #[.int .i64 b.steps,.int .i64 b.au,.slice d27 b.aj.length p] 24)::(i,.cells #[.int .i64 0,.int .i64 0,.slice none 0 0] 24)::(g,.cells #[.string ⟨⟨a.name⟩⟩,.int .i64 a.from_.low,.int .i64 a.from_.high,.int .i64 a.wide,.int .i64 a.aC.low,.int .i64 a.aC.high,.slice d43 c.length d] 56)::(f,.cells #[.int .i64 u0.steps,.int .i64 u0.au,.slice d3 u0.aj.length c4] 24)::C) [(k,.cells #[.int .i64 b.steps,.int .i64 b.au,.slice d27 b.aj.length p] 24),(i,.cells #[.int .i64 0,.int .i64 0,.slice none 0 0] 24),(g,.cells #[.string ⟨⟨a.name⟩⟩,.int .i64 a.from_.low,.int .i64 a.from_.high,.int .i64 a.wide,.int .i64 a.aC.low,.int .i64 a.aC.high,.slice d43 c.length d] 56),(f,.cells #[.int .i64 u0.steps,.int .i64 u0.au,.slice d3 u0.aj.length c4] 24)] C (by first|rfl|simp only[bh]|(simp only[bh];rfl)) (by first|rfl|simp only[bh]|(simp only[bh];rfl)) ae (aP.cons L (aP.cons B (aP.cons z (aP.cons y (K.CO)))));clear ae;refine cv (F:=⟨V,(k,.cells #[.int .i64 b.steps,.int .i64 b.au,.slice d27 b.aj.length p] 24)::(i,.cells #[.int .i64 0,.int .i64 0,.slice none 0 0] 24)::(g,.cells #[.string ⟨⟨a.name⟩⟩,.int .i64 a.from_.low,.int .i64 a.from_.high,.int .i64 a.wide,.int .i64 a.aC.low,.int .i64 a.aC.high,.slice d43 c.length d] 56)::(f,.cells #[.int .i64 u0.steps,.int .i64 u0.au,.slice d3 u0.aj.length c4] 24)::C⟩) hJ bc ?_;obtain ⟨db,dd,S⟩:=q.op;have s:aP V ((k,.cells #[.int .i64 b.steps,.int .i64 b.au,.slice d27 b.aj.length p] 24)::(i,.cells #[.int .i64 0,.int .i64 0,.slice none 0 0] 24)::(g,.cells #[.string ⟨⟨a.name⟩⟩,.int .i64 a.from_.low,.int .i64 a.from_.high,.int .i64 a.wide,.int .i64 a.aC.low,.int .i64 a.aC.high,.slice d43 c.length d] 56)::(f,.cells #[.int .i64 u0.steps,.int .i64 u0.au,.slice d3 u0.aj.length c4] 24)::C):=s;replace e:=e.mono M;clear n;obtain ⟨_,_,n⟩:=e.op;replace j:=j.mono M;clear o;obtain ⟨_,_,o⟩:=j.op;replace L:=s.hd;replace B:=s.tl.hd;replace z:=s.tl.tl.hd;replace y:=s.tl.tl.tl.hd;replace K:=K.mono M s.tl.tl.tl.tl;replace m:=m.mono M;refine aJ hJ fun bd=>?_;refine ah hJ ?_;have h':=an h;clear h;obtain ⟨D,bj,h⟩:=h';obtain ⟨bk,al⟩:=iF bj;apply aa _;intro t f69;have T:=aV f69;have ao:=aW f69;have bm:=bP.cons ao bd;try simp only[aQ] at ao
 try apply aa _
 refine iH (r:=bK) (l:=b.aj) (x:=(⟨a.name,a.from_,a.wide,a.aC,c⟩:bf)) (cs:=#[.string ⟨⟨a.name⟩⟩,.int .i64 a.from_.low,.int .i64 a.from_.high,.int .i64 a.wide,.int .i64 a.aC.low,.int .i64 a.aC.high,.slice d43 c.length d]) (e2:=56) [(t,.cells #[.string ⟨⟨a.name⟩⟩,.int .i64 a.from_.low,.int .i64 a.from_.high,.int .i64 a.wide,.int .i64 a.aC.low,.int .i64 a.aC.high,.slice d43 c.length d] 56),(k,.cells #[.int .i64 b.steps,.int .i64 b.au,.slice d27 b.aj.length p] 24),(i,.cells #[.int .i64 0,.int .i64 0,.slice none 0 0] 24),(g,.cells #[.string ⟨⟨a.name⟩⟩,.int .i64 a.from_.low,.int .i64 a.from_.high,.int .i64 a.wide,.int .i64 a.aC.low,.int .i64 a.aC.high,.slice d43 c.length d] 56),(f,.cells #[.int .i64 u0.steps,.int .i64 u0.au,.slice d3 u0.aj.length c4] 24)] [] (by first|rfl|simp only[bh]|(simp only[bh];rfl)) K bm bk ⟨_,rfl,q⟩ ak T rfl rfl lC lC sL sN rfl sM av av (fun df bo W H I dk=>?_);simp only[bh] at I;subst H;rw[<-al] at W;clear al;obtain ⟨d77,N,rfl,dp⟩:=W.len;refine ⟨⟨V,(t,.cells #[.string ⟨⟨a.name⟩⟩,.int .i64 a.from_.low,.int .i64 a.from_.high,.int .i64 a.wide,.int .i64 a.aC.low,.int .i64 a.aC.high,.slice d43 c.length d] 56)::(k,.cells #[.int .i64 b.steps,.int .i64 b.au,.slice d27 b.aj.length p] 24)::(i,.cells #[.int .i64 0,.int .i64 0,.slice none 0 0] 24)::(g,.cells #[.string ⟨⟨a.name⟩⟩,.int .i64 a.from_.low,.int .i64 a.from_.high,.int .i64 a.wide,.int .i64 a.aC.low,.int .i64 a.aC.high,.slice d43 c.length d] 56)::(f,.cells #[.int .i64 u0.steps,.int .i64 u0.au,.slice d3 u0.aj.length c4] 24)::bo⟩,Le.refl _,?_⟩;refine aS ?_;try apply aa _
 refine af hJ ?_;refine aJ hJ fun ar=>?_;obtain ⟨a0,O,u,P,br⟩:=W.gA ((t,.cells #[.string ⟨⟨a.name⟩⟩,.int .i64 a.from_.low,.int .i64 a.from_.high,.int .i64 a.wide,.int .i64 a.aC.low,.int .i64 a.aC.high,.slice d43 c.length d] 56)::(k,.cells #[.int .i64 b.steps,.int .i64 b.au,.slice d77 D.length N] 24)::(i,.cells #[.int .i64 0,.int .i64 0,.slice none 0 0] 24)::(g,.cells #[.string ⟨⟨a.name⟩⟩,.int .i64 a.from_.low,.int .i64 a.from_.high,.int .i64 a.wide,.int .i64 a.aC.low,.int .i64 a.aC.high,.slice d43 c.length d] 56)::(f,.cells #[.int .i64 u0.steps,.int .i64 u0.au,.slice d3 u0.aj.length c4] 24)::[]) [(t,.cells #[.string ⟨⟨a.name⟩⟩,.int .i64 a.from_.low,.int .i64 a.from_.high,.int .i64 a.wide,.int .i64 a.aC.low,.int .i64 a.aC.high,.slice d43 c.length d] 56),(k,.cells #[.int .i64 b.steps,.int .i64 b.au,.slice d77 D.length N] 24),(i,.cells #[.int .i64 0,.int .i64 0,.slice none 0 0] 24),(g,.cells #[.string ⟨⟨a.name⟩⟩,.int .i64 a.from_.low,.int .i64 a.from_.high,.int .i64 a.wide,.int .i64 a.aC.low,.int .i64 a.aC.high,.slice d43 c.length d] 56),(f,.cells #[.int .i64 u0.steps,.int .i64 u0.au,.slice d3 u0.aj.length c4] 24)] [] (by first|rfl|simp only[bh]|(simp only[bh];rfl)) (by first|rfl|simp only[bh]|(simp only[bh];rfl)) ar (aP.cons T (aP.cons L (aP.cons B (aP.cons z (aP.cons y (aP.nil _))))));clear ar;refine cv (F:=⟨a0,(t,.cells #[.string ⟨⟨a.name⟩⟩,.int .i64 a.from_.low,.int .i64 a.from_.high,.int .i64 a.wide,.int .i64 a.aC.low,.int .i64 a.aC.high,.slice d43 c.length d] 56)::(k,.cells #[.int .i64 b.steps,.int .i64 b.au,.slice d77 D.length N] 24)::(i,.cells #[.int .i64 0,.int .i64 0,.slice none 0 0] 24)::(g,.cells #[.string ⟨⟨a.name⟩⟩,.int .i64 a.from_.low,.int .i64 a.from_.high,.int .i64 a.wide,.int .i64 a.aC.low,.int .i64 a.aC.high,.slice d43 c.length d] 56)::(f,.cells #[.int .i64 u0.steps,.int .i64 u0.au,.slice d3 u0.aj.length c4] 24)::[]⟩) hJ br ?_;obtain ⟨dq,ds,a2⟩:=P.op;have u:aP a0 ((t,.cells #[.string ⟨⟨a.name⟩⟩,.int .i64 a.from_.low,.int .i64 a.from_.high,.int .i64 a.wide,.int .i64 a.aC.low,.int .i64 a.aC.high,.slice d43 c.length d] 56)::(k,.cells #[.int .i64 b.steps,.int .i64 b.au,.slice d77 D.length N] 24)::(i,.cells #[.int .i64 0,.int .i64 0,.slice none 0 0] 24)::(g,.cells #[.string ⟨⟨a.name⟩⟩,.int .i64 a.from_.low,.int .i64 a.from_.high,.int .i64 a.wide,.int .i64 a.aC.low,.int .i64 a.aC.high,.slice d43 c.length d] 56)::(f,.cells #[.int .i64 u0.steps,.int .i64 u0.au,.slice d3 u0.aj.length c4] 24)::[]):=u;replace e:=e.mono O;clear n;obtain ⟨_,_,n⟩:=e.op;replace j:=j.mono O;clear o;obtain ⟨_,_,o⟩:=j.op;replace q:=q.mono O;clear S;obtain ⟨_,_,S⟩:=q.op;replace T:=u.hd;replace L:=u.tl.hd;replace B:=u.tl.tl.hd;replace z:=u.tl.tl.tl.hd;replace y:=u.tl.tl.tl.tl.hd;replace m:=m.mono O;refine ah hJ ?_;have h':=an h;clear h;obtain ⟨dt,bs,h⟩:=h';apply aa _;refine cz hJ _ (vt m (⟨b.steps,b.au,D⟩:aL) P bs) fun v b0 E w hR=>?_;obtain ⟨du,rfl,a3⟩:=hR;have w:aP b0 ((t,.cells #[.string ⟨⟨a.name⟩⟩,.int .i64 a.from_.low,.int .i64 a.from_.high,.int .i64 a.wide,.int .i64 a.aC.low,.int .i64 a.aC.high,.slice d43 c.length d] 56)::(k,.cells #[.int .i64 b.steps,.int .i64 b.au,.slice d77 D.length N] 24)::(i,.cells #[.int .i64 0,.int .i64 0,.slice none 0 0] 24)::(g,.cells #[.string ⟨⟨a.name⟩⟩,.int .i64 a.from_.low,.int .i64 a.from_.high,.int .i64 a.wide,.int .i64 a.aC.low,.int .i64 a.aC.high,.slice d43 c.length d] 56)::(f,.cells #[.int .i64 u0.steps,.int .i64 u0.au,.slice d3 u0.aj.length c4] 24)::[]):=w;replace e:=e.mono E;clear n;obtain ⟨_,_,n⟩:=e.op;replace j:=j.mono E;clear o;obtain ⟨_,_,o⟩:=j.op;replace P:=P.mono E;clear a2;obtain ⟨_,_,a2⟩:=P.op;replace q:=q.mono E;clear S;obtain ⟨_,_,S⟩:=q.op;replace T:=w.hd;replace L:=w.tl.hd;replace B:=w.tl.tl.hd;replace z:=w.tl.tl.tl.hd;replace y:=w.tl.tl.tl.tl.hd;replace m:=m.mono E;obtain ⟨d99,dv,rfl,dC,dE,dT⟩:=id a3;refine aS ?_;try apply aa _
 have h':=Option.some.inj h;clear h;subst h';refine aG ?_;apply bt _;exact ⟨_,(((R).trans M).trans O).trans E,Le.sub (List.nil_sublist _),_,rfl,a3⟩
theorem Gc {ro:Addr->Option Value}{b off:Nat}:aF Tryz.prog 91 #[.pointer (some ⟨b,off,none⟩)] ⟨ro,[]⟩ (fun v _=>v= .pointer (some ⟨b,off+1,none⟩)):=by
 refine aF.go Tryz.func91 rfl Tryz.ntmps91 Tryz.results91 aB fun main J hJ A a hd hs=>?_;have c:=hs 0;clear hs;repeat refine af hJ ?_
 refine ah hJ ?_;apply bt _;repeat refine af hJ ?_
 refine ah hJ ?_;apply bt _;refine aG ?_;simp only[*,go_sem]
theorem qW {α:Type}{l:List α}{i:Nat}{x y:α}(h:l[i]?=some x):(l.set i y)[i]?=some y:=by
 rw[List.getElem?_set_self (List.getElem?_eq_some_iff.1 h).1]
def vH (u0:aL)(c:Int)(b:bU)(g:Int)(h:Int):Option (aL×Int):=
 ax (fN u0) fun e=>cond ((e != 0)) (some ((⟨0,0,([]:(List bf))⟩:aL),e)) (ax (lU u0 c) fun i=>cond (!i) (some ((⟨0,0,([]:(List bf))⟩:aL),6)) (cond (decide (b.low<g)) (some ((⟨0,0,([]:(List bf))⟩:aL),1)) (cond (decide (b.high<b.low)) (some ((⟨0,0,([]:(List bf))⟩:aL),1)) (cond (decide (h<b.high)) (some ((⟨0,0,([]:(List bf))⟩:aL),1)) (ax (qV u0) fun d=>ax (bM d.aj c) fun a=>cond (decide ((if b.high<a.from_.high then b.high else a.from_.high)<(if a.from_.low<b.low then b.low else a.from_.low))) (some ((⟨0,0,([]:(List bf))⟩:aL),9)) (ax (qQ (⟨d.steps,d.au,((d.aj.set (c).toNat (⟨a.name,(⟨(if a.from_.low<b.low then b.low else a.from_.low),a.from_.high⟩:bU),a.wide,a.aC,a.marks⟩:bf)).set (c).toNat (⟨a.name,(⟨(if a.from_.low<b.low then b.low else a.from_.low),(if b.high<a.from_.high then b.high else a.from_.high)⟩:bU),a.wide,a.aC,a.marks⟩:bf))⟩:aL)) fun f=>some (f.1,f.2)))))))
theorem Gd {ro:Addr->Option Value}(m:dh ro)(u0:aL){s1:Value}(f:aI bK ro s1 u0.aj)(e:Int)(b:bU)(bb:Int)(bc:Int){r:(aL×Int)}(h:vH u0 e b bb bc=some r):ee Tryz.prog 86 #[.agg #[.int .i64 u0.steps,.int .i64 u0.au,s1],.int .i64 e,.agg #[.int .i64 b.low,.int .i64 b.high],.int .i64 bb,.int .i64 bc,.func (.func 91) #[] #[]] ro (fun v aK=>∃bd,v= .tuple #[.agg #[.int .i64 r.1.steps,.int .i64 r.1.au,bd],.int .i64 r.2]/\aI bK aK bd r.1.aj):=by
 obtain ⟨d3,c4,rfl,hr,ht,n⟩:=id f;unfold vH at h;refine aF.go Tryz.func86 rfl Tryz.ntmps86 Tryz.results86 aB fun main J hJ A hv hd hs=>?_;have hx:=hs 0;have k1:=hs 1;have hy:=hs 2;have hz:=hs 3;have hA:=hs 4;have hB:=hs 5;clear hs;refine af hJ ?_;refine ah hJ ?_;apply aa _;intro i f8;have s:=aV f8;have dq:=aW f8;try simp only[aQ] at dq
 intro j f9;have t:=aV f9;have ds:=aW f9;try simp only[aQ] at ds
 intro k f10;have u:=aV f10;have dt:=aW f10;try simp only[aQ] at dt
 try apply aa _
 refine af hJ ?_;refine af hJ ?_;refine ah hJ ?_;have h':=an h;clear h;obtain ⟨hD,du,h⟩:=h';apply aa _;refine bp hJ _ (jm (m.mono aZ) u0 (f.mono aZ) du) (aS ?_);try apply aa _
 refine af hJ ?_;refine ah hJ ?_;apply aa _;have h':=aD h;clear h;rcases h' with ⟨ao,h⟩|⟨ao,h⟩
 .try simp only[Int.ofNat_lt] at ao
  refine aN hJ ak ?_;refine af hJ ?_;refine ah hJ ?_;apply aa _;have h':=Option.some.inj h;clear h;subst h';refine aG ?_;apply bt _;exact ⟨_,Ext.refl _,Le.sub (List.nil_sublist _),_,rfl,aI.nil _ _⟩
 try simp only[Int.ofNat_lt] at ao
 refine aM hJ ak ?_;refine aR hJ ?_;refine af hJ ?_;refine aY hJ ?_;refine af hJ ?_;refine ah hJ ?_;have h':=an h;clear h;obtain ⟨hE,dv,h⟩:=h';apply aa _;refine bp hJ _ (qb u0 (f.mono aZ) e dv) (aS ?_);try apply aa _
 have h':=aD h;clear h;rcases h' with ⟨ar,h⟩|⟨ar,h⟩
 .try simp only[Int.ofNat_lt] at ar
  refine aN hJ ak ?_;refine af hJ ?_;refine ah hJ ?_;apply aa _;have h':=Option.some.inj h;clear h;subst h';refine aG ?_;apply bt _;exact ⟨_,Ext.refl _,Le.sub (List.nil_sublist _),_,rfl,aI.nil _ _⟩
 try simp only[Int.ofNat_lt] at ar
 refine aM hJ ak ?_;refine af hJ ?_;refine ah hJ ?_;have h':=aD h;clear h;rcases h' with ⟨a0,h⟩|⟨a0,h⟩
 .try simp only[Int.ofNat_lt] at a0
  try apply aa _
  refine aN hJ ak ?_;refine af hJ ?_;refine ah hJ ?_;apply aa _;have h':=Option.some.inj h;clear h;subst h';refine aG ?_;apply bt _;exact ⟨_,Ext.refl _,Le.sub (List.nil_sublist _),_,rfl,aI.nil _ _⟩
 try simp only[Int.ofNat_lt] at a0
 have h':=aD h;clear h;rcases h' with ⟨a2,h⟩|⟨a2,h⟩
 .try simp only[Int.ofNat_lt] at a2
  try apply aa _
  refine aN hJ ak ?_;refine af hJ ?_;refine ah hJ ?_;apply aa _;have h':=Option.some.inj h;clear h;subst h';refine aG ?_;apply bt _;exact ⟨_,Ext.refl _,Le.sub (List.nil_sublist _),_,rfl,aI.nil _ _⟩
 try simp only[Int.ofNat_lt] at a2
 try apply aa _
 have h':=aD h;clear h;rcases h' with ⟨a3,h⟩|⟨a3,h⟩
 .try simp only[Int.ofNat_lt] at a3
  refine aN hJ ak ?_;refine af hJ ?_;refine ah hJ ?_;apply aa _;have h':=Option.some.inj h;clear h;subst h';refine aG ?_;apply bt _;exact ⟨_,Ext.refl _,Le.sub (List.nil_sublist _),_,rfl,aI.nil _ _⟩
 try simp only[Int.ofNat_lt] at a3
 refine aM hJ ak ?_;refine aR hJ ?_;refine af hJ ?_;refine ah hJ ?_;have h':=an h;clear h;obtain ⟨c,dC,h⟩:=h';apply aa _;refine y8 hJ _ (Ai u0 f dC) [(k,.cells #[.int .i64 0,.int .i64 0,.slice none 0 0] 24),(j,.cells #[.int .i64 b.low,.int .i64 b.high] 53),(i,.cells #[.int .i64 u0.steps,.int .i64 u0.au,.slice d3 u0.aj.length c4] 24)] [] (by first|rfl|simp only[bh]|(simp only[bh];rfl)) fun v p hF D Q hR dE dT ea=>?_;obtain ⟨hG,rfl,W⟩:=hR;simp only[bh] at dT;subst dE;have Q:aP p ((k,.cells #[.int .i64 0,.int .i64 0,.slice none 0 0] 24)::(j,.cells #[.int .i64 b.low,.int .i64 b.high] 53)::(i,.cells #[.int .i64 u0.steps,.int .i64 u0.au,.slice d3 u0.aj.length c4] 24)::[]):=Q;replace f:=f.mono D;clear n;obtain ⟨_,_,n⟩:=f.op;replace u:=Q.hd;replace t:=Q.tl.hd;replace s:=Q.tl.tl.hd;replace m:=m.mono D;obtain ⟨d26,g,rfl,hH⟩:=W.len;refine aS ?_;try apply aa _
 intro l f33;have E:=aV f33;have bj:=aW f33;have hI:=bP.cons bj ea;try simp only[aQ] at bj
 try apply aa _
 refine af hJ ?_;refine aJ hJ fun eb=>?_;refine ah hJ ?_;have h':=an h;clear h;obtain ⟨a,ec,h⟩:=h';obtain ⟨hK,hL,R⟩:=dc ec;obtain ⟨d,G,hM,rfl,rfl,hN,ed,q⟩:=W.sQ R;obtain ⟨hP,rfl,a4⟩:=ed;obtain ⟨d39,X,rfl,hQ,hS,hT⟩:=id a4;have eh:=eb.nd;simp only[keys,List.map_cons,List.map_nil,List.map_append,List.cons_append,List.nil_append,List.nodup_cons,List.mem_cons,List.mem_append,List.not_mem_nil,or_false,not_or] at eh;have bk:=q 0 _ rfl;simp only[go_sem] at bk;have hV:=(Array.getElem?_eq_some_iff.1 bk).1;have bm:=q 1 _ rfl;simp only[go_sem] at bm;have hX:=(Array.getElem?_eq_some_iff.1 bm).1;have bo:=q 2 _ rfl;simp only[go_sem] at bo;have hY:=(Array.getElem?_eq_some_iff.1 bo).1;have br:=q 3 _ rfl;simp only[go_sem] at br;have hZ:=(Array.getElem?_eq_some_iff.1 br).1;have bs:=q 4 _ rfl;simp only[go_sem] at bs;have h0:=(Array.getElem?_eq_some_iff.1 bs).1;have b0:=q 5 _ rfl;simp only[go_sem] at b0;have h1:=(Array.getElem?_eq_some_iff.1 b0).1;have b1:=q 6 _ rfl;simp only[go_sem] at b1;have h2:=(Array.getElem?_eq_some_iff.1 b1).1;try apply aa _
 refine bp hJ _ Gc (aS ?_);try apply aa _
 refine af hJ ?_;refine aJ hJ fun h3=>?_;refine eG hJ mixed [] (.pure 0 (.pure 1 (.pure 2 (.pure 3 (.pure 4 (.pure 6 (.rd 7 (.pure 9 (.pure 10 (.pure 11 (.pure 13 (.rd 14 (.two 5 (.pure 8 (.one 12 (.pure 15 (.pure 16 (.pure 17 (.one 18 (.pure 19 (.pure 20 (.one 21 .done))))))))) 12 (.pure 15 (.one 5 (.pure 8 (.pure 16 (.pure 17 (.one 18 (.pure 19 (.pure 20 (.one 21 .done)))))))))))))))))))))) ⟨p,[(l,.cells #[.int .i64 c.steps,.int .i64 c.au,.slice (some ⟨d,0,none⟩) c.aj.length g] 24),(k,.cells #[.int .i64 0,.int .i64 0,.slice none 0 0] 24),(j,.cells #[.int .i64 b.low,.int .i64 b.high] 53),(i,.cells #[.int .i64 u0.steps,.int .i64 u0.au,.slice d3 u0.aj.length c4] 24)]⟩ ak aT ?_;apply aa _;refine sV ?_ ?_
 .have b2:bx bK p 56 (.slice (some ⟨d,0,none⟩) c.aj.length g) (c.aj.set (e).toNat (⟨a.name,(⟨(if a.from_.low<b.low then b.low else a.from_.low),a.from_.high⟩:bU),a.wide,a.aC,a.marks⟩:bf)) [(d,Obj.cells (bS G ((e).toNat*7+1) [.int .i64 (if a.from_.low<b.low then b.low else a.from_.low)]) 56)]:=by have w:=W.part (y:=(⟨a.name,(⟨(if a.from_.low<b.low then b.low else a.from_.low),a.from_.high⟩:bU),a.wide,a.aC,a.marks⟩:bf)) R 1 [.int .i64 (if a.from_.low<b.low then b.low else a.from_.low)] [.string ⟨⟨a.name⟩⟩,.int .i64 a.from_.low,.int .i64 a.from_.high,.int .i64 a.wide,.int .i64 a.aC.low,.int .i64 a.aC.high,.slice d39 a.marks.length X] [.string ⟨⟨a.name⟩⟩,.int .i64 (if a.from_.low<b.low then b.low else a.from_.low),.int .i64 a.from_.high,.int .i64 a.wide,.int .i64 a.aC.low,.int .i64 a.aC.high,.slice d39 a.marks.length X] q rfl rfl aB ⟨_,rfl,a4⟩;exact w
  have a5:=qW (y:=(⟨a.name,(⟨(if a.from_.low<b.low then b.low else a.from_.low),a.from_.high⟩:bU),a.wide,a.aC,a.marks⟩:bf)) R;obtain ⟨h4,et,x⟩:=b2.eF a5;obtain ⟨h5,rfl,b3⟩:=et;obtain ⟨d168,b4,rfl,h6,h7,h8⟩:=id b3;have ev:=x 0 _ rfl;simp only[go_sem] at ev;have eQ:=x 1 _ rfl;simp only[go_sem] at eQ;have eS:=x 2 _ rfl;simp only[go_sem] at eS;have e0:=x 3 _ rfl;simp only[go_sem] at e0;have e1:=x 4 _ rfl;simp only[go_sem] at e1;have e2:=x 5 _ rfl;simp only[go_sem] at e2;have Y:bx bK p 56 (.slice (some ⟨d,0,none⟩) c.aj.length g) ((c.aj.set (e).toNat (⟨a.name,(⟨(if a.from_.low<b.low then b.low else a.from_.low),a.from_.high⟩:bU),a.wide,a.aC,a.marks⟩:bf)).set (e).toNat (⟨a.name,(⟨(if a.from_.low<b.low then b.low else a.from_.low),(if b.high<a.from_.high then b.high else a.from_.high)⟩:bU),a.wide,a.aC,a.marks⟩:bf)) [(d,Obj.cells (bS (bS G ((e).toNat*7+1) [.int .i64 (if a.from_.low<b.low then b.low else a.from_.low)]) ((e).toNat*7+2) [.int .i64 (if b.high<a.from_.high then b.high else a.from_.high)]) 56)]:=by have w:=b2.part (y:=(⟨a.name,(⟨(if a.from_.low<b.low then b.low else a.from_.low),(if b.high<a.from_.high then b.high else a.from_.high)⟩:bU),a.wide,a.aC,a.marks⟩:bf)) a5 2 [.int .i64 (if b.high<a.from_.high then b.high else a.from_.high)] [.string ⟨⟨a.name⟩⟩,.int .i64 (if a.from_.low<b.low then b.low else a.from_.low),.int .i64 a.from_.high,.int .i64 a.wide,.int .i64 a.aC.low,.int .i64 a.aC.high,.slice d168 a.marks.length b4] [.string ⟨⟨a.name⟩⟩,.int .i64 (if a.from_.low<b.low then b.low else a.from_.low),.int .i64 (if b.high<a.from_.high then b.high else a.from_.high),.int .i64 a.wide,.int .i64 a.aC.low,.int .i64 a.aC.high,.slice d168 a.marks.length b4] x rfl rfl aB ⟨_,rfl,b3⟩;exact w
  have ca:=qW (y:=(⟨a.name,(⟨(if a.from_.low<b.low then b.low else a.from_.low),(if b.high<a.from_.high then b.high else a.from_.high)⟩:bU),a.wide,a.aC,a.marks⟩:bf)) a5;obtain ⟨h9,e3,H⟩:=Y.eF ca;obtain ⟨ib,rfl,fa⟩:=e3;obtain ⟨d178,ih,rfl,ik,il,im⟩:=id fa;have fb:=H 0 _ rfl;simp only[go_sem] at fb;have fc:=H 1 _ rfl;simp only[go_sem] at fc;have fg:=H 2 _ rfl;simp only[go_sem] at fg;have fh:=H 3 _ rfl;simp only[go_sem] at fh;have fi:=H 4 _ rfl;simp only[go_sem] at fi;have fj:=H 5 _ rfl;simp only[go_sem] at fj;apply aa _;refine af hJ ?_;refine af hJ ?_;obtain ⟨cb,a6⟩:∃o,o=(bS (bS G ((e).toNat*7+1) [.int .i64 (if a.from_.low<b.low then b.low else a.from_.low)]) ((e).toNat*7+2) [.int .i64 (if b.high<a.from_.high then b.high else a.from_.high)]):=⟨_,rfl⟩
  refine cv (F:=⟨p,(l,.cells #[.int .i64 c.steps,.int .i64 c.au,.slice (some ⟨d,0,none⟩) c.aj.length g] 24)::(k,.cells #[.int .i64 0,.int .i64 0,.slice none 0 0] 24)::(j,.cells #[.int .i64 b.low,.int .i64 b.high] 53)::(i,.cells #[.int .i64 u0.steps,.int .i64 u0.au,.slice d3 u0.aj.length c4] 24)::[(d,Obj.cells cb 56)]⟩) hJ (by rw[a6];exact Le.refl _) ?_;rw[<-a6] at Y;clear a6;obtain ⟨iv,fl,I⟩:=Y.eF ca;obtain ⟨ix,rfl,z⟩:=fl;obtain ⟨d188,j1,rfl,j2,kh,Z⟩:=id z;have fp:=I 0 _ rfl;simp only[go_sem] at fp;have fr:=I 1 _ rfl;simp only[go_sem] at fr;have fs:=I 2 _ rfl;simp only[go_sem] at fs;have ft:=I 3 _ rfl;simp only[go_sem] at ft;have fu:=I 4 _ rfl;simp only[go_sem] at fu;have fv:=I 5 _ rfl;simp only[go_sem] at fv;refine aJ hJ fun kj=>?_;refine cu hJ mixed 9 ⟨p,[(l,.cells #[.int .i64 c.steps,.int .i64 c.au,.slice (some ⟨d,0,none⟩) c.aj.length g] 24),(k,.cells #[.int .i64 0,.int .i64 0,.slice none 0 0] 24),(j,.cells #[.int .i64 b.low,.int .i64 b.high] 53),(i,.cells #[.int .i64 u0.steps,.int .i64 u0.au,.slice d3 u0.aj.length c4] 24),(d,Obj.cells cb 56)]⟩ ak aT ?_;apply aa _;have h':=aD h;clear h;rcases h' with ⟨a7,h⟩|⟨a7,h⟩
  ·(try simp only[Int.ofNat_lt] at a7);refine aN hJ ak ?_;refine af hJ ?_;refine aJ hJ fun kk=>?_;refine ah hJ ?_;apply aa _;have h':=Option.some.inj h;clear h;subst h';refine aG ?_;apply bt _;exact ⟨_,D,Le.sub (List.nil_sublist _),_,rfl,aI.nil _ _⟩
  try simp only[Int.ofNat_lt] at a7
  refine aM hJ ak ?_;refine aR hJ ?_;refine af hJ ?_;refine aJ hJ fun cc=>?_;obtain ⟨cd,ab,K,S,fw⟩:=Y.gA ((l,.cells #[.int .i64 c.steps,.int .i64 c.au,.slice (some ⟨d,0,none⟩) c.aj.length g] 24)::(k,.cells #[.int .i64 0,.int .i64 0,.slice none 0 0] 24)::(j,.cells #[.int .i64 b.low,.int .i64 b.high] 53)::(i,.cells #[.int .i64 u0.steps,.int .i64 u0.au,.slice d3 u0.aj.length c4] 24)::[]) [(l,.cells #[.int .i64 c.steps,.int .i64 c.au,.slice (some ⟨d,0,none⟩) c.aj.length g] 24),(k,.cells #[.int .i64 0,.int .i64 0,.slice none 0 0] 24),(j,.cells #[.int .i64 b.low,.int .i64 b.high] 53),(i,.cells #[.int .i64 u0.steps,.int .i64 u0.au,.slice d3 u0.aj.length c4] 24)] [] (by first|rfl|simp only[bh]|(simp only[bh];rfl)) (by first|rfl|simp only[bh]|(simp only[bh];rfl)) cc (aP.cons E (aP.cons u (aP.cons t (aP.cons s (aP.nil _)))));clear cc;refine cv (F:=⟨cd,(l,.cells #[.int .i64 c.steps,.int .i64 c.au,.slice (some ⟨d,0,none⟩) c.aj.length g] 24)::(k,.cells #[.int .i64 0,.int .i64 0,.slice none 0 0] 24)::(j,.cells #[.int .i64 b.low,.int .i64 b.high] 53)::(i,.cells #[.int .i64 u0.steps,.int .i64 u0.au,.slice d3 u0.aj.length c4] 24)::[]⟩) hJ fw ?_;obtain ⟨kl,km,cf⟩:=S.op;have K:aP cd ((l,.cells #[.int .i64 c.steps,.int .i64 c.au,.slice (some ⟨d,0,none⟩) c.aj.length g] 24)::(k,.cells #[.int .i64 0,.int .i64 0,.slice none 0 0] 24)::(j,.cells #[.int .i64 b.low,.int .i64 b.high] 53)::(i,.cells #[.int .i64 u0.steps,.int .i64 u0.au,.slice d3 u0.aj.length c4] 24)::[]):=K;replace f:=f.mono ab;clear n;obtain ⟨_,_,n⟩:=f.op;replace z:=z.mono ab;clear Z;obtain ⟨_,_,Z⟩:=z.op;replace E:=K.hd;replace u:=K.tl.hd;replace t:=K.tl.tl.hd;replace s:=K.tl.tl.tl.hd;replace m:=m.mono ab;refine ah hJ ?_;have h':=an h;clear h;obtain ⟨kn,fx,h⟩:=h';apply aa _;refine cz hJ _ (vt m (⟨c.steps,c.au,((c.aj.set (e).toNat (⟨a.name,(⟨(if a.from_.low<b.low then b.low else a.from_.low),a.from_.high⟩:bU),a.wide,a.aC,a.marks⟩:bf)).set (e).toNat (⟨a.name,(⟨(if a.from_.low<b.low then b.low else a.from_.low),(if b.high<a.from_.high then b.high else a.from_.high)⟩:bU),a.wide,a.aC,a.marks⟩:bf))⟩:aL) S fx) fun v fz T L hR=>?_;obtain ⟨kp,rfl,ck⟩:=hR;have L:aP fz ((l,.cells #[.int .i64 c.steps,.int .i64 c.au,.slice (some ⟨d,0,none⟩) c.aj.length g] 24)::(k,.cells #[.int .i64 0,.int .i64 0,.slice none 0 0] 24)::(j,.cells #[.int .i64 b.low,.int .i64 b.high] 53)::(i,.cells #[.int .i64 u0.steps,.int .i64 u0.au,.slice d3 u0.aj.length c4] 24)::[]):=L;replace f:=f.mono T;clear n;obtain ⟨_,_,n⟩:=f.op;replace S:=S.mono T;clear cf;obtain ⟨_,_,cf⟩:=S.op;replace z:=z.mono T;clear Z;obtain ⟨_,_,Z⟩:=z.op;replace E:=L.hd;replace u:=L.tl.hd;replace t:=L.tl.tl.hd;replace s:=L.tl.tl.tl.hd;replace m:=m.mono T;obtain ⟨d215,kq,rfl,ks,kt,kv⟩:=id ck;refine aS ?_;try apply aa _
  have h':=Option.some.inj h;clear h;subst h';refine aG ?_;apply bt _;exact ⟨_,((D).trans ab).trans T,Le.sub (List.nil_sublist _),_,rfl,ck⟩
 have cl:bx bK p 56 (.slice (some ⟨d,0,none⟩) c.aj.length g) (c.aj.set (e).toNat (⟨a.name,(⟨(if a.from_.low<b.low then b.low else a.from_.low),a.from_.high⟩:bU),a.wide,a.aC,a.marks⟩:bf)) [(d,Obj.cells (bS G ((e).toNat*7+1) [.int .i64 (if a.from_.low<b.low then b.low else a.from_.low)]) 56)]:=by have w:=W.part (y:=(⟨a.name,(⟨(if a.from_.low<b.low then b.low else a.from_.low),a.from_.high⟩:bU),a.wide,a.aC,a.marks⟩:bf)) R 1 [.int .i64 (if a.from_.low<b.low then b.low else a.from_.low)] [.string ⟨⟨a.name⟩⟩,.int .i64 a.from_.low,.int .i64 a.from_.high,.int .i64 a.wide,.int .i64 a.aC.low,.int .i64 a.aC.high,.slice d39 a.marks.length X] [.string ⟨⟨a.name⟩⟩,.int .i64 (if a.from_.low<b.low then b.low else a.from_.low),.int .i64 a.from_.high,.int .i64 a.wide,.int .i64 a.aC.low,.int .i64 a.aC.high,.slice d39 a.marks.length X] q rfl rfl aB ⟨_,rfl,a4⟩;exact w
 have a8:=qW (y:=(⟨a.name,(⟨(if a.from_.low<b.low then b.low else a.from_.low),a.from_.high⟩:bU),a.wide,a.aC,a.marks⟩:bf)) R;obtain ⟨kx,gg,B⟩:=cl.eF a8;obtain ⟨ky,rfl,cy⟩:=gg;obtain ⟨d225,c0,rfl,k0,k2,lb⟩:=id cy;have gj:=B 0 _ rfl;simp only[go_sem] at gj;have gl:=B 1 _ rfl;simp only[go_sem] at gl;have gn:=B 2 _ rfl;simp only[go_sem] at gn;have gp:=B 3 _ rfl;simp only[go_sem] at gp;have gy:=B 4 _ rfl;simp only[go_sem] at gy;have g0:=B 5 _ rfl;simp only[go_sem] at g0;have ad:bx bK p 56 (.slice (some ⟨d,0,none⟩) c.aj.length g) ((c.aj.set (e).toNat (⟨a.name,(⟨(if a.from_.low<b.low then b.low else a.from_.low),a.from_.high⟩:bU),a.wide,a.aC,a.marks⟩:bf)).set (e).toNat (⟨a.name,(⟨(if a.from_.low<b.low then b.low else a.from_.low),(if b.high<a.from_.high then b.high else a.from_.high)⟩:bU),a.wide,a.aC,a.marks⟩:bf)) [(d,Obj.cells (bS (bS G ((e).toNat*7+1) [.int .i64 (if a.from_.low<b.low then b.low else a.from_.low)]) ((e).toNat*7+2) [.int .i64 (if b.high<a.from_.high then b.high else a.from_.high)]) 56)]:=by have w:=cl.part (y:=(⟨a.name,(⟨(if a.from_.low<b.low then b.low else a.from_.low),(if b.high<a.from_.high then b.high else a.from_.high)⟩:bU),a.wide,a.aC,a.marks⟩:bf)) a8 2 [.int .i64 (if b.high<a.from_.high then b.high else a.from_.high)] [.string ⟨⟨a.name⟩⟩,.int .i64 (if a.from_.low<b.low then b.low else a.from_.low),.int .i64 a.from_.high,.int .i64 a.wide,.int .i64 a.aC.low,.int .i64 a.aC.high,.slice d225 a.marks.length c0] [.string ⟨⟨a.name⟩⟩,.int .i64 (if a.from_.low<b.low then b.low else a.from_.low),.int .i64 (if b.high<a.from_.high then b.high else a.from_.high),.int .i64 a.wide,.int .i64 a.aC.low,.int .i64 a.aC.high,.slice d225 a.marks.length c0] B rfl rfl aB ⟨_,rfl,cy⟩;exact w
 have da:=qW (y:=(⟨a.name,(⟨(if a.from_.low<b.low then b.low else a.from_.low),(if b.high<a.from_.high then b.high else a.from_.high)⟩:bU),a.wide,a.aC,a.marks⟩:bf)) a8;obtain ⟨lh,g1,M⟩:=ad.eF da;obtain ⟨lj,rfl,g2⟩:=g1;obtain ⟨lk,ll,rfl,ln,lr,lv⟩:=id g2;have g3:=M 0 _ rfl;simp only[go_sem] at g3;have g4:=M 1 _ rfl;simp only[go_sem] at g4;have g7:=M 2 _ rfl;simp only[go_sem] at g7;have ha:=M 3 _ rfl;simp only[go_sem] at ha;have hc:=M 4 _ rfl;simp only[go_sem] at hc;have hf:=M 5 _ rfl;simp only[go_sem] at hf;apply aa _;refine af hJ ?_;refine af hJ ?_;obtain ⟨db,a9⟩:∃o,o=(bS (bS G ((e).toNat*7+1) [.int .i64 (if a.from_.low<b.low then b.low else a.from_.low)]) ((e).toNat*7+2) [.int .i64 (if b.high<a.from_.high then b.high else a.from_.high)]):=⟨_,rfl⟩
 refine cv (F:=⟨p,(l,.cells #[.int .i64 c.steps,.int .i64 c.au,.slice (some ⟨d,0,none⟩) c.aj.length g] 24)::(k,.cells #[.int .i64 0,.int .i64 0,.slice none 0 0] 24)::(j,.cells #[.int .i64 b.low,.int .i64 b.high] 53)::(i,.cells #[.int .i64 u0.steps,.int .i64 u0.au,.slice d3 u0.aj.length c4] 24)::[(d,Obj.cells db 56)]⟩) hJ (by rw[a9];exact Le.refl _) ?_;rw[<-a9] at ad;clear a9;obtain ⟨lx,hg,N⟩:=ad.eF da;obtain ⟨ly,rfl,C⟩:=hg;obtain ⟨lL,l1,rfl,l2,l3,ae⟩:=id C;have hh:=N 0 _ rfl;simp only[go_sem] at hh;have hi:=N 1 _ rfl;simp only[go_sem] at hi;have hj:=N 2 _ rfl;simp only[go_sem] at hj;have hk:=N 3 _ rfl;simp only[go_sem] at hk;have hl:=N 4 _ rfl;simp only[go_sem] at hl;have hn:=N 5 _ rfl;simp only[go_sem] at hn;refine aJ hJ fun l4=>?_;refine cu hJ mixed 9 ⟨p,[(l,.cells #[.int .i64 c.steps,.int .i64 c.au,.slice (some ⟨d,0,none⟩) c.aj.length g] 24),(k,.cells #[.int .i64 0,.int .i64 0,.slice none 0 0] 24),(j,.cells #[.int .i64 b.low,.int .i64 b.high] 53),(i,.cells #[.int .i64 u0.steps,.int .i64 u0.au,.slice d3 u0.aj.length c4] 24),(d,Obj.cells db 56)]⟩ ak aT ?_;apply aa _;have h':=aD h;clear h;rcases h' with ⟨ba,h⟩|⟨ba,h⟩
 .try simp only[Int.ofNat_lt] at ba
  refine aN hJ ak ?_;refine af hJ ?_;refine aJ hJ fun ma=>?_;refine ah hJ ?_;apply aa _;have h':=Option.some.inj h;clear h;subst h';refine aG ?_;apply bt _;exact ⟨_,D,Le.sub (List.nil_sublist _),_,rfl,aI.nil _ _⟩
 try simp only[Int.ofNat_lt] at ba
 refine aM hJ ak ?_;refine aR hJ ?_;refine af hJ ?_;refine aJ hJ fun dd=>?_;obtain ⟨df,al,O,U,ho⟩:=ad.gA ((l,.cells #[.int .i64 c.steps,.int .i64 c.au,.slice (some ⟨d,0,none⟩) c.aj.length g] 24)::(k,.cells #[.int .i64 0,.int .i64 0,.slice none 0 0] 24)::(j,.cells #[.int .i64 b.low,.int .i64 b.high] 53)::(i,.cells #[.int .i64 u0.steps,.int .i64 u0.au,.slice d3 u0.aj.length c4] 24)::[]) [(l,.cells #[.int .i64 c.steps,.int .i64 c.au,.slice (some ⟨d,0,none⟩) c.aj.length g] 24),(k,.cells #[.int .i64 0,.int .i64 0,.slice none 0 0] 24),(j,.cells #[.int .i64 b.low,.int .i64 b.high] 53),(i,.cells #[.int .i64 u0.steps,.int .i64 u0.au,.slice d3 u0.aj.length c4] 24)] [] (by first|rfl|simp only[bh]|(simp only[bh];rfl)) (by first|rfl|simp only[bh]|(simp only[bh];rfl)) dd (aP.cons E (aP.cons u (aP.cons t (aP.cons s (aP.nil _)))));clear dd;refine cv (F:=⟨df,(l,.cells #[.int .i64 c.steps,.int .i64 c.au,.slice (some ⟨d,0,none⟩) c.aj.length g] 24)::(k,.cells #[.int .i64 0,.int .i64 0,.slice none 0 0] 24)::(j,.cells #[.int .i64 b.low,.int .i64 b.high] 53)::(i,.cells #[.int .i64 u0.steps,.int .i64 u0.au,.slice d3 u0.aj.length c4] 24)::[]⟩) hJ ho ?_;obtain ⟨mf,mi,dk⟩:=U.op;have O:aP df ((l,.cells #[.int .i64 c.steps,.int .i64 c.au,.slice (some ⟨d,0,none⟩) c.aj.length g] 24)::(k,.cells #[.int .i64 0,.int .i64 0,.slice none 0 0] 24)::(j,.cells #[.int .i64 b.low,.int .i64 b.high] 53)::(i,.cells #[.int .i64 u0.steps,.int .i64 u0.au,.slice d3 u0.aj.length c4] 24)::[]):=O;replace f:=f.mono al;clear n;obtain ⟨_,_,n⟩:=f.op;replace C:=C.mono al;clear ae;obtain ⟨_,_,ae⟩:=C.op;replace E:=O.hd;replace u:=O.tl.hd;replace t:=O.tl.tl.hd;replace s:=O.tl.tl.tl.hd;replace m:=m.mono al;refine ah hJ ?_;have h':=an h;clear h;obtain ⟨ml,hp,h⟩:=h';apply aa _;refine cz hJ _ (vt m (⟨c.steps,c.au,((c.aj.set (e).toNat (⟨a.name,(⟨(if a.from_.low<b.low then b.low else a.from_.low),a.from_.high⟩:bU),a.wide,a.aC,a.marks⟩:bf)).set (e).toNat (⟨a.name,(⟨(if a.from_.low<b.low then b.low else a.from_.low),(if b.high<a.from_.high then b.high else a.from_.high)⟩:bU),a.wide,a.aC,a.marks⟩:bf))⟩:aL) U hp) fun v hq V P hR=>?_;obtain ⟨mn,rfl,dp⟩:=hR;have P:aP hq ((l,.cells #[.int .i64 c.steps,.int .i64 c.au,.slice (some ⟨d,0,none⟩) c.aj.length g] 24)::(k,.cells #[.int .i64 0,.int .i64 0,.slice none 0 0] 24)::(j,.cells #[.int .i64 b.low,.int .i64 b.high] 53)::(i,.cells #[.int .i64 u0.steps,.int .i64 u0.au,.slice d3 u0.aj.length c4] 24)::[]):=P;replace f:=f.mono V;clear n;obtain ⟨_,_,n⟩:=f.op;replace U:=U.mono V;clear dk;obtain ⟨_,_,dk⟩:=U.op;replace C:=C.mono V;clear ae;obtain ⟨_,_,ae⟩:=C.op;replace E:=P.hd;replace u:=P.tl.hd;replace t:=P.tl.tl.hd;replace s:=P.tl.tl.tl.hd;replace m:=m.mono V;obtain ⟨mr,mx,rfl,my,m1,m2⟩:=id dp;refine aS ?_;try apply aa _
 have h':=Option.some.inj h;clear h;subst h';refine aG ?_;apply bt _;exact ⟨_,((D).trans al).trans V,Le.sub (List.nil_sublist _),_,rfl,dp⟩
def vI (u0:aL)(b:Int)(c:bU):Option (aL×Int):=
 ax (vH u0 b c 0 (IntKind.i64.wrap (u0.steps - 1))) fun a=>some (a.1,a.2)
theorem Ge {ro:Addr->Option Value}(d:dh ro)(u0:aL){s1:Value}(b:aI bK ro s1 u0.aj)(e:Int)(a:bU){r:(aL×Int)}(h:vI u0 e a=some r):ee Tryz.prog 33 #[.agg #[.int .i64 u0.steps,.int .i64 u0.au,s1],.int .i64 e,.agg #[.int .i64 a.low,.int .i64 a.high]] ro (fun v aK=>∃g,v= .tuple #[.agg #[.int .i64 r.1.steps,.int .i64 r.1.au,g],.int .i64 r.2]/\aI bK aK g r.1.aj):=by
 obtain ⟨d3,c4,rfl,x,y,i⟩:=id b;unfold vI at h;refine aF.go Tryz.func33 rfl Tryz.ntmps33 Tryz.results33 aB fun main J hJ A z hd hs=>?_;have B:=hs 0;have k1:=hs 1;have C:=hs 2;clear hs;refine af hJ ?_;refine ah hJ ?_;apply aa _;intro k f8;have l:=aV f8;have m:=aW f8;try simp only[aQ] at m
 intro n f9;have o:=aV f9;have p:=aW f9;try simp only[aQ] at p
 intro q f10;have s:=aV f10;have t:=aW f10;try simp only[aQ] at t
 try apply aa _
 refine af hJ ?_;refine ah hJ ?_;have h':=an h;clear h;obtain ⟨D,u,h⟩:=h';apply aa _;refine cz hJ _ (Gd d u0 b e a 0 (IntKind.i64.wrap (u0.steps - 1)) u) fun v w f c hR=>?_;obtain ⟨E,rfl,j⟩:=hR;have c:aP w ((q,.cells #[.int .i64 0,.int .i64 0,.slice none 0 0] 24)::(n,.cells #[.int .i64 a.low,.int .i64 a.high] 53)::(k,.cells #[.int .i64 u0.steps,.int .i64 u0.au,.slice d3 u0.aj.length c4] 24)::[]):=c;replace b:=b.mono f;clear i;obtain ⟨_,_,i⟩:=b.op;replace s:=c.hd;replace o:=c.tl.hd;replace l:=c.tl.tl.hd;replace d:=d.mono f;obtain ⟨d18,F,rfl,G,H,I⟩:=id j;refine aS ?_;try apply aa _
 have h':=Option.some.inj h;clear h;subst h';refine aG ?_;apply bt _;exact ⟨_,f,Le.sub (List.nil_sublist _),_,rfl,j⟩
def mG (c:Int)(d:(aU->aU->Option Int))(st:(Int×(List aU))):Option (Fl (Int×(List aU)) (Unit×(List aU))):=
 cond (decide (c<st.1)) (ax (bM st.2 st.1) fun b=>ax (bM st.2 (IntKind.i64.wrap (st.1 - 1))) fun a=>ax (d b a) fun e=>cond (decide (e<0)) (ax (bM (st.2.set (st.1).toNat a) (IntKind.i64.wrap (st.1 - 1))) fun f=>some (.nx ((IntKind.i64.wrap (st.1 - 1)),((st.2.set (st.1).toNat a).set (IntKind.i64.wrap (st.1 - 1)).toNat b)))) (some (.bk (st.1,st.2)))) (some (.bk (st.1,st.2)))
def kT (a:Int)(b:Int)(c:(aU->aU->Option Int))(st:(Int×(List aU))):Option (Fl (Int×(List aU)) (Unit×(List aU))):=
 cond (decide (st.1<b)) (ax (bg (mG a c) fu (st.1,st.2)) fun o=>aH o (fun d=>some (.nx ((IntKind.i64.wrap (st.1+1)),d.2))) (fun _ _=>none) (fun r=>some (.rt r))) (some (.bk (st.1,st.2)))
def oE (u0:(List aU))(a:Int)(b:Int)(c:(aU->aU->Option Int)):Option (Unit×(List aU)):=
 cond (List.isEmpty u0) none (ax (bg (kT a b c) fu ((IntKind.i64.wrap (a+1)),u0)) fun o=>aH o (fun d=>some ((),d.2)) (fun _ _=>none) (fun r=>some r))
theorem Gf {ro:Addr->Option Value}(u0:(List aU)){b5:Value}{Q:List (Nat×Obj)}(H:bx eH ro 31 b5 u0 Q)(l:Int)(s:Int)(x:(aU->aU->Option Int)){gV:FuncId}{iX iY:Array Value}(a4:aO Tryz.prog gV=true/\∀(aK:Addr->Option Value),Ext ro aK->∀(y0:aU) (R:aU) (z:Int),x y0 R=some z->aF Tryz.prog gV (iX++#[y0.v,R.v]++iY) ⟨aK,[]⟩ (fun v _=>v= .int .i64 z)){r:(Unit×(List aU))}(h:oE u0 l s x=some r):aF Tryz.prog 162 #[b5,.int .i64 l,.int .i64 s,.func (.func gV) iX iY] ⟨ro,Q⟩ (fun v G=>∃S,(v= .tuple #[]/\bx eH ro 31 b5 r.2 S)/\Le ⟨ro,S⟩ G):=by
 obtain ⟨d1,c2,rfl,cy⟩:=H.len;unfold oE at h;have h':=aD h;clear h;rcases h' with ⟨T,h⟩|⟨T,h⟩
 .cases h
 obtain ⟨b,a5,rfl,rfl,c0⟩:=H.fL T;refine aF.go Tryz.func162 rfl Tryz.ntmps162 Tryz.results162 aB fun main J hJ A a6 hd hs=>?_;have a7:=hs 0;have k1:=hs 1;have a8:=hs 2;have a9:=hs 3;clear hs;refine af hJ ?_;refine aJ hJ fun da=>?_;refine ah hJ ?_;apply aa _;refine aY hJ ?_;have h':=an h;clear h;obtain ⟨ba,t,bb⟩:=h';have h:=True.intro;refine bO hJ [8,9,12,13,14,15,16,17,18,19,20,21,22,23,24,25,26,27,28,29,30,31,32,33,34,35,36,37,38,39,40,41,42,43,44,45,46,47,48,49,50,51,52] (fun m I F'=>∃(B:Array Value) (j:Int) (C:(List aU)),bg (kT l s x) m (j,C)=some ba/\F'=⟨ro,[(b,Obj.cells B 31)]⟩/\bx eH ro 31 (.slice (some ⟨b,0,none⟩) u0.length c2) C [(b,Obj.cells B 31)]/\slot I 8= .int .i64 j) fu ?_ ?_
 .refine ⟨a5,(IntKind.i64.wrap (l+1)),u0,t,rfl,H,?_⟩;simp only[*,go_sem,-h]
 rintro D n F' p ⟨B,j,C,t,rfl,U,bc⟩;have h:=True.intro;have bd:sz n=53:=by rw[p.size];simp only[*,go_sem,-h]
 have bj:n.defers=[]:=by rw[p.defers];simp only[*,go_sem,-h]
 have bk:slot n 0= .slice (some ⟨b,0,none⟩) u0.length c2:=by rw[p.ay 0 av];simp only[*,go_sem,-h]
 have bm:slot n 1= .int .i64 l:=by rw[p.ay 1 av];simp only[*,go_sem,-h]
 have bo:slot n 2= .int .i64 s:=by rw[p.ay 2 av];simp only[*,go_sem,-h]
 have br:slot n 3= .func (.func gV) iX iY:=by rw[p.ay 3 av];simp only[*,go_sem,-h]
 clear p a6 hd a7 k1 a8 a9;obtain _|D:=D
 .exact absurd t (by simp only[bg,reduceCtorEq,not_false_eq_true])
 have h':=an t;clear t h;obtain ⟨db,h,E⟩:=h';unfold kT at h;try dsimp only at h
 refine af hJ ?_;refine af hJ ?_;refine aJ hJ fun dd=>?_;refine ah hJ ?_;apply aa _;have h':=aD h;clear h;rcases h' with ⟨K,h⟩|⟨K,h⟩
 .try simp only[Int.ofNat_lt] at K
  refine aN hJ ak ?_;refine aR hJ ?_;refine af hJ ?_;refine aY hJ ?_;refine af hJ ?_;refine aJ hJ fun df=>?_;refine ah hJ ?_;apply aa _;refine aY hJ ?_;have h':=an h;clear h;obtain ⟨bs,u,V⟩:=h';have h:=True.intro;refine bO hJ [9,18,19,20,21,22,23,24,25,26,27,28,29,30,31,32,33,34,35,36,37,38,39,40,41,42,43,44,45,46,47,48,49,50,51,52] (fun m I F'=>∃(g:Array Value) (a:Int) (k:(List aU)),bg (mG l x) m (a,k)=some bs/\F'=⟨ro,[(b,Obj.cells g 31)]⟩/\bx eH ro 31 (.slice (some ⟨b,0,none⟩) u0.length c2) k [(b,Obj.cells g 31)]/\slot I 9= .int .i64 a) fu ?_ ?_
  .refine ⟨B,j,C,u,rfl,U,?_⟩;simp only[*,go_sem,-h]
  rintro m2 e F' d ⟨g,a,k,u,rfl,q,dk⟩;have h:=True.intro;have dp:sz e=53:=by rw[d.size];simp only[*,go_sem,-h]
  have dq:e.defers=[]:=by rw[d.defers];simp only[*,go_sem,-h]
  have ds:slot e 0= .slice (some ⟨b,0,none⟩) u0.length c2:=by rw[d.ay 0 av];simp only[*,go_sem,-h]
  have dt:slot e 1= .int .i64 l:=by rw[d.ay 1 av];simp only[*,go_sem,-h]
  have du:slot e 2= .int .i64 s:=by rw[d.ay 2 av];simp only[*,go_sem,-h]
  have dv:slot e 3= .func (.func gV) iX iY:=by rw[d.ay 3 av];simp only[*,go_sem,-h]
  have dC:slot e 8= .int .i64 j:=by rw[d.ay 8 av];simp only[*,go_sem,-h]
  have dE:slot e 12= .int .i64 j:=by rw[d.ay 12 av];simp only[*,go_sem,-h]
  have dT:slot e 13= .int .i64 s:=by rw[d.ay 13 av];simp only[*,go_sem,-h]
  have ea:slot e 14= .bool true:=by rw[d.ay 14 av];simp only[*,go_sem,-h]
  have eb:slot e 17= .int .i64 j:=by rw[d.ay 17 av];simp only[*,go_sem,-h]
  have ec:cq [8,9,12,13,14,15,16,17,18,19,20,21,22,23,24,25,26,27,28,29,30,31,32,33,34,35,36,37,38,39,40,41,42,43,44,45,46,47,48,49,50,51,52] e n:=(d.cR av).trans ak;clear d bd bj bk bm bo br bc;obtain _|m2:=m2
  .exact absurd u (by simp only[bg,reduceCtorEq,not_false_eq_true])
  have h':=an u;clear u h;obtain ⟨ed,h,w⟩:=h';unfold mG at h;try dsimp only at h
  refine af hJ ?_;refine af hJ ?_;refine aJ hJ fun eh=>?_;refine cu hJ mixed 17 ⟨ro,[(b,Obj.cells g 31)]⟩ ak aT ?_;have h':=aD h;clear h;rcases h' with ⟨L,h⟩|⟨L,h⟩
  ·(try simp only[Int.ofNat_lt] at L);have h':=an h;clear h;obtain ⟨f,b0,h⟩:=h';obtain ⟨et,ev,W⟩:=dc b0;have eQ:a<((u0.length:Nat):Int):=by have:=q.count;omega
   obtain ⟨b1,b2,X⟩:=q.eF W;obtain rfl:b1=f.cells:=b2;have Y:=X 0 _ rfl;simp only[go_sem] at Y;have eS:=(Array.getElem?_eq_some_iff.1 Y).1;have Z:=X 1 _ rfl;simp only[go_sem] at Z;have e0:=(Array.getElem?_eq_some_iff.1 Z).1;have h':=an h;clear h;obtain ⟨c,b3,h⟩:=h';obtain ⟨e1,e2,b4⟩:=dc b3;have e3:IntKind.i64.wrap (a - 1)<((u0.length:Nat):Int):=by have:=q.count;omega
   obtain ⟨ca,cb,ab⟩:=q.eF b4;obtain rfl:ca=c.cells:=cb;have ad:=ab 0 _ rfl;simp only[go_sem] at ad;have fa:=(Array.getElem?_eq_some_iff.1 ad).1;have ae:=ab 1 _ rfl;simp only[go_sem] at ae;have fb:=(Array.getElem?_eq_some_iff.1 ae).1;have h':=an h;clear h;obtain ⟨fc,cc,h⟩:=h';(try apply aa _);refine ⟨_,eo hJ fun F hF=>a4.2 _ (lB hF) f c _ cc,e6 ?_⟩;(try apply aa _);have h':=aD h;clear h;rcases h' with ⟨M,h⟩|⟨M,h⟩
   ·(try simp only[Int.ofNat_lt] at M);refine aN hJ ak ?_;refine aR hJ ?_;refine af hJ ?_;refine aY hJ ?_;refine aJ hJ fun fg=>?_;refine eG hJ mixed [15,16,17] (.pure 0 (.pure 1 (.pure 2 (.pure 3 (.pure 4 (.pure 5 (.pure 6 (.pure 7 (.pure 8 (.rd 9 (.pure 10 (.pure 11 (.pure 12 (.rd 13 (.pure 14 (.last 15 (.pure 16 (.last 17 .done)))))))))))))))))) ⟨ro,[(b,Obj.cells g 31)]⟩ ak aT ?_;have N:bx eH ro 31 (.slice (some ⟨b,0,none⟩) u0.length c2) (k.set (a).toNat c) [(b,Obj.cells (bS g ((a).toNat*2) [.int .i64 c.step,.int .i64 c.cB]) 31)]:=by have O:=q.lD (i:=(a).toNat) (y:=c) (by have:=W;have:=(List.getElem?_eq_some_iff.1 this).1;simpa only[List.length_set] using this) (cs:=[.int .i64 c.step,.int .i64 c.cB]) rfl;exact O
    have h':=an h;clear h;obtain ⟨cd,cf,h⟩:=h';obtain ⟨fh,fi,al⟩:=dc cf;have fj:IntKind.i64.wrap (a - 1)<((u0.length:Nat):Int):=by have:=N.count;omega
    obtain ⟨ck,cl,ao⟩:=N.eF al;obtain rfl:ck=cd.cells:=cl;have ar:=ao 0 _ rfl;simp only[go_sem] at ar;have fl:=(Array.getElem?_eq_some_iff.1 ar).1;have a0:=ao 1 _ rfl;simp only[go_sem] at a0;have fp:=(Array.getElem?_eq_some_iff.1 a0).1;have a2:bx eH ro 31 (.slice (some ⟨b,0,none⟩) u0.length c2) ((k.set (a).toNat c).set (IntKind.i64.wrap (a - 1)).toNat f) [(b,Obj.cells (bS (bS g ((a).toNat*2) [.int .i64 c.step,.int .i64 c.cB]) ((IntKind.i64.wrap (a - 1)).toNat*2) [.int .i64 f.step,.int .i64 f.cB]) 31)]:=by have O:=N.lD (i:=(IntKind.i64.wrap (a - 1)).toNat) (y:=f) (by have:=al;have:=(List.getElem?_eq_some_iff.1 this).1;simpa only[List.length_set] using this) (cs:=[.int .i64 f.step,.int .i64 f.cB]) rfl;exact O
    (try apply aa _);obtain ⟨a3,P⟩:∃o,o=(bS (bS g ((a).toNat*2) [.int .i64 c.step,.int .i64 c.cB]) ((IntKind.i64.wrap (a - 1)).toNat*2) [.int .i64 f.step,.int .i64 f.cB]):=⟨_,rfl⟩
    refine cv (F:=⟨ro,[(b,Obj.cells a3 31)]⟩) hJ (by rw[P];exact Le.refl _) ?_;rw[<-P] at a2;clear P;refine aJ hJ fun fr=>?_;refine ah hJ ?_;apply aa _;have h':=Option.some.inj h;clear h;subst h';have h:=True.intro;(try apply aa _);refine ⟨m2,Nat.lt_succ_self _,_,Le.sub (List.Sublist.refl _),a3,(IntKind.i64.wrap (a - 1)),((k.set (a).toNat c).set (IntKind.i64.wrap (a - 1)).toNat f),w,rfl,a2,?_⟩;simp only[*,go_sem,-h]
   (try simp only[Int.ofNat_lt] at M);refine aM hJ ak ?_;refine bI ?_;simp only[go_sem];have h':=Option.some.inj h;clear h;subst h';have h':=Option.some.inj w;clear w;subst h';have h:=V;dsimp only[aH] at h;refine aJ hJ fun fs=>?_;refine ah hJ ?_;apply aa _;have h':=Option.some.inj h;clear h;subst h';have h:=True.intro;(try apply aa _);refine ⟨D,Nat.lt_succ_self _,_,Le.sub (List.Sublist.refl _),g,(IntKind.i64.wrap (j+1)),k,E,rfl,q,?_⟩;simp only[*,go_sem,-h]
  try simp only[Int.ofNat_lt] at L
  try apply aa _
  refine aM hJ ak ?_;refine bI ?_;simp only[go_sem];have h':=Option.some.inj h;clear h;subst h';have h':=Option.some.inj w;clear w;subst h';have h:=V;dsimp only[aH] at h;refine aJ hJ fun ft=>?_;refine ah hJ ?_;apply aa _;have h':=Option.some.inj h;clear h;subst h';have h:=True.intro;try apply aa _
  refine ⟨D,Nat.lt_succ_self _,_,Le.sub (List.Sublist.refl _),g,(IntKind.i64.wrap (j+1)),k,E,rfl,q,?_⟩;simp only[*,go_sem,-h]
 try simp only[Int.ofNat_lt] at K
 refine aM hJ ak ?_;refine bI ?_;simp only[go_sem];have h':=Option.some.inj h;clear h;subst h';have h':=Option.some.inj E;clear E;subst h';have h:=bb;dsimp only[aH] at h;have h':=Option.some.inj h;clear h;subst h';apply bt _;exact ⟨_,U,Le.sub (List.Sublist.refl _)⟩
def qX (u0:(List aU))(a:(aU->aU->Option Int))(st:(Int×Int×Int×Bool×Bool)):Option (Fl (Int×Int×Int×Bool×Bool) (Unit×(List aU))):=
 cond (decide ((IntKind.i64.wrap (st.2.1 - st.1))<=12)) (ax (oE u0 st.1 st.2.1 a) fun b=>some (.rt ((),b.2))) (none)
def oF (u0:(List aU))(a:Int)(b:Int)(c:Int)(d:(aU->aU->Option Int)):Option (Unit×(List aU)):=
 cond (List.isEmpty u0) none (ax (bg (qX u0 d) fu (a,b,c,true,true)) fun o=>aH o (fun e=>some ((),u0)) (fun _ _=>none) (fun r=>some r))
theorem Gg {ro:Addr->Option Value}(u0:(List aU)){b5:Value}{u:List (Nat×Obj)}(j:bx eH ro 31 b5 u0 u)(k:Int)(l:Int)(n:Int)(d:(aU->aU->Option Int)){ij:FuncId}{jv jw:Array Value}(w:aO Tryz.prog ij=true/\∀(aK:Addr->Option Value),Ext ro aK->∀(y0:aU) (x:aU) (z:Int),d y0 x=some z->aF Tryz.prog ij (jv++#[y0.v,x.v]++jw) ⟨aK,[]⟩ (fun v _=>v= .int .i64 z)){r:(Unit×(List aU))}(h:oF u0 k l n d=some r):aF Tryz.prog 135 #[b5,.int .i64 k,.int .i64 l,.int .i64 n,.func (.func ij) jv jw] ⟨ro,u⟩ (fun v G=>∃e,(v= .tuple #[]/\bx eH ro 31 b5 r.2 e)/\Le ⟨ro,e⟩ G):=by
 obtain ⟨d1,c2,rfl,T⟩:=j.len;unfold oF at h;have h':=aD h;clear h;rcases h' with ⟨y,h⟩|⟨y,h⟩
 .cases h
 obtain ⟨o,E,rfl,rfl,U⟩:=j.fL y;refine aF.go Tryz.func135 rfl Tryz.ntmps135 Tryz.results135 aB fun main J hJ A F hd hs=>?_;have H:=hs 0;have k1:=hs 1;have I:=hs 2;have K:=hs 3;have L:=hs 4;clear hs;refine af hJ ?_;refine aJ hJ fun V=>?_;refine ah hJ ?_;apply aa _;refine af hJ ?_;refine aJ hJ fun W=>?_;refine ah hJ ?_;apply aa _;refine aY hJ ?_;have h':=an h;clear h;obtain ⟨M,a,N⟩:=h';have h:=True.intro;refine bO hJ [1,2,3,10,11,12,13,14,15,16,17,18,19,20,21,22,23,24,25,26,27,28,29,30,31,32,33,34,35,36,37,38,39,40,41,42,43,44,45,46,47,48,49,50,51,52,53,54,55,56,57,58,59,60,61,62,63,64,65,66,67,68,69,70,71,72,73,74,75,76,77,78,79,80,81,82,83,84,85,86,87,88,89,90,91,92,93,94,95,96,97,98,99,100,101,102,103,104,105,106,107,108,109,110,111,112,113,114,115,116,117,118,119,120,121,122,123,124,125,126,127,128,129,130,131,132,133,134,135,136,137,138,139,140,141,142,143,144,145,146,147] (fun m b F'=>∃(f:Int) (g:Int) (p:Int) (q:Bool) (s:Bool),bg (qX u0 d) m (f,g,p,q,s)=some M/\F'=⟨ro,[(o,Obj.cells E 31)]⟩/\slot b 1= .int .i64 f/\slot b 2= .int .i64 g/\slot b 3= .int .i64 p/\slot b 10= .bool q/\slot b 11= .bool s) fu ?_ ?_
 .refine ⟨k,l,n,true,true,a,rfl,?_⟩;simp only[*,go_sem,-h]
 rintro B i F' c ⟨f,g,p,q,s,a,rfl,X,Y,Z,ab,ad⟩;have h:=True.intro;have ae:sz i=148:=by rw[c.size];simp only[*,go_sem,-h]
 have al:i.defers=[]:=by rw[c.defers];simp only[*,go_sem,-h]
 have ao:slot i 0= .slice (some ⟨o,0,none⟩) u0.length c2:=by rw[c.ay 0 av];simp only[*,go_sem,-h]
 have ar:slot i 4= .func (.func ij) jv jw:=by rw[c.ay 4 av];simp only[*,go_sem,-h]
 clear c F hd H k1 I K L;obtain _|B:=B
 .exact absurd a (by simp only[bg,reduceCtorEq,not_false_eq_true])
 have h':=an a;clear a h;obtain ⟨a0,h,C⟩:=h';unfold qX at h;try dsimp only at h
 refine aY hJ ?_;refine af hJ ?_;refine aJ hJ fun a2=>?_;refine ah hJ ?_;apply aa _;refine af hJ ?_;refine af hJ ?_;refine aJ hJ fun a3=>?_;refine ah hJ ?_;apply aa _;have h':=aD h;clear h;rcases h' with ⟨t,h⟩|⟨t,h⟩
 .try simp only[Int.ofNat_lt] at t
  refine aN hJ ak ?_;refine af hJ ?_;refine aJ hJ fun a4=>?_;refine ah hJ ?_;have h':=an h;clear h;obtain ⟨a5,O,h⟩:=h';apply aa _;refine dA hJ [] [] (by first|rfl|simp only[bh]|(simp only[bh];rfl)) _ (Gf u0 j f g d ⟨w.1,fun _ P=>w.2 _ (Ext.trans (Ext.refl _) P)⟩ O) (fun a6 a7 Q e R a8=>?_);obtain ⟨rfl,D⟩:=Q;obtain ⟨S,rfl⟩:=D.fC;simp only[bh] at R;subst e;refine ⟨⟨ro,[(o,Obj.cells S 31)]⟩,Le.refl _,?_⟩;try apply aa _
  have h':=Option.some.inj h;clear h;subst h';have h':=Option.some.inj C;clear C;subst h';have h:=N;dsimp only[aH] at h;have h':=Option.some.inj h;clear h;subst h';refine aG ?_;apply bt _;exact ⟨_,D,Le.sub (List.Sublist.refl _)⟩
 try simp only[Int.ofNat_lt] at t
 refine aM hJ ak ?_;cases h
def qY (u0:(List aU))(a:(aU->aU->Option Int)):Option (Unit×(List aU)):=
 cond (List.isEmpty u0) none (ax (jP (IntKind.u64.wrap (u0.length:Int))) fun b=>ax (oF u0 0 (u0.length:Int) b a) fun c=>some ((),c.2))
theorem Gh {ro:Addr->Option Value}(u0:(List aU)){b5:Value}{d:List (Nat×Obj)}(b:bx eH ro 31 b5 u0 d)(c:(aU->aU->Option Int)){bL:FuncId}{bQ bR:Array Value}(e:aO Tryz.prog bL=true/\∀(aK:Addr->Option Value),Ext ro aK->∀(y0:aU) (f:aU) (z:Int),c y0 f=some z->aF Tryz.prog bL (bQ++#[y0.v,f.v]++bR) ⟨aK,[]⟩ (fun v _=>v= .int .i64 z)){r:(Unit×(List aU))}(h:qY u0 c=some r):aF Tryz.prog 111 #[b5,.func (.func bL) bQ bR] ⟨ro,d⟩ (fun v G=>∃a,(v= .tuple #[]/\bx eH ro 31 b5 r.2 a)/\Le ⟨ro,a⟩ G):=by
 obtain ⟨d1,c2,rfl,s⟩:=b.len;unfold qY at h;have h':=aD h;clear h;rcases h' with ⟨g,h⟩|⟨g,h⟩
 .cases h
 obtain ⟨j,t,rfl,rfl,u⟩:=b.fL g;refine aF.go Tryz.func111 rfl Tryz.ntmps111 Tryz.results111 aB fun main J hJ A w hd hs=>?_;have x:=hs 0;have k1:=hs 1;clear hs;refine af hJ ?_;refine aJ hJ fun y=>?_;refine ah hJ ?_;apply aa _;refine aJ hJ fun B=>?_;refine ah hJ ?_;have h':=an h;clear h;obtain ⟨k,l,h⟩:=h';apply aa _;refine bp hJ _ (qs (IntKind.u64.wrap (u0.length:Int)) l) (aS ?_);have h':=an h;clear h;obtain ⟨C,m,h⟩:=h';try apply aa _
 refine dA hJ [] [] (by first|rfl|simp only[bh]|(simp only[bh];rfl)) _ (Gg u0 b 0 (u0.length:Int) k c ⟨e.1,fun _ n=>e.2 _ (Ext.trans (Ext.refl _) n)⟩ m) (fun D E o a p F=>?_);obtain ⟨rfl,i⟩:=o;obtain ⟨q,rfl⟩:=i.fC;simp only[bh] at p;subst a;refine ⟨⟨ro,[(j,Obj.cells q 31)]⟩,Le.refl _,?_⟩;try apply aa _
 have h':=Option.some.inj h;clear h;subst h';apply bt _;exact ⟨_,i,Le.sub (List.Sublist.refl _)⟩
end Go.Proofs.YtcoalekambhghaaGreatDoor
end

/- A part of the proof: QS1. -/
import Derived.Attr
import Derived.KernelRfl
import Derived.Conc.Own
import Derived.Conc.Events
import Derived.Conc.Beside
import Derived.Conc.Listed
import Derived.Orders
import Derived.Conc.MuSpec
set_option linter.all false
section
namespace Go
theorem ai {Q:Prop}(e:Q:=by omega):Q:=e
theorem aS {Q:Prop}(e:Q:=by kernel_rfl):Q:=e
theorem ay {Q:Prop}(e:Q:=by decide):Q:=e
theorem aB {Q:Prop}(e:Q:=by simp):Q:=e
theorem cY {Q:Prop}(e:Q:=by simp only[*,go_sem]):Q:=e
theorem bB {Q:Prop}(e:Q:=by simp only[*,go_sem,-hM,-hJ]):Q:=e
theorem cS {Q:Prop}(e:Q:=by first|(simp only[*,go_sem,-hK,-hM,-hJ];done)|rfl):Q:=e
theorem eT {Q:Prop}(e:Q:=by first|(simp only[*,go_sem,-hK,-hM,-hJ];done)|(simp only[*,go_sem,-hK,-hM,-hJ];rfl)):Q:=e
theorem e7 {Q:Prop}(e:Q:=by simp only[*,go_sem,-hK,-hM,-hJ]):Q:=e
theorem au {Q:Prop}(e:Q:=by simp only[*,go_sem,-h]):Q:=e
theorem cZ {Q:Prop}(e:Q:=by simp (maxSteps:=9^9) only[*,go_sem,-h]):Q:=e
theorem bw {Q P:Prop}(h:P)(e:Q=P:=by conv=>lhs;simp only[*,go_sem]):Q:=e▸h
theorem aa {Q P:Prop}(h:P)(e:Q=P:=by conv=>lhs;simp only[*,go_sem,-h]):Q:=e▸h
theorem bL {Q P:Prop}(h:P)(e:Q=P:=by conv=>lhs;simp (maxSteps:=9^9) only[*,go_sem,-h]):Q:=e▸h
theorem fJ {Q P:Prop}(h:P)(e:Q=P:=by conv=>lhs;simp only[*,go_sem,-hK,-hM,-hJ]):Q:=e▸h
end Go
end
section
namespace Go.Sep
open Go Go.Conc
theorem bE {α:Type}:(∀l:List α,l++[]=l)/\(∀(a:α) l m,(a::l)++m=a::(l++m))/\(∀l:List α,[]++l=l)/\(∀l m n:List α,l++m++n=l++(m++n)):=⟨List.append_nil,fun _ _ _=>rfl,fun _=>rfl,List.append_assoc⟩
structure ag where
 ro:Addr->Option Value
 own:List (Nat×Obj)
def keys (l:List (Nat×Obj)):List Nat:=l.map (·.1)
def cellOf:Obj->Nat->Option Value
 | .cells c _ _,off=>c[off]?
 |_,_=>none
def lk:List (Nat×Obj)->Nat->Option Obj
 |[],_=>none
 |(c,o)::l,b=>if c=b then some o else lk l b
def eU:List (Nat×Obj)->Nat->Obj->List (Nat×Obj)
 |[],_,_=>[]
 |(c,o)::l,b,x=>if c=b then (c,x)::l else (c,o)::eU l b x
theorem gG:∀{l:List (Nat×Obj)} {b:Nat} {o:Obj},lk l b=some o->(b,o)∈l
 |[],_,_,h=>by cases h
 |(c,x)::l,b,o,h=>by
  unfold lk at h
  split at h
  .rename_i e;cases h;exact e▸List.mem_cons_self
  .exact List.mem_cons_of_mem _ (gG h)
theorem pJ:∀(l:List (Nat×Obj)) (b:Nat) (x:Obj),keys (eU l b x)=keys l
 |[],_,_=>rfl
 |(c,o)::l,b,x=>by
  unfold eU
  split
  .rfl
  .simp only[keys,List.map_cons];exact congrArg _ (pJ l b x)
theorem w9:∀{l:List (Nat×Obj)} {b:Nat} {x:Obj},(keys l).Nodup->∀{c:Nat} {y:Obj},(c,y)∈eU l b x->(c=b/\y=x)\/(c≠b/\(c,y)∈l)
 |[],_,_,_,_,_,h=>by cases h
 |(d,o)::l,b,x,hn,c,y,h=>by
  simp only[keys,List.map_cons,List.nodup_cons] at hn
  unfold eU at h
  split at h
  .rename_i e
   rcases List.mem_cons.1 h with h|h
   .cases h;exact .inl ⟨e,rfl⟩
   .refine .inr ⟨fun a=>hn.1 ?_,List.mem_cons_of_mem _ h⟩
    rw[e,<-a]
    exact List.mem_map.2 ⟨_,h,rfl⟩
  .rename_i e
   rcases List.mem_cons.1 h with h|h
   .cases h;exact .inr ⟨e,List.mem_cons_self⟩
   .exact (w9 hn.2 h).imp id (fun z=>⟨z.1,List.mem_cons_of_mem _ z.2⟩)
def ag.get (F:ag)(a:Addr):Option Value:=
 match F.ro a with
 |some v=>some v
 |none=>if a.spot=none then (lk F.own a.block).bind (cellOf · a.off) else none
structure Has (F:ag)(w:World):Prop where
 ro:∀a v,F.ro a=some v->w.cell? a=some v
 own:∀b o,(b,o)∈F.own->w.heap[b]?=some o
 nodup:(keys F.own).Nodup
 apart:∀a v,F.ro a=some v->a.block∉keys F.own
theorem Has.reads {F:ag}{w:World}(h:Has F w){a:Addr}{v:Value}(r:F.get a=some v):w.cell? a=some v:=by
 unfold ag.get at r;split at r
 .rename_i x c;cases r;exact h.ro _ _ c
 .split at r
  .rename_i hs;obtain ⟨o,ho,b⟩:=Option.bind_eq_some_iff.1 r;have:=h.own _ _ (gG ho);cases o<;>simp[cellOf] at b;simp[World.cell?,this,hs,b]
  .cases r
theorem xb {F:ag}{a:Addr}{v:Value}(r:F.get a=some v):a.block∈keys F.own\/(F.ro a).isSome=true:=by
 unfold ag.get at r;split at r
 .rename_i x b;exact .inr (by simp[b])
 .split at r
  .obtain ⟨o,ho,_⟩:=Option.bind_eq_some_iff.1 r;exact .inl (List.mem_map.2 ⟨_,gG ho,rfl⟩)
  .cases r
structure dw (F F':ag)(w w':World):Prop where
 os:w'.os=w.os
 tape:w'.tape=w.tape
 output:w'.output=w.output
 size:w.heap.size<=w'.heap.size
 frame:∀b,b<w.heap.size->b∉keys F.own->w'.heap[b]?=w.heap[b]?
 ro:∀a,(F'.ro a).isSome=true->(F.ro a).isSome=true\/a.block∈keys F.own\/w.heap.size<=a.block
 own:∀b,b∈keys F'.own->b∈keys F.own\/w.heap.size<=b
theorem dw.refl (F:ag)(w:World):dw F F w w:=⟨rfl,rfl,rfl,Nat.le_refl _,fun _ _ _=>rfl,fun _ h=>.inl h,fun _ h=>.inl h⟩
theorem dw.trans {F G H:ag}{u v w:World}(h:dw F G u v)(k:dw G H v w):dw F H u w where
 os:=k.os.trans h.os
 tape:=k.tape.trans h.tape
 output:=k.output.trans h.output
 size:=Nat.le_trans h.size k.size
 frame b hb hn:=by
  rw[k.frame b (Nat.lt_of_lt_of_le hb h.size) (fun c=>(h.own b c).elim hn (fun d=>absurd hb ai))]
  exact h.frame b hb hn
 ro a x:=by
  rcases k.ro a x with y|y|y
  .exact h.ro a y
  .exact .inr (h.own _ y)
  .exact .inr (.inr (Nat.le_trans h.size y))
 own b hb:=by
  rcases k.own b hb with x|x
  .exact h.own b x
  .exact .inr (Nat.le_trans h.size x)
def nD:Mark->Bool
 | .extern _| .noRoom=>true
 |_=>false
def gi (ro:Addr->Option Value)(ks:Nat->Prop)(e:Event):Prop:=
 (∃a wr,e=⟨.cell a,wr,false⟩/\(ks a.block\/(wr=false/\(ro a).isSome=true)))\/
 (∃r wr,e=⟨.obj r,wr,false⟩/\ks r)\/
 (∃m,e=⟨.mark m,false,true⟩/\nD m=true)
theorem gi.mono {ro aK:Addr->Option Value}{ks c:Nat->Prop}{e:Event}(h:gi ro ks e)(f:∀a,(ro a).isSome=true->(aK a).isSome=true)(d:∀b,ks b->c b):gi aK c e:=by
 rcases h with ⟨a,wr,rfl,h⟩|⟨r,wr,rfl,h⟩|⟨m,rfl,hm⟩
 .exact .inl ⟨a,wr,rfl,h.imp (d _) (fun ⟨x,y⟩=>⟨x,f _ y⟩)⟩
 .exact .inr (.inl ⟨r,wr,rfl,d _ h⟩)
 .exact .inr (.inr ⟨m,rfl,hm⟩)
def fK (F:ag)(n m:Nat)(b:Nat):Prop:=b∈keys F.own\/(n<=b/\b<m)
theorem eB {l:List (Nat×Obj)}{b:Nat}{o:Obj}(h:(b,o)∈l):b∈keys l:=List.mem_map.2 ⟨_,h,rfl⟩
theorem Has.lt {F:ag}{w:World}(h:Has F w){b:Nat}(hb:b∈keys F.own):b<w.heap.size:=by
 obtain ⟨⟨c,o⟩,hm,rfl⟩:=List.mem_map.1 hb;have:=h.own c o hm;rcases Nat.lt_or_ge c w.heap.size with x|x
 .exact x
 .simp[Array.getElem?_eq_none x] at this
theorem Has.gH {F:ag}{w:World}(h:Has F w){a:Addr}(b:(F.ro a).isSome=true):a.block<w.heap.size:=by
 obtain ⟨v,hv⟩:=Option.isSome_iff_exists.1 b;have:=h.ro a v hv;unfold World.cell? at this;rcases Nat.lt_or_ge a.block w.heap.size with x|x
 .exact x
 .simp[Array.getElem?_eq_none x] at this
def ag.push (F:ag)(b:Nat)(o:Obj):ag:={F with own:=(b,o)::F.own}
def ag.put (F:ag)(b:Nat)(o:Obj):ag:={F with own:=eU F.own b o}
def shapeOf:Obj->Option (TypeId×Nat)
 | .cells c elem _=>some (elem,c.size)
 |_=>none
def frozenAt:Obj->Nat->Bool
 | .cells _ _ (lo,hi),off=>lo<=off&&off<hi
 |_,_=>false
def Obj.nE:Obj->Bool
 | .cells ..=>true
 |_=>false
def e8:Value->Bool
 | .agg _| .tuple _=>false
 |_=>true
def ag.ku (F:ag)(a:Addr)(v:Value):Option ag:=
 match lk F.own a.block with
 |some (.cells c t fr)=>if e8 v=true/\a.spot=none/\a.off<c.size/\frozenAt (.cells c t fr) a.off=false then some (F.put a.block (.cells (c.setIfInBounds a.off v) t fr)) else none
 |_=>none
def ag.c7 (F:ag)(r:Nat):Option Obj:=
 match lk F.own r with
 |some o=>if Obj.nE o=false/\o.isChan=false then some o else none
 |none=>none
def aN:List (Nat×Obj)->Nat->Prop
 |[],_=>True
 |(c,_)::l,b=>¬b=c/\aN l b
theorem xd:∀{l:List (Nat×Obj)} {b:Nat},(∀x∈keys l,¬b=x)->aN l b
 |[],_,_=>trivial
 |(c,_)::l,b,h=>⟨h c (by simp[keys]),xd fun x a=>h x (by simp only[keys,List.map_cons,List.mem_cons];exact .inr a)⟩
structure dx (F:ag)(b:Nat):Prop where
 ro:∀off sp,F.ro ⟨b,off,sp⟩=none
 own:aN F.own b
def bx {α:Type}(P:Program):Sem α->(α->ag->Prop)->ag->Prop
 | .pure a,Q,F=>Q a F
 | .load m a k,Q,F=>m= .plain/\∃v,F.get a=some v/\bx P (k v) Q F
 | .store m a v k,Q,F=>m= .plain/\∃F',F.ku a v=some F'/\bx P k Q F'
 | .new o k,Q,F=>o.isChan=false/\∀b,dx F b->bx P (k b) Q (F.push b o)
 | .shape r k,Q,F=>match lk F.own r with
  |some o=>bx P (k (shapeOf o)) Q F
  |none=>∀s,bx P (k s) Q F
 | .freeze _ _ _,_,_=>False
 | .frozen a k,Q,F=>match lk F.own a.block with
  |some o=>bx P (k (frozenAt o a.off)) Q F
  |none=>∀s,bx P (k s) Q F
 | .getObj r k,Q,F=>∃o,F.c7 r=some o/\bx P (k o) Q F
 | .setObj r o k,Q,F=>o.isChan=false/\(F.c7 r).isSome=true/\bx P k Q (F.put r o)
 | .choose q k,Q,F=>if q.forced then bx P (k 0) Q F else ∀t,bx P (k (q.cut t)) Q F
 | .sys _ _,_,_=>False
 | .program k,Q,F=>bx P (k P) Q F
 | .mark m k,Q,F=>nD m=true/\bx P k Q F
 | .halt _,_,_=>False
theorem gk {α:Type}{P:Program}{Q f:α->ag->Prop}(h:∀a F,Q a F->f a F):∀(s:Sem α) (F:ag),bx P s Q F->bx P s f F:=by
 intro s
 induction s with
 |pure a=>exact fun F x=>h _ _ x
 |load m a k ih=>exact fun F ⟨x,v,y,z⟩=>⟨x,v,y,ih _ _ z⟩
 |store m a v k ih=>exact fun F ⟨x,F',y,z⟩=>⟨x,F',y,ih _ z⟩
 |new o k ih=>exact fun F x=>⟨x.1,fun b hb=>ih _ _ (x.2 b hb)⟩
 |shape r k ih=>intro F x;unfold bx at x ⊢;split<;>rename_i d<;>rw[d] at x;exact ih _ _ x;exact fun s=>ih _ _ (x s)
 |freeze a n k ih=>exact fun F x=>x
 |frozen a k ih=>intro F x;unfold bx at x ⊢;split<;>rename_i d<;>rw[d] at x;exact ih _ _ x;exact fun s=>ih _ _ (x s)
 |getObj r k ih=>exact fun F ⟨o,x,z⟩=>⟨o,x,ih _ _ z⟩
 |setObj r o k ih=>exact fun F ⟨x,y,z⟩=>⟨x,y,ih _ z⟩
 |choose q k ih=>
  intro F x;unfold bx at x ⊢;split
  .rename_i e;rw[if_pos e] at x;exact ih _ _ x
  .rename_i e;rw[if_neg e] at x;exact fun t=>ih _ _ (x t)
 |sys c k ih=>exact fun F x=>x
 |program k ih=>exact fun F x=>ih _ _ x
 |mark m k ih=>exact fun F ⟨x,y⟩=>⟨x,ih _ y⟩
 |halt h=>exact fun F x=>x
theorem xe {α β:Type}{P:Program}{Q:β->ag->Prop}{f:α->Sem β}:∀(s:Sem α) (F:ag),bx P (s.bind f) Q F↔bx P s (fun a G=>bx P (f a) Q G) F:=by
 intro s
 induction s with
 |pure a=>exact fun F=>Iff.rfl
 |load m a k ih=>intro F;simp only[Sem.bind,bx,ih]
 |store m a v k ih=>intro F;simp only[Sem.bind,bx,ih]
 |new o k ih=>intro F;simp only[Sem.bind,bx,ih]
 |shape r k ih=>intro F;simp only[Sem.bind,bx,ih]
 |freeze a n k ih=>intro F;simp only[Sem.bind,bx]
 |frozen a k ih=>intro F;simp only[Sem.bind,bx,ih]
 |getObj r k ih=>intro F;simp only[Sem.bind,bx,ih]
 |setObj r o k ih=>intro F;simp only[Sem.bind,bx,ih]
 |choose q k ih=>intro F;simp only[Sem.bind,bx,ih]
 |sys c k ih=>intro F;simp only[Sem.bind,bx]
 |program k ih=>intro F;simp only[Sem.bind,bx,ih]
 |mark m k ih=>intro F;simp only[Sem.bind,bx,ih]
 |halt h=>intro F;simp only[Sem.bind,bx]
theorem Has.push {F:ag}{w:World}(h:Has F w)(o:Obj):Has (F.push w.heap.size o) {w with heap:=w.heap.push o}:=by
 have f:∀b o,(b,o)∈F.own->b<w.heap.size:=fun b o hb=>by
  have:=h.own b o hb;rcases Nat.lt_or_ge b w.heap.size with x|x
  .exact x
  .simp[Array.getElem?_eq_none x] at this
 have i:w.heap.size∉keys F.own:=fun hm=>by
  obtain ⟨⟨b,x⟩,j,e⟩:=List.mem_map.1 hm;have:=f b x j;simp at e;omega
 refine ⟨fun a v d=>?_,fun b x hb=>?_,?_,fun a v d hm=>?_⟩
 .have:=h.ro a v d;unfold World.cell? at this ⊢;split at this
  .rename_i c t fr g;have k:a.block<w.heap.size:=by
    rcases Nat.lt_or_ge a.block w.heap.size with x|x
    .exact x
    .simp[Array.getElem?_eq_none x] at g
   rw[show (w.heap.push o)[a.block]?=w.heap[a.block]? from by rw[Array.getElem?_push,if_neg ai],g];exact this
  .cases this
 .simp only[ag.push,List.mem_cons] at hb;rcases hb with hb|hb
  .cases hb;simp
  .have:=f b x hb;show (w.heap.push o)[b]?=some x;rw[Array.getElem?_push,if_neg ai];exact h.own b x hb
 .simp only[ag.push,keys,List.map_cons,List.nodup_cons];exact ⟨i,h.nodup⟩
 .simp only[ag.push,keys,List.map_cons,List.mem_cons] at hm;rcases hm with hm|hm
  .have:=h.ro a v d;unfold World.cell? at this;rw[hm] at this;simp at this
  .exact h.apart a v d hm
theorem Has.fresh {F:ag}{w:World}(h:Has F w):dx F w.heap.size:=by
 refine ⟨fun off sp=>?_,xd fun x b e=>?_⟩
 .cases c:F.ro ⟨w.heap.size,off,sp⟩ with
  |none=>rfl
  |some v=>have:=h.gH (a:=⟨w.heap.size,off,sp⟩) (by simp[c]);simp at this
 .have:=h.lt b;omega
theorem Has.set {F:ag}{w w':World}(h:Has F w){b:Nat}{o:Obj}(hm:b∈keys F.own)(hb:w'.heap[b]?=some o)(f:∀c,c≠b->w'.heap[c]?=w.heap[c]?):Has (F.put b o) w':=by
 refine ⟨fun a v d=>?_,fun c y g=>?_,?_,fun a v d=>?_⟩
 .have hn:a.block≠b:=fun e=>h.apart a v d (e▸hm);have:=h.ro a v d;unfold World.cell? at this ⊢;rw[f _ hn];exact this
 .rcases w9 h.nodup g with ⟨rfl,rfl⟩|⟨hn,hm⟩
  .exact hb
  .rw[f _ hn];exact h.own _ _ hm
 .simp only[ag.put,pJ];exact h.nodup
 .simp only[ag.put,pJ];exact h.apart a v d
theorem dw.put {F:ag}{w w':World}{b:Nat}{o:Obj}(hm:b∈keys F.own)(a:w'.os=w.os)(ht:w'.tape=w.tape)(ho:w'.output=w.output)(hs:w'.heap.size=w.heap.size)(d:∀c,c≠b->w'.heap[c]?=w.heap[c]?):dw F (F.put b o) w w' where
 os:=a
 tape:=ht
 output:=ho
 size:=ai
 frame c _ hn:=d c (fun e=>hn (e▸hm))
 ro _ h:=.inl h
 own c f:=.inl (by simpa [ag.put,pJ] using f)
theorem dw.push {F:ag}{w:World}(o:Obj):dw F (F.push w.heap.size o) w {w with heap:=w.heap.push o} where
 os:=rfl
 tape:=rfl
 output:=rfl
 size:=aB
 frame b hb _:=by show (w.heap.push o)[b]?=_;rw[Array.getElem?_push,if_neg ai]
 ro _ h:=.inl h
 own c a:=by
  simp only[ag.push,keys,List.map_cons,List.mem_cons] at a
  rcases a with rfl|a
  .exact .inr (Nat.le_refl _)
  .exact .inl a
structure kz {α:Type}(P:Program)(s:Sem α)(Q:α->ag->Prop)(F:ag)(w:World)(cT:Array Event)(a:α)(w':World)(F':ag)(es:Array Event):Prop where
 run:s.runT P w cT=(.ok a w',cT++es)
 upd:dw F F' w w'
 has:Has F' w'
 gU:∀e∈es,gi F.ro (fK F w.heap.size w'.heap.size) e
 post:Q a F'
theorem kz.cons {α:Type}{P:Program}{s s':Sem α}{Q:α->ag->Prop}{F F1 F':ag}{w w1 w':World}{cT es:Array Event}{e:Event}{a:α}
  (h:kz P s' Q F1 w1 (cT.push e) a w' F' es) (f:s.runT P w cT=s'.runT P w1 (cT.push e)) (hu:dw F F1 w w1) (hb:Has F1 w1) (he:gi F.ro (· ∈keys F.own) e) (g:F1.ro=F.ro):kz P s Q F w cT a w' F' (#[e]++es) where
 run:=by rw[f,h.run];simp
 upd:=hu.trans h.upd
 has:=h.has
 gU x c:=by
  simp only[Array.mem_append,List.mem_toArray,List.mem_singleton] at c
  rcases c with rfl|c
  .exact he.mono (fun _ h=>h) (fun _ h=>.inl h)
  .exact (h.gU x c).mono (fun a i=>by rw[<-g];exact i) (fun b d=>by
    rcases d with d|⟨j,k⟩
    .exact (hu.own b d).imp id (fun y=>⟨y,Nat.lt_of_lt_of_le (hb.lt d) h.upd.size⟩)
    .exact .inr ⟨Nat.le_trans hu.size j,k⟩)
 post:=h.post
theorem kz.skip {α:Type}{P:Program}{s s':Sem α}{Q:α->ag->Prop}{F F1 F':ag}{w w1 w':World}{cT es:Array Event}{a:α}
  (h:kz P s' Q F1 w1 cT a w' F' es) (d:s.runT P w cT=s'.runT P w1 cT) (hu:dw F F1 w w1) (hb:Has F1 w1) (e:F1.ro=F.ro):kz P s Q F w cT a w' F' es where
 run:=by rw[d,h.run]
 upd:=hu.trans h.upd
 has:=h.has
 gU x f:=(h.gU x f).mono (fun a g=>by rw[<-e];exact g) (fun b c=>by
    rcases c with c|⟨i,j⟩
    .exact (hu.own b c).imp id (fun y=>⟨y,Nat.lt_of_lt_of_le (hb.lt c) h.upd.size⟩)
    .exact .inr ⟨Nat.le_trans hu.size i,j⟩)
 post:=h.post
theorem Has.drawn {F:ag}{w:World}(h:Has F w)(n:Nat):Has F {w with drawn:=n}:=⟨h.ro,h.own,h.nodup,h.apart⟩
theorem dw.drawn (F:ag)(w:World)(n:Nat):dw F F w {w with drawn:=n}:=⟨rfl,rfl,rfl,Nat.le_refl _,fun _ _ _=>rfl,fun _ h=>.inl h,fun _ h=>.inl h⟩
theorem jI {α:Type}{P:Program}{Q:α->ag->Prop}:∀(s:Sem α) (F:ag) (w:World) (cT:Array Event),bx P s Q F->Has F w->
  ∃a w' F' es,kz P s Q F w cT a w' F' es:=by
 intro s
 induction s with
 |pure a=>exact fun F w cT h hw=>⟨a,w,F,#[],by simp[Sem.runT],.refl _ _,hw,aB,h⟩
 |load m a k ih=>
  rintro F w cT ⟨rfl,v,C,h⟩ hw
  obtain ⟨x,w',F',es,H⟩:=ih v F w (cT.push ⟨.cell a,false,false⟩) h hw
  refine ⟨x,w',F',_,H.cons ?_ (.refl _ _) hw (.inl ⟨a,false,rfl,(xb C).imp id fun y=>⟨rfl,y⟩⟩) rfl⟩
  have:=hw.reads C
  simp only[Sem.runT,this]
  rfl
 |store m a v k ih=>
  rintro F w cT ⟨rfl,F1,j,h⟩ hw
  unfold ag.ku at j
  split at j
  case h_2=>cases j
  rename_i c t fr l
  split at j
  case isFalse=>cases j
  rename_i i
  obtain ⟨hv,D,E,G⟩:=i
  cases j
  have d:=gG l
  have hb:=hw.own _ _ d
  have z:(w.setCell a v).heap[a.block]?=some (.cells (c.setIfInBounds a.off v) t fr):=by
   simp[World.setCell,Array.getElem?_modify,hb,D]
  have f:∀b,b≠a.block->(w.setCell a v).heap[b]?=w.heap[b]?:=by
   intro b f
   simp only[World.setCell]
   rw[Array.getElem?_modify,if_neg (fun e=>f e.symm)]
  have p:=hw.set (o:=.cells (c.setIfInBounds a.off v) t fr) (eB d) z f
  obtain ⟨x,w',F',es,H⟩:=ih _ (w.setCell a v) (cT.push ⟨.cell a,true,false⟩) h p
  refine ⟨x,w',F',_,H.cons ?_ (dw.put (eB d) rfl rfl rfl (by simp[World.setCell]) f) p (.inl ⟨a,true,rfl,.inl (eB d)⟩) rfl⟩
  have i:w.cell? a=some c[a.off]:=by simp[World.cell?,hb,D,E]
  have I:w.frozen? a=false:=by
   have:w.frozen? a=frozenAt (.cells c t fr) a.off:=by
    obtain ⟨lo,hi⟩:=fr
    simp[World.frozen?,hb,frozenAt]
   rw[this,G]
  cases v<;>simp[e8] at hv<;>simp only[Sem.runT,i,I]<;>rfl
 |new o k ih=>
  intro F w cT h hw
  obtain ⟨x,w',F',es,H⟩:=ih w.heap.size (F.push w.heap.size o) {w with heap:=w.heap.push o} cT (h.2 _ hw.fresh) (hw.push o)
  exact ⟨x,w',F',es,H.skip (by simp only[Sem.runT]) (dw.push o) (hw.push o) rfl⟩
 |shape r k ih=>
  intro F w cT h hw
  have:bx P (k (w.shape? r)) Q F:=by
   unfold bx at h
   split at h
   .rename_i o ho
    have e:w.shape? r=shapeOf o:=by
     have:=hw.own _ _ (gG ho)
     cases o<;>simp[World.shape?,this,shapeOf]
    rw[e];exact h
   .exact h _
  obtain ⟨x,w',F',es,H⟩:=ih _ F w cT this hw
  exact ⟨x,w',F',es,H.skip (by simp only[Sem.runT]) (.refl _ _) hw rfl⟩
 |freeze a n k ih=>exact fun F w cT h hw=>h.elim
 |frozen a k ih=>
  intro F w cT h hw
  have:bx P (k (w.frozen? a)) Q F:=by
   unfold bx at h
   split at h
   .rename_i o ho
    have e:w.frozen? a=frozenAt o a.off:=by
     have:=hw.own _ _ (gG ho)
     cases o<;>simp[World.frozen?,this,frozenAt]
    rw[e];exact h
   .exact h _
  obtain ⟨x,w',F',es,H⟩:=ih _ F w cT this hw
  exact ⟨x,w',F',es,H.skip (by simp only[Sem.runT]) (.refl _ _) hw rfl⟩
 |getObj r k ih=>
  rintro F w cT ⟨o,ho,h⟩ hw
  unfold ag.c7 at ho
  split at ho
  case h_2=>cases ho
  rename_i o' l
  split at ho
  case isFalse=>cases ho
  rename_i A
  cases ho
  obtain ⟨x,w',F',es,H⟩:=ih _ F w (cT.push ⟨.obj r,false,false⟩) h hw
  refine ⟨x,w',F',_,H.cons ?_ (.refl _ _) hw (.inr (.inl ⟨r,false,rfl,eB (gG l)⟩)) rfl⟩
  have:=hw.own _ _ (gG l)
  obtain ⟨i,B⟩:=A
  cases o<;>simp[Obj.nE] at i<;>simp only[Sem.runT,this,B]<;>rfl
 |setObj r o k ih=>
  rintro F w cT ⟨B,g,h⟩ hw
  obtain ⟨x,g⟩:=Option.isSome_iff_exists.1 g
  unfold ag.c7 at g
  split at g
  case h_2=>cases g
  rename_i x' l
  split at g
  case isFalse=>cases g
  rename_i A
  cases g
  have d:=gG l
  have hb:=hw.own _ _ d
  have J:r<w.heap.size:=hw.lt (eB d)
  have z:({w with heap:=w.heap.setIfInBounds r o}:World).heap[r]?=some o:=by simp[J]
  have f:∀b,b≠r->({w with heap:=w.heap.setIfInBounds r o}:World).heap[b]?=w.heap[b]?:=fun b f=>by
   simp[Array.getElem?_setIfInBounds,Ne.symm f]
  have p:=hw.set (w':={w with heap:=w.heap.setIfInBounds r o}) (o:=o) (eB d) z f
  obtain ⟨y,w',F',es,H⟩:=ih (F.put r o) {w with heap:=w.heap.setIfInBounds r o} (cT.push ⟨.obj r,true,false⟩) h p
  refine ⟨y,w',F',_,H.cons ?_ (dw.put (eB d) rfl rfl rfl aB f) p (.inr (.inl ⟨r,true,rfl,eB d⟩)) rfl⟩
  obtain ⟨i,_⟩:=A
  cases x<;>simp[Obj.nE] at i<;>simp only[Sem.runT,hb,B]
 |choose q k ih=>
  intro F w cT h hw
  unfold bx at h
  by_cases u:q.forced=true
  .rw[if_pos u] at h
   obtain ⟨x,w',F',es,H⟩:=ih _ F w cT h hw
   exact ⟨x,w',F',es,H.skip (by simp only[Sem.runT,u,if_true]) (.refl _ _) hw rfl⟩
  .rw[if_neg u] at h
   obtain ⟨x,w',F',es,H⟩:=ih (q.cut (w.tape w.drawn q)) F {w with drawn:=w.drawn+1} cT (h _) (hw.drawn _)
   exact ⟨x,w',F',es,H.skip (by simp only[Sem.runT,if_neg u]) (.drawn _ _ _) (hw.drawn _) rfl⟩
 |sys c k ih=>exact fun F w cT h hw=>h.elim
 |program k ih=>
  intro F w cT h hw
  obtain ⟨x,w',F',es,H⟩:=ih P F w cT h hw
  exact ⟨x,w',F',es,H.skip (by simp only[Sem.runT]) (.refl _ _) hw rfl⟩
 |mark m k ih=>
  rintro F w cT ⟨hm,h⟩ hw
  obtain ⟨x,w',F',es,H⟩:=ih F w (cT.push ⟨.mark m,false,true⟩) h hw
  exact ⟨x,w',F',_,H.cons (by simp only[Sem.runT]) (.refl _ _) hw (.inr (.inr ⟨m,rfl,hm⟩)) rfl⟩
 |halt h=>exact fun F w cT h hw=>h.elim
def on (b:Frame)(a:Act)(todo:List Item):Frame:={b with tmps:=a.tmps,todo:=todo,defers:=a.defers,mode:=.run}
structure Le (F F':ag):Prop where
 has:∀w,Has F' w->Has F w
 own:∀b,b∈keys F.own->b∈keys F'.own
 ro:∀a,(F.ro a).isSome=true->(F'.ro a).isSome=true\/a.block∈keys F'.own
theorem Le.refl (F:ag):Le F F:=⟨fun _ h=>h,fun _ h=>h,fun _ h=>.inl h⟩
theorem Le.trans {F G H:ag}(h:Le F G)(k:Le G H):Le F H:=
 ⟨fun w x=>h.has w (k.has w x),fun b x=>k.own b (h.own b x),fun a x=>(h.ro a x).elim (k.ro a) (fun y=>.inr (k.own _ y))⟩
def BJ (P:Program)(main:Bool)(J:Goroutine->ag->Prop)(g:Goroutine)(F:ag)(w:World):Prop:=
 ∃g' w' es F',stepG P main g w= .go g' w' es/\dw F F' w w'/\Has F' w'/\(∀e∈es,gi F.ro (fK F w.heap.size w'.heap.size) e)/\J g' F'
structure Closed (P:Program)(main:Bool)(J:Goroutine->ag->Prop):Prop where
 mono:∀{g F F'},Le F F'->J g F->J g F'
 step:∀{fr cs F},(∀w,Has F w->BJ P main J (G fr cs) F w)->J (G fr cs) F
def de (P:Program)(J:Goroutine->ag->Prop)(f:FuncId)(args:Array Value)(F:ag)(R:Value->ag->Prop):Prop:=
 ∀(c:Frame) (cs:List Frame),(∀v F',R v F'->J (G (c.finish v) cs) F')->J (G (Frame.enter P f args .normal) (c::cs)) F
def aF (P:Program)(f:FuncId)(args:Array Value)(F:ag)(R:Value->ag->Prop):Prop:=
 ∀(main:Bool) (J:Goroutine->ag->Prop),Closed P main J->de P J f args F R
section
variable {P:Program}{main:Bool}{J:Goroutine->ag->Prop}
theorem de.mono {f:FuncId}{args:Array Value}{F:ag}{R a:Value->ag->Prop}(h:de P J f args F R)(b:∀v F',R v F'->a v F'):de P J f args F a:=
 fun c cs k=>h c cs fun v F' r=>k v F' (b v F' r)
theorem aF.mono {f:FuncId}{args:Array Value}{F:ag}{R a:Value->ag->Prop}(h:aF P f args F R)(b:∀v F',R v F'->a v F'):aF P f args F a:=
 fun m J hJ=>(h m J hJ).mono b
theorem Closed.move (hJ:Closed P main J){fr fr':Frame}{cs cs':List Frame}{F:ag}(hs:∀w,stepG P main (G fr cs) w= .go (G fr' cs') w #[])(h:J (G fr' cs') F):J (G fr cs) F:=
 hJ.step fun w hw=>⟨_,w,#[],F,hs w,.refl _ _,hw,aB,h⟩
variable {b:Frame}{a:Act}{k:List Item}{cs:List Frame}{F:ag}
theorem xg {w:World}:stepG P main (G (on b a (.code .skip::k)) cs) w= .go (G (on b a k) cs) w #[]:=by simp[G,stepG,stepG.exec,on]
theorem BK {l:Nat}{w:World}:stepG P main (G (on b a (.code (.label l)::k)) cs) w= .go (G (on b a k) cs) w #[]:=by simp[G,stepG,stepG.exec,on]
theorem xh {id:Nat}{w:World}:stepG P main (G (on b a (.inBlock id::k)) cs) w= .go (G (on b a k) cs) w #[]:=by simp[G,stepG,stepG.exec,on]
theorem BL {c:Code}{w:World}:stepG P main (G (on b a (.inScope c::k)) cs) w= .go (G (on b a k) cs) w #[]:=by simp[G,stepG,stepG.exec,on]
theorem xj {x y:Code}{w:World}:stepG P main (G (on b a (.code (.seq x y)::k)) cs) w= .go (G (on b a (.code x:: .code y::k)) cs) w #[]:=by simp[G,stepG,stepG.exec,on]
theorem r6 (b:Frame)(a:Act)(todo:List Item)(x:Operand):(on b a todo).eval x=a.eval x:=by cases x<;>rfl
theorem xk {c:Operand}{x y:Code}{t:Bool}{w:World}(h:a.eval c= .bool t):stepG P main (G (on b a (.code (.cond c x y)::k)) cs) w= .go (G (on b a (.code (if t then x else y)::k)) cs) w #[]:=by
 have h':(on b a (.code (.cond c x y)::k)).eval c= .bool t:=by rw[r6];exact h
 simp only[on] at h';simp[G,stepG,stepG.exec,on,h']
theorem xl {id:Nat}{c:Code}{w:World}:stepG P main (G (on b a (.code (.block id c)::k)) cs) w= .go (G (on b a (.code c:: .inBlock id::k)) cs) w #[]:=by simp[G,stepG,stepG.exec,on]
theorem xm {c:Code}{w:World}:stepG P main (G (on b a (.code (.loop c)::k)) cs) w= .go (G (on b a (.code c:: .inLoop c::k)) cs) w #[]:=by simp[G,stepG,stepG.exec,on]
theorem xo {c:Code}{w:World}:stepG P main (G (on b a (.inLoop c::k)) cs) w= .go (G (on b a (.code c:: .inLoop c::k)) cs) w #[]:=by simp[G,stepG,stepG.exec,on]
theorem BM {c:Code}{w:World}:stepG P main (G (on b a (.code (.scope c)::k)) cs) w= .go (G (on b a (.code c:: .inScope c::k)) cs) w #[]:=by simp[G,stepG,stepG.exec,on]
theorem xp {id:Nat}{c:List Item}{w:World}(h:exitTo id k=some c):stepG P main (G (on b a (.code (.exit id)::k)) cs) w= .go (G (on b a c) cs) w #[]:=by simp[G,stepG,stepG.exec,on,h]
theorem xq {id:Nat}{ops:Array Oper}{w:World}:stepG P main (G (on b a (.code (.region id ops false)::k)) cs) w= .go (G (on b a (.inRegion ops (List.range ops.size)::k)) cs) w #[]:=by simp[G,stepG,stepG.exec,on]
theorem r7 {id:Nat}{ops:Array Oper}{w:World}:stepG P main (G (on b a (.code (.region id ops true)::k)) cs) w=
  .go (G (on b a (.inRegion ops (Region.schedule (P.follows .mixedOrders) ops (w.tape w.drawn (.order b.fn id)))::k)) cs) {w with drawn:=w.drawn+1} #[]:=by
 simp[G,stepG,stepG.exec,on,choose,Sem.run,Question.forced,Question.cut]
theorem xu {ops:Array Oper}{w:World}:stepG P main (G (on b a (.inRegion ops []::k)) cs) w= .go (G (on b a k) cs) w #[]:=by simp[G,stepG,stepG.exec,on]
theorem stepG_ret' {w:World}(c:b.roundOf=none):stepG P main (G (on b a (.code .ret::k)) cs) w= .go (G {on b a (.code .ret::k) with mode:=.returning} cs) w #[]:=by simp[G,stepG,stepG.exec,on,c]
theorem jJ {w:World}(c:b.roundOf=none):stepG P main (G (on b a []) cs) w= .go (G {on b a [] with mode:=.returning} cs) w #[]:=by simp[G,stepG,stepG.exec,on,c]
theorem r8 (b:Frame)(a:Act)(ops:Array Oper)(i:Nat)(rest:List Nat)(k:List Item)(v:Value):
  (on b a (.inRegion ops (i::rest)::k)).finish v=on b (a.put ((ops[i]?).bind (·.dst)) v) (.inRegion ops rest::k):=by
 cases h:(ops[i]?).bind (·.dst)<;>simp[Frame.finish,on,Act.put,h]
theorem r9 {ops:Array Oper}{i:Nat}{rest:List Nat}{w:World}(h:((ops[i]?).map (Region.wanted · (yielded ops a.tmps))).getD false=false):
  stepG P main (G (on b a (.inRegion ops (i::rest)::k)) cs) w= .go (G (on b (a.put ((ops[i]?).bind (·.dst)) undef) (.inRegion ops rest::k)) cs) w #[]:=by
 rw[<-r8]
 have h':=h
 simp only[on] at*
 simp[G,stepG,stepG.exec,h']
theorem BN {ops:Array Oper}{i:Nat}{rest:List Nat}{o:Oper}{w:World}(d:b.roundOf=none\/∀c,o.op≠ .defer c)(ho:ops[i]?=some o)(hw:Region.wanted o (yielded ops a.tmps)=true):
  stepG P main (G (on b a (.inRegion ops (i::rest)::k)) cs) w=stepG.apply P true (on b a (.inRegion ops (i::rest)::k)) cs none (execOp a.eval o) w:=by
 have he:(on b a (.inRegion ops (i::rest)::k)).eval=a.eval:=funext (r6 b a _)
 simp only[on] at he
 rcases d with d|d
 .rw[d] at he
  simp[G,stepG,stepG.exec,stepG.oper,Frame.oper?,on,ho,hw,he,d]
 .have:∀l,(match (some l:Option Nat),o.op with
   |some l,.defer c=>stepG.apply P true (on b a (.inRegion ops (i::rest)::k)) cs none (do Instr.deferInRound l (<-resolve (on b a (.inRegion ops (i::rest)::k)).eval c o.type);pure .skip) w
   |_,_=>stepG.apply P true (on b a (.inRegion ops (i::rest)::k)) cs none (execOp a.eval o) w)=stepG.apply P true (on b a (.inRegion ops (i::rest)::k)) cs none (execOp a.eval o) w:=by
   intro l
   cases e:o.op<;>first|rfl|exact absurd e (d _)
  cases hb:b.roundOf with
  |none=>
   rw[hb] at he
   simp[G,stepG,stepG.exec,stepG.oper,Frame.oper?,on,ho,hw,he,hb]
  |some l=>
   have t:=this l
   simp only[on,he] at t
   simp only[hb] at t
   simp[G,stepG,stepG.exec,stepG.oper,Frame.oper?,on,ho,hw,he,hb]
   exact t
def iH (J:Goroutine->ag->Prop)(l:Nat)(f:FuncId)(tmps:Array Value)(assign body:Code)(F:ag)(R:Value->ag->Prop):Prop:=
 ∀(c:Frame) (cs:List Frame),(∀v F',R v F'->J (G (c.finish v) cs) F')->J (G (Frame.round l f tmps assign body .normal) (c::cs)) F
theorem iH.mono {l:Nat}{f:FuncId}{tmps:Array Value}{assign body:Code}{F:ag}{R a:Value->ag->Prop}(h:iH J l f tmps assign body F R)(b:∀v F',R v F'->a v F'):iH J l f tmps assign body F a:=
 fun c cs k=>h c cs fun v F' r=>k v F' (b v F' r)
def e9 (P:Program)(J:Goroutine->ag->Prop)(R:Value->ag->Prop)(D:Deferred->ag->Prop):Next->ag->Prop
 | .value v,F=>R v F
 | .skip,F=>R undef F
 | .defer d,F=>D d F
 | .enter f args,F=>de P J f args F R
 | .round l f tmps assign body,F=>iH J l f tmps assign body F R
 |_,_=>False
theorem xw {R a:Value->ag->Prop}{D b:Deferred->ag->Prop}(hR:∀v F,R v F->a v F)(c:∀d F,D d F->b d F):∀n F,e9 P J R D n F->e9 P J a b n F
 | .value v,F,h=>hR _ _ h
 | .skip,F,h=>hR _ _ h
 | .defer d,F,h=>c _ _ h
 | .enter f args,F,h=>de.mono h hR
 | .round l f tmps assign body,F,h=>iH.mono h hR
 | .stack ..,_,h| .callThen ..,_,h| .row ..,_,h| .comm ..,_,h| .spawn ..,_,h| .recover,_,h| .numGoroutine,_,h| .collect,_,h| .watch ..,_,h| .newcoro ..,_,h| .coroswitch ..,_,h| .sleep ..,_,h| .timer ..,_,h| .alone ..,_,h=>h.elim
def jg (P:Program)(J:Goroutine->ag->Prop)(R:Value->ag->Prop)(D:Deferred->ag->Prop)(n:Next)(F:ag):Prop:=e9 P J (fun v F=>∃F0,Le F0 F/\R v F0) D n F
theorem BO {R:Value->ag->Prop}{D:Deferred->ag->Prop}:∀n F,e9 P J R D n F->jg P J R D n F:=xw (fun _ F h=>⟨F,Le.refl F,h⟩) (fun _ _ h=>h)
theorem lq {R a:Value->ag->Prop}{D b:Deferred->ag->Prop}(hR:∀v F,R v F->a v F)(c:∀d F,D d F->b d F):∀n F,jg P J R D n F->jg P J a b n F:=
 xw (fun _ _ ⟨F0,hle,h⟩=>⟨F0,hle,hR _ _ h⟩) c
def xx (P:Program)(J:Goroutine->ag->Prop)(o:Oper)(K:Act->ag->Prop)(a:Act)(F:ag):Prop:=
 bx P (execOp a.eval o) (jg P J (fun v F'=>K (a.put o.dst v) F') (fun d F'=>K ({a with defers:=d::a.defers}.put o.dst undef) F')) F
def dy (P:Program)(J:Goroutine->ag->Prop)(ops:Array Oper)(i:Nat)(K:Act->ag->Prop)(a:Act)(F:ag):Prop:=
 match ops[i]? with
 |none=>K a F
 |some o=>if Region.wanted o (yielded ops a.tmps) then xx P J o K a F else K (a.put o.dst undef) F
def eI (P:Program)(J:Goroutine->ag->Prop)(ops:Array Oper)(K:Act->ag->Prop):List Nat->Act->ag->Prop
 |[],a,F=>K a F
 |i::rest,a,F=>dy P J ops i (eI P J ops K rest) a F
structure sd (ops:Array Oper)(b:Frame):Prop where
 kind:b.kind≠ .early
 round:b.roundOf=none\/∀o∈ops,∀c,o.op≠ .defer c
theorem se (hJ:Closed P main J){ops:Array Oper}{i:Nat}{rest:List Nat}{K:Act->ag->Prop}(hb:sd ops b)(h:dy P J ops i K a F)
  (hK:∀q F',K q F'->J (G (on b q (.inRegion ops rest::k)) cs) F'):J (G (on b a (.inRegion ops (i::rest)::k)) cs) F:=by
 unfold dy at h
 cases ho:ops[i]? with
 |none=>
  rw[ho] at h
  refine hJ.move (fun w=>r9 (by simp[ho])) ?_
  simp only[ho,Option.bind_none,Act.put]
  exact hK _ _ h
 |some o=>
  rw[ho] at h
  simp only at h
  by_cases hw:Region.wanted o (yielded ops a.tmps)=true
  .rw[if_pos hw] at h
   refine hJ.step fun w hF=>?_
   obtain ⟨n,w',F',es,H⟩:=jI _ F w #[] h hF
   have r:=H.run
   rw[Array.empty_append] at r
   have s:b.roundOf=none\/∀c,o.op≠ .defer c:=hb.round.imp id fun x=>x o (Array.mem_of_getElem? ho)
   have g:=BN (P:=P) (main:=main) (b:=b) (a:=a) (k:=k) (cs:=cs) (w:=w) (rest:=rest) s ho hw
   have t:((on b a (.inRegion ops (i::rest)::k)).kind==CallKind.early)=false:=by simpa [on] using hb.kind
   have p:∀v,(on b a (.inRegion ops (i::rest)::k)).finish v=on b (a.put o.dst v) (.inRegion ops rest::k):=by
    intro v;rw[r8,ho];rfl
   have m:∀e∈seen P (on b a (.inRegion ops (i::rest)::k)).fn es,gi F.ro (fK F w.heap.size w'.heap.size) e:=fun e he=>H.gU e (mem_seen he)
   have j:=H.post
   unfold stepG.apply at g
   simp only[if_true,r,t,Bool.false_eq_true,if_false] at g
   cases n<;>simp only[jg,e9] at j
   case value v=>
    simp only[p,GStep.after,Array.append_empty] at g
    obtain ⟨F0,hle,j⟩:=j
    exact ⟨_,w',_,F',g,H.upd,H.has,m,hJ.mono hle (hK _ _ j)⟩
   case skip=>
    simp only[p,GStep.after,Array.append_empty] at g
    obtain ⟨F0,hle,j⟩:=j
    exact ⟨_,w',_,F',g,H.upd,H.has,m,hJ.mono hle (hK _ _ j)⟩
   case defer d=>
    have u:({on b a (.inRegion ops (i::rest)::k) with defers:=d::(on b a (.inRegion ops (i::rest)::k)).defers}:Frame).finish undef=
      on b ({a with defers:=d::a.defers}.put o.dst undef) (.inRegion ops rest::k):=by
     have:=r8 b {a with defers:=d::a.defers} ops i rest k undef
     rw[ho] at this;exact this
    simp only[u,GStep.after,Array.append_empty] at g
    exact ⟨_,w',_,F',g,H.upd,H.has,m,hK _ _ j⟩
   case round l f tmps cH z=>
    refine ⟨_,w',_,F',g,H.upd,H.has,?_,j _ _ fun v y hR=>by obtain ⟨F0,hle,hR⟩:=hR;rw[p];exact hJ.mono hle (hK _ _ hR)⟩
    simpa [GStep.after] using m
   case enter f args=>
    refine ⟨_,w',_,F',g,H.upd,H.has,?_,j _ _ fun v y hR=>by obtain ⟨F0,hle,hR⟩:=hR;rw[p];exact hJ.mono hle (hK _ _ hR)⟩
    simpa [GStep.after] using m
  .rw[if_neg hw] at h
   refine hJ.move (fun w=>r9 (by simp[ho];simpa using hw)) ?_
   simp only[ho,Option.bind_some]
   exact hK _ _ h
theorem nF {ops:Array Oper}{i:Nat}{K c:Act->ag->Prop}{a:Act}{F:ag}(h:∀a F,K a F->c a F)(b:dy P J ops i K a F):dy P J ops i c a F:=by
 unfold dy at*;split
 .rename_i ho;rw[ho] at b;exact h _ _ b
 .rename_i o ho;rw[ho] at b;simp only at b;split
  .rename_i hw;rw[if_pos hw] at b;exact gk (lq (fun v F=>h _ _) (fun d F=>h _ _)) _ _ b
  .rename_i hw;rw[if_neg hw] at b;exact h _ _ b
theorem pK (hJ:Closed P main J){ops:Array Oper}{K:Act->ag->Prop}(hb:sd ops b)(hK:∀c F',K c F'->J (G (on b c k) cs) F'):
  ∀(l:List Nat) (a:Act) (F:ag),eI P J ops K l a F->J (G (on b a (.inRegion ops l::k)) cs) F
 |[],a,F,h=>hJ.move (fun _=>xu) (hK _ _ h)
 |i::rest,a,F,h=>se hJ hb h fun c F' h'=>pK hJ hb hK rest c F' h'
section draw
variable {ops:Array Oper}{Q:Act->ag->Prop}{S:ag->Prop}
def dZ (P:Program)(J:Goroutine->ag->Prop)(ops:Array Oper)(Q:Act->ag->Prop)(S:ag->Prop):Nat->Array Bool->Act->ag->Prop
 |0,listed,a,F=>Region.ready .any ops listed=[]/\Q a F
 |fuel+1,listed,a,F=>(Region.ready .any ops listed=[]->Q a F)/\
  ∀i∈Region.ready .any ops listed,dy P J ops i (fun b F'=>S F'/\dZ P J ops Q S fuel (listed.setIfInBounds i true) b F') a F
theorem BP:∀(fuel t:Nat) (listed:Array Bool) (a:Act) (F:ag),dZ P J ops Q S fuel listed a F->
  eI P J ops Q (Region.linearise.go .any ops fuel t listed []) a F:=by
 intro fuel
 induction fuel with
 |zero=>intro t listed a F h;simpa [Region.linearise.go,eI] using h.2
 |succ fuel ih=>
  intro t listed a F h
  obtain ⟨b,c⟩:=h
  simp only[Region.linearise.go]
  change eI P J ops Q (match (Region.ready .any ops listed)[t % (Region.ready .any ops listed).length]? with
   |some i=>Region.linearise.go .any ops fuel (t/(Region.ready .any ops listed).length) (listed.setIfInBounds i true) [i]
   |none=>[].reverse) a F
  cases hi:(Region.ready .any ops listed)[t % (Region.ready .any ops listed).length]? with
  |none=>
   have d:Region.ready .any ops listed=[]:=by
    cases e:Region.ready .any ops listed with
    |nil=>rfl
    |cons x xs=>
     rw[e] at hi
     have f:t % (x::xs).length<(x::xs).length:=Nat.mod_lt _ aB
     simp at hi
     simp at f
     omega
   simpa [eI] using b d
  |some i=>
   simp only[]
   rw[linearise_go_acc,List.reverse_singleton,List.singleton_append]
   exact nF (fun a F h=>ih _ _ a F h.2) (c i (List.mem_of_getElem? hi))
def fe (P:Program)(J:Goroutine->ag->Prop)(ops:Array Oper)(S:ag->Prop)(o:Oper)(v:Value)(a:Act):Prop:=
 (Region.wanted o (yielded ops a.tmps)=true/\∀F (R:Value->ag->Prop),S F->R v F->bx P (execOp a.eval o) (jg P J R (fun _ _=>False)) F)\/
 (Region.wanted o (yielded ops a.tmps)=false/\v=undef)
theorem fe.lu {i:Nat}{o:Oper}{v:Value}{a:Act}{F:ag}(hi:ops[i]?=some o)(b:fe P J ops S o v a)
  {K:Act->ag->Prop} (c:S F) (h:K (a.put o.dst v) F):dy P J ops i K a F:=by
 unfold dy
 simp only[hi]
 rcases b with ⟨hw,hv⟩|⟨hw,rfl⟩
 .rw[if_pos hw]
  exact gk (lq (fun _ _ x=>x) (fun _ _ x=>x.elim)) _ _ (hv F (fun v F'=>K (a.put o.dst v) F') c h)
 .rw[if_neg (by simp[hw])];exact h
theorem fe.of_same {o:Oper}{v:Value}{a b:Act}(c:fe P J ops S o v a)(he:execOp b.eval o=execOp a.eval o)
  (hw:Region.wanted o (yielded ops b.tmps)=Region.wanted o (yielded ops a.tmps)):fe P J ops S o v b:=by
 unfold fe at*
 rw[he,hw]
 exact c
theorem si {j:Nat}{c e:Oper}{v:Value}(m:ops[j]?=some e)(n:c.apart ops e=true)
  (o:∀cs b,c.op≠ .select cs b) (p:∀cs b,e.op≠ .select cs b) {K:Act->ag->Prop} {a:Act} {F:ag}
  (f:fe P J ops S c v a) (h:dy P J ops j K (a.put c.dst v) F):
  dy P J ops j (fun i F'=>fe P J ops S c v i/\K (i.put c.dst v) F') a F:=by
 obtain ⟨k,g,l⟩:=Oper.apart_spec n
 have keep:∀(a:Act),fe P J ops S c v a->∀u,fe P J ops S c v (a.put e.dst u):=fun a f u=>
  f.of_same (execOp_put c o a e.dst u l) (wanted_put c a e.dst u l)
 have q:∀d,fe P J ops S c v {a with defers:=d::a.defers}:=fun d=>f.of_same rfl rfl
 unfold dy at*
 simp only[m] at*
 rw[wanted_put e a c.dst v k] at h
 split
 .rename_i hw
  rw[if_pos hw] at h
  unfold xx at*
  rw[execOp_put e p a c.dst v k] at h
  refine gk (lq (fun u F' x=>⟨keep a f u,?_⟩) (fun d F' x=>⟨keep _ (q d) _,?_⟩)) _ _ h
  .rw[<-Act.put_comm a v u g];exact x
  .rw[<-Act.put_comm _ v undef g,<-Act.put_defers];exact x
 .rename_i hw
  rw[if_neg hw] at h
  exact ⟨keep a f _,by rw[<-Act.put_comm a v undef g];exact h⟩
theorem BQ {i:Nat}{l:Oper}{v:Value}(hi:ops[i]?=some l)(s:∀(j:Nat) (o:Oper) cs b,ops[j]?=some o->o.op≠ .select cs b):
  ∀(fuel:Nat) (listed:Array Bool) (a:Act) (F:ag),
   (∀j d,ops[j]?=some d->j≠i->listed.getD j true=false->(∀e∈d.after,Region.binds .any e=true->e.on≠i)->l.apart ops d=true)->
   i∈Region.ready .any ops listed->fe P J ops S l v a->S F->
   dZ P J ops Q S fuel (listed.setIfInBounds i true) (a.put l.dst v) F->dZ P J ops Q S (fuel+1) listed a F:=by
 intro fuel
 induction fuel with
 |zero=>
  intro listed a F _ f n m H
  refine ⟨fun h=>(by rw[h] at f;cases f),fun j p=>?_⟩
  by_cases c:j=i
  .subst c;exact n.lu hi m ⟨m,H⟩
  .have:=ready_mono p c
   rw[H.1] at this
   cases this
 |succ fuel ih=>
  intro listed a F t f n m H
  refine ⟨fun h=>(by rw[h] at f;cases f),fun j p=>?_⟩
  by_cases c:j=i
  .subst c;exact n.lu hi m ⟨m,H⟩
  .have g:=H.2 j (ready_mono p c)
   obtain ⟨u,d,r,z⟩:=mem_ready.1 p
   have A:∀e∈d.after,Region.binds .any e=true->e.on≠i:=fun e he hb heq=>by
    have g:=z e he hb
    have w:=(mem_ready.1 f).1
    rw[heq] at g
    rcases Nat.lt_or_ge i listed.size with h'|h'
    .simp[h'] at w g;rw[w] at g;cases g
    .simp[Array.getElem?_eq_none h'] at g
   have B:=si r (t j d r c u A) (fun cs b=>s i l cs b hi) (fun cs b=>s j d cs b r) n g
   have C:∀k ok,ops[k]?=some ok->k≠i->(listed.setIfInBounds j true).getD k true=false->
     (∀e∈ok.after,Region.binds .any e=true->e.on≠i)->l.apart ops ok=true:=fun k ok D E x G=>by
    refine t k ok D E ?_ G
    by_cases y:j=k
    .subst y;exact u
    .rw[getD_set_ne true y] at x;exact x
   refine nF (fun I F' q=>⟨q.2.1,ih (listed.setIfInBounds j true) I F' C (ready_mono f (Ne.symm c)) q.1 q.2.1 ?_⟩) B
   rw[Array.setIfInBounds_comm _ _ c]
   exact q.2.2
theorem xy (i:Nat){c:Oper}(v:Value){fuel:Nat}{listed:Array Bool}{a:Act}{F:ag}(hi:ops[i]?=some c)
  (b:(Region.noSelect ops&&Region.free .any ops listed i&&(Region.ready .any ops listed).contains i)=true)
  (d:fe P J ops S c v a) (e:S F)
  (h:dZ P J ops Q S fuel (listed.setIfInBounds i true) (a.put c.dst v) F):dZ P J ops Q S (fuel+1) listed a F:=by
 simp only[Bool.and_eq_true] at b
 exact BQ hi (Region.noSelect_spec b.1.1) fuel listed a F (Region.free_spec hi b.1.2) (by simpa using b.2) d e h
theorem BR {rs:List Nat}{fuel:Nat}{listed:Array Bool}{a:Act}{F:ag}(b:Region.ready .any ops listed=rs)(c:rs≠[])
  (h:∀i∈rs,dy P J ops i (fun d F'=>S F'/\dZ P J ops Q S fuel (listed.setIfInBounds i true) d F') a F):dZ P J ops Q S (fuel+1) listed a F:=
 ⟨fun e=>absurd (b▸e) c,b▸h⟩
theorem BS (i:Nat){fuel:Nat}{listed:Array Bool}{a:Act}{F:ag}(b:Region.ready .any ops listed=[i])
  (h:dy P J ops i (fun c F'=>S F'/\dZ P J ops Q S fuel (listed.setIfInBounds i true) c F') a F):dZ P J ops Q S (fuel+1) listed a F:=
 BR b aB (by simpa using h)
theorem BT {listed:Array Bool}{a:Act}{F:ag}(b:Region.ready .any ops listed=[])(h:Q a F):∀fuel,dZ P J ops Q S fuel listed a F
 |0=>⟨b,h⟩
 |_+1=>⟨fun _=>h,by rw[b];simp⟩
end draw
end
inductive Ex where
 |normal
 |exit (id:Nat)
 |ret
 deriving DecidableEq
def ff:Code->Bool
 | .region _ ops _=>ops.all fun o=>match o.op with| .defer _=>false|_=>true
 | .seq a b=>ff a&&ff b
 | .cond _ a b=>ff a&&ff b
 | .block _ c=>ff c
 | .loop c=>ff c
 | .scope c=>ff c
 | .rangeFunc ..=>false
 |_=>true
structure xz (c:Code)(b:Frame):Prop where
 kind:b.kind≠ .early
 round:b.roundOf=none\/ff c=true
section
variable {P:Program}{main:Bool}{J:Goroutine->ag->Prop}
def xA (J:Goroutine->ag->Prop)(b:Frame)(k:List Item)(cs:List Frame):Ex->Act->ag->Prop
 | .normal,a,F=>J (G (on b a k) cs) F
 | .exit id,a,F=>∀c,exitTo id c=exitTo id k->J (G (on b a (.code (.exit id)::c)) cs) F
 | .ret,a,F=>∀c,J (G (on b a (.code .ret::c)) cs) F
def Wp (J:Goroutine->ag->Prop)(c:Code)(Q:Ex->Act->ag->Prop)(a:Act)(F:ag):Prop:=
 ∀(b:Frame) (k:List Item) (cs:List Frame),xz c b->(∀e d F',Q e d F'->xA J b k cs e d F')->J (G (on b a (.code c::k)) cs) F
theorem Wp.mono {c:Code}{Q d:Ex->Act->ag->Prop}{a:Act}{F:ag}(h:Wp J c Q a F)(f:∀e a F,Q e a F->d e a F):Wp J c d a F:=
 fun b k cs hb g=>h b k cs hb fun e i F' x=>g e i F' (f _ _ _ x)
theorem Wp.le {hJ:Closed P main J}{c:Code}{Q:Ex->Act->ag->Prop}{a:Act}{F F':ag}(h:Wp J c Q a F)(hle:Le F F'):Wp J c Q a F':=
 fun b k cs hb d=>hJ.mono hle (h b k cs hb d)
variable {Q:Ex->Act->ag->Prop}{a:Act}{F:ag}
theorem aR (hJ:Closed P main J)(h:Q .normal a F):Wp J .skip Q a F:=fun b k cs _ c=>hJ.move (fun _=>xg) (c _ _ _ h)
theorem BU (hJ:Closed P main J){l:Nat}(h:Q .normal a F):Wp J (.label l) Q a F:=fun b k cs _ c=>hJ.move (fun _=>BK) (c _ _ _ h)
theorem bM {id:Nat}(h:Q (.exit id) a F):Wp J (.exit id) Q a F:=fun b k cs _ c=>c _ _ _ h k rfl
theorem aI (h:Q .ret a F):Wp J .ret Q a F:=fun b k cs _ c=>c _ _ _ h k
def pL (J:Goroutine->ag->Prop)(y:Code)(Q:Ex->Act->ag->Prop):Ex->Act->ag->Prop
 | .normal,a,F=>Wp J y Q a F
 |e,a,F=>Q e a F
theorem af (hJ:Closed P main J){x y:Code}(h:Wp J x (pL J y Q) a F):Wp J (.seq x y) Q a F:=fun b k cs hb c=>by
 refine hJ.move (fun _=>xj) (h b (.code y::k) cs ⟨hb.kind,hb.round.imp id fun z=>?_⟩ fun e i F' d=>?_)
 .simp only[ff,Bool.and_eq_true] at z;exact z.1
 .cases e with
  |normal=>exact d b k cs ⟨hb.kind,hb.round.imp id fun z=>by simp only[ff,Bool.and_eq_true] at z;exact z.2⟩ c
  |exit id=>exact fun f g=>c _ _ _ d f (by rw[g];rfl)
  |ret=>exact c _ _ _ d
theorem xB (hJ:Closed P main J){c:Operand}{x y:Code}(t:Bool)(d:a.eval c= .bool t)(h:Wp J (if t then x else y) Q a F):Wp J (.cond c x y) Q a F:=fun b k cs hb e=>by
 refine hJ.move (fun _=>xk d) (h b k cs ⟨hb.kind,hb.round.imp id fun z=>?_⟩ e)
 simp only[ff,Bool.and_eq_true] at z
 cases t
 .exact z.2
 .exact z.1
def sj (id:Nat)(Q:Ex->Act->ag->Prop):Ex->Act->ag->Prop
 | .normal,a,F=>Q .normal a F
 | .exit i,a,F=>if i=id then Q .normal a F else Q (.exit i) a F
 | .ret,a,F=>Q .ret a F
theorem bf (hJ:Closed P main J){id:Nat}{c:Code}(h:Wp J c (sj id Q) a F):Wp J (.block id c) Q a F:=fun b k cs hb f=>by
 refine hJ.move (fun _=>xl) (h b (.inBlock id::k) cs ⟨hb.kind,hb.round⟩ fun e l F' d=>?_)
 cases e with
 |normal=>exact hJ.move (fun _=>xh) (f _ _ _ d)
 |exit i=>
  intro g j
  simp only[sj] at d
  by_cases hi:i=id
  .rw[if_pos hi] at d
   subst hi
   have:exitTo i g=some k:=by rw[j];simp[exitTo]
   exact hJ.move (fun _=>xp this) (f _ _ _ d)
  .rw[if_neg hi] at d
   refine f _ _ _ d g ?_
   rw[j]
   simp[exitTo,Ne.symm hi]
 |ret=>exact f _ _ _ d
theorem BV (hJ:Closed P main J){c:Code}(h:Wp J c Q a F):Wp J (.scope c) Q a F:=fun b k cs hb d=>by
 refine hJ.move (fun _=>BM) (h b (.inScope c::k) cs ⟨hb.kind,hb.round⟩ fun e l F' f=>?_)
 cases e with
 |normal=>exact hJ.move (fun _=>BL) (d _ _ _ f)
 |exit i=>exact fun g j=>d _ _ _ f g (by rw[j];rfl)
 |ret=>exact d _ _ _ f
def pM (I:Nat->Act->ag->Prop)(n:Nat)(Q:Ex->Act->ag->Prop):Ex->Act->ag->Prop
 | .normal,a,F=>∃m,m<n/\I m a F
 |e,a,F=>Q e a F
theorem xC (hJ:Closed P main J){c:Code}(I:Nat->Act->ag->Prop)(n:Nat)(g:I n a F)(hs:∀n a F,I n a F->Wp J c (pM I n Q) a F):Wp J (.loop c) Q a F:=by
 intro b k cs hb f;have key:∀n a F,I n a F->J (G (on b a (.code c:: .inLoop c::k)) cs) F:=by
  intro n
  induction n using Nat.strongRecOn with
  |_ n ih=>
   intro a F h;refine hs n a F h b (.inLoop c::k) cs ⟨hb.kind,hb.round⟩ fun e j F' d=>?_;cases e with
   |normal=>
    obtain ⟨m,hm,l⟩:=d;exact hJ.move (fun _=>xo) (ih m hm j F' l)
   |exit i=>exact fun o p=>f _ _ _ d o (by rw[p];rfl)
   |ret=>exact f _ _ _ d
 exact hJ.move (fun _=>xm) (key n a F g)
theorem sk {id:Nat}{ops:Array Oper}{d:Bool}{b:Frame}(hb:xz (.region id ops d) b):sd ops b:=
 ⟨hb.kind,hb.round.imp a fun z o ho c e=>by
  simp only[ff] at z
  have:=(Array.all_eq_true_iff_forall_mem.1 z) o ho
  rw[e] at this
  cases this⟩
where a {p:Prop} (h:p):p:=h
theorem BW (hJ:Closed P main J){id:Nat}{ops:Array Oper}(h:eI P J ops (Q .normal) (List.range ops.size) a F):Wp J (.region id ops false) Q a F:=fun b k cs hb c=>
 hJ.move (fun _=>xq) (pK hJ (sk hb) (fun d F' h'=>c .normal d F' h') _ _ _ h)
theorem xD (hJ:Closed P main J)(S:ag->Prop)(hm:P.follows .mixedOrders=true){id:Nat}{ops:Array Oper}(h:dZ P J ops (Q .normal) S ops.size (Array.replicate ops.size false) a F):Wp J (.region id ops true) Q a F:=fun b k cs hb c=>
 hJ.step fun w hw=>by
  refine ⟨_,_,_,F,r7,.drawn _ _ _,hw.drawn _,aB,?_⟩
  refine pK (K:=Q .normal) hJ (sk hb) (fun d F' h'=>c .normal d F' h') _ _ _ ?_
  simp only[Region.schedule,hm,Bool.true_or,if_true]
  exact BP ops.size _ _ a F h
def gV (P:Program):List Deferred->(ag->Prop)->ag->Prop
 |[],K,F=>K F
 |d::a,K,F=>∃r,d.target= .collected r/\bx P (Instr.takeDeferred r) (fun calls F'=>calls=[]/\gV P a K F') F
def pN (P:Program)(fn:Func)(R:Value->ag->Prop):Ex->Act->ag->Prop
 | .exit _,_,_=>False
 |_,a,F=>gV P a.defers (fun F=>bx P (results fn a.tmps) R F) F
theorem so (hJ:Closed P main J){f:FuncId}{fn:Func}(m:P.funcs[f]?=some fn){R:Value->ag->Prop}{c:Frame}{cs:List Frame}(hR:∀v F',R v F'->J (G (c.finish v) cs) F')(tmps:Array Value):
  ∀(a:List Deferred) (fr:Frame) (F:ag),fr.fn=f->fr.kind= .normal->fr.mode= .returning->fr.defers=a->fr.tmps=tmps->gV P a (fun F=>bx P (results fn tmps) R F) F->J (G fr (c::cs)) F
 |[],fr,F,i,j,g,k,l,h=>by
  refine hJ.step fun w hw=>?_
  obtain ⟨v,w',F',es,H⟩:=jI _ F w #[] h hw
  have b:=H.run
  rw[Array.empty_append] at b
  refine ⟨G (c.finish v) cs,w',seen P fr.fn es,F',?_,H.upd,H.has,fun e he=>H.gU e (mem_seen he),hR v F' H.post⟩
  simp only[G,stepG,unwind,g,k,l,i,m,b]
  simp[doReturn,j,GStep.after]
 |d::a,fr,F,i,j,g,k,l,h=>by
  obtain ⟨r,n,o⟩:=h
  refine hJ.step fun w hw=>?_
  obtain ⟨v,w',F',es,H⟩:=jI _ F w #[] o hw
  have b:=H.run
  rw[Array.empty_append] at b
  obtain ⟨hv,p⟩:=H.post
  subst hv
  obtain ⟨t,args⟩:=d
  simp only at n
  subst n
  refine ⟨G {fr with defers:=a} (c::cs),w',seen P fr.fn es,F',?_,H.upd,H.has,fun e he=>H.gU e (mem_seen he),?_⟩
  .simp only[G,stepG,unwind,g,k,b]
   simp[GStep.after]
  .exact so hJ m hR tmps a {fr with defers:=a} F' i j g rfl l p
theorem de.of_wp (hJ:Closed P main J){f:FuncId}{fn:Func}{c:Code}{args:Array Value}{R:Value->ag->Prop}(d:P.funcs[f]?=some fn)(hb:fn.body=some c)
  (h:Wp J c (pN P fn R) {tmps:=args++Array.replicate (fn.ntmps - args.size) undef,defers:=[]} F):de P J f args F R:=by
 intro j cs hR
 let b:Frame:={(default:Frame) with fn:=f,kind:=.normal}
 have k:Frame.enter P f args .normal=on b {tmps:=args++Array.replicate (fn.ntmps - args.size) undef,defers:=[]} [.code c]:=by
  simp[Frame.enter,on,d,hb,b]
  rfl
 rw[k]
 refine h b [] (j::cs) ⟨by simp[b],.inl rfl⟩ fun e a F' g=>?_
 cases e with
 |normal=>exact hJ.move (fun _=>jJ rfl) (so hJ d hR a.tmps a.defers _ F' rfl rfl rfl rfl rfl g)
 |exit i=>exact g.elim
 |ret=>exact fun l=>hJ.move (fun _=>stepG_ret' rfl) (so hJ d hR a.tmps a.defers _ F' rfl rfl rfl rfl rfl g)
theorem aF.of_wp {f:FuncId}{fn:Func}{c:Code}{args:Array Value}{F:ag}{R:Value->ag->Prop}(a:P.funcs[f]?=some fn)(hb:fn.body=some c)
  (h:∀main J,Closed P main J->Wp J c (pN P fn R) {tmps:=args++Array.replicate (fn.ntmps - args.size) undef,defers:=[]} F):aF P f args F R:=
 fun main J hJ=>de.of_wp hJ a hb (h main J hJ)
end
end Go.Sep
end
section
namespace Go.Sep
open Go Go.Conc Go.ConcM
open Go.ConcN (sumTo upd sumTo_upd upd_ne upd_same)
def ag.gI (F:ag):Loc->Prop
 | .cell a=>a.block∈keys F.own\/(F.ro a).isSome=true
 | .obj r=>r∈keys F.own
 |_=>False
structure ie (P:Program)(bn:Loc->Prop)(g:Goroutine)(F:ag)(gs:Array Goroutine)(w:World)(t:Trace)(q:Nat->Nat):Prop where
 g0:gs[0]?=some g
 lv:Leavers P t gs q
 past:Past bn w.heap.size t
 has:Has F w
 apart:∀l,bn l->¬F.gI l
 low:∀l,bn l->l.low w.heap.size
def iI (a b:Os):Prop:=b=a
theorem iI.refl (a:Os):iI a a:=rfl
theorem iI.trans {a b c:Os}(h:iI a b)(k:iI b c):iI a c:=Eq.trans k h
structure eV (F F':ag)(w w':World):Prop where
 os:iI w.os w'.os
 tape:w'.tape=w.tape
 output:w'.output=w.output
 size:w.heap.size<=w'.heap.size
 frame:∀b,b<w.heap.size->b∉keys F.own->w'.heap[b]?=w.heap[b]?
 ro:∀a,(F'.ro a).isSome=true->(F.ro a).isSome=true\/a.block∈keys F.own\/w.heap.size<=a.block
 own:∀b,b∈keys F'.own->b∈keys F.own\/w.heap.size<=b
theorem eV.sr {F F':ag}{w w':World}(h:dw F F' w w'):eV F F' w w':=⟨by rw[h.os];exact .refl _,h.tape,h.output,h.size,h.frame,h.ro,h.own⟩
theorem eV.refl (F:ag)(w:World):eV F F w w:=.sr (.refl _ _)
theorem eV.trans {F G H:ag}{u v w:World}(h:eV F G u v)(k:eV G H v w):eV F H u w where
 os:=h.os.trans k.os
 tape:=k.tape.trans h.tape
 output:=k.output.trans h.output
 size:=Nat.le_trans h.size k.size
 frame b hb hn:=by
  rw[k.frame b (Nat.lt_of_lt_of_le hb h.size) (fun c=>(h.own b c).elim hn (fun d=>absurd hb ai))]
  exact h.frame b hb hn
 ro a x:=by
  rcases k.ro a x with y|y|y
  .exact h.ro a y
  .exact .inr (h.own _ y)
  .exact .inr (.inr (Nat.le_trans h.size y))
 own b hb:=by
  rcases k.own b hb with x|x
  .exact h.own b x
  .exact .inr (Nat.le_trans h.size x)
theorem jK {P:Program}{a b:Nat}{m c:Machine}{t d:Trace}(h:runNT P a m t=(.next c,d)):runNT P (a+b) m t=runNT P b c d:=by
 rw[runNT_add,h]
theorem Has.at {F:ag}{w:World}(h:Has F w)(d:Nat):Has F (w.at d):=⟨h.ro,h.own,h.nodup,h.apart⟩
theorem xE {P:Program}{bn:Loc->Prop}{B:Nat}{a:Goroutine}(n:a.status= .running):∀(M:Nat) (gs:Array Goroutine) (w:World) (sl:Option (Nat×Nat)) (t:Trace) (q:Nat->Nat),
  sumTo gs.size q<=M->gs[0]?=some a->Leavers P t gs q->Past bn B t->
  ∃(N:Nat) (gs':Array Goroutine) (d d':Nat) (c H:Option (Nat×Nat)) (o:Trace) (A:Nat->Nat),
   runNT P N (crowd gs w sl) t=(.next (crowd gs' (w.at d) c),o)/\gs'.size=gs.size/\gs'[0]?=some a/\Leavers P o gs' A/\Past bn B o/\
   stepT P (crowd gs' (w.at d) c)=runT P (crowd gs' (w.at d') H) 0:=by
 intro M
 induction M with
 |zero=>
  intro gs w sl t q hM h b p
  have C:∀g∈gs,awake g:=by
   intro g hg
   obtain ⟨i,hi,rfl⟩:=Array.mem_iff_getElem.1 hg
   rcases Nat.eq_zero_or_pos i with rfl|l
   .have:gs[0]=a:=by simpa [Array.getElem?_eq_getElem hi] using h
    rw[this];exact awake_of (.inl n)
   .exact awake_of ((b.old i _ l (Array.getElem?_eq_getElem hi)).status.elim .inl fun x=>.inr (.inr x))
  obtain ⟨i,g,d,c,hi,hg,r⟩:=crowd_pick (P:=P) (w:=w) (sl:=sl) C ⟨0,a,h,n⟩
  rcases Nat.eq_zero_or_pos i with rfl|l
  .exact ⟨0,gs,w.drawn,d,sl,c,t,q,rfl,rfl,h,b,p,r⟩
  .have m:=b.old i g l hi
   have s:i<gs.size:=(Array.getElem?_eq_some_iff.1 hi).1
   have I:q i=0:=by have:=Go.ConcN.le_sumTo (f:=q) s;omega
   rw[I] at m;rw[m.1] at hg;cases hg
 |succ M ih=>
  intro gs w sl t q hM h b p
  have C:∀g∈gs,awake g:=by
   intro g hg
   obtain ⟨i,hi,rfl⟩:=Array.mem_iff_getElem.1 hg
   rcases Nat.eq_zero_or_pos i with rfl|l
   .have:gs[0]=a:=by simpa [Array.getElem?_eq_getElem hi] using h
    rw[this];exact awake_of (.inl n)
   .exact awake_of ((b.old i _ l (Array.getElem?_eq_getElem hi)).status.elim .inl fun x=>.inr (.inr x))
  obtain ⟨i,g,d,c,hi,hg,r⟩:=crowd_pick (P:=P) (w:=w) (sl:=sl) C ⟨0,a,h,n⟩
  rcases Nat.eq_zero_or_pos i with rfl|l
  .exact ⟨0,gs,w.drawn,d,sl,c,t,q,rfl,rfl,h,b,p,r⟩
  .have m:=b.old i g l hi
   have J:(i==0)=false:=by simp;omega
   have s:i<gs.size:=(Array.getElem?_eq_some_iff.1 hi).1
   cases D:q i with
   |zero=>rw[D] at m;rw[m.1] at hg;cases hg
   |succ k=>
    rw[D] at m
    rcases m with ⟨K,_⟩|⟨_,g',es,hm,L,O⟩
    .rw[K] at hg;cases hg
    have Q:=runT_crowd_go (P:=P) (sl:=c) (i:=i) hi (by rw[J];exact L (w.at d))
    have F:((gs.map (woken P g g' (w.at d))).setIfInBounds i g').size=gs.size:=aB
    have ad:sumTo gs.size (upd q i k)+(k+1)=sumTo gs.size q+k:=by
     have:=sumTo_upd q k id s
     simpa [D] using this
    obtain ⟨N,gs',d1,d2,R,S,o,A,T,U,V,W,X,Y⟩:=ih ((gs.map (woken P g g' (w.at d))).setIfInBounds i g') (w.at d) c (t++MemOp.ofEvents i g.frame.fn g.frame.place es) (upd q i k) (by rw[F];omega)
     (by
      have Z:i≠0:=ai
      rw[Array.getElem?_setIfInBounds_ne Z,Array.getElem?_map,h]
      simp[woken_run n])
     ⟨fun j x u v=>by
      by_cases z:i=j
      .subst z
       rw[Array.getElem?_setIfInBounds_self_of_lt (by simpa using s)] at v
       obtain rfl:=Option.some.inj v
       rw[upd_same,Deaf_own]
       exact O
      .rw[Array.getElem?_setIfInBounds_ne z,Array.getElem?_map] at v
       obtain ⟨y,ab,rfl⟩:=Option.map_eq_some_iff.1 v
       have G:=b.old j y u ab
       rw[woken_quitsD G,upd_ne q k (Ne.symm z),Deaf_other t z _ (fun op E=>by obtain ⟨e,_,rfl⟩:=Go.Conc.mem_ofEvents E;rfl)]
       exact G,fun j u=>by
      rw[Deaf_other t (g':=i) (by simp at u;omega) _ (fun op E=>by obtain ⟨e,_,rfl⟩:=Go.Conc.mem_ofEvents E;rfl)]
      exact b.above j (by simpa using u)⟩
     (p.mute ai hm)
    exact ⟨N+1,gs',d1,d2,R,S,o,A,by simp only[runNT,r,Q];exact T,U.trans F,V,W,X,Y⟩
theorem xF {bn:Loc->Prop}{F:ag}{w w':World}(hF:Has F w)(hu:w.heap.size<=w'.heap.size)(f:∀l,bn l->¬F.gI l)(g:∀l,bn l->l.low w.heap.size){e:Event}
  (h:gi F.ro (fK F w.heap.size w'.heap.size) e):EvL bn w'.heap.size e:=by
 have hm:∀b,fK F w.heap.size w'.heap.size b->b<w'.heap.size:=fun b hb=>hb.elim (fun x=>Nat.lt_of_lt_of_le (hF.lt x) hu) (fun x=>x.2)
 rcases h with ⟨a,wr,rfl,c⟩|⟨r,wr,rfl,c⟩|⟨m,rfl,i⟩
 .refine ⟨fun x d hs=>?_,aB,aB,?_⟩
  .exfalso
   have e1:x.loc= .cell a:=by cases wr<;>simp[MemAct.ofEvent,MemAct.touch?] at d<;>rw[<-d]
   rw[e1] at hs
   rcases c with (c|c)|⟨_,c⟩
   .exact f _ hs (.inl c)
   .exact absurd (g _ hs) (by show ¬a.block<_;omega)
   .exact f _ hs (.inr c)
  .show a.block<_
   rcases c with c|⟨_,c⟩
   .exact hm _ c
   .exact Nat.lt_of_lt_of_le (hF.gH c) hu
 .refine ⟨fun x d hs=>?_,aB,aB,?_⟩
  .exfalso
   have e1:x.loc= .obj r:=by cases wr<;>simp[MemAct.ofEvent,MemAct.touch?] at d<;>rw[<-d]
   rw[e1] at hs
   rcases c with c|c
   .exact f _ hs c
   .exact absurd (g _ hs) (by show ¬r<_;omega)
  .have:=hm _ c
   cases wr<;>exact this
 .cases m<;>simp[nD] at i<;>exact ⟨fun x d=>by simp[MemAct.ofEvent,MemAct.touch?] at d,aB,aB,trivial⟩
theorem ie.next {P:Program}{bn:Loc->Prop}{F F':ag}{w w':World}(f:∀l,bn l->¬F.gI l)(d:∀l,bn l->l.low w.heap.size)(hu:dw F F' w w'):
  (∀l,bn l->¬F'.gI l)/\(∀l,bn l->l.low w'.heap.size):=by
 refine ⟨fun l hs b=>?_,fun l hs=>Loc.low_mono hu.size (d l hs)⟩
 cases l with
 |cell a=>
  have c:=d _ hs
  have e:=f _ hs
  rcases b with b|b
  .rcases hu.own _ b with x|x
   .exact e (.inl x)
   .exact absurd c (by show ¬a.block<_;omega)
  .rcases hu.ro _ b with x|x|x
   .exact e (.inr x)
   .exact e (.inl x)
   .exact absurd c (by show ¬a.block<_;omega)
 |obj r=>
  have c:=d _ hs
  rcases hu.own _ b with x|x
  .exact f _ hs x
  .exact absurd c (by show ¬r<_;omega)
 |_=>exact b
theorem Le.gI {F F':ag}(h:Le F F'){l:Loc}(b:F.gI l):F'.gI l:=by
 cases l with
 |cell a=>exact b.elim (fun x=>.inl (h.own _ x)) (fun x=>(h.ro _ x).elim .inr .inl)
 |obj r=>exact h.own _ b
 |_=>exact b
theorem eV.le {F G H:ag}{w w':World}(h:Le F G)(u:eV F H w w'):eV G H w w' where
 os:=u.os
 tape:=u.tape
 output:=u.output
 size:=u.size
 frame b hb hn:=u.frame b hb (fun x=>hn (h.own b x))
 ro a x:=by
  rcases u.ro a x with y|y|y
  .exact (h.ro a y).imp id .inl
  .exact .inr (.inl (h.own _ y))
  .exact .inr (.inr y)
 own b hb:=(u.own b hb).imp (h.own b) id
end Go.Sep
end
section
namespace Go.Sep
open Go Go.Conc
def ag.dz (F:ag):ag:={ro:=F.get,own:=[]}
theorem Has.dz {F:ag}{w:World}(h:Has F w):Has F.dz w:=
 ⟨fun a v c=>h.reads c,fun b o hb=>(by cases hb),List.nodup_nil,fun a v c hm=>(by cases hm)⟩
def ag.star (G F:ag):ag:=
 {ro:=fun a=>match F.ro a with
   |some v=>some v
   |none=>if a.block∈keys F.own then none else G.ro a
  own:=G.own++F.own}
structure Fits (F G:ag):Prop where
 su:∃w,Has G w/\Has F w
 own:∀b,b∈keys G.own->b∉keys F.own
 ro:∀a,(F.ro a).isSome=true->a.block∉keys G.own
theorem cj (l l':List (Nat×Obj)):keys (l++l')=keys l++keys l':=List.map_append
theorem Fits.left {F G:ag}(h:Fits F G){w:World}(hw:Has (G.star F) w):Has F w where
 ro a v c:=hw.ro a v (by simp[ag.star,c])
 own b o hb:=hw.own b o (List.mem_append_right _ hb)
 nodup:=by
  have:=hw.nodup
  simp only[ag.star,cj] at this
  exact (List.nodup_append.1 this).2.1
 apart a v c hm:=by
  have:=hw.apart a v (by simp[ag.star,c])
  simp only[ag.star,cj,List.mem_append,not_or] at this
  exact this.2 hm
theorem Fits.right {F G:ag}(h:Fits F G){w:World}(hw:Has (G.star F) w):Has G w:=by
 obtain ⟨m,d,i⟩:=h.su;refine ⟨fun a v j=>?_,fun b o hb=>hw.own b o (List.mem_append_left _ hb),d.nodup,d.apart⟩;have c:=d.ro a v j;cases f:F.ro a with
 |some g=>
  have e:g=v:=by have:=i.ro a g f;rw[c] at this;exact (Option.some.inj this).symm
  exact e▸hw.ro a g (by simp[ag.star,f])
 |none=>
  by_cases hb:a.block∈keys F.own
  .obtain ⟨⟨b,o⟩,hm,e⟩:=List.mem_map.1 hb;simp only at e;subst e;have k:=i.own _ o hm;have l:=hw.own _ o (List.mem_append_right _ hm);unfold World.cell? at c ⊢;rw[l];rw[k] at c;exact c
  .exact hw.ro a v (by simp[ag.star,f,hb,j])
theorem Fits.both {F G:ag}(h:Fits F G){w:World}(d:Has G w)(hF:Has F w):Has (G.star F) w where
 ro a v c:=by
  simp only[ag.star] at c
  split at c
  .rename_i x f;cases c;exact hF.ro _ _ f
  .split at c
   .cases c
   .exact d.ro _ _ c
 own b o hb:=(List.mem_append.1 hb).elim (d.own b o) (hF.own b o)
 nodup:=by
  simp only[ag.star,cj]
  exact List.nodup_append.2 ⟨d.nodup,hF.nodup,fun a g b hb e=>h.own a g (e▸hb)⟩
 apart a v c hm:=by
  simp only[ag.star,cj,List.mem_append] at hm
  simp only[ag.star] at c
  split at c
  .rename_i x f
   rcases hm with hm|hm
   .exact h.ro a (by simp[f]) hm
   .exact hF.apart a x f hm
  .split at c
   .cases c
   .rename_i hn
    rcases hm with hm|hm
    .exact d.apart a v c hm
    .exact hn hm
theorem Fits.le {F G c:ag}(hle:Le G c)(h:Fits F c):Fits F G where
 su:=let ⟨w,d,e⟩:=h.su;⟨w,hle.has w d,e⟩
 own b hb:=h.own b (hle.own b hb)
 ro a f hm:=h.ro a f (hle.own _ hm)
def xG (J:Goroutine->ag->Prop)(F:ag)(g:Goroutine)(G:ag):Prop:=Fits F G->J g (G.star F)
theorem iJ {F G:ag}{a:Addr}(h:((G.star F).ro a).isSome=true):(F.ro a).isSome=true\/(G.ro a).isSome=true:=by
 simp only[ag.star] at h;split at h
 .rename_i x b;exact .inl (by simp[b])
 .split at h
  .cases h
  .exact .inr h
theorem fS {F G:ag}{a:Addr}(h:(F.ro a).isSome=true\/(G.ro a).isSome=true):((G.star F).ro a).isSome=true\/a.block∈keys F.own:=by
 by_cases hb:a.block∈keys F.own
 .exact .inr hb
 .left;simp only[ag.star];split
  .rfl
  .rename_i hn;rw[if_neg hb];rcases h with h|h
   .simp[hn] at h
   .exact h
theorem BX {P:Program}{main:Bool}{J:Goroutine->ag->Prop}(hJ:Closed P main J)(F:ag):Closed P main (xG J F) where
 mono {g G D} hle h c:=by
  have j:=c.le hle
  refine hJ.mono ⟨fun w hw=>j.both (hle.has w (c.right hw)) (c.left hw),fun b hb=>?_,fun a d=>?_⟩ (h j)
  .simp only[ag.star,cj,List.mem_append] at hb ⊢
   exact hb.imp (hle.own b) id
  .rcases iJ d with x|x
   .exact (fS (.inl x)).imp id (fun y=>by simp only[ag.star,cj,List.mem_append];exact .inr y)
   .rcases hle.ro a x with y|y
    .exact (fS (.inr y)).imp id (fun z=>by simp only[ag.star,cj,List.mem_append];exact .inr z)
    .exact .inr (by simp only[ag.star,cj,List.mem_append];exact .inl y)
 step {fr cs G} h c:=by
  refine hJ.step fun w hw=>?_
  have t:=c.right hw
  have hF:=c.left hw
  obtain ⟨g',w',es,k,hgo,hu,l,u,A⟩:=h w t
  have n:Has F w':=by
   refine ⟨fun a v i=>?_,fun b o hb=>?_,hF.nodup,hF.apart⟩
   .have p:=hF.ro a v i
    have B:=hF.gH (a:=a) (by simp[i])
    unfold World.cell? at p ⊢
    rw[hu.frame _ B (c.ro a (by simp[i]))]
    exact p
   .rw[hu.frame b (hF.lt (eB hb)) (fun hm=>c.own b hm (eB hb))]
    exact hF.own b o hb
  have q:Fits F k:=by
   refine ⟨⟨w',l,n⟩,fun b hb hm=>?_,fun a d hm=>?_⟩
   .rcases hu.own b hb with x|x
    .exact c.own b x hm
    .have:=hF.lt hm;omega
   .rcases hu.own _ hm with x|x
    .exact c.ro a d x
    .have:=hF.gH d;omega
  refine ⟨g',w',es,k.star F,hgo,⟨hu.os,hu.tape,hu.output,hu.size,fun b hb hn=>hu.frame b hb fun hm=>hn ?_,fun a d=>?_,fun b hb=>?_⟩,q.both l n,fun e he=>?_,A q⟩
  .simp only[ag.star,cj,List.mem_append];exact .inl hm
  .rcases iJ d with x|x
   .exact (fS (.inl x)).imp id (fun y=>.inl (by simp only[ag.star,cj,List.mem_append];exact .inr y))
   .rcases hu.ro a x with y|y|y
    .exact (fS (.inr y)).imp id (fun z=>.inl (by simp only[ag.star,cj,List.mem_append];exact .inr z))
    .exact .inr (.inl (by simp only[ag.star,cj,List.mem_append];exact .inl y))
    .exact .inr (.inr y)
  .simp only[ag.star,cj,List.mem_append] at hb ⊢
   rcases hb with hb|hb
   .exact (hu.own b hb).imp .inl id
   .exact .inl (.inr hb)
  .have s:∀b,fK G w.heap.size w'.heap.size b->fK (G.star F) w.heap.size w'.heap.size b:=fun b hb=>hb.imp (fun x=>by simp only[ag.star,cj,List.mem_append];exact .inl x) id
   rcases u e he with ⟨a,wr,rfl,f|⟨C,f⟩⟩|⟨r,wr,rfl,f⟩|⟨m,rfl,hm⟩
   .exact .inl ⟨a,wr,rfl,.inl (s _ f)⟩
   .rcases fS (F:=F) (.inr f) with y|y
    .exact .inl ⟨a,wr,rfl,.inr ⟨C,y⟩⟩
    .exact .inl ⟨a,wr,rfl,.inl (.inl (by simp only[ag.star,cj,List.mem_append];exact .inr y))⟩
   .exact .inr (.inl ⟨r,wr,rfl,s _ f⟩)
   .exact .inr (.inr ⟨m,rfl,hm⟩)
theorem BY {P:Program}{f:FuncId}{args:Array Value}{F:ag}{R:Value->List (Nat×Obj)->Prop}(h:aF P f args F.dz (fun v G=>R v G.own)):
  aF P f args F (fun v G=>∃l,R v l/\G={ro:=F.ro,own:=l++F.own}):=by
 intro main J hJ c cs hK
 by_cases hw:∃w,Has F w
 .obtain ⟨k,i⟩:=hw
  have j:Fits F F.dz:=⟨⟨k,i.dz,i⟩,fun b hb=>(by cases hb),fun a e hm=>(by cases hm)⟩
  have m:xG J F (G (Frame.enter P f args .normal) (c::cs)) F.dz:=by
   refine h main _ (BX hJ F) c cs fun v G hR p=>?_
   have g:∀(a:Addr) (v:Value),F.ro a=some v->(G.star F).ro a=some v:=fun a v d=>by simp[ag.star,d]
   refine hJ.mono (F:={ro:=F.ro,own:=G.own++F.own}) ⟨fun w hw=>⟨fun a v d=>hw.ro a v (g a v d),hw.own,hw.nodup,fun a v d=>hw.apart a v (g a v d)⟩,fun b hb=>hb,fun a e=>?_⟩ (hK v {ro:=F.ro,own:=G.own++F.own} ⟨G.own,hR,rfl⟩)
   obtain ⟨n,o⟩:=Option.isSome_iff_exists.1 e
   exact .inl (by rw[g a n o];rfl)
  refine hJ.mono ⟨fun w hw=>j.both hw.dz hw,fun b hb=>?_,fun a e=>?_⟩ (m j)
  .simpa [ag.star,ag.dz] using hb
  .rcases iJ e with x|x
   .exact .inl x
   .obtain ⟨v,hv⟩:=Option.isSome_iff_exists.1 x
    exact (xb hv).symm
 .exact hJ.step fun w hF=>absurd ⟨w,hF⟩ hw
theorem sw {P:Program}{f:FuncId}{args:Array Value}{F:ag}{R:Value->Prop}(h:aF P f args F.dz (fun v _=>R v)):aF P f args F (fun v G=>R v/\G=F):=by
 intro main J hJ c cs hK;refine BY (R:=fun v _=>R v) h main J hJ c cs fun v G d=>?_;obtain ⟨l,hR,rfl⟩:=d;refine hJ.mono (F:=F) ⟨fun w hw=>⟨hw.ro,fun b o hb=>hw.own b o (List.mem_append_right _ hb),?_,fun a v e hm=>hw.apart a v e ?_⟩,fun b hb=>?_,fun a g=>.inl g⟩ (hK v F ⟨hR,rfl⟩)
 .have:=hw.nodup;simp only[cj] at this;exact (List.nodup_append.1 this).2.1
 .simp only[cj,List.mem_append];exact .inr hm
 .simp only[cj,List.mem_append];exact .inr hb
end Go.Sep
end
section
namespace Go.Sep
inductive Rk:Type 1
 |mk (ι:Type) (f:ι->Rk)
namespace Rk
def kids:Rk->Rk->Prop
 | .mk ι f,r=>∃i,r=f i
theorem wf:WellFounded (fun a b:Rk=>kids b a):=⟨fun r=>by
 induction r with
 |mk ι f ih=>exact ⟨_,fun b h=>by obtain ⟨i,rfl⟩:=h;exact ih i⟩⟩
def nat:Nat->Rk
 |0=>.mk Empty fun x=>x.elim
 |n+1=>.mk Unit fun _=>nat n
theorem sx (n:Nat):kids (nat (n+1)) (nat n):=⟨(),rfl⟩
end Rk
def nG (n:Nat)(ρ' ρ:Nat->Rk):Prop:=∃i,i<n/\(ρ i).kids (ρ' i)/\∀j,j≠i->ρ' j=ρ j
theorem xH:∀n,WellFounded (nG n)
 |0=>⟨fun ρ=>⟨_,fun _ ⟨i,hi,_⟩=>absurd hi (Nat.not_lt_zero i)⟩⟩
 |n+1=>by
  refine ⟨fun ρ=>?_⟩
  have key:∀(a:Rk) (ρ:Nat->Rk),ρ n=a->Acc (nG (n+1)) ρ:=by
   intro a
   induction Rk.wf.apply a with
   |intro a _ f=>
    intro ρ
    induction (xH n).apply ρ with
    |intro ρ _ g=>
     intro b
     refine ⟨_,fun ρ' ⟨i,hi,c,d⟩=>?_⟩
     by_cases h:i=n
     .subst h
      exact f (ρ' i) (by rw[<-b];exact c) ρ' rfl
     .refine g ρ' ⟨i,ai,c,d⟩ ?_
      rw[d n (fun e=>h e.symm)];exact b
  exact key _ ρ rfl
def xI (n:Nat)(x' x:(Nat->Rk)×Nat):Prop:=nG n x'.1 x.1\/(x'.1=x.1/\x'.2<x.2)
theorem xJ (n:Nat):WellFounded (xI n):=by
 refine ⟨fun ⟨ρ,m⟩=>?_⟩
 induction (xH n).apply ρ generalizing m with
 |intro ρ _ b=>
  induction m using Nat.strongRecOn with
  |_ m c=>
   refine ⟨_,fun ⟨ρ',a⟩ h=>?_⟩;rcases h with h|⟨rfl,h⟩
   .exact b ρ' h a
   .exact c a h
end Go.Sep
end

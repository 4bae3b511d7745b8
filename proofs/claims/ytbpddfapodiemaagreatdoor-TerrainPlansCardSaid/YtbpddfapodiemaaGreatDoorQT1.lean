/- A part of the proof: QT1. -/
import Derived.Attr
import Derived.KernelRfl
import Derived.Conc.Own
import Derived.Conc.Events
import Derived.Conc.Beside
import Derived.Conc.Listed
import Derived.Orders
import Derived.Conc.MuSpec
set_option linter.all false
section
namespace Go
theorem aa {Q:Prop}(e:Q:=by omega):Q:=e
theorem aj {Q:Prop}(e:Q:=by kernel_rfl):Q:=e
theorem aD {Q:Prop}(e:Q:=by decide):Q:=e
theorem av {Q:Prop}(e:Q:=by simp):Q:=e
theorem aL {Q:Prop}(e:Q:=by simp only[*,go_sem]):Q:=e
theorem aC {Q:Prop}(e:Q:=by simp only[*,go_sem,-hM,-hJ]):Q:=e
theorem cH {Q:Prop}(e:Q:=by first|(simp only[*,go_sem,-hK,-hM,-hJ];done)|rfl):Q:=e
theorem ej {Q:Prop}(e:Q:=by first|(simp only[*,go_sem,-hK,-hM,-hJ];done)|(simp only[*,go_sem,-hK,-hM,-hJ];rfl)):Q:=e
theorem er {Q:Prop}(e:Q:=by simp only[*,go_sem,-hK,-hM,-hJ]):Q:=e
theorem dH {Q:Prop}(e:Q:=by simp only[*,go_sem,-h]):Q:=e
theorem dh {Q:Prop}(e:Q:=by simp (maxSteps:=9^9) only[*,go_sem]):Q:=e
theorem ag {Q P:Prop}(h:P)(e:Q=P:=by conv=>lhs;simp only[*,go_sem]):Q:=e▸h
theorem bV {Q P:Prop}(h:P)(e:Q=P:=by conv=>lhs;simp only[*,go_sem,-h]):Q:=e▸h
theorem bF {Q P:Prop}(h:P)(e:Q=P:=by conv=>lhs;simp (maxSteps:=9^9) only[*,go_sem]):Q:=e▸h
theorem bT {Q P:Prop}(h:P)(e:Q=P:=by conv=>lhs;simp only[*,go_sem,-hK,-hM,-hJ]):Q:=e▸h
end Go
end
section
namespace Go.Sep
open Go Go.Conc
theorem aY {α:Type}:(∀l:List α,l++[]=l)/\(∀(a:α) l m,(a::l)++m=a::(l++m))/\(∀l:List α,[]++l=l)/\(∀l m n:List α,l++m++n=l++(m++n)):=⟨List.append_nil,fun _ _ _=>rfl,fun _=>rfl,List.append_assoc⟩
structure af where
 ro:Addr->Option Value
 own:List (Nat×Obj)
def keys (l:List (Nat×Obj)):List Nat:=l.map (·.1)
def cellOf:Obj->Nat->Option Value
 | .cells c _ _,off=>c[off]?
 |_,_=>none
def lk:List (Nat×Obj)->Nat->Option Obj
 |[],_=>none
 |(c,o)::l,b=>if c=b then some o else lk l b
def jz:List (Nat×Obj)->Nat->Obj->List (Nat×Obj)
 |[],_,_=>[]
 |(c,o)::l,b,x=>if c=b then (c,x)::l else (c,o)::jz l b x
theorem iF:∀{l:List (Nat×Obj)} {b:Nat} {o:Obj},lk l b=some o->(b,o)∈l
 |[],_,_,h=>by cases h
 |(c,x)::l,b,o,h=>by
  unfold lk at h
  split at h
  .rename_i e;cases h;exact e▸List.mem_cons_self
  .exact List.mem_cons_of_mem _ (iF h)
theorem sL:∀(l:List (Nat×Obj)) (b:Nat) (x:Obj),keys (jz l b x)=keys l
 |[],_,_=>rfl
 |(c,o)::l,b,x=>by
  unfold jz
  split
  .rfl
  .simp only[keys,List.map_cons];exact congrArg _ (sL l b x)
theorem z6:∀{l:List (Nat×Obj)} {b:Nat} {x:Obj},(keys l).Nodup->∀{c:Nat} {y:Obj},(c,y)∈jz l b x->(c=b/\y=x)\/(c≠b/\(c,y)∈l)
 |[],_,_,_,_,_,h=>by cases h
 |(d,o)::l,b,x,a,c,y,h=>by
  simp only[keys,List.map_cons,List.nodup_cons] at a
  unfold jz at h
  split at h
  .rename_i e
   rcases List.mem_cons.1 h with h|h
   .cases h;exact .inl ⟨e,rfl⟩
   .refine .inr ⟨fun f=>a.1 ?_,List.mem_cons_of_mem _ h⟩
    rw[e,<-f]
    exact List.mem_map.2 ⟨_,h,rfl⟩
  .rename_i e
   rcases List.mem_cons.1 h with h|h
   .cases h;exact .inr ⟨e,List.mem_cons_self⟩
   .exact (z6 a.2 h).imp id (fun z=>⟨z.1,List.mem_cons_of_mem _ z.2⟩)
def af.get (F:af)(a:Addr):Option Value:=
 match F.ro a with
 |some v=>some v
 |none=>if a.spot=none then (lk F.own a.block).bind (cellOf · a.off) else none
structure Has (F:af)(w:World):Prop where
 ro:∀a v,F.ro a=some v->w.cell? a=some v
 own:∀b o,(b,o)∈F.own->w.heap[b]?=some o
 nodup:(keys F.own).Nodup
 apart:∀a v,F.ro a=some v->a.block∉keys F.own
theorem Has.reads {F:af}{w:World}(h:Has F w){a:Addr}{v:Value}(r:F.get a=some v):w.cell? a=some v:=by
 unfold af.get at r;split at r
 .rename_i x c;cases r;exact h.ro _ _ c
 .split at r
  .rename_i hs;obtain ⟨o,d,b⟩:=Option.bind_eq_some_iff.1 r;have:=h.own _ _ (iF d);cases o<;>simp[cellOf] at b;simp[World.cell?,this,hs,b]
  .cases r
theorem z7 {F:af}{a:Addr}{v:Value}(r:F.get a=some v):a.block∈keys F.own\/(F.ro a).isSome=true:=by
 unfold af.get at r;split at r
 .rename_i x b;exact .inr (by simp[b])
 .split at r
  .obtain ⟨o,c,_⟩:=Option.bind_eq_some_iff.1 r;exact .inl (List.mem_map.2 ⟨_,iF c,rfl⟩)
  .cases r
structure eC (F F':af)(w w':World):Prop where
 os:w'.os=w.os
 tape:w'.tape=w.tape
 output:w'.output=w.output
 size:w.heap.size<=w'.heap.size
 frame:∀b,b<w.heap.size->b∉keys F.own->w'.heap[b]?=w.heap[b]?
 ro:∀a,(F'.ro a).isSome=true->(F.ro a).isSome=true\/a.block∈keys F.own\/w.heap.size<=a.block
 own:∀b,b∈keys F'.own->b∈keys F.own\/w.heap.size<=b
theorem eC.refl (F:af)(w:World):eC F F w w:=⟨rfl,rfl,rfl,Nat.le_refl _,fun _ _ _=>rfl,fun _ h=>.inl h,fun _ h=>.inl h⟩
theorem eC.trans {F G H:af}{u v w:World}(h:eC F G u v)(k:eC G H v w):eC F H u w where
 os:=k.os.trans h.os
 tape:=k.tape.trans h.tape
 output:=k.output.trans h.output
 size:=Nat.le_trans h.size k.size
 frame b hb c:=by
  rw[k.frame b (Nat.lt_of_lt_of_le hb h.size) (fun hk=>(h.own b hk).elim c (fun hl=>absurd hb aa))]
  exact h.frame b hb c
 ro a x:=by
  rcases k.ro a x with y|y|y
  .exact h.ro a y
  .exact .inr (h.own _ y)
  .exact .inr (.inr (Nat.le_trans h.size y))
 own b hb:=by
  rcases k.own b hb with x|x
  .exact h.own b x
  .exact .inr (Nat.le_trans h.size x)
def qz:Mark->Bool
 | .extern _| .noRoom=>true
 |_=>false
def jA (ro:Addr->Option Value)(ks:Nat->Prop)(e:Event):Prop:=
 (∃a wr,e=⟨.cell a,wr,false⟩/\(ks a.block\/(wr=false/\(ro a).isSome=true)))\/
 (∃r wr,e=⟨.obj r,wr,false⟩/\ks r)\/
 (∃m,e=⟨.mark m,false,true⟩/\qz m=true)
theorem jA.mono {ro bf:Addr->Option Value}{ks c:Nat->Prop}{e:Event}(h:jA ro ks e)(d:∀a,(ro a).isSome=true->(bf a).isSome=true)(hk:∀b,ks b->c b):jA bf c e:=by
 rcases h with ⟨a,wr,rfl,h⟩|⟨r,wr,rfl,h⟩|⟨m,rfl,hm⟩
 .exact .inl ⟨a,wr,rfl,h.imp (hk _) (fun ⟨x,y⟩=>⟨x,d _ y⟩)⟩
 .exact .inr (.inl ⟨r,wr,rfl,hk _ h⟩)
 .exact .inr (.inr ⟨m,rfl,hm⟩)
def iG (F:af)(n m:Nat)(b:Nat):Prop:=b∈keys F.own\/(n<=b/\b<m)
theorem fJ {l:List (Nat×Obj)}{b:Nat}{o:Obj}(h:(b,o)∈l):b∈keys l:=List.mem_map.2 ⟨_,h,rfl⟩
theorem Has.lt {F:af}{w:World}(h:Has F w){b:Nat}(hb:b∈keys F.own):b<w.heap.size:=by
 obtain ⟨⟨c,o⟩,hm,rfl⟩:=List.mem_map.1 hb;have:=h.own c o hm;rcases Nat.lt_or_ge c w.heap.size with x|x
 .exact x
 .simp[Array.getElem?_eq_none x] at this
theorem Has.iH {F:af}{w:World}(h:Has F w){a:Addr}(b:(F.ro a).isSome=true):a.block<w.heap.size:=by
 obtain ⟨v,c⟩:=Option.isSome_iff_exists.1 b;have:=h.ro a v c;unfold World.cell? at this;rcases Nat.lt_or_ge a.block w.heap.size with x|x
 .exact x
 .simp[Array.getElem?_eq_none x] at this
def af.push (F:af)(b:Nat)(o:Obj):af:={F with own:=(b,o)::F.own}
def af.put (F:af)(b:Nat)(o:Obj):af:={F with own:=jz F.own b o}
def shapeOf:Obj->Option (TypeId×Nat)
 | .cells c elem _=>some (elem,c.size)
 |_=>none
def frozenAt:Obj->Nat->Bool
 | .cells _ _ (lo,hi),off=>lo<=off&&off<hi
 |_,_=>false
def Obj.qA:Obj->Bool
 | .cells ..=>true
 |_=>false
def bU:Value->Bool
 | .agg _| .tuple _=>false
 |_=>true
def af.mN (F:af)(a:Addr)(v:Value):Option af:=
 match lk F.own a.block with
 |some (.cells c t fr)=>if bU v=true/\a.spot=none/\a.off<c.size/\frozenAt (.cells c t fr) a.off=false then some (F.put a.block (.cells (c.setIfInBounds a.off v) t fr)) else none
 |_=>none
def af.fR (F:af)(r:Nat):Option Obj:=
 match lk F.own r with
 |some o=>if Obj.qA o=false/\o.isChan=false then some o else none
 |none=>none
def ax:List (Nat×Obj)->Nat->Prop
 |[],_=>True
 |(c,_)::l,b=>¬b=c/\ax l b
theorem z8:∀{l:List (Nat×Obj)} {b:Nat},(∀x∈keys l,¬b=x)->ax l b
 |[],_,_=>trivial
 |(c,_)::l,b,h=>⟨h c (by simp[keys]),z8 fun x a=>h x (by simp only[keys,List.map_cons,List.mem_cons];exact .inr a)⟩
structure eD (F:af)(b:Nat):Prop where
 ro:∀off sp,F.ro ⟨b,off,sp⟩=none
 own:ax F.own b
def bx {α:Type}(P:Program):Sem α->(α->af->Prop)->af->Prop
 | .pure a,Q,F=>Q a F
 | .load m a k,Q,F=>m= .plain/\∃v,F.get a=some v/\bx P (k v) Q F
 | .store m a v k,Q,F=>m= .plain/\∃F',F.mN a v=some F'/\bx P k Q F'
 | .new o k,Q,F=>o.isChan=false/\∀b,eD F b->bx P (k b) Q (F.push b o)
 | .shape r k,Q,F=>match lk F.own r with
  |some o=>bx P (k (shapeOf o)) Q F
  |none=>∀s,bx P (k s) Q F
 | .freeze _ _ _,_,_=>False
 | .frozen a k,Q,F=>match lk F.own a.block with
  |some o=>bx P (k (frozenAt o a.off)) Q F
  |none=>∀s,bx P (k s) Q F
 | .getObj r k,Q,F=>∃o,F.fR r=some o/\bx P (k o) Q F
 | .setObj r o k,Q,F=>o.isChan=false/\(F.fR r).isSome=true/\bx P k Q (F.put r o)
 | .choose q k,Q,F=>if q.forced then bx P (k 0) Q F else ∀t,bx P (k (q.cut t)) Q F
 | .sys _ _,_,_=>False
 | .program k,Q,F=>bx P (k P) Q F
 | .mark m k,Q,F=>qz m=true/\bx P k Q F
 | .halt _,_,_=>False
theorem iI {α:Type}{P:Program}{Q f:α->af->Prop}(h:∀a F,Q a F->f a F):∀(s:Sem α) (F:af),bx P s Q F->bx P s f F:=by
 intro s
 induction s with
 |pure a=>exact fun F x=>h _ _ x
 |load m a k ih=>exact fun F ⟨x,v,y,z⟩=>⟨x,v,y,ih _ _ z⟩
 |store m a v k ih=>exact fun F ⟨x,F',y,z⟩=>⟨x,F',y,ih _ z⟩
 |new o k ih=>exact fun F x=>⟨x.1,fun b hb=>ih _ _ (x.2 b hb)⟩
 |shape r k ih=>intro F x;unfold bx at x ⊢;split<;>rename_i d<;>rw[d] at x;exact ih _ _ x;exact fun s=>ih _ _ (x s)
 |freeze a n k ih=>exact fun F x=>x
 |frozen a k ih=>intro F x;unfold bx at x ⊢;split<;>rename_i d<;>rw[d] at x;exact ih _ _ x;exact fun s=>ih _ _ (x s)
 |getObj r k ih=>exact fun F ⟨o,x,z⟩=>⟨o,x,ih _ _ z⟩
 |setObj r o k ih=>exact fun F ⟨x,y,z⟩=>⟨x,y,ih _ z⟩
 |choose q k ih=>
  intro F x;unfold bx at x ⊢;split
  .rename_i e;rw[if_pos e] at x;exact ih _ _ x
  .rename_i e;rw[if_neg e] at x;exact fun t=>ih _ _ (x t)
 |sys c k ih=>exact fun F x=>x
 |program k ih=>exact fun F x=>ih _ _ x
 |mark m k ih=>exact fun F ⟨x,y⟩=>⟨x,ih _ y⟩
 |halt h=>exact fun F x=>x
theorem z9 {α β:Type}{P:Program}{Q:β->af->Prop}{f:α->Sem β}:∀(s:Sem α) (F:af),bx P (s.bind f) Q F↔bx P s (fun a G=>bx P (f a) Q G) F:=by
 intro s
 induction s with
 |pure a=>exact fun F=>Iff.rfl
 |load m a k ih=>intro F;simp only[Sem.bind,bx,ih]
 |store m a v k ih=>intro F;simp only[Sem.bind,bx,ih]
 |new o k ih=>intro F;simp only[Sem.bind,bx,ih]
 |shape r k ih=>intro F;simp only[Sem.bind,bx,ih]
 |freeze a n k ih=>intro F;simp only[Sem.bind,bx]
 |frozen a k ih=>intro F;simp only[Sem.bind,bx,ih]
 |getObj r k ih=>intro F;simp only[Sem.bind,bx,ih]
 |setObj r o k ih=>intro F;simp only[Sem.bind,bx,ih]
 |choose q k ih=>intro F;simp only[Sem.bind,bx,ih]
 |sys c k ih=>intro F;simp only[Sem.bind,bx]
 |program k ih=>intro F;simp only[Sem.bind,bx,ih]
 |mark m k ih=>intro F;simp only[Sem.bind,bx,ih]
 |halt h=>intro F;simp only[Sem.bind,bx]
theorem Has.push {F:af}{w:World}(h:Has F w)(o:Obj):Has (F.push w.heap.size o) {w with heap:=w.heap.push o}:=by
 have f:∀b o,(b,o)∈F.own->b<w.heap.size:=fun b o hb=>by
  have:=h.own b o hb;rcases Nat.lt_or_ge b w.heap.size with x|x
  .exact x
  .simp[Array.getElem?_eq_none x] at this
 have hk:w.heap.size∉keys F.own:=fun hm=>by
  obtain ⟨⟨b,x⟩,i,e⟩:=List.mem_map.1 hm;have:=f b x i;simp at e;omega
 refine ⟨fun a v d=>?_,fun b x hb=>?_,?_,fun a v d hm=>?_⟩
 .have:=h.ro a v d;unfold World.cell? at this ⊢;split at this
  .rename_i c t fr g;have hl:a.block<w.heap.size:=by
    rcases Nat.lt_or_ge a.block w.heap.size with x|x
    .exact x
    .simp[Array.getElem?_eq_none x] at g
   rw[show (w.heap.push o)[a.block]?=w.heap[a.block]? from by rw[Array.getElem?_push,if_neg aa],g];exact this
  .cases this
 .simp only[af.push,List.mem_cons] at hb;rcases hb with hb|hb
  .cases hb;simp
  .have:=f b x hb;show (w.heap.push o)[b]?=some x;rw[Array.getElem?_push,if_neg aa];exact h.own b x hb
 .simp only[af.push,keys,List.map_cons,List.nodup_cons];exact ⟨hk,h.nodup⟩
 .simp only[af.push,keys,List.map_cons,List.mem_cons] at hm;rcases hm with hm|hm
  .have:=h.ro a v d;unfold World.cell? at this;rw[hm] at this;simp at this
  .exact h.apart a v d hm
theorem Has.fresh {F:af}{w:World}(h:Has F w):eD F w.heap.size:=by
 refine ⟨fun off sp=>?_,z8 fun x b e=>?_⟩
 .cases c:F.ro ⟨w.heap.size,off,sp⟩ with
  |none=>rfl
  |some v=>have:=h.iH (a:=⟨w.heap.size,off,sp⟩) (by simp[c]);simp at this
 .have:=h.lt b;omega
theorem Has.set {F:af}{w w':World}(h:Has F w){b:Nat}{o:Obj}(hm:b∈keys F.own)(hb:w'.heap[b]?=some o)(aO:∀c,c≠b->w'.heap[c]?=w.heap[c]?):Has (F.put b o) w':=by
 refine ⟨fun a v d=>?_,fun c y g=>?_,?_,fun a v d=>?_⟩
 .have f:a.block≠b:=fun e=>h.apart a v d (e▸hm);have:=h.ro a v d;unfold World.cell? at this ⊢;rw[aO _ f];exact this
 .rcases z6 h.nodup g with ⟨rfl,rfl⟩|⟨f,hm⟩
  .exact hb
  .rw[aO _ f];exact h.own _ _ hm
 .simp only[af.put,sL];exact h.nodup
 .simp only[af.put,sL];exact h.apart a v d
theorem eC.put {F:af}{w w':World}{b:Nat}{o:Obj}(hm:b∈keys F.own)(a:w'.os=w.os)(ht:w'.tape=w.tape)(d:w'.output=w.output)(hs:w'.heap.size=w.heap.size)(aO:∀c,c≠b->w'.heap[c]?=w.heap[c]?):eC F (F.put b o) w w' where
 os:=a
 tape:=ht
 output:=d
 size:=aa
 frame c _ f:=aO c (fun e=>f (e▸hm))
 ro _ h:=.inl h
 own c g:=.inl (by simpa [af.put,sL] using g)
theorem eC.push {F:af}{w:World}(o:Obj):eC F (F.push w.heap.size o) w {w with heap:=w.heap.push o} where
 os:=rfl
 tape:=rfl
 output:=rfl
 size:=av
 frame b hb _:=by show (w.heap.push o)[b]?=_;rw[Array.getElem?_push,if_neg aa]
 ro _ h:=.inl h
 own c a:=by
  simp only[af.push,keys,List.map_cons,List.mem_cons] at a
  rcases a with rfl|a
  .exact .inr (Nat.le_refl _)
  .exact .inl a
structure mO {α:Type}(P:Program)(s:Sem α)(Q:α->af->Prop)(F:af)(w:World)(dw:Array Event)(a:α)(w':World)(F':af)(es:Array Event):Prop where
 run:s.runT P w dw=(.ok a w',dw++es)
 upd:eC F F' w w'
 has:Has F' w'
 iX:∀e∈es,jA F.ro (iG F w.heap.size w'.heap.size) e
 post:Q a F'
theorem mO.cons {α:Type}{P:Program}{s s':Sem α}{Q:α->af->Prop}{F c F':af}{w w1 w':World}{dw es:Array Event}{e:Event}{a:α}
  (h:mO P s' Q c w1 (dw.push e) a w' F' es) (g:s.runT P w dw=s'.runT P w1 (dw.push e)) (hu:eC F c w w1) (hb:Has c w1) (he:jA F.ro (· ∈keys F.own) e) (i:c.ro=F.ro):mO P s Q F w dw a w' F' (#[e]++es) where
 run:=by rw[g,h.run];simp
 upd:=hu.trans h.upd
 has:=h.has
 iX x d:=by
  simp only[Array.mem_append,List.mem_toArray,List.mem_singleton] at d
  rcases d with rfl|d
  .exact he.mono (fun _ h=>h) (fun _ h=>.inl h)
  .exact (h.iX x d).mono (fun a j=>by rw[<-i];exact j) (fun b f=>by
    rcases f with f|⟨k,l⟩
    .exact (hu.own b f).imp id (fun y=>⟨y,Nat.lt_of_lt_of_le (hb.lt f) h.upd.size⟩)
    .exact .inr ⟨Nat.le_trans hu.size k,l⟩)
 post:=h.post
theorem mO.skip {α:Type}{P:Program}{s s':Sem α}{Q:α->af->Prop}{F c F':af}{w w1 w':World}{dw es:Array Event}{a:α}
  (h:mO P s' Q c w1 dw a w' F' es) (e:s.runT P w dw=s'.runT P w1 dw) (hu:eC F c w w1) (hb:Has c w1) (f:c.ro=F.ro):mO P s Q F w dw a w' F' es where
 run:=by rw[e,h.run]
 upd:=hu.trans h.upd
 has:=h.has
 iX x g:=(h.iX x g).mono (fun a i=>by rw[<-f];exact i) (fun b d=>by
    rcases d with d|⟨j,k⟩
    .exact (hu.own b d).imp id (fun y=>⟨y,Nat.lt_of_lt_of_le (hb.lt d) h.upd.size⟩)
    .exact .inr ⟨Nat.le_trans hu.size j,k⟩)
 post:=h.post
theorem Has.drawn {F:af}{w:World}(h:Has F w)(n:Nat):Has F {w with drawn:=n}:=⟨h.ro,h.own,h.nodup,h.apart⟩
theorem eC.drawn (F:af)(w:World)(n:Nat):eC F F w {w with drawn:=n}:=⟨rfl,rfl,rfl,Nat.le_refl _,fun _ _ _=>rfl,fun _ h=>.inl h,fun _ h=>.inl h⟩
theorem lQ {α:Type}{P:Program}{Q:α->af->Prop}:∀(s:Sem α) (F:af) (w:World) (dw:Array Event),bx P s Q F->Has F w->
  ∃a w' F' es,mO P s Q F w dw a w' F' es:=by
 intro s
 induction s with
 |pure a=>exact fun F w dw h hw=>⟨a,w,F,#[],by simp[Sem.runT],.refl _ _,hw,av,h⟩
 |load m a k ih=>
  rintro F w dw ⟨rfl,v,C,h⟩ hw
  obtain ⟨x,w',F',es,H⟩:=ih v F w (dw.push ⟨.cell a,false,false⟩) h hw
  refine ⟨x,w',F',_,H.cons ?_ (.refl _ _) hw (.inl ⟨a,false,rfl,(z7 C).imp id fun y=>⟨rfl,y⟩⟩) rfl⟩
  have:=hw.reads C
  simp only[Sem.runT,this]
  rfl
 |store m a v k ih=>
  rintro F w dw ⟨rfl,L,j,h⟩ hw
  unfold af.mN at j
  split at j
  case h_2=>cases j
  rename_i c t fr l
  split at j
  case isFalse=>cases j
  rename_i i
  obtain ⟨E,D,G,I⟩:=i
  cases j
  have d:=iF l
  have hb:=hw.own _ _ d
  have z:(w.setCell a v).heap[a.block]?=some (.cells (c.setIfInBounds a.off v) t fr):=by
   simp[World.setCell,Array.getElem?_modify,hb,D]
  have aO:∀b,b≠a.block->(w.setCell a v).heap[b]?=w.heap[b]?:=by
   intro b aO
   simp only[World.setCell]
   rw[Array.getElem?_modify,if_neg (fun e=>aO e.symm)]
  have p:=hw.set (o:=.cells (c.setIfInBounds a.off v) t fr) (fJ d) z aO
  obtain ⟨x,w',F',es,H⟩:=ih _ (w.setCell a v) (dw.push ⟨.cell a,true,false⟩) h p
  refine ⟨x,w',F',_,H.cons ?_ (eC.put (fJ d) rfl rfl rfl (by simp[World.setCell]) aO) p (.inl ⟨a,true,rfl,.inl (fJ d)⟩) rfl⟩
  have i:w.cell? a=some c[a.off]:=by simp[World.cell?,hb,D,G]
  have J:w.frozen? a=false:=by
   have:w.frozen? a=frozenAt (.cells c t fr) a.off:=by
    obtain ⟨lo,hi⟩:=fr
    simp[World.frozen?,hb,frozenAt]
   rw[this,I]
  cases v<;>simp[bU] at E<;>simp only[Sem.runT,i,J]<;>rfl
 |new o k ih=>
  intro F w dw h hw
  obtain ⟨x,w',F',es,H⟩:=ih w.heap.size (F.push w.heap.size o) {w with heap:=w.heap.push o} dw (h.2 _ hw.fresh) (hw.push o)
  exact ⟨x,w',F',es,H.skip (by simp only[Sem.runT]) (eC.push o) (hw.push o) rfl⟩
 |shape r k ih=>
  intro F w dw h hw
  have:bx P (k (w.shape? r)) Q F:=by
   unfold bx at h
   split at h
   .rename_i o f
    have e:w.shape? r=shapeOf o:=by
     have:=hw.own _ _ (iF f)
     cases o<;>simp[World.shape?,this,shapeOf]
    rw[e];exact h
   .exact h _
  obtain ⟨x,w',F',es,H⟩:=ih _ F w dw this hw
  exact ⟨x,w',F',es,H.skip (by simp only[Sem.runT]) (.refl _ _) hw rfl⟩
 |freeze a n k ih=>exact fun F w dw h hw=>h.elim
 |frozen a k ih=>
  intro F w dw h hw
  have:bx P (k (w.frozen? a)) Q F:=by
   unfold bx at h
   split at h
   .rename_i o f
    have e:w.frozen? a=frozenAt o a.off:=by
     have:=hw.own _ _ (iF f)
     cases o<;>simp[World.frozen?,this,frozenAt]
    rw[e];exact h
   .exact h _
  obtain ⟨x,w',F',es,H⟩:=ih _ F w dw this hw
  exact ⟨x,w',F',es,H.skip (by simp only[Sem.runT]) (.refl _ _) hw rfl⟩
 |getObj r k ih=>
  rintro F w dw ⟨o,f,h⟩ hw
  unfold af.fR at f
  split at f
  case h_2=>cases f
  rename_i o' l
  split at f
  case isFalse=>cases f
  rename_i A
  cases f
  obtain ⟨x,w',F',es,H⟩:=ih _ F w (dw.push ⟨.obj r,false,false⟩) h hw
  refine ⟨x,w',F',_,H.cons ?_ (.refl _ _) hw (.inr (.inl ⟨r,false,rfl,fJ (iF l)⟩)) rfl⟩
  have:=hw.own _ _ (iF l)
  obtain ⟨i,B⟩:=A
  cases o<;>simp[Obj.qA] at i<;>simp only[Sem.runT,this,B]<;>rfl
 |setObj r o k ih=>
  rintro F w dw ⟨B,g,h⟩ hw
  obtain ⟨x,g⟩:=Option.isSome_iff_exists.1 g
  unfold af.fR at g
  split at g
  case h_2=>cases g
  rename_i M l
  split at g
  case isFalse=>cases g
  rename_i A
  cases g
  have d:=iF l
  have hb:=hw.own _ _ d
  have K:r<w.heap.size:=hw.lt (fJ d)
  have z:({w with heap:=w.heap.setIfInBounds r o}:World).heap[r]?=some o:=by simp[K]
  have aO:∀b,b≠r->({w with heap:=w.heap.setIfInBounds r o}:World).heap[b]?=w.heap[b]?:=fun b aO=>by
   simp[Array.getElem?_setIfInBounds,Ne.symm aO]
  have p:=hw.set (w':={w with heap:=w.heap.setIfInBounds r o}) (o:=o) (fJ d) z aO
  obtain ⟨y,w',F',es,H⟩:=ih (F.put r o) {w with heap:=w.heap.setIfInBounds r o} (dw.push ⟨.obj r,true,false⟩) h p
  refine ⟨y,w',F',_,H.cons ?_ (eC.put (fJ d) rfl rfl rfl av aO) p (.inr (.inl ⟨r,true,rfl,fJ d⟩)) rfl⟩
  obtain ⟨i,_⟩:=A
  cases x<;>simp[Obj.qA] at i<;>simp only[Sem.runT,hb,B]
 |choose q k ih=>
  intro F w dw h hw
  unfold bx at h
  by_cases u:q.forced=true
  .rw[if_pos u] at h
   obtain ⟨x,w',F',es,H⟩:=ih _ F w dw h hw
   exact ⟨x,w',F',es,H.skip (by simp only[Sem.runT,u,if_true]) (.refl _ _) hw rfl⟩
  .rw[if_neg u] at h
   obtain ⟨x,w',F',es,H⟩:=ih (q.cut (w.tape w.drawn q)) F {w with drawn:=w.drawn+1} dw (h _) (hw.drawn _)
   exact ⟨x,w',F',es,H.skip (by simp only[Sem.runT,if_neg u]) (.drawn _ _ _) (hw.drawn _) rfl⟩
 |sys c k ih=>exact fun F w dw h hw=>h.elim
 |program k ih=>
  intro F w dw h hw
  obtain ⟨x,w',F',es,H⟩:=ih P F w dw h hw
  exact ⟨x,w',F',es,H.skip (by simp only[Sem.runT]) (.refl _ _) hw rfl⟩
 |mark m k ih=>
  rintro F w dw ⟨hm,h⟩ hw
  obtain ⟨x,w',F',es,H⟩:=ih F w (dw.push ⟨.mark m,false,true⟩) h hw
  exact ⟨x,w',F',_,H.cons (by simp only[Sem.runT]) (.refl _ _) hw (.inr (.inr ⟨m,rfl,hm⟩)) rfl⟩
 |halt h=>exact fun F w dw h hw=>h.elim
def on (b:Frame)(a:Act)(todo:List Item):Frame:={b with tmps:=a.tmps,todo:=todo,defers:=a.defers,mode:=.run}
structure Le (F F':af):Prop where
 has:∀w,Has F' w->Has F w
 own:∀b,b∈keys F.own->b∈keys F'.own
 ro:∀a,(F.ro a).isSome=true->(F'.ro a).isSome=true\/a.block∈keys F'.own
theorem Le.refl (F:af):Le F F:=⟨fun _ h=>h,fun _ h=>h,fun _ h=>.inl h⟩
theorem Le.trans {F G H:af}(h:Le F G)(k:Le G H):Le F H:=
 ⟨fun w x=>h.has w (k.has w x),fun b x=>k.own b (h.own b x),fun a x=>(h.ro a x).elim (k.ro a) (fun y=>.inr (k.own _ y))⟩
def Fj (P:Program)(main:Bool)(J:Goroutine->af->Prop)(g:Goroutine)(F:af)(w:World):Prop:=
 ∃g' w' es F',stepG P main g w= .go g' w' es/\eC F F' w w'/\Has F' w'/\(∀e∈es,jA F.ro (iG F w.heap.size w'.heap.size) e)/\J g' F'
structure Closed (P:Program)(main:Bool)(J:Goroutine->af->Prop):Prop where
 mono:∀{g F F'},Le F F'->J g F->J g F'
 step:∀{fr cs F},(∀w,Has F w->Fj P main J (G fr cs) F w)->J (G fr cs) F
def dx (P:Program)(J:Goroutine->af->Prop)(f:FuncId)(args:Array Value)(F:af)(R:Value->af->Prop):Prop:=
 ∀(c:Frame) (cs:List Frame),(∀v F',R v F'->J (G (c.finish v) cs) F')->J (G (Frame.enter P f args .normal) (c::cs)) F
def aI (P:Program)(f:FuncId)(args:Array Value)(F:af)(R:Value->af->Prop):Prop:=
 ∀(main:Bool) (J:Goroutine->af->Prop),Closed P main J->dx P J f args F R
section
variable {P:Program}{main:Bool}{J:Goroutine->af->Prop}
theorem dx.mono {f:FuncId}{args:Array Value}{F:af}{R a:Value->af->Prop}(h:dx P J f args F R)(b:∀v F',R v F'->a v F'):dx P J f args F a:=
 fun c cs k=>h c cs fun v F' r=>k v F' (b v F' r)
theorem aI.mono {f:FuncId}{args:Array Value}{F:af}{R a:Value->af->Prop}(h:aI P f args F R)(b:∀v F',R v F'->a v F'):aI P f args F a:=
 fun m J hJ=>(h m J hJ).mono b
theorem Closed.move (hJ:Closed P main J){fr fr':Frame}{cs cs':List Frame}{F:af}(hs:∀w,stepG P main (G fr cs) w= .go (G fr' cs') w #[])(h:J (G fr' cs') F):J (G fr cs) F:=
 hJ.step fun w hw=>⟨_,w,#[],F,hs w,.refl _ _,hw,av,h⟩
variable {b:Frame}{a:Act}{k:List Item}{cs:List Frame}{F:af}
theorem Aa {w:World}:stepG P main (G (on b a (.code .skip::k)) cs) w= .go (G (on b a k) cs) w #[]:=by simp[G,stepG,stepG.exec,on]
theorem Fo {l:Nat}{w:World}:stepG P main (G (on b a (.code (.label l)::k)) cs) w= .go (G (on b a k) cs) w #[]:=by simp[G,stepG,stepG.exec,on]
theorem Ab {id:Nat}{w:World}:stepG P main (G (on b a (.inBlock id::k)) cs) w= .go (G (on b a k) cs) w #[]:=by simp[G,stepG,stepG.exec,on]
theorem Fp {c:Code}{w:World}:stepG P main (G (on b a (.inScope c::k)) cs) w= .go (G (on b a k) cs) w #[]:=by simp[G,stepG,stepG.exec,on]
theorem Ac {x y:Code}{w:World}:stepG P main (G (on b a (.code (.seq x y)::k)) cs) w= .go (G (on b a (.code x:: .code y::k)) cs) w #[]:=by simp[G,stepG,stepG.exec,on]
theorem vM (b:Frame)(a:Act)(todo:List Item)(x:Operand):(on b a todo).eval x=a.eval x:=by cases x<;>rfl
theorem Ad {c:Operand}{x y:Code}{t:Bool}{w:World}(h:a.eval c= .bool t):stepG P main (G (on b a (.code (.cond c x y)::k)) cs) w= .go (G (on b a (.code (if t then x else y)::k)) cs) w #[]:=by
 have d:(on b a (.code (.cond c x y)::k)).eval c= .bool t:=by rw[vM];exact h
 simp only[on] at d;simp[G,stepG,stepG.exec,on,d]
theorem Ae {id:Nat}{c:Code}{w:World}:stepG P main (G (on b a (.code (.block id c)::k)) cs) w= .go (G (on b a (.code c:: .inBlock id::k)) cs) w #[]:=by simp[G,stepG,stepG.exec,on]
theorem Af {c:Code}{w:World}:stepG P main (G (on b a (.code (.loop c)::k)) cs) w= .go (G (on b a (.code c:: .inLoop c::k)) cs) w #[]:=by simp[G,stepG,stepG.exec,on]
theorem Ah {c:Code}{w:World}:stepG P main (G (on b a (.inLoop c::k)) cs) w= .go (G (on b a (.code c:: .inLoop c::k)) cs) w #[]:=by simp[G,stepG,stepG.exec,on]
theorem Fq {c:Code}{w:World}:stepG P main (G (on b a (.code (.scope c)::k)) cs) w= .go (G (on b a (.code c:: .inScope c::k)) cs) w #[]:=by simp[G,stepG,stepG.exec,on]
theorem Ai {id:Nat}{c:List Item}{w:World}(h:exitTo id k=some c):stepG P main (G (on b a (.code (.exit id)::k)) cs) w= .go (G (on b a c) cs) w #[]:=by simp[G,stepG,stepG.exec,on,h]
theorem Aj {id:Nat}{ops:Array Oper}{w:World}:stepG P main (G (on b a (.code (.region id ops false)::k)) cs) w= .go (G (on b a (.inRegion ops (List.range ops.size)::k)) cs) w #[]:=by simp[G,stepG,stepG.exec,on]
theorem Ak {id:Nat}{ops:Array Oper}{w:World}:stepG P main (G (on b a (.code (.region id ops true)::k)) cs) w=
  .go (G (on b a (.inRegion ops (Region.schedule (P.follows .mixedOrders) ops (w.tape w.drawn (.order b.fn id)))::k)) cs) {w with drawn:=w.drawn+1} #[]:=by
 simp[G,stepG,stepG.exec,on,choose,Sem.run,Question.forced,Question.cut]
theorem Al {ops:Array Oper}{w:World}:stepG P main (G (on b a (.inRegion ops []::k)) cs) w= .go (G (on b a k) cs) w #[]:=by simp[G,stepG,stepG.exec,on]
theorem stepG_ret' {w:World}(c:b.roundOf=none):stepG P main (G (on b a (.code .ret::k)) cs) w= .go (G {on b a (.code .ret::k) with mode:=.returning} cs) w #[]:=by simp[G,stepG,stepG.exec,on,c]
theorem mP {w:World}(c:b.roundOf=none):stepG P main (G (on b a []) cs) w= .go (G {on b a [] with mode:=.returning} cs) w #[]:=by simp[G,stepG,stepG.exec,on,c]
theorem vN (b:Frame)(a:Act)(ops:Array Oper)(i:Nat)(rest:List Nat)(k:List Item)(v:Value):
  (on b a (.inRegion ops (i::rest)::k)).finish v=on b (a.put ((ops[i]?).bind (·.dst)) v) (.inRegion ops rest::k):=by
 cases h:(ops[i]?).bind (·.dst)<;>simp[Frame.finish,on,Act.put,h]
theorem vO {ops:Array Oper}{i:Nat}{rest:List Nat}{w:World}(h:((ops[i]?).map (Region.wanted · (yielded ops a.tmps))).getD false=false):
  stepG P main (G (on b a (.inRegion ops (i::rest)::k)) cs) w= .go (G (on b (a.put ((ops[i]?).bind (·.dst)) undef) (.inRegion ops rest::k)) cs) w #[]:=by
 rw[<-vN]
 have c:=h
 simp only[on] at*
 simp[G,stepG,stepG.exec,c]
theorem Fs {ops:Array Oper}{i:Nat}{rest:List Nat}{o:Oper}{w:World}(d:b.roundOf=none\/∀c,o.op≠ .defer c)(e:ops[i]?=some o)(hw:Region.wanted o (yielded ops a.tmps)=true):
  stepG P main (G (on b a (.inRegion ops (i::rest)::k)) cs) w=stepG.apply P true (on b a (.inRegion ops (i::rest)::k)) cs none (execOp a.eval o) w:=by
 have he:(on b a (.inRegion ops (i::rest)::k)).eval=a.eval:=funext (vM b a _)
 simp only[on] at he
 rcases d with d|d
 .rw[d] at he
  simp[G,stepG,stepG.exec,stepG.oper,Frame.oper?,on,e,hw,he,d]
 .have:∀l,(match (some l:Option Nat),o.op with
   |some l,.defer c=>stepG.apply P true (on b a (.inRegion ops (i::rest)::k)) cs none (do Instr.deferInRound l (<-resolve (on b a (.inRegion ops (i::rest)::k)).eval c o.type);pure .skip) w
   |_,_=>stepG.apply P true (on b a (.inRegion ops (i::rest)::k)) cs none (execOp a.eval o) w)=stepG.apply P true (on b a (.inRegion ops (i::rest)::k)) cs none (execOp a.eval o) w:=by
   intro l
   cases f:o.op<;>first|rfl|exact absurd f (d _)
  cases hb:b.roundOf with
  |none=>
   rw[hb] at he
   simp[G,stepG,stepG.exec,stepG.oper,Frame.oper?,on,e,hw,he,hb]
  |some l=>
   have t:=this l
   simp only[on,he] at t
   simp only[hb] at t
   simp[G,stepG,stepG.exec,stepG.oper,Frame.oper?,on,e,hw,he,hb]
   exact t
def j8 (J:Goroutine->af->Prop)(l:Nat)(f:FuncId)(tmps:Array Value)(assign body:Code)(F:af)(R:Value->af->Prop):Prop:=
 ∀(c:Frame) (cs:List Frame),(∀v F',R v F'->J (G (c.finish v) cs) F')->J (G (Frame.round l f tmps assign body .normal) (c::cs)) F
theorem j8.mono {l:Nat}{f:FuncId}{tmps:Array Value}{assign body:Code}{F:af}{R a:Value->af->Prop}(h:j8 J l f tmps assign body F R)(b:∀v F',R v F'->a v F'):j8 J l f tmps assign body F a:=
 fun c cs k=>h c cs fun v F' r=>k v F' (b v F' r)
def gr (P:Program)(J:Goroutine->af->Prop)(R:Value->af->Prop)(D:Deferred->af->Prop):Next->af->Prop
 | .value v,F=>R v F
 | .skip,F=>R undef F
 | .defer d,F=>D d F
 | .enter f args,F=>dx P J f args F R
 | .round l f tmps assign body,F=>j8 J l f tmps assign body F R
 |_,_=>False
theorem Am {R b:Value->af->Prop}{D c:Deferred->af->Prop}(a:∀v F,R v F->b v F)(e:∀d F,D d F->c d F):∀n F,gr P J R D n F->gr P J b c n F
 | .value v,F,h=>a _ _ h
 | .skip,F,h=>a _ _ h
 | .defer d,F,h=>e _ _ h
 | .enter f args,F,h=>dx.mono h a
 | .round l f tmps assign body,F,h=>j8.mono h a
 | .stack ..,_,h| .callThen ..,_,h| .row ..,_,h| .comm ..,_,h| .spawn ..,_,h| .recover,_,h| .numGoroutine,_,h| .collect,_,h| .watch ..,_,h| .newcoro ..,_,h| .coroswitch ..,_,h| .sleep ..,_,h| .timer ..,_,h| .alone ..,_,h=>h.elim
def kU (P:Program)(J:Goroutine->af->Prop)(R:Value->af->Prop)(D:Deferred->af->Prop)(n:Next)(F:af):Prop:=gr P J (fun v F=>∃F0,Le F0 F/\R v F0) D n F
theorem Ft {R:Value->af->Prop}{D:Deferred->af->Prop}:∀n F,gr P J R D n F->kU P J R D n F:=Am (fun _ F h=>⟨F,Le.refl F,h⟩) (fun _ _ h=>h)
theorem qB {R a:Value->af->Prop}{D b:Deferred->af->Prop}(c:∀v F,R v F->a v F)(e:∀d F,D d F->b d F):∀n F,kU P J R D n F->kU P J a b n F:=
 Am (fun _ _ ⟨F0,hle,h⟩=>⟨F0,hle,c _ _ h⟩) e
def An (P:Program)(J:Goroutine->af->Prop)(o:Oper)(K:Act->af->Prop)(a:Act)(F:af):Prop:=
 bx P (execOp a.eval o) (kU P J (fun v F'=>K (a.put o.dst v) F') (fun d F'=>K ({a with defers:=d::a.defers}.put o.dst undef) F')) F
def ek (P:Program)(J:Goroutine->af->Prop)(ops:Array Oper)(i:Nat)(K:Act->af->Prop)(a:Act)(F:af):Prop:=
 match ops[i]? with
 |none=>K a F
 |some o=>if Region.wanted o (yielded ops a.tmps) then An P J o K a F else K (a.put o.dst undef) F
def gG (P:Program)(J:Goroutine->af->Prop)(ops:Array Oper)(K:Act->af->Prop):List Nat->Act->af->Prop
 |[],a,F=>K a F
 |i::rest,a,F=>ek P J ops i (gG P J ops K rest) a F
structure vP (ops:Array Oper)(b:Frame):Prop where
 kind:b.kind≠ .early
 round:b.roundOf=none\/∀o∈ops,∀c,o.op≠ .defer c
theorem Ao (hJ:Closed P main J){ops:Array Oper}{i:Nat}{rest:List Nat}{K:Act->af->Prop}(hb:vP ops b)(h:ek P J ops i K a F)
  (hK:∀s F',K s F'->J (G (on b s (.inRegion ops rest::k)) cs) F'):J (G (on b a (.inRegion ops (i::rest)::k)) cs) F:=by
 unfold ek at h
 cases g:ops[i]? with
 |none=>
  rw[g] at h
  refine hJ.move (fun w=>vO (by simp[g])) ?_
  simp only[g,Option.bind_none,Act.put]
  exact hK _ _ h
 |some o=>
  rw[g] at h
  simp only at h
  by_cases hw:Region.wanted o (yielded ops a.tmps)=true
  .rw[if_pos hw] at h
   refine hJ.step fun w u=>?_
   obtain ⟨n,w',F',es,H⟩:=lQ _ F w #[] h u
   have t:=H.run
   rw[Array.empty_append] at t
   have y:b.roundOf=none\/∀c,o.op≠ .defer c:=hb.round.imp id fun x=>x o (Array.mem_of_getElem? g)
   have j:=Fs (P:=P) (main:=main) (b:=b) (a:=a) (k:=k) (cs:=cs) (w:=w) (rest:=rest) y g hw
   have hk:((on b a (.inRegion ops (i::rest)::k)).kind==CallKind.early)=false:=by simpa [on] using hb.kind
   have r:∀v,(on b a (.inRegion ops (i::rest)::k)).finish v=on b (a.put o.dst v) (.inRegion ops rest::k):=by
    intro v;rw[vN,g];rfl
   have q:∀e∈seen P (on b a (.inRegion ops (i::rest)::k)).fn es,jA F.ro (iG F w.heap.size w'.heap.size) e:=fun e he=>H.iX e (mem_seen he)
   have m:=H.post
   unfold stepG.apply at j
   simp only[if_true,t,hk,Bool.false_eq_true,if_false] at j
   cases n<;>simp only[kU,gr] at m
   case value v=>
    simp only[r,GStep.after,Array.append_empty] at j
    obtain ⟨F0,hle,m⟩:=m
    exact ⟨_,w',_,F',j,H.upd,H.has,q,hJ.mono hle (hK _ _ m)⟩
   case skip=>
    simp only[r,GStep.after,Array.append_empty] at j
    obtain ⟨F0,hle,m⟩:=m
    exact ⟨_,w',_,F',j,H.upd,H.has,q,hJ.mono hle (hK _ _ m)⟩
   case defer d=>
    have z:({on b a (.inRegion ops (i::rest)::k) with defers:=d::(on b a (.inRegion ops (i::rest)::k)).defers}:Frame).finish undef=
      on b ({a with defers:=d::a.defers}.put o.dst undef) (.inRegion ops rest::k):=by
     have:=vN b {a with defers:=d::a.defers} ops i rest k undef
     rw[g] at this;exact this
    simp only[z,GStep.after,Array.append_empty] at j
    exact ⟨_,w',_,F',j,H.upd,H.has,q,hK _ _ m⟩
   case round l f tmps cT bd=>
    refine ⟨_,w',_,F',j,H.upd,H.has,?_,m _ _ fun v A p=>by obtain ⟨F0,hle,p⟩:=p;rw[r];exact hJ.mono hle (hK _ _ p)⟩
    simpa [GStep.after] using q
   case enter f args=>
    refine ⟨_,w',_,F',j,H.upd,H.has,?_,m _ _ fun v A p=>by obtain ⟨F0,hle,p⟩:=p;rw[r];exact hJ.mono hle (hK _ _ p)⟩
    simpa [GStep.after] using q
  .rw[if_neg hw] at h
   refine hJ.move (fun w=>vO (by simp[g];simpa using hw)) ?_
   simp only[g,Option.bind_some]
   exact hK _ _ h
theorem qC {ops:Array Oper}{i:Nat}{K e:Act->af->Prop}{a:Act}{F:af}(h:∀a F,K a F->e a F)(b:ek P J ops i K a F):ek P J ops i e a F:=by
 unfold ek at*;split
 .rename_i c;rw[c] at b;exact h _ _ b
 .rename_i o c;rw[c] at b;simp only at b;split
  .rename_i hw;rw[if_pos hw] at b;exact iI (qB (fun v F=>h _ _) (fun d F=>h _ _)) _ _ b
  .rename_i hw;rw[if_neg hw] at b;exact h _ _ b
theorem sM (hJ:Closed P main J){ops:Array Oper}{K:Act->af->Prop}(hb:vP ops b)(hK:∀c F',K c F'->J (G (on b c k) cs) F'):
  ∀(l:List Nat) (a:Act) (F:af),gG P J ops K l a F->J (G (on b a (.inRegion ops l::k)) cs) F
 |[],a,F,h=>hJ.move (fun _=>Al) (hK _ _ h)
 |i::rest,a,F,h=>Ao hJ hb h fun c F' d=>sM hJ hb hK rest c F' d
section draw
variable {ops:Array Oper}{Q:Act->af->Prop}{S:af->Prop}
def eu (P:Program)(J:Goroutine->af->Prop)(ops:Array Oper)(Q:Act->af->Prop)(S:af->Prop):Nat->Array Bool->Act->af->Prop
 |0,listed,a,F=>Region.ready .any ops listed=[]/\Q a F
 |fuel+1,listed,a,F=>(Region.ready .any ops listed=[]->Q a F)/\
  ∀i∈Region.ready .any ops listed,ek P J ops i (fun b F'=>S F'/\eu P J ops Q S fuel (listed.setIfInBounds i true) b F') a F
theorem Fu:∀(fuel t:Nat) (listed:Array Bool) (a:Act) (F:af),eu P J ops Q S fuel listed a F->
  gG P J ops Q (Region.linearise.go .any ops fuel t listed []) a F:=by
 intro fuel
 induction fuel with
 |zero=>intro t listed a F h;simpa [Region.linearise.go,gG] using h.2
 |succ fuel ih=>
  intro t listed a F h
  obtain ⟨b,c⟩:=h
  simp only[Region.linearise.go]
  change gG P J ops Q (match (Region.ready .any ops listed)[t % (Region.ready .any ops listed).length]? with
   |some i=>Region.linearise.go .any ops fuel (t/(Region.ready .any ops listed).length) (listed.setIfInBounds i true) [i]
   |none=>[].reverse) a F
  cases hi:(Region.ready .any ops listed)[t % (Region.ready .any ops listed).length]? with
  |none=>
   have d:Region.ready .any ops listed=[]:=by
    cases e:Region.ready .any ops listed with
    |nil=>rfl
    |cons x xs=>
     rw[e] at hi
     have f:t % (x::xs).length<(x::xs).length:=Nat.mod_lt _ av
     simp at hi
     simp at f
     omega
   simpa [gG] using b d
  |some i=>
   simp only[]
   rw[linearise_go_acc,List.reverse_singleton,List.singleton_append]
   exact qC (fun a F h=>ih _ _ a F h.2) (c i (List.mem_of_getElem? hi))
def gu (P:Program)(J:Goroutine->af->Prop)(ops:Array Oper)(S:af->Prop)(o:Oper)(v:Value)(a:Act):Prop:=
 (Region.wanted o (yielded ops a.tmps)=true/\∀F (R:Value->af->Prop),S F->R v F->bx P (execOp a.eval o) (kU P J R (fun _ _=>False)) F)\/
 (Region.wanted o (yielded ops a.tmps)=false/\v=undef)
theorem gu.oB {i:Nat}{o:Oper}{v:Value}{a:Act}{F:af}(hi:ops[i]?=some o)(b:gu P J ops S o v a)
  {K:Act->af->Prop} (c:S F) (h:K (a.put o.dst v) F):ek P J ops i K a F:=by
 unfold ek
 simp only[hi]
 rcases b with ⟨hw,d⟩|⟨hw,rfl⟩
 .rw[if_pos hw]
  exact iI (qB (fun _ _ x=>x) (fun _ _ x=>x.elim)) _ _ (d F (fun v F'=>K (a.put o.dst v) F') c h)
 .rw[if_neg (by simp[hw])];exact h
theorem gu.of_same {o:Oper}{v:Value}{a b:Act}(c:gu P J ops S o v a)(he:execOp b.eval o=execOp a.eval o)
  (hw:Region.wanted o (yielded ops b.tmps)=Region.wanted o (yielded ops a.tmps)):gu P J ops S o v b:=by
 unfold gu at*
 rw[he,hw]
 exact c
theorem vQ {j:Nat}{c e:Oper}{v:Value}(m:ops[j]?=some e)(n:c.apart ops e=true)
  (o:∀cs b,c.op≠ .select cs b) (p:∀cs b,e.op≠ .select cs b) {K:Act->af->Prop} {a:Act} {F:af}
  (f:gu P J ops S c v a) (h:ek P J ops j K (a.put c.dst v) F):
  ek P J ops j (fun i F'=>gu P J ops S c v i/\K (i.put c.dst v) F') a F:=by
 obtain ⟨k,g,l⟩:=Oper.apart_spec n
 have keep:∀(a:Act),gu P J ops S c v a->∀u,gu P J ops S c v (a.put e.dst u):=fun a f u=>
  f.of_same (execOp_put c o a e.dst u l) (wanted_put c a e.dst u l)
 have q:∀d,gu P J ops S c v {a with defers:=d::a.defers}:=fun d=>f.of_same rfl rfl
 unfold ek at*
 simp only[m] at*
 rw[wanted_put e a c.dst v k] at h
 split
 .rename_i hw
  rw[if_pos hw] at h
  unfold An at*
  rw[execOp_put e p a c.dst v k] at h
  refine iI (qB (fun u F' x=>⟨keep a f u,?_⟩) (fun d F' x=>⟨keep _ (q d) _,?_⟩)) _ _ h
  .rw[<-Act.put_comm a v u g];exact x
  .rw[<-Act.put_comm _ v undef g,<-Act.put_defers];exact x
 .rename_i hw
  rw[if_neg hw] at h
  exact ⟨keep a f _,by rw[<-Act.put_comm a v undef g];exact h⟩
theorem Fv {i:Nat}{l:Oper}{v:Value}(hi:ops[i]?=some l)(t:∀(j:Nat) (o:Oper) cs b,ops[j]?=some o->o.op≠ .select cs b):
  ∀(fuel:Nat) (listed:Array Bool) (a:Act) (F:af),
   (∀j d,ops[j]?=some d->j≠i->listed.getD j true=false->(∀e∈d.after,Region.binds .any e=true->e.on≠i)->l.apart ops d=true)->
   i∈Region.ready .any ops listed->gu P J ops S l v a->S F->
   eu P J ops Q S fuel (listed.setIfInBounds i true) (a.put l.dst v) F->eu P J ops Q S (fuel+1) listed a F:=by
 intro fuel
 induction fuel with
 |zero=>
  intro listed a F _ f n m H
  refine ⟨fun h=>(by rw[h] at f;cases f),fun j p=>?_⟩
  by_cases c:j=i
  .subst c;exact n.oB hi m ⟨m,H⟩
  .have:=ready_mono p c
   rw[H.1] at this
   cases this
 |succ fuel ih=>
  intro listed a F u f n m H
  refine ⟨fun h=>(by rw[h] at f;cases f),fun j p=>?_⟩
  by_cases c:j=i
  .subst c;exact n.oB hi m ⟨m,H⟩
  .have g:=H.2 j (ready_mono p c)
   obtain ⟨w,d,r,A⟩:=mem_ready.1 p
   have B:∀e∈d.after,Region.binds .any e=true->e.on≠i:=fun e he hb heq=>by
    have g:=A e he hb
    have x:=(mem_ready.1 f).1
    rw[heq] at g
    rcases Nat.lt_or_ge i listed.size with s|s
    .simp[s] at x g;rw[x] at g;cases g
    .simp[Array.getElem?_eq_none s] at g
   have C:=vQ r (u j d r c w B) (fun cs b=>t i l cs b hi) (fun cs b=>t j d cs b r) n g
   have D:∀k ok,ops[k]?=some ok->k≠i->(listed.setIfInBounds j true).getD k true=false->
     (∀e∈ok.after,Region.binds .any e=true->e.on≠i)->l.apart ops ok=true:=fun k ok hk E y G=>by
    refine u k ok hk E ?_ G
    by_cases z:j=k
    .subst z;exact w
    .rw[getD_set_ne true z] at y;exact y
   refine qC (fun I F' q=>⟨q.2.1,ih (listed.setIfInBounds j true) I F' D (ready_mono f (Ne.symm c)) q.1 q.2.1 ?_⟩) C
   rw[Array.setIfInBounds_comm _ _ c]
   exact q.2.2
theorem Ap (i:Nat){c:Oper}(v:Value){fuel:Nat}{listed:Array Bool}{a:Act}{F:af}(hi:ops[i]?=some c)
  (b:(Region.noSelect ops&&Region.free .any ops listed i&&(Region.ready .any ops listed).contains i)=true)
  (d:gu P J ops S c v a) (e:S F)
  (h:eu P J ops Q S fuel (listed.setIfInBounds i true) (a.put c.dst v) F):eu P J ops Q S (fuel+1) listed a F:=by
 simp only[Bool.and_eq_true] at b
 exact Fv hi (Region.noSelect_spec b.1.1) fuel listed a F (Region.free_spec hi b.1.2) (by simpa using b.2) d e h
theorem Fw {rs:List Nat}{fuel:Nat}{listed:Array Bool}{a:Act}{F:af}(b:Region.ready .any ops listed=rs)(aO:rs≠[])
  (h:∀i∈rs,ek P J ops i (fun c F'=>S F'/\eu P J ops Q S fuel (listed.setIfInBounds i true) c F') a F):eu P J ops Q S (fuel+1) listed a F:=
 ⟨fun d=>absurd (b▸d) aO,b▸h⟩
theorem Fx (i:Nat){fuel:Nat}{listed:Array Bool}{a:Act}{F:af}(b:Region.ready .any ops listed=[i])
  (h:ek P J ops i (fun c F'=>S F'/\eu P J ops Q S fuel (listed.setIfInBounds i true) c F') a F):eu P J ops Q S (fuel+1) listed a F:=
 Fw b av (by simpa using h)
theorem Aq {listed:Array Bool}{a:Act}{F:af}(b:Region.ready .any ops listed=[])(h:Q a F):∀fuel,eu P J ops Q S fuel listed a F
 |0=>⟨b,h⟩
 |_+1=>⟨fun _=>h,by rw[b];simp⟩
end draw
end
inductive Ex where
 |normal
 |exit (id:Nat)
 |ret
 deriving DecidableEq
def gv:Code->Bool
 | .region _ ops _=>ops.all fun o=>match o.op with| .defer _=>false|_=>true
 | .seq a b=>gv a&&gv b
 | .cond _ a b=>gv a&&gv b
 | .block _ c=>gv c
 | .loop c=>gv c
 | .scope c=>gv c
 | .rangeFunc ..=>false
 |_=>true
structure Ar (c:Code)(b:Frame):Prop where
 kind:b.kind≠ .early
 round:b.roundOf=none\/gv c=true
section
variable {P:Program}{main:Bool}{J:Goroutine->af->Prop}
def As (J:Goroutine->af->Prop)(b:Frame)(k:List Item)(cs:List Frame):Ex->Act->af->Prop
 | .normal,a,F=>J (G (on b a k) cs) F
 | .exit id,a,F=>∀c,exitTo id c=exitTo id k->J (G (on b a (.code (.exit id)::c)) cs) F
 | .ret,a,F=>∀c,J (G (on b a (.code .ret::c)) cs) F
def Wp (J:Goroutine->af->Prop)(c:Code)(Q:Ex->Act->af->Prop)(a:Act)(F:af):Prop:=
 ∀(b:Frame) (k:List Item) (cs:List Frame),Ar c b->(∀e d F',Q e d F'->As J b k cs e d F')->J (G (on b a (.code c::k)) cs) F
theorem Wp.mono {c:Code}{Q d:Ex->Act->af->Prop}{a:Act}{F:af}(h:Wp J c Q a F)(f:∀e a F,Q e a F->d e a F):Wp J c d a F:=
 fun b k cs hb hk=>h b k cs hb fun e g F' x=>hk e g F' (f _ _ _ x)
theorem Wp.le {hJ:Closed P main J}{c:Code}{Q:Ex->Act->af->Prop}{a:Act}{F F':af}(h:Wp J c Q a F)(hle:Le F F'):Wp J c Q a F':=
 fun b k cs hb hk=>hJ.mono hle (h b k cs hb hk)
variable {Q:Ex->Act->af->Prop}{a:Act}{F:af}
theorem aN (hJ:Closed P main J)(h:Q .normal a F):Wp J .skip Q a F:=fun b k cs _ hk=>hJ.move (fun _=>Aa) (hk _ _ _ h)
theorem Fy (hJ:Closed P main J){l:Nat}(h:Q .normal a F):Wp J (.label l) Q a F:=fun b k cs _ hk=>hJ.move (fun _=>Fo) (hk _ _ _ h)
theorem bP {id:Nat}(h:Q (.exit id) a F):Wp J (.exit id) Q a F:=fun b k cs _ hk=>hk _ _ _ h k rfl
theorem aT (h:Q .ret a F):Wp J .ret Q a F:=fun b k cs _ hk=>hk _ _ _ h k
def sN (J:Goroutine->af->Prop)(y:Code)(Q:Ex->Act->af->Prop):Ex->Act->af->Prop
 | .normal,a,F=>Wp J y Q a F
 |e,a,F=>Q e a F
theorem ah (hJ:Closed P main J){x y:Code}(h:Wp J x (sN J y Q) a F):Wp J (.seq x y) Q a F:=fun b k cs hb hk=>by
 refine hJ.move (fun _=>Ac) (h b (.code y::k) cs ⟨hb.kind,hb.round.imp id fun z=>?_⟩ fun e g F' c=>?_)
 .simp only[gv,Bool.and_eq_true] at z;exact z.1
 .cases e with
  |normal=>exact c b k cs ⟨hb.kind,hb.round.imp id fun z=>by simp only[gv,Bool.and_eq_true] at z;exact z.2⟩ hk
  |exit id=>exact fun d f=>hk _ _ _ c d (by rw[f];rfl)
  |ret=>exact hk _ _ _ c
theorem vR (hJ:Closed P main J){c:Operand}{x y:Code}(t:Bool)(d:a.eval c= .bool t)(h:Wp J (if t then x else y) Q a F):Wp J (.cond c x y) Q a F:=fun b k cs hb hk=>by
 refine hJ.move (fun _=>Ad d) (h b k cs ⟨hb.kind,hb.round.imp id fun z=>?_⟩ hk)
 simp only[gv,Bool.and_eq_true] at z
 cases t
 .exact z.2
 .exact z.1
def vS (id:Nat)(Q:Ex->Act->af->Prop):Ex->Act->af->Prop
 | .normal,a,F=>Q .normal a F
 | .exit i,a,F=>if i=id then Q .normal a F else Q (.exit i) a F
 | .ret,a,F=>Q .ret a F
theorem aW (hJ:Closed P main J){id:Nat}{c:Code}(h:Wp J c (vS id Q) a F):Wp J (.block id c) Q a F:=fun b k cs hb hk=>by
 refine hJ.move (fun _=>Ae) (h b (.inBlock id::k) cs ⟨hb.kind,hb.round⟩ fun e j F' d=>?_)
 cases e with
 |normal=>exact hJ.move (fun _=>Ab) (hk _ _ _ d)
 |exit i=>
  intro f g
  simp only[vS] at d
  by_cases hi:i=id
  .rw[if_pos hi] at d
   subst hi
   have:exitTo i f=some k:=by rw[g];simp[exitTo]
   exact hJ.move (fun _=>Ai this) (hk _ _ _ d)
  .rw[if_neg hi] at d
   refine hk _ _ _ d f ?_
   rw[g]
   simp[exitTo,Ne.symm hi]
 |ret=>exact hk _ _ _ d
theorem Fz (hJ:Closed P main J){c:Code}(h:Wp J c Q a F):Wp J (.scope c) Q a F:=fun b k cs hb hk=>by
 refine hJ.move (fun _=>Fq) (h b (.inScope c::k) cs ⟨hb.kind,hb.round⟩ fun e j F' d=>?_)
 cases e with
 |normal=>exact hJ.move (fun _=>Fp) (hk _ _ _ d)
 |exit i=>exact fun f g=>hk _ _ _ d f (by rw[g];rfl)
 |ret=>exact hk _ _ _ d
def sO (I:Nat->Act->af->Prop)(n:Nat)(Q:Ex->Act->af->Prop):Ex->Act->af->Prop
 | .normal,a,F=>∃m,m<n/\I m a F
 |e,a,F=>Q e a F
theorem Au (hJ:Closed P main J){c:Code}(I:Nat->Act->af->Prop)(n:Nat)(f:I n a F)(hs:∀n a F,I n a F->Wp J c (sO I n Q) a F):Wp J (.loop c) Q a F:=by
 intro b k cs hb hk;have key:∀n a F,I n a F->J (G (on b a (.code c:: .inLoop c::k)) cs) F:=by
  intro n
  induction n using Nat.strongRecOn with
  |_ n ih=>
   intro a F g;refine hs n a F g b (.inLoop c::k) cs ⟨hb.kind,hb.round⟩ fun e h F' d=>?_;cases e with
   |normal=>
    obtain ⟨m,hm,j⟩:=d;exact hJ.move (fun _=>Ah) (ih m hm h F' j)
   |exit i=>exact fun l o=>hk _ _ _ d l (by rw[o];rfl)
   |ret=>exact hk _ _ _ d
 exact hJ.move (fun _=>Af) (key n a F f)
theorem vT {id:Nat}{ops:Array Oper}{d:Bool}{b:Frame}(hb:Ar (.region id ops d) b):vP ops b:=
 ⟨hb.kind,hb.round.imp a fun z o e c f=>by
  simp only[gv] at z
  have:=(Array.all_eq_true_iff_forall_mem.1 z) o e
  rw[f] at this
  cases this⟩
where a {p:Prop} (h:p):p:=h
theorem FA (hJ:Closed P main J){id:Nat}{ops:Array Oper}(h:gG P J ops (Q .normal) (List.range ops.size) a F):Wp J (.region id ops false) Q a F:=fun b k cs hb hk=>
 hJ.move (fun _=>Aj) (sM hJ (vT hb) (fun c F' d=>hk .normal c F' d) _ _ _ h)
theorem vU (hJ:Closed P main J)(S:af->Prop)(hm:P.follows .mixedOrders=true){id:Nat}{ops:Array Oper}(h:eu P J ops (Q .normal) S ops.size (Array.replicate ops.size false) a F):Wp J (.region id ops true) Q a F:=fun b k cs hb hk=>
 hJ.step fun w hw=>by
  refine ⟨_,_,_,F,Ak,.drawn _ _ _,hw.drawn _,av,?_⟩
  refine sM (K:=Q .normal) hJ (vT hb) (fun c F' d=>hk .normal c F' d) _ _ _ ?_
  simp only[Region.schedule,hm,Bool.true_or,if_true]
  exact Fu ops.size _ _ a F h
def iY (P:Program):List Deferred->(af->Prop)->af->Prop
 |[],K,F=>K F
 |d::a,K,F=>∃r,d.target= .collected r/\bx P (Instr.takeDeferred r) (fun calls F'=>calls=[]/\iY P a K F') F
def sP (P:Program)(fn:Func)(R:Value->af->Prop):Ex->Act->af->Prop
 | .exit _,_,_=>False
 |_,a,F=>iY P a.defers (fun F=>bx P (results fn a.tmps) R F) F
theorem vV (hJ:Closed P main J){f:FuncId}{fn:Func}(m:P.funcs[f]?=some fn){R:Value->af->Prop}{c:Frame}{cs:List Frame}(n:∀v F',R v F'->J (G (c.finish v) cs) F')(tmps:Array Value):
  ∀(a:List Deferred) (fr:Frame) (F:af),fr.fn=f->fr.kind= .normal->fr.mode= .returning->fr.defers=a->fr.tmps=tmps->iY P a (fun F=>bx P (results fn tmps) R F) F->J (G fr (c::cs)) F
 |[],fr,F,i,j,g,k,l,h=>by
  refine hJ.step fun w hw=>?_
  obtain ⟨v,w',F',es,H⟩:=lQ _ F w #[] h hw
  have b:=H.run
  rw[Array.empty_append] at b
  refine ⟨G (c.finish v) cs,w',seen P fr.fn es,F',?_,H.upd,H.has,fun e he=>H.iX e (mem_seen he),n v F' H.post⟩
  simp only[G,stepG,unwind,g,k,l,i,m,b]
  simp[doReturn,j,GStep.after]
 |d::a,fr,F,i,j,g,k,l,h=>by
  obtain ⟨r,o,hl⟩:=h
  refine hJ.step fun w hw=>?_
  obtain ⟨v,w',F',es,H⟩:=lQ _ F w #[] hl hw
  have b:=H.run
  rw[Array.empty_append] at b
  obtain ⟨p,q⟩:=H.post
  subst p
  obtain ⟨t,args⟩:=d
  simp only at o
  subst o
  refine ⟨G {fr with defers:=a} (c::cs),w',seen P fr.fn es,F',?_,H.upd,H.has,fun e he=>H.iX e (mem_seen he),?_⟩
  .simp only[G,stepG,unwind,g,k,b]
   simp[GStep.after]
  .exact vV hJ m n tmps a {fr with defers:=a} F' i j g rfl l q
theorem dx.of_wp (hJ:Closed P main J){f:FuncId}{fn:Func}{c:Code}{args:Array Value}{R:Value->af->Prop}(d:P.funcs[f]?=some fn)(hb:fn.body=some c)
  (h:Wp J c (sP P fn R) {tmps:=args++Array.replicate (fn.ntmps - args.size) undef,defers:=[]} F):dx P J f args F R:=by
 intro k cs j
 let b:Frame:={(default:Frame) with fn:=f,kind:=.normal}
 have l:Frame.enter P f args .normal=on b {tmps:=args++Array.replicate (fn.ntmps - args.size) undef,defers:=[]} [.code c]:=by
  simp[Frame.enter,on,d,hb,b]
  rfl
 rw[l]
 refine h b [] (k::cs) ⟨by simp[b],.inl rfl⟩ fun e a F' g=>?_
 cases e with
 |normal=>exact hJ.move (fun _=>mP rfl) (vV hJ d j a.tmps a.defers _ F' rfl rfl rfl rfl rfl g)
 |exit i=>exact g.elim
 |ret=>exact fun m=>hJ.move (fun _=>stepG_ret' rfl) (vV hJ d j a.tmps a.defers _ F' rfl rfl rfl rfl rfl g)
theorem aI.of_wp {f:FuncId}{fn:Func}{c:Code}{args:Array Value}{F:af}{R:Value->af->Prop}(a:P.funcs[f]?=some fn)(hb:fn.body=some c)
  (h:∀main J,Closed P main J->Wp J c (sP P fn R) {tmps:=args++Array.replicate (fn.ntmps - args.size) undef,defers:=[]} F):aI P f args F R:=
 fun main J hJ=>dx.of_wp hJ a hb (h main J hJ)
end
end Go.Sep
end
section
namespace Go.Sep
open Go Go.Conc Go.ConcM
open Go.ConcN (sumTo upd sumTo_upd upd_ne upd_same)
def af.ie (F:af):Loc->Prop
 | .cell a=>a.block∈keys F.own\/(F.ro a).isSome=true
 | .obj r=>r∈keys F.own
 |_=>False
structure j9 (P:Program)(bJ:Loc->Prop)(g:Goroutine)(F:af)(gs:Array Goroutine)(w:World)(t:Trace)(q:Nat->Nat):Prop where
 g0:gs[0]?=some g
 lv:Leavers P t gs q
 gw:Past bJ w.heap.size t
 has:Has F w
 apart:∀l,bJ l->¬F.ie l
 low:∀l,bJ l->l.low w.heap.size
structure fY (F F':af)(w w':World):Prop where
 os:OsLater w.os w'.os
 tape:w'.tape=w.tape
 output:w'.output=w.output
 size:w.heap.size<=w'.heap.size
 frame:∀b,b<w.heap.size->b∉keys F.own->w'.heap[b]?=w.heap[b]?
 ro:∀a,(F'.ro a).isSome=true->(F.ro a).isSome=true\/a.block∈keys F.own\/w.heap.size<=a.block
 own:∀b,b∈keys F'.own->b∈keys F.own\/w.heap.size<=b
theorem fY.qD {F F':af}{w w':World}(h:eC F F' w w'):fY F F' w w':=⟨by rw[h.os];exact .refl _,h.tape,h.output,h.size,h.frame,h.ro,h.own⟩
theorem fY.refl (F:af)(w:World):fY F F w w:=.qD (.refl _ _)
theorem fY.trans {F G H:af}{u v w:World}(h:fY F G u v)(k:fY G H v w):fY F H u w where
 os:=h.os.trans k.os
 tape:=k.tape.trans h.tape
 output:=k.output.trans h.output
 size:=Nat.le_trans h.size k.size
 frame b hb c:=by
  rw[k.frame b (Nat.lt_of_lt_of_le hb h.size) (fun hk=>(h.own b hk).elim c (fun hl=>absurd hb aa))]
  exact h.frame b hb c
 ro a x:=by
  rcases k.ro a x with y|y|y
  .exact h.ro a y
  .exact .inr (h.own _ y)
  .exact .inr (.inr (Nat.le_trans h.size y))
 own b hb:=by
  rcases k.own b hb with x|x
  .exact h.own b x
  .exact .inr (Nat.le_trans h.size x)
theorem kg {P:Program}{a b:Nat}{m c:Machine}{t d:Trace}(h:runNT P a m t=(.next c,d)):runNT P (a+b) m t=runNT P b c d:=by
 rw[runNT_add,h]
theorem Has.at {F:af}{w:World}(h:Has F w)(d:Nat):Has F (w.at d):=⟨h.ro,h.own,h.nodup,h.apart⟩
theorem sQ {P:Program}{bJ:Loc->Prop}{B:Nat}{a:Goroutine}(m:a.status= .running):∀(M:Nat) (gs:Array Goroutine) (w:World) (sl:Option (Nat×Nat)) (t:Trace) (q:Nat->Nat),
  sumTo gs.size q<=M->gs[0]?=some a->Leavers P t gs q->Past bJ B t->
  ∃(N:Nat) (cp:Array Goroutine) (d G:Nat) (b H:Option (Nat×Nat)) (n:Trace) (z:Nat->Nat),
   runNT P N (crowd gs w sl) t=(.next (crowd cp (w.at d) b),n)/\cp.size=gs.size/\cp[0]?=some a/\Leavers P n cp z/\Past bJ B n/\
   stepT P (crowd cp (w.at d) b)=runT P (crowd cp (w.at G) H) 0:=by
 intro M
 induction M with
 |zero=>
  intro gs w sl t q hM c hL o
  have A:∀g∈gs,awake g:=by
   intro g hg
   obtain ⟨i,hi,rfl⟩:=Array.mem_iff_getElem.1 hg
   rcases Nat.eq_zero_or_pos i with rfl|h
   .have:gs[0]=a:=by simpa [Array.getElem?_eq_getElem hi] using c
    rw[this];exact awake_of (.inl m)
   .exact awake_of ((hL.old i _ h (Array.getElem?_eq_getElem hi)).status.elim .inl fun x=>.inr (.inr x))
  obtain ⟨i,g,d,b,hi,hg,p⟩:=crowd_pick (P:=P) (w:=w) (sl:=sl) A ⟨0,a,c,m⟩
  rcases Nat.eq_zero_or_pos i with rfl|h
  .exact ⟨0,gs,w.drawn,d,sl,b,t,q,rfl,rfl,c,hL,o,p⟩
  .have l:=hL.old i g h hi
   have r:i<gs.size:=(Array.getElem?_eq_some_iff.1 hi).1
   have I:q i=0:=by have:=Go.ConcN.le_sumTo (f:=q) r;omega
   rw[I] at l;rw[l.1] at hg;cases hg
 |succ M ih=>
  intro gs w sl t q hM c hL o
  have A:∀g∈gs,awake g:=by
   intro g hg
   obtain ⟨i,hi,rfl⟩:=Array.mem_iff_getElem.1 hg
   rcases Nat.eq_zero_or_pos i with rfl|h
   .have:gs[0]=a:=by simpa [Array.getElem?_eq_getElem hi] using c
    rw[this];exact awake_of (.inl m)
   .exact awake_of ((hL.old i _ h (Array.getElem?_eq_getElem hi)).status.elim .inl fun x=>.inr (.inr x))
  obtain ⟨i,g,d,b,hi,hg,p⟩:=crowd_pick (P:=P) (w:=w) (sl:=sl) A ⟨0,a,c,m⟩
  rcases Nat.eq_zero_or_pos i with rfl|h
  .exact ⟨0,gs,w.drawn,d,sl,b,t,q,rfl,rfl,c,hL,o,p⟩
  .have l:=hL.old i g h hi
   have J:(i==0)=false:=by simp;omega
   have r:i<gs.size:=(Array.getElem?_eq_some_iff.1 hi).1
   cases C:q i with
   |zero=>rw[C] at l;rw[l.1] at hg;cases hg
   |succ k=>
    rw[C] at l
    rcases l with ⟨K,_⟩|⟨_,g',es,hm,L,O⟩
    .rw[K] at hg;cases hg
    have Q:=runT_crowd_go (P:=P) (sl:=b) (i:=i) hi (by rw[J];exact L (w.at d))
    have E:((gs.map (woken P g g' (w.at d))).setIfInBounds i g').size=gs.size:=av
    have ab:sumTo gs.size (upd q i k)+(k+1)=sumTo gs.size q+k:=by
     have:=sumTo_upd q k id r
     simpa [C] using this
    obtain ⟨N,cp,d1,d2,R,S,n,z,T,U,V,W,X,Y⟩:=ih ((gs.map (woken P g g' (w.at d))).setIfInBounds i g') (w.at d) b (t++MemOp.ofEvents i g.frame.fn g.frame.place es) (upd q i k) (by rw[E];omega)
     (by
      have aO:i≠0:=aa
      rw[Array.getElem?_setIfInBounds_ne aO,Array.getElem?_map,c]
      simp[woken_run m])
     ⟨fun j x s u=>by
      by_cases v:i=j
      .subst v
       rw[Array.getElem?_setIfInBounds_self_of_lt (by simpa using r)] at u
       obtain rfl:=Option.some.inj u
       rw[upd_same,Deaf_own]
       exact O
      .rw[Array.getElem?_setIfInBounds_ne v,Array.getElem?_map] at u
       obtain ⟨y,Z,rfl⟩:=Option.map_eq_some_iff.1 u
       have F:=hL.old j y s Z
       rw[woken_quitsD F,upd_ne q k (Ne.symm v),Deaf_other t v _ (fun op D=>by obtain ⟨e,_,rfl⟩:=Go.Conc.mem_ofEvents D;rfl)]
       exact F,fun j s=>by
      rw[Deaf_other t (g':=i) (by simp at s;omega) _ (fun op D=>by obtain ⟨e,_,rfl⟩:=Go.Conc.mem_ofEvents D;rfl)]
      exact hL.above j (by simpa using s)⟩
     (o.mute aa hm)
    exact ⟨N+1,cp,d1,d2,R,S,n,z,by simp only[runNT,p,Q];exact T,U.trans E,V,W,X,Y⟩
theorem Av {bJ:Loc->Prop}{F:af}{w w':World}(g:Has F w)(hu:w.heap.size<=w'.heap.size)(f:∀l,bJ l->¬F.ie l)(hl:∀l,bJ l->l.low w.heap.size){e:Event}
  (h:jA F.ro (iG F w.heap.size w'.heap.size) e):EvL bJ w'.heap.size e:=by
 have hm:∀b,iG F w.heap.size w'.heap.size b->b<w'.heap.size:=fun b hb=>hb.elim (fun x=>Nat.lt_of_lt_of_le (g.lt x) hu) (fun x=>x.2)
 rcases h with ⟨a,wr,rfl,c⟩|⟨r,wr,rfl,c⟩|⟨m,rfl,i⟩
 .refine ⟨fun x d hs=>?_,av,av,?_⟩
  .exfalso
   have e1:x.loc= .cell a:=by cases wr<;>simp[MemAct.ofEvent,MemAct.touch?] at d<;>rw[<-d]
   rw[e1] at hs
   rcases c with (c|c)|⟨_,c⟩
   .exact f _ hs (.inl c)
   .exact absurd (hl _ hs) (by show ¬a.block<_;omega)
   .exact f _ hs (.inr c)
  .show a.block<_
   rcases c with c|⟨_,c⟩
   .exact hm _ c
   .exact Nat.lt_of_lt_of_le (g.iH c) hu
 .refine ⟨fun x d hs=>?_,av,av,?_⟩
  .exfalso
   have e1:x.loc= .obj r:=by cases wr<;>simp[MemAct.ofEvent,MemAct.touch?] at d<;>rw[<-d]
   rw[e1] at hs
   rcases c with c|c
   .exact f _ hs c
   .exact absurd (hl _ hs) (by show ¬r<_;omega)
  .have:=hm _ c
   cases wr<;>exact this
 .cases m<;>simp[qz] at i<;>exact ⟨fun x d=>by simp[MemAct.ofEvent,MemAct.touch?] at d,av,av,trivial⟩
theorem j9.next {P:Program}{bJ:Loc->Prop}{F F':af}{w w':World}(e:∀l,bJ l->¬F.ie l)(hl:∀l,bJ l->l.low w.heap.size)(hu:eC F F' w w'):
  (∀l,bJ l->¬F'.ie l)/\(∀l,bJ l->l.low w'.heap.size):=by
 refine ⟨fun l hs b=>?_,fun l hs=>Loc.low_mono hu.size (hl l hs)⟩
 cases l with
 |cell a=>
  have c:=hl _ hs
  have d:=e _ hs
  rcases b with b|b
  .rcases hu.own _ b with x|x
   .exact d (.inl x)
   .exact absurd c (by show ¬a.block<_;omega)
  .rcases hu.ro _ b with x|x|x
   .exact d (.inr x)
   .exact d (.inl x)
   .exact absurd c (by show ¬a.block<_;omega)
 |obj r=>
  have c:=hl _ hs
  rcases hu.own _ b with x|x
  .exact e _ hs x
  .exact absurd c (by show ¬r<_;omega)
 |_=>exact b
theorem Le.ie {F F':af}(h:Le F F'){l:Loc}(hl:F.ie l):F'.ie l:=by
 cases l with
 |cell a=>exact hl.elim (fun x=>.inl (h.own _ x)) (fun x=>(h.ro _ x).elim .inr .inl)
 |obj r=>exact h.own _ hl
 |_=>exact hl
theorem fY.le {F G H:af}{w w':World}(h:Le F G)(u:fY F H w w'):fY G H w w' where
 os:=u.os
 tape:=u.tape
 output:=u.output
 size:=u.size
 frame b hb c:=u.frame b hb (fun x=>c (h.own b x))
 ro a x:=by
  rcases u.ro a x with y|y|y
  .exact (h.ro a y).imp id .inl
  .exact .inr (.inl (h.own _ y))
  .exact .inr (.inr y)
 own b hb:=(u.own b hb).imp (h.own b) id
end Go.Sep
end
section
namespace Go.Sep
open Go Go.Conc
def af.cO (F:af):af:={ro:=F.get,own:=[]}
theorem Has.cO {F:af}{w:World}(h:Has F w):Has F.cO w:=
 ⟨fun a v c=>h.reads c,fun b o hb=>(by cases hb),List.nodup_nil,fun a v c hm=>(by cases hm)⟩
def af.star (G F:af):af:=
 {ro:=fun a=>match F.ro a with
   |some v=>some v
   |none=>if a.block∈keys F.own then none else G.ro a
  own:=G.own++F.own}
structure Fits (F G:af):Prop where
 vW:∃w,Has G w/\Has F w
 own:∀b,b∈keys G.own->b∉keys F.own
 ro:∀a,(F.ro a).isSome=true->a.block∉keys G.own
theorem cI (l l':List (Nat×Obj)):keys (l++l')=keys l++keys l':=List.map_append
theorem Fits.left {F G:af}(h:Fits F G){w:World}(hw:Has (G.star F) w):Has F w where
 ro a v c:=hw.ro a v (by simp[af.star,c])
 own b o hb:=hw.own b o (List.mem_append_right _ hb)
 nodup:=by
  have:=hw.nodup
  simp only[af.star,cI] at this
  exact (List.nodup_append.1 this).2.1
 apart a v c hm:=by
  have:=hw.apart a v (by simp[af.star,c])
  simp only[af.star,cI,List.mem_append,not_or] at this
  exact this.2 hm
theorem Fits.right {F G:af}(h:Fits F G){w:World}(hw:Has (G.star F) w):Has G w:=by
 obtain ⟨m,d,i⟩:=h.vW;refine ⟨fun a v j=>?_,fun b o hb=>hw.own b o (List.mem_append_left _ hb),d.nodup,d.apart⟩;have c:=d.ro a v j;cases f:F.ro a with
 |some g=>
  have e:g=v:=by have:=i.ro a g f;rw[c] at this;exact (Option.some.inj this).symm
  exact e▸hw.ro a g (by simp[af.star,f])
 |none=>
  by_cases hb:a.block∈keys F.own
  .obtain ⟨⟨b,o⟩,hm,e⟩:=List.mem_map.1 hb;simp only at e;subst e;have k:=i.own _ o hm;have l:=hw.own _ o (List.mem_append_right _ hm);unfold World.cell? at c ⊢;rw[l];rw[k] at c;exact c
  .exact hw.ro a v (by simp[af.star,f,hb,j])
theorem Fits.both {F G:af}(h:Fits F G){w:World}(d:Has G w)(f:Has F w):Has (G.star F) w where
 ro a v c:=by
  simp only[af.star] at c
  split at c
  .rename_i x g;cases c;exact f.ro _ _ g
  .split at c
   .cases c
   .exact d.ro _ _ c
 own b o hb:=(List.mem_append.1 hb).elim (d.own b o) (f.own b o)
 nodup:=by
  simp only[af.star,cI]
  exact List.nodup_append.2 ⟨d.nodup,f.nodup,fun a i b hb e=>h.own a i (e▸hb)⟩
 apart a v c hm:=by
  simp only[af.star,cI,List.mem_append] at hm
  simp only[af.star] at c
  split at c
  .rename_i x g
   rcases hm with hm|hm
   .exact h.ro a (by simp[g]) hm
   .exact f.apart a x g hm
  .split at c
   .cases c
   .rename_i j
    rcases hm with hm|hm
    .exact d.apart a v c hm
    .exact j hm
theorem Fits.le {F G c:af}(hle:Le G c)(h:Fits F c):Fits F G where
 vW:=let ⟨w,d,e⟩:=h.vW;⟨w,hle.has w d,e⟩
 own b hb:=h.own b (hle.own b hb)
 ro a f hm:=h.ro a f (hle.own _ hm)
def Aw (J:Goroutine->af->Prop)(F:af)(g:Goroutine)(G:af):Prop:=Fits F G->J g (G.star F)
theorem kV {F G:af}{a:Addr}(h:((G.star F).ro a).isSome=true):(F.ro a).isSome=true\/(G.ro a).isSome=true:=by
 simp only[af.star] at h;split at h
 .rename_i x b;exact .inl (by simp[b])
 .split at h
  .cases h
  .exact .inr h
theorem ig {F G:af}{a:Addr}(h:(F.ro a).isSome=true\/(G.ro a).isSome=true):((G.star F).ro a).isSome=true\/a.block∈keys F.own:=by
 by_cases hb:a.block∈keys F.own
 .exact .inr hb
 .left;simp only[af.star];split
  .rfl
  .rename_i b;rw[if_neg hb];rcases h with h|h
   .simp[b] at h
   .exact h
theorem FB {P:Program}{main:Bool}{J:Goroutine->af->Prop}(hJ:Closed P main J)(F:af):Closed P main (Aw J F) where
 mono {g G E} hle h c:=by
  have k:=c.le hle
  refine hJ.mono ⟨fun w hw=>k.both (hle.has w (c.right hw)) (c.left hw),fun b hb=>?_,fun a f=>?_⟩ (h k)
  .simp only[af.star,cI,List.mem_append] at hb ⊢
   exact hb.imp (hle.own b) id
  .rcases kV f with x|x
   .exact (ig (.inl x)).imp id (fun y=>by simp only[af.star,cI,List.mem_append];exact .inr y)
   .rcases hle.ro a x with y|y
    .exact (ig (.inr y)).imp id (fun z=>by simp only[af.star,cI,List.mem_append];exact .inr z)
    .exact .inr (by simp only[af.star,cI,List.mem_append];exact .inl y)
 step {fr cs G} h c:=by
  refine hJ.step fun w hw=>?_
  have t:=c.right hw
  have d:=c.left hw
  obtain ⟨g',w',es,l,hgo,hu,n,u,A⟩:=h w t
  have p:Has F w':=by
   refine ⟨fun a v j=>?_,fun b o hb=>?_,d.nodup,d.apart⟩
   .have q:=d.ro a v j
    have B:=d.iH (a:=a) (by simp[j])
    unfold World.cell? at q ⊢
    rw[hu.frame _ B (c.ro a (by simp[j]))]
    exact q
   .rw[hu.frame b (d.lt (fJ hb)) (fun hm=>c.own b hm (fJ hb))]
    exact d.own b o hb
  have s:Fits F l:=by
   refine ⟨⟨w',n,p⟩,fun b hb hm=>?_,fun a f hm=>?_⟩
   .rcases hu.own b hb with x|x
    .exact c.own b x hm
    .have:=d.lt hm;omega
   .rcases hu.own _ hm with x|x
    .exact c.ro a f x
    .have:=d.iH f;omega
  refine ⟨g',w',es,l.star F,hgo,⟨hu.os,hu.tape,hu.output,hu.size,fun b hb C=>hu.frame b hb fun hm=>C ?_,fun a f=>?_,fun b hb=>?_⟩,s.both n p,fun e he=>?_,A s⟩
  .simp only[af.star,cI,List.mem_append];exact .inl hm
  .rcases kV f with x|x
   .exact (ig (.inl x)).imp id (fun y=>.inl (by simp only[af.star,cI,List.mem_append];exact .inr y))
   .rcases hu.ro a x with y|y|y
    .exact (ig (.inr y)).imp id (fun z=>.inl (by simp only[af.star,cI,List.mem_append];exact .inr z))
    .exact .inr (.inl (by simp only[af.star,cI,List.mem_append];exact .inl y))
    .exact .inr (.inr y)
  .simp only[af.star,cI,List.mem_append] at hb ⊢
   rcases hb with hb|hb
   .exact (hu.own b hb).imp .inl id
   .exact .inl (.inr hb)
  .have hk:∀b,iG G w.heap.size w'.heap.size b->iG (G.star F) w.heap.size w'.heap.size b:=fun b hb=>hb.imp (fun x=>by simp only[af.star,cI,List.mem_append];exact .inl x) id
   rcases u e he with ⟨a,wr,rfl,i|⟨D,i⟩⟩|⟨r,wr,rfl,i⟩|⟨m,rfl,hm⟩
   .exact .inl ⟨a,wr,rfl,.inl (hk _ i)⟩
   .rcases ig (F:=F) (.inr i) with y|y
    .exact .inl ⟨a,wr,rfl,.inr ⟨D,y⟩⟩
    .exact .inl ⟨a,wr,rfl,.inl (.inl (by simp only[af.star,cI,List.mem_append];exact .inr y))⟩
   .exact .inr (.inl ⟨r,wr,rfl,hk _ i⟩)
   .exact .inr (.inr ⟨m,rfl,hm⟩)
theorem FC {P:Program}{f:FuncId}{args:Array Value}{F:af}{R:Value->List (Nat×Obj)->Prop}(h:aI P f args F.cO (fun v G=>R v G.own)):
  aI P f args F (fun v G=>∃l,R v l/\G={ro:=F.ro,own:=l++F.own}):=by
 intro main J hJ c cs hK
 by_cases hw:∃w,Has F w
 .obtain ⟨k,i⟩:=hw
  have j:Fits F F.cO:=⟨⟨k,i.cO,i⟩,fun b hb=>(by cases hb),fun a e hm=>(by cases hm)⟩
  have m:Aw J F (G (Frame.enter P f args .normal) (c::cs)) F.cO:=by
   refine h main _ (FB hJ F) c cs fun v G n s=>?_
   have g:∀(a:Addr) (v:Value),F.ro a=some v->(G.star F).ro a=some v:=fun a v d=>by simp[af.star,d]
   refine hJ.mono (F:={ro:=F.ro,own:=G.own++F.own}) ⟨fun w hw=>⟨fun a v d=>hw.ro a v (g a v d),hw.own,hw.nodup,fun a v d=>hw.apart a v (g a v d)⟩,fun b hb=>hb,fun a e=>?_⟩ (hK v {ro:=F.ro,own:=G.own++F.own} ⟨G.own,n,rfl⟩)
   obtain ⟨o,p⟩:=Option.isSome_iff_exists.1 e
   exact .inl (by rw[g a o p];rfl)
  refine hJ.mono ⟨fun w hw=>j.both hw.cO hw,fun b hb=>?_,fun a e=>?_⟩ (m j)
  .simpa [af.star,af.cO] using hb
  .rcases kV e with x|x
   .exact .inl x
   .obtain ⟨v,q⟩:=Option.isSome_iff_exists.1 x
    exact (z7 q).symm
 .exact hJ.step fun w r=>absurd ⟨w,r⟩ hw
theorem vX {P:Program}{f:FuncId}{args:Array Value}{F:af}{R:Value->Prop}(h:aI P f args F.cO (fun v _=>R v)):aI P f args F (fun v G=>R v/\G=F):=by
 intro main J hJ c cs hK;refine FC (R:=fun v _=>R v) h main J hJ c cs fun v G d=>?_;obtain ⟨l,e,rfl⟩:=d;refine hJ.mono (F:=F) ⟨fun w hw=>⟨hw.ro,fun b o hb=>hw.own b o (List.mem_append_right _ hb),?_,fun a v g hm=>hw.apart a v g ?_⟩,fun b hb=>?_,fun a i=>.inl i⟩ (hK v F ⟨e,rfl⟩)
 .have:=hw.nodup;simp only[cI] at this;exact (List.nodup_append.1 this).2.1
 .simp only[cI,List.mem_append];exact .inr hm
 .simp only[cI,List.mem_append];exact .inr hb
end Go.Sep
end
section
namespace Go.Sep
inductive Rk:Type 1
 |mk (ι:Type) (f:ι->Rk)
namespace Rk
def kids:Rk->Rk->Prop
 | .mk ι f,r=>∃i,r=f i
theorem wf:WellFounded (fun a b:Rk=>kids b a):=⟨fun r=>by
 induction r with
 |mk ι f ih=>exact ⟨_,fun b h=>by obtain ⟨i,rfl⟩:=h;exact ih i⟩⟩
def nat:Nat->Rk
 |0=>.mk Empty fun x=>x.elim
 |n+1=>.mk Unit fun _=>nat n
theorem Ax (n:Nat):kids (nat (n+1)) (nat n):=⟨(),rfl⟩
end Rk
def sR (n:Nat)(ρ' ρ:Nat->Rk):Prop:=∃i,i<n/\(ρ i).kids (ρ' i)/\∀j,j≠i->ρ' j=ρ j
theorem Ay:∀n,WellFounded (sR n)
 |0=>⟨fun ρ=>⟨_,fun _ ⟨i,hi,_⟩=>absurd hi (Nat.not_lt_zero i)⟩⟩
 |n+1=>by
  refine ⟨fun ρ=>?_⟩
  have key:∀(a:Rk) (ρ:Nat->Rk),ρ n=a->Acc (sR (n+1)) ρ:=by
   intro a
   induction Rk.wf.apply a with
   |intro a _ d=>
    intro ρ
    induction (Ay n).apply ρ with
    |intro ρ _ f=>
     intro b
     refine ⟨_,fun ρ' ⟨i,hi,hk,c⟩=>?_⟩
     by_cases h:i=n
     .subst h
      exact d (ρ' i) (by rw[<-b];exact hk) ρ' rfl
     .refine f ρ' ⟨i,aa,hk,c⟩ ?_
      rw[c n (fun e=>h e.symm)];exact b
  exact key _ ρ rfl
def Az (n:Nat)(a x:(Nat->Rk)×Nat):Prop:=sR n a.1 x.1\/(a.1=x.1/\a.2<x.2)
theorem AA (n:Nat):WellFounded (Az n):=by
 refine ⟨fun ⟨ρ,m⟩=>?_⟩
 induction (Ay n).apply ρ generalizing m with
 |intro ρ _ b=>
  induction m using Nat.strongRecOn with
  |_ m c=>
   refine ⟨_,fun ⟨ρ',a⟩ h=>?_⟩;rcases h with h|⟨rfl,h⟩
   .exact b ρ' h a
   .exact c a h
end Go.Sep
end

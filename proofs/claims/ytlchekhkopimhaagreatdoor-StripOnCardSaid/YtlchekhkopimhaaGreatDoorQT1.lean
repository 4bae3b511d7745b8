/- A part of the proof: QT1. -/
import Derived.Attr
import Derived.KernelRfl
import Derived.Conc.Own
import Derived.Conc.Events
import Derived.Conc.Beside
import Derived.Conc.Listed
import Derived.Orders
import Derived.Conc.MuSpec
set_option linter.all false
section
namespace Go
theorem aa {Q:Prop}(e:Q:=by omega):Q:=e
theorem aj {Q:Prop}(e:Q:=by kernel_rfl):Q:=e
theorem aL {Q:Prop}(e:Q:=by decide):Q:=e
theorem an {Q:Prop}(e:Q:=by simp):Q:=e
theorem bx {Q:Prop}(e:Q:=by simp only[*,go_sem]):Q:=e
theorem bz {Q:Prop}(e:Q:=by simp only[*,go_sem,-hM,-hJ]):Q:=e
theorem c6 {Q:Prop}(e:Q:=by first|(simp only[*,go_sem,-hK,-hM,-hJ];done)|rfl):Q:=e
theorem fJ {Q:Prop}(e:Q:=by first|(simp only[*,go_sem,-hK,-hM,-hJ];done)|(simp only[*,go_sem,-hK,-hM,-hJ];rfl)):Q:=e
theorem fW {Q:Prop}(e:Q:=by simp only[*,go_sem,-hK,-hM,-hJ]):Q:=e
theorem dz {Q:Prop}(e:Q:=by simp only[*,go_sem,-h]):Q:=e
theorem dg {Q:Prop}(e:Q:=by simp (maxSteps:=9^9) only[*,go_sem]):Q:=e
theorem MN {Q:Prop}(e:Q:=by simp (maxSteps:=9^9) only[*,go_sem,-h]):Q:=e
theorem ag {Q P:Prop}(h:P)(e:Q=P:=by conv=>lhs;simp only[*,go_sem]):Q:=e▸h
theorem bu {Q P:Prop}(h:P)(e:Q=P:=by conv=>lhs;simp only[*,go_sem,-h]):Q:=e▸h
theorem bt {Q P:Prop}(h:P)(e:Q=P:=by conv=>lhs;simp (maxSteps:=9^9) only[*,go_sem]):Q:=e▸h
theorem MO {Q P:Prop}(h:P)(e:Q=P:=by conv=>lhs;simp (maxSteps:=9^9) only[*,go_sem,-h]):Q:=e▸h
theorem MP {Q P:Prop}(h:P)(e:Q=P:=by conv=>lhs;simp only[*,go_sem,-hM,-hJ]):Q:=e▸h
theorem gq {Q P:Prop}(h:P)(e:Q=P:=by conv=>lhs;simp only[*,go_sem,-hK,-hM,-hJ]):Q:=e▸h
end Go
end
section
namespace Go.Sep
open Go Go.Conc
theorem bN {α:Type}:(∀l:List α,l++[]=l)/\(∀(a:α) l m,(a::l)++m=a::(l++m))/\(∀l:List α,[]++l=l)/\(∀l m n:List α,l++m++n=l++(m++n)):=⟨List.append_nil,fun _ _ _=>rfl,fun _=>rfl,List.append_assoc⟩
structure af where
 ro:Addr->Option Value
 own:List (Nat×Obj)
def keys (l:List (Nat×Obj)):List Nat:=l.map (·.1)
def cellOf:Obj->Nat->Option Value
 | .cells c _ _,off=>c[off]?
 |_,_=>none
def lk:List (Nat×Obj)->Nat->Option Obj
 |[],_=>none
 |(c,o)::l,b=>if c=b then some o else lk l b
def fK:List (Nat×Obj)->Nat->Obj->List (Nat×Obj)
 |[],_,_=>[]
 |(c,o)::l,b,x=>if c=b then (c,x)::l else (c,o)::fK l b x
theorem iI:∀{l:List (Nat×Obj)} {b:Nat} {o:Obj},lk l b=some o->(b,o)∈l
 |[],_,_,h=>by cases h
 |(c,x)::l,b,o,h=>by
  unfold lk at h
  split at h
  .rename_i e;cases h;exact e▸List.mem_cons_self
  .exact List.mem_cons_of_mem _ (iI h)
theorem rF:∀(l:List (Nat×Obj)) (b:Nat) (x:Obj),keys (fK l b x)=keys l
 |[],_,_=>rfl
 |(c,o)::l,b,x=>by
  unfold fK
  split
  .rfl
  .simp only[keys,List.map_cons];exact congrArg _ (rF l b x)
theorem yY:∀{l:List (Nat×Obj)} {b:Nat} {x:Obj},(keys l).Nodup->∀{c:Nat} {y:Obj},(c,y)∈fK l b x->(c=b/\y=x)\/(c≠b/\(c,y)∈l)
 |[],_,_,_,_,_,h=>by cases h
 |(d,o)::l,b,x,hn,c,y,h=>by
  simp only[keys,List.map_cons,List.nodup_cons] at hn
  unfold fK at h
  split at h
  .rename_i e
   rcases List.mem_cons.1 h with h|h
   .cases h;exact .inl ⟨e,rfl⟩
   .refine .inr ⟨fun a=>hn.1 ?_,List.mem_cons_of_mem _ h⟩
    rw[e,<-a]
    exact List.mem_map.2 ⟨_,h,rfl⟩
  .rename_i e
   rcases List.mem_cons.1 h with h|h
   .cases h;exact .inr ⟨e,List.mem_cons_self⟩
   .exact (yY hn.2 h).imp id (fun z=>⟨z.1,List.mem_cons_of_mem _ z.2⟩)
def af.get (F:af)(a:Addr):Option Value:=
 match F.ro a with
 |some v=>some v
 |none=>if a.spot=none then (lk F.own a.block).bind (cellOf · a.off) else none
structure Has (F:af)(w:World):Prop where
 ro:∀a v,F.ro a=some v->w.cell? a=some v
 own:∀b o,(b,o)∈F.own->w.heap[b]?=some o
 nodup:(keys F.own).Nodup
 apart:∀a v,F.ro a=some v->a.block∉keys F.own
theorem Has.reads {F:af}{w:World}(h:Has F w){a:Addr}{v:Value}(r:F.get a=some v):w.cell? a=some v:=by
 unfold af.get at r;split at r
 .rename_i x c;cases r;exact h.ro _ _ c
 .split at r
  .rename_i hs;obtain ⟨o,ho,b⟩:=Option.bind_eq_some_iff.1 r;have:=h.own _ _ (iI ho);cases o<;>simp[cellOf] at b;simp[World.cell?,this,hs,b]
  .cases r
theorem yZ {F:af}{a:Addr}{v:Value}(r:F.get a=some v):a.block∈keys F.own\/(F.ro a).isSome=true:=by
 unfold af.get at r;split at r
 .rename_i x b;exact .inr (by simp[b])
 .split at r
  .obtain ⟨o,ho,_⟩:=Option.bind_eq_some_iff.1 r;exact .inl (List.mem_map.2 ⟨_,iI ho,rfl⟩)
  .cases r
structure dO (F F':af)(w w':World):Prop where
 os:w'.os=w.os
 tape:w'.tape=w.tape
 output:w'.output=w.output
 size:w.heap.size<=w'.heap.size
 frame:∀b,b<w.heap.size->b∉keys F.own->w'.heap[b]?=w.heap[b]?
 ro:∀a,(F'.ro a).isSome=true->(F.ro a).isSome=true\/a.block∈keys F.own\/w.heap.size<=a.block
 own:∀b,b∈keys F'.own->b∈keys F.own\/w.heap.size<=b
theorem dO.refl (F:af)(w:World):dO F F w w:=⟨rfl,rfl,rfl,Nat.le_refl _,fun _ _ _=>rfl,fun _ h=>.inl h,fun _ h=>.inl h⟩
theorem dO.trans {F G H:af}{u v w:World}(h:dO F G u v)(k:dO G H v w):dO F H u w where
 os:=k.os.trans h.os
 tape:=k.tape.trans h.tape
 output:=k.output.trans h.output
 size:=Nat.le_trans h.size k.size
 frame b hb hn:=by
  rw[k.frame b (Nat.lt_of_lt_of_le hb h.size) (fun c=>(h.own b c).elim hn (fun d=>absurd hb aa))]
  exact h.frame b hb hn
 ro a x:=by
  rcases k.ro a x with y|y|y
  .exact h.ro a y
  .exact .inr (h.own _ y)
  .exact .inr (.inr (Nat.le_trans h.size y))
 own b hb:=by
  rcases k.own b hb with x|x
  .exact h.own b x
  .exact .inr (Nat.le_trans h.size x)
def pQ:Mark->Bool
 | .extern _| .noRoom=>true
 |_=>false
def gN (ro:Addr->Option Value)(ks:Nat->Prop)(e:Event):Prop:=
 (∃a wr,e=⟨.cell a,wr,false⟩/\(ks a.block\/(wr=false/\(ro a).isSome=true)))\/
 (∃r wr,e=⟨.obj r,wr,false⟩/\ks r)\/
 (∃m,e=⟨.mark m,false,true⟩/\pQ m=true)
theorem gN.mono {ro aF:Addr->Option Value}{ks c:Nat->Prop}{e:Event}(h:gN ro ks e)(f:∀a,(ro a).isSome=true->(aF a).isSome=true)(d:∀b,ks b->c b):gN aF c e:=by
 rcases h with ⟨a,wr,rfl,h⟩|⟨r,wr,rfl,h⟩|⟨m,rfl,hm⟩
 .exact .inl ⟨a,wr,rfl,h.imp (d _) (fun ⟨x,y⟩=>⟨x,f _ y⟩)⟩
 .exact .inr (.inl ⟨r,wr,rfl,d _ h⟩)
 .exact .inr (.inr ⟨m,rfl,hm⟩)
def gr (F:af)(n m:Nat)(b:Nat):Prop:=b∈keys F.own\/(n<=b/\b<m)
theorem fA {l:List (Nat×Obj)}{b:Nat}{o:Obj}(h:(b,o)∈l):b∈keys l:=List.mem_map.2 ⟨_,h,rfl⟩
theorem Has.lt {F:af}{w:World}(h:Has F w){b:Nat}(hb:b∈keys F.own):b<w.heap.size:=by
 obtain ⟨⟨c,o⟩,hm,rfl⟩:=List.mem_map.1 hb;have:=h.own c o hm;rcases Nat.lt_or_ge c w.heap.size with x|x
 .exact x
 .simp[Array.getElem?_eq_none x] at this
theorem Has.ij {F:af}{w:World}(h:Has F w){a:Addr}(b:(F.ro a).isSome=true):a.block<w.heap.size:=by
 obtain ⟨v,hv⟩:=Option.isSome_iff_exists.1 b;have:=h.ro a v hv;unfold World.cell? at this;rcases Nat.lt_or_ge a.block w.heap.size with x|x
 .exact x
 .simp[Array.getElem?_eq_none x] at this
def af.push (F:af)(b:Nat)(o:Obj):af:={F with own:=(b,o)::F.own}
def af.put (F:af)(b:Nat)(o:Obj):af:={F with own:=fK F.own b o}
def shapeOf:Obj->Option (TypeId×Nat)
 | .cells c elem _=>some (elem,c.size)
 |_=>none
def frozenAt:Obj->Nat->Bool
 | .cells _ _ (lo,hi),off=>lo<=off&&off<hi
 |_,_=>false
def Obj.pR:Obj->Bool
 | .cells ..=>true
 |_=>false
def dP:Value->Bool
 | .agg _| .tuple _=>false
 |_=>true
def af.lK (F:af)(a:Addr)(v:Value):Option af:=
 match lk F.own a.block with
 |some (.cells c t fr)=>if dP v=true/\a.spot=none/\a.off<c.size/\frozenAt (.cells c t fr) a.off=false then some (F.put a.block (.cells (c.setIfInBounds a.off v) t fr)) else none
 |_=>none
def af.dm (F:af)(r:Nat):Option Obj:=
 match lk F.own r with
 |some o=>if Obj.pR o=false/\o.isChan=false then some o else none
 |none=>none
def aN:List (Nat×Obj)->Nat->Prop
 |[],_=>True
 |(c,_)::l,b=>¬b=c/\aN l b
theorem y2:∀{l:List (Nat×Obj)} {b:Nat},(∀x∈keys l,¬b=x)->aN l b
 |[],_,_=>trivial
 |(c,_)::l,b,h=>⟨h c (by simp[keys]),y2 fun x a=>h x (by simp only[keys,List.map_cons,List.mem_cons];exact .inr a)⟩
structure er (F:af)(b:Nat):Prop where
 ro:∀off sp,F.ro ⟨b,off,sp⟩=none
 own:aN F.own b
def bw {α:Type}(P:Program):Sem α->(α->af->Prop)->af->Prop
 | .pure a,Q,F=>Q a F
 | .load m a k,Q,F=>m= .plain/\∃v,F.get a=some v/\bw P (k v) Q F
 | .store m a v k,Q,F=>m= .plain/\∃F',F.lK a v=some F'/\bw P k Q F'
 | .new o k,Q,F=>o.isChan=false/\∀b,er F b->bw P (k b) Q (F.push b o)
 | .shape r k,Q,F=>match lk F.own r with
  |some o=>bw P (k (shapeOf o)) Q F
  |none=>∀s,bw P (k s) Q F
 | .freeze _ _ _,_,_=>False
 | .frozen a k,Q,F=>match lk F.own a.block with
  |some o=>bw P (k (frozenAt o a.off)) Q F
  |none=>∀s,bw P (k s) Q F
 | .getObj r k,Q,F=>∃o,F.dm r=some o/\bw P (k o) Q F
 | .setObj r o k,Q,F=>o.isChan=false/\(F.dm r).isSome=true/\bw P k Q (F.put r o)
 | .choose q k,Q,F=>if q.forced then bw P (k 0) Q F else ∀t,bw P (k (q.cut t)) Q F
 | .sys _ _,_,_=>False
 | .program k,Q,F=>bw P (k P) Q F
 | .mark m k,Q,F=>pQ m=true/\bw P k Q F
 | .halt _,_,_=>False
theorem gO {α:Type}{P:Program}{Q f:α->af->Prop}(h:∀a F,Q a F->f a F):∀(s:Sem α) (F:af),bw P s Q F->bw P s f F:=by
 intro s
 induction s with
 |pure a=>exact fun F x=>h _ _ x
 |load m a k ih=>exact fun F ⟨x,v,y,z⟩=>⟨x,v,y,ih _ _ z⟩
 |store m a v k ih=>exact fun F ⟨x,F',y,z⟩=>⟨x,F',y,ih _ z⟩
 |new o k ih=>exact fun F x=>⟨x.1,fun b hb=>ih _ _ (x.2 b hb)⟩
 |shape r k ih=>intro F x;unfold bw at x ⊢;split<;>rename_i d<;>rw[d] at x;exact ih _ _ x;exact fun s=>ih _ _ (x s)
 |freeze a n k ih=>exact fun F x=>x
 |frozen a k ih=>intro F x;unfold bw at x ⊢;split<;>rename_i d<;>rw[d] at x;exact ih _ _ x;exact fun s=>ih _ _ (x s)
 |getObj r k ih=>exact fun F ⟨o,x,z⟩=>⟨o,x,ih _ _ z⟩
 |setObj r o k ih=>exact fun F ⟨x,y,z⟩=>⟨x,y,ih _ z⟩
 |choose q k ih=>
  intro F x;unfold bw at x ⊢;split
  .rename_i e;rw[if_pos e] at x;exact ih _ _ x
  .rename_i e;rw[if_neg e] at x;exact fun t=>ih _ _ (x t)
 |sys c k ih=>exact fun F x=>x
 |program k ih=>exact fun F x=>ih _ _ x
 |mark m k ih=>exact fun F ⟨x,y⟩=>⟨x,ih _ y⟩
 |halt h=>exact fun F x=>x
theorem y3 {α β:Type}{P:Program}{Q:β->af->Prop}{f:α->Sem β}:∀(s:Sem α) (F:af),bw P (s.bind f) Q F↔bw P s (fun a G=>bw P (f a) Q G) F:=by
 intro s
 induction s with
 |pure a=>exact fun F=>Iff.rfl
 |load m a k ih=>intro F;simp only[Sem.bind,bw,ih]
 |store m a v k ih=>intro F;simp only[Sem.bind,bw,ih]
 |new o k ih=>intro F;simp only[Sem.bind,bw,ih]
 |shape r k ih=>intro F;simp only[Sem.bind,bw,ih]
 |freeze a n k ih=>intro F;simp only[Sem.bind,bw]
 |frozen a k ih=>intro F;simp only[Sem.bind,bw,ih]
 |getObj r k ih=>intro F;simp only[Sem.bind,bw,ih]
 |setObj r o k ih=>intro F;simp only[Sem.bind,bw,ih]
 |choose q k ih=>intro F;simp only[Sem.bind,bw,ih]
 |sys c k ih=>intro F;simp only[Sem.bind,bw]
 |program k ih=>intro F;simp only[Sem.bind,bw,ih]
 |mark m k ih=>intro F;simp only[Sem.bind,bw,ih]
 |halt h=>intro F;simp only[Sem.bind,bw]
theorem Has.push {F:af}{w:World}(h:Has F w)(o:Obj):Has (F.push w.heap.size o) {w with heap:=w.heap.push o}:=by
 have f:∀b o,(b,o)∈F.own->b<w.heap.size:=fun b o hb=>by
  have:=h.own b o hb;rcases Nat.lt_or_ge b w.heap.size with x|x
  .exact x
  .simp[Array.getElem?_eq_none x] at this
 have i:w.heap.size∉keys F.own:=fun hm=>by
  obtain ⟨⟨b,x⟩,j,e⟩:=List.mem_map.1 hm;have:=f b x j;simp at e;omega
 refine ⟨fun a v d=>?_,fun b x hb=>?_,?_,fun a v d hm=>?_⟩
 .have:=h.ro a v d;unfold World.cell? at this ⊢;split at this
  .rename_i c t fr g;have k:a.block<w.heap.size:=by
    rcases Nat.lt_or_ge a.block w.heap.size with x|x
    .exact x
    .simp[Array.getElem?_eq_none x] at g
   rw[show (w.heap.push o)[a.block]?=w.heap[a.block]? from by rw[Array.getElem?_push,if_neg aa],g];exact this
  .cases this
 .simp only[af.push,List.mem_cons] at hb;rcases hb with hb|hb
  .cases hb;simp
  .have:=f b x hb;show (w.heap.push o)[b]?=some x;rw[Array.getElem?_push,if_neg aa];exact h.own b x hb
 .simp only[af.push,keys,List.map_cons,List.nodup_cons];exact ⟨i,h.nodup⟩
 .simp only[af.push,keys,List.map_cons,List.mem_cons] at hm;rcases hm with hm|hm
  .have:=h.ro a v d;unfold World.cell? at this;rw[hm] at this;simp at this
  .exact h.apart a v d hm
theorem Has.fresh {F:af}{w:World}(h:Has F w):er F w.heap.size:=by
 refine ⟨fun off sp=>?_,y2 fun x b e=>?_⟩
 .cases c:F.ro ⟨w.heap.size,off,sp⟩ with
  |none=>rfl
  |some v=>have:=h.ij (a:=⟨w.heap.size,off,sp⟩) (by simp[c]);simp at this
 .have:=h.lt b;omega
theorem Has.set {F:af}{w w':World}(h:Has F w){b:Nat}{o:Obj}(hm:b∈keys F.own)(hb:w'.heap[b]?=some o)(f:∀c,c≠b->w'.heap[c]?=w.heap[c]?):Has (F.put b o) w':=by
 refine ⟨fun a v d=>?_,fun c y g=>?_,?_,fun a v d=>?_⟩
 .have hn:a.block≠b:=fun e=>h.apart a v d (e▸hm);have:=h.ro a v d;unfold World.cell? at this ⊢;rw[f _ hn];exact this
 .rcases yY h.nodup g with ⟨rfl,rfl⟩|⟨hn,hm⟩
  .exact hb
  .rw[f _ hn];exact h.own _ _ hm
 .simp only[af.put,rF];exact h.nodup
 .simp only[af.put,rF];exact h.apart a v d
theorem dO.put {F:af}{w w':World}{b:Nat}{o:Obj}(hm:b∈keys F.own)(a:w'.os=w.os)(ht:w'.tape=w.tape)(ho:w'.output=w.output)(hs:w'.heap.size=w.heap.size)(d:∀c,c≠b->w'.heap[c]?=w.heap[c]?):dO F (F.put b o) w w' where
 os:=a
 tape:=ht
 output:=ho
 size:=aa
 frame c _ hn:=d c (fun e=>hn (e▸hm))
 ro _ h:=.inl h
 own c f:=.inl (by simpa [af.put,rF] using f)
theorem dO.push {F:af}{w:World}(o:Obj):dO F (F.push w.heap.size o) w {w with heap:=w.heap.push o} where
 os:=rfl
 tape:=rfl
 output:=rfl
 size:=an
 frame b hb _:=by show (w.heap.push o)[b]?=_;rw[Array.getElem?_push,if_neg aa]
 ro _ h:=.inl h
 own c a:=by
  simp only[af.push,keys,List.map_cons,List.mem_cons] at a
  rcases a with rfl|a
  .exact .inr (Nat.le_refl _)
  .exact .inl a
structure lM {α:Type}(P:Program)(s:Sem α)(Q:α->af->Prop)(F:af)(w:World)(c7:Array Event)(a:α)(w':World)(F':af)(es:Array Event):Prop where
 run:s.runT P w c7=(.ok a w',c7++es)
 upd:dO F F' w w'
 has:Has F' w'
 iJ:∀e∈es,gN F.ro (gr F w.heap.size w'.heap.size) e
 post:Q a F'
theorem lM.cons {α:Type}{P:Program}{s s':Sem α}{Q:α->af->Prop}{F F1 F':af}{w w1 w':World}{c7 es:Array Event}{e:Event}{a:α}
  (h:lM P s' Q F1 w1 (c7.push e) a w' F' es) (f:s.runT P w c7=s'.runT P w1 (c7.push e)) (hu:dO F F1 w w1) (hb:Has F1 w1) (he:gN F.ro (· ∈keys F.own) e) (g:F1.ro=F.ro):lM P s Q F w c7 a w' F' (#[e]++es) where
 run:=by rw[f,h.run];simp
 upd:=hu.trans h.upd
 has:=h.has
 iJ x c:=by
  simp only[Array.mem_append,List.mem_toArray,List.mem_singleton] at c
  rcases c with rfl|c
  .exact he.mono (fun _ h=>h) (fun _ h=>.inl h)
  .exact (h.iJ x c).mono (fun a i=>by rw[<-g];exact i) (fun b d=>by
    rcases d with d|⟨j,k⟩
    .exact (hu.own b d).imp id (fun y=>⟨y,Nat.lt_of_lt_of_le (hb.lt d) h.upd.size⟩)
    .exact .inr ⟨Nat.le_trans hu.size j,k⟩)
 post:=h.post
theorem lM.skip {α:Type}{P:Program}{s s':Sem α}{Q:α->af->Prop}{F F1 F':af}{w w1 w':World}{c7 es:Array Event}{a:α}
  (h:lM P s' Q F1 w1 c7 a w' F' es) (d:s.runT P w c7=s'.runT P w1 c7) (hu:dO F F1 w w1) (hb:Has F1 w1) (e:F1.ro=F.ro):lM P s Q F w c7 a w' F' es where
 run:=by rw[d,h.run]
 upd:=hu.trans h.upd
 has:=h.has
 iJ x f:=(h.iJ x f).mono (fun a g=>by rw[<-e];exact g) (fun b c=>by
    rcases c with c|⟨i,j⟩
    .exact (hu.own b c).imp id (fun y=>⟨y,Nat.lt_of_lt_of_le (hb.lt c) h.upd.size⟩)
    .exact .inr ⟨Nat.le_trans hu.size i,j⟩)
 post:=h.post
theorem Has.drawn {F:af}{w:World}(h:Has F w)(n:Nat):Has F {w with drawn:=n}:=⟨h.ro,h.own,h.nodup,h.apart⟩
theorem dO.drawn (F:af)(w:World)(n:Nat):dO F F w {w with drawn:=n}:=⟨rfl,rfl,rfl,Nat.le_refl _,fun _ _ _=>rfl,fun _ h=>.inl h,fun _ h=>.inl h⟩
theorem kH {α:Type}{P:Program}{Q:α->af->Prop}:∀(s:Sem α) (F:af) (w:World) (c7:Array Event),bw P s Q F->Has F w->
  ∃a w' F' es,lM P s Q F w c7 a w' F' es:=by
 intro s
 induction s with
 |pure a=>exact fun F w c7 h hw=>⟨a,w,F,#[],by simp[Sem.runT],.refl _ _,hw,an,h⟩
 |load m a k ih=>
  rintro F w c7 ⟨rfl,v,C,h⟩ hw
  obtain ⟨x,w',F',es,H⟩:=ih v F w (c7.push ⟨.cell a,false,false⟩) h hw
  refine ⟨x,w',F',_,H.cons ?_ (.refl _ _) hw (.inl ⟨a,false,rfl,(yZ C).imp id fun y=>⟨rfl,y⟩⟩) rfl⟩
  have:=hw.reads C
  simp only[Sem.runT,this]
  rfl
 |store m a v k ih=>
  rintro F w c7 ⟨rfl,F1,j,h⟩ hw
  unfold af.lK at j
  split at j
  case h_2=>cases j
  rename_i c t fr l
  split at j
  case isFalse=>cases j
  rename_i i
  obtain ⟨hv,D,E,G⟩:=i
  cases j
  have d:=iI l
  have hb:=hw.own _ _ d
  have z:(w.setCell a v).heap[a.block]?=some (.cells (c.setIfInBounds a.off v) t fr):=by
   simp[World.setCell,Array.getElem?_modify,hb,D]
  have f:∀b,b≠a.block->(w.setCell a v).heap[b]?=w.heap[b]?:=by
   intro b f
   simp only[World.setCell]
   rw[Array.getElem?_modify,if_neg (fun e=>f e.symm)]
  have p:=hw.set (o:=.cells (c.setIfInBounds a.off v) t fr) (fA d) z f
  obtain ⟨x,w',F',es,H⟩:=ih _ (w.setCell a v) (c7.push ⟨.cell a,true,false⟩) h p
  refine ⟨x,w',F',_,H.cons ?_ (dO.put (fA d) rfl rfl rfl (by simp[World.setCell]) f) p (.inl ⟨a,true,rfl,.inl (fA d)⟩) rfl⟩
  have i:w.cell? a=some c[a.off]:=by simp[World.cell?,hb,D,E]
  have I:w.frozen? a=false:=by
   have:w.frozen? a=frozenAt (.cells c t fr) a.off:=by
    obtain ⟨lo,hi⟩:=fr
    simp[World.frozen?,hb,frozenAt]
   rw[this,G]
  cases v<;>simp[dP] at hv<;>simp only[Sem.runT,i,I]<;>rfl
 |new o k ih=>
  intro F w c7 h hw
  obtain ⟨x,w',F',es,H⟩:=ih w.heap.size (F.push w.heap.size o) {w with heap:=w.heap.push o} c7 (h.2 _ hw.fresh) (hw.push o)
  exact ⟨x,w',F',es,H.skip (by simp only[Sem.runT]) (dO.push o) (hw.push o) rfl⟩
 |shape r k ih=>
  intro F w c7 h hw
  have:bw P (k (w.shape? r)) Q F:=by
   unfold bw at h
   split at h
   .rename_i o ho
    have e:w.shape? r=shapeOf o:=by
     have:=hw.own _ _ (iI ho)
     cases o<;>simp[World.shape?,this,shapeOf]
    rw[e];exact h
   .exact h _
  obtain ⟨x,w',F',es,H⟩:=ih _ F w c7 this hw
  exact ⟨x,w',F',es,H.skip (by simp only[Sem.runT]) (.refl _ _) hw rfl⟩
 |freeze a n k ih=>exact fun F w c7 h hw=>h.elim
 |frozen a k ih=>
  intro F w c7 h hw
  have:bw P (k (w.frozen? a)) Q F:=by
   unfold bw at h
   split at h
   .rename_i o ho
    have e:w.frozen? a=frozenAt o a.off:=by
     have:=hw.own _ _ (iI ho)
     cases o<;>simp[World.frozen?,this,frozenAt]
    rw[e];exact h
   .exact h _
  obtain ⟨x,w',F',es,H⟩:=ih _ F w c7 this hw
  exact ⟨x,w',F',es,H.skip (by simp only[Sem.runT]) (.refl _ _) hw rfl⟩
 |getObj r k ih=>
  rintro F w c7 ⟨o,ho,h⟩ hw
  unfold af.dm at ho
  split at ho
  case h_2=>cases ho
  rename_i o' l
  split at ho
  case isFalse=>cases ho
  rename_i A
  cases ho
  obtain ⟨x,w',F',es,H⟩:=ih _ F w (c7.push ⟨.obj r,false,false⟩) h hw
  refine ⟨x,w',F',_,H.cons ?_ (.refl _ _) hw (.inr (.inl ⟨r,false,rfl,fA (iI l)⟩)) rfl⟩
  have:=hw.own _ _ (iI l)
  obtain ⟨i,B⟩:=A
  cases o<;>simp[Obj.pR] at i<;>simp only[Sem.runT,this,B]<;>rfl
 |setObj r o k ih=>
  rintro F w c7 ⟨B,g,h⟩ hw
  obtain ⟨x,g⟩:=Option.isSome_iff_exists.1 g
  unfold af.dm at g
  split at g
  case h_2=>cases g
  rename_i x' l
  split at g
  case isFalse=>cases g
  rename_i A
  cases g
  have d:=iI l
  have hb:=hw.own _ _ d
  have J:r<w.heap.size:=hw.lt (fA d)
  have z:({w with heap:=w.heap.setIfInBounds r o}:World).heap[r]?=some o:=by simp[J]
  have f:∀b,b≠r->({w with heap:=w.heap.setIfInBounds r o}:World).heap[b]?=w.heap[b]?:=fun b f=>by
   simp[Array.getElem?_setIfInBounds,Ne.symm f]
  have p:=hw.set (w':={w with heap:=w.heap.setIfInBounds r o}) (o:=o) (fA d) z f
  obtain ⟨y,w',F',es,H⟩:=ih (F.put r o) {w with heap:=w.heap.setIfInBounds r o} (c7.push ⟨.obj r,true,false⟩) h p
  refine ⟨y,w',F',_,H.cons ?_ (dO.put (fA d) rfl rfl rfl an f) p (.inr (.inl ⟨r,true,rfl,fA d⟩)) rfl⟩
  obtain ⟨i,_⟩:=A
  cases x<;>simp[Obj.pR] at i<;>simp only[Sem.runT,hb,B]
 |choose q k ih=>
  intro F w c7 h hw
  unfold bw at h
  by_cases u:q.forced=true
  .rw[if_pos u] at h
   obtain ⟨x,w',F',es,H⟩:=ih _ F w c7 h hw
   exact ⟨x,w',F',es,H.skip (by simp only[Sem.runT,u,if_true]) (.refl _ _) hw rfl⟩
  .rw[if_neg u] at h
   obtain ⟨x,w',F',es,H⟩:=ih (q.cut (w.tape w.drawn q)) F {w with drawn:=w.drawn+1} c7 (h _) (hw.drawn _)
   exact ⟨x,w',F',es,H.skip (by simp only[Sem.runT,if_neg u]) (.drawn _ _ _) (hw.drawn _) rfl⟩
 |sys c k ih=>exact fun F w c7 h hw=>h.elim
 |program k ih=>
  intro F w c7 h hw
  obtain ⟨x,w',F',es,H⟩:=ih P F w c7 h hw
  exact ⟨x,w',F',es,H.skip (by simp only[Sem.runT]) (.refl _ _) hw rfl⟩
 |mark m k ih=>
  rintro F w c7 ⟨hm,h⟩ hw
  obtain ⟨x,w',F',es,H⟩:=ih F w (c7.push ⟨.mark m,false,true⟩) h hw
  exact ⟨x,w',F',_,H.cons (by simp only[Sem.runT]) (.refl _ _) hw (.inr (.inr ⟨m,rfl,hm⟩)) rfl⟩
 |halt h=>exact fun F w c7 h hw=>h.elim
def on (b:Frame)(a:Act)(todo:List Item):Frame:={b with tmps:=a.tmps,todo:=todo,defers:=a.defers,mode:=.run}
structure Le (F F':af):Prop where
 has:∀w,Has F' w->Has F w
 own:∀b,b∈keys F.own->b∈keys F'.own
 ro:∀a,(F.ro a).isSome=true->(F'.ro a).isSome=true\/a.block∈keys F'.own
theorem Le.refl (F:af):Le F F:=⟨fun _ h=>h,fun _ h=>h,fun _ h=>.inl h⟩
theorem Le.trans {F G H:af}(h:Le F G)(k:Le G H):Le F H:=
 ⟨fun w x=>h.has w (k.has w x),fun b x=>k.own b (h.own b x),fun a x=>(h.ro a x).elim (k.ro a) (fun y=>.inr (k.own _ y))⟩
def DR (P:Program)(main:Bool)(J:Goroutine->af->Prop)(g:Goroutine)(F:af)(w:World):Prop:=
 ∃g' w' es F',stepG P main g w= .go g' w' es/\dO F F' w w'/\Has F' w'/\(∀e∈es,gN F.ro (gr F w.heap.size w'.heap.size) e)/\J g' F'
structure Closed (P:Program)(main:Bool)(J:Goroutine->af->Prop):Prop where
 mono:∀{g F F'},Le F F'->J g F->J g F'
 step:∀{fr cs F},(∀w,Has F w->DR P main J (G fr cs) F w)->J (G fr cs) F
def dh (P:Program)(J:Goroutine->af->Prop)(f:FuncId)(args:Array Value)(F:af)(R:Value->af->Prop):Prop:=
 ∀(c:Frame) (cs:List Frame),(∀v F',R v F'->J (G (c.finish v) cs) F')->J (G (Frame.enter P f args .normal) (c::cs)) F
def aE (P:Program)(f:FuncId)(args:Array Value)(F:af)(R:Value->af->Prop):Prop:=
 ∀(main:Bool) (J:Goroutine->af->Prop),Closed P main J->dh P J f args F R
section
variable {P:Program}{main:Bool}{J:Goroutine->af->Prop}
theorem dh.mono {f:FuncId}{args:Array Value}{F:af}{R a:Value->af->Prop}(h:dh P J f args F R)(b:∀v F',R v F'->a v F'):dh P J f args F a:=
 fun c cs k=>h c cs fun v F' r=>k v F' (b v F' r)
theorem aE.mono {f:FuncId}{args:Array Value}{F:af}{R a:Value->af->Prop}(h:aE P f args F R)(b:∀v F',R v F'->a v F'):aE P f args F a:=
 fun m J hJ=>(h m J hJ).mono b
theorem Closed.move (hJ:Closed P main J){fr fr':Frame}{cs cs':List Frame}{F:af}(hs:∀w,stepG P main (G fr cs) w= .go (G fr' cs') w #[])(h:J (G fr' cs') F):J (G fr cs) F:=
 hJ.step fun w hw=>⟨_,w,#[],F,hs w,.refl _ _,hw,an,h⟩
variable {b:Frame}{a:Act}{k:List Item}{cs:List Frame}{F:af}
theorem y4 {w:World}:stepG P main (G (on b a (.code .skip::k)) cs) w= .go (G (on b a k) cs) w #[]:=by simp[G,stepG,stepG.exec,on]
theorem DT {l:Nat}{w:World}:stepG P main (G (on b a (.code (.label l)::k)) cs) w= .go (G (on b a k) cs) w #[]:=by simp[G,stepG,stepG.exec,on]
theorem y5 {id:Nat}{w:World}:stepG P main (G (on b a (.inBlock id::k)) cs) w= .go (G (on b a k) cs) w #[]:=by simp[G,stepG,stepG.exec,on]
theorem DU {c:Code}{w:World}:stepG P main (G (on b a (.inScope c::k)) cs) w= .go (G (on b a k) cs) w #[]:=by simp[G,stepG,stepG.exec,on]
theorem y6 {x y:Code}{w:World}:stepG P main (G (on b a (.code (.seq x y)::k)) cs) w= .go (G (on b a (.code x:: .code y::k)) cs) w #[]:=by simp[G,stepG,stepG.exec,on]
theorem uy (b:Frame)(a:Act)(todo:List Item)(x:Operand):(on b a todo).eval x=a.eval x:=by cases x<;>rfl
theorem y7 {c:Operand}{x y:Code}{t:Bool}{w:World}(h:a.eval c= .bool t):stepG P main (G (on b a (.code (.cond c x y)::k)) cs) w= .go (G (on b a (.code (if t then x else y)::k)) cs) w #[]:=by
 have h':(on b a (.code (.cond c x y)::k)).eval c= .bool t:=by rw[uy];exact h
 simp only[on] at h';simp[G,stepG,stepG.exec,on,h']
theorem y8 {id:Nat}{c:Code}{w:World}:stepG P main (G (on b a (.code (.block id c)::k)) cs) w= .go (G (on b a (.code c:: .inBlock id::k)) cs) w #[]:=by simp[G,stepG,stepG.exec,on]
theorem y9 {c:Code}{w:World}:stepG P main (G (on b a (.code (.loop c)::k)) cs) w= .go (G (on b a (.code c:: .inLoop c::k)) cs) w #[]:=by simp[G,stepG,stepG.exec,on]
theorem za {c:Code}{w:World}:stepG P main (G (on b a (.inLoop c::k)) cs) w= .go (G (on b a (.code c:: .inLoop c::k)) cs) w #[]:=by simp[G,stepG,stepG.exec,on]
theorem DV {c:Code}{w:World}:stepG P main (G (on b a (.code (.scope c)::k)) cs) w= .go (G (on b a (.code c:: .inScope c::k)) cs) w #[]:=by simp[G,stepG,stepG.exec,on]
theorem zb {id:Nat}{c:List Item}{w:World}(h:exitTo id k=some c):stepG P main (G (on b a (.code (.exit id)::k)) cs) w= .go (G (on b a c) cs) w #[]:=by simp[G,stepG,stepG.exec,on,h]
theorem ze {id:Nat}{ops:Array Oper}{w:World}:stepG P main (G (on b a (.code (.region id ops false)::k)) cs) w= .go (G (on b a (.inRegion ops (List.range ops.size)::k)) cs) w #[]:=by simp[G,stepG,stepG.exec,on]
theorem uz {id:Nat}{ops:Array Oper}{w:World}:stepG P main (G (on b a (.code (.region id ops true)::k)) cs) w=
  .go (G (on b a (.inRegion ops (Region.schedule (P.follows .mixedOrders) ops (w.tape w.drawn (.order b.fn id)))::k)) cs) {w with drawn:=w.drawn+1} #[]:=by
 simp[G,stepG,stepG.exec,on,choose,Sem.run,Question.forced,Question.cut]
theorem zf {ops:Array Oper}{w:World}:stepG P main (G (on b a (.inRegion ops []::k)) cs) w= .go (G (on b a k) cs) w #[]:=by simp[G,stepG,stepG.exec,on]
theorem stepG_ret' {w:World}(c:b.roundOf=none):stepG P main (G (on b a (.code .ret::k)) cs) w= .go (G {on b a (.code .ret::k) with mode:=.returning} cs) w #[]:=by simp[G,stepG,stepG.exec,on,c]
theorem kI {w:World}(c:b.roundOf=none):stepG P main (G (on b a []) cs) w= .go (G {on b a [] with mode:=.returning} cs) w #[]:=by simp[G,stepG,stepG.exec,on,c]
theorem uA (b:Frame)(a:Act)(ops:Array Oper)(i:Nat)(rest:List Nat)(k:List Item)(v:Value):
  (on b a (.inRegion ops (i::rest)::k)).finish v=on b (a.put ((ops[i]?).bind (·.dst)) v) (.inRegion ops rest::k):=by
 cases h:(ops[i]?).bind (·.dst)<;>simp[Frame.finish,on,Act.put,h]
theorem uB {ops:Array Oper}{i:Nat}{rest:List Nat}{w:World}(h:((ops[i]?).map (Region.wanted · (yielded ops a.tmps))).getD false=false):
  stepG P main (G (on b a (.inRegion ops (i::rest)::k)) cs) w= .go (G (on b (a.put ((ops[i]?).bind (·.dst)) undef) (.inRegion ops rest::k)) cs) w #[]:=by
 rw[<-uA]
 have h':=h
 simp only[on] at*
 simp[G,stepG,stepG.exec,h']
theorem DW {ops:Array Oper}{i:Nat}{rest:List Nat}{o:Oper}{w:World}(d:b.roundOf=none\/∀c,o.op≠ .defer c)(ho:ops[i]?=some o)(hw:Region.wanted o (yielded ops a.tmps)=true):
  stepG P main (G (on b a (.inRegion ops (i::rest)::k)) cs) w=stepG.apply P true (on b a (.inRegion ops (i::rest)::k)) cs none (execOp a.eval o) w:=by
 have he:(on b a (.inRegion ops (i::rest)::k)).eval=a.eval:=funext (uy b a _)
 simp only[on] at he
 rcases d with d|d
 .rw[d] at he
  simp[G,stepG,stepG.exec,stepG.oper,Frame.oper?,on,ho,hw,he,d]
 .have:∀l,(match (some l:Option Nat),o.op with
   |some l,.defer c=>stepG.apply P true (on b a (.inRegion ops (i::rest)::k)) cs none (do Instr.deferInRound l (<-resolve (on b a (.inRegion ops (i::rest)::k)).eval c o.type);pure .skip) w
   |_,_=>stepG.apply P true (on b a (.inRegion ops (i::rest)::k)) cs none (execOp a.eval o) w)=stepG.apply P true (on b a (.inRegion ops (i::rest)::k)) cs none (execOp a.eval o) w:=by
   intro l
   cases e:o.op<;>first|rfl|exact absurd e (d _)
  cases hb:b.roundOf with
  |none=>
   rw[hb] at he
   simp[G,stepG,stepG.exec,stepG.oper,Frame.oper?,on,ho,hw,he,hb]
  |some l=>
   have t:=this l
   simp only[on,he] at t
   simp only[hb] at t
   simp[G,stepG,stepG.exec,stepG.oper,Frame.oper?,on,ho,hw,he,hb]
   exact t
def jD (J:Goroutine->af->Prop)(l:Nat)(f:FuncId)(tmps:Array Value)(assign body:Code)(F:af)(R:Value->af->Prop):Prop:=
 ∀(c:Frame) (cs:List Frame),(∀v F',R v F'->J (G (c.finish v) cs) F')->J (G (Frame.round l f tmps assign body .normal) (c::cs)) F
theorem jD.mono {l:Nat}{f:FuncId}{tmps:Array Value}{assign body:Code}{F:af}{R a:Value->af->Prop}(h:jD J l f tmps assign body F R)(b:∀v F',R v F'->a v F'):jD J l f tmps assign body F a:=
 fun c cs k=>h c cs fun v F' r=>k v F' (b v F' r)
def fX (P:Program)(J:Goroutine->af->Prop)(R:Value->af->Prop)(D:Deferred->af->Prop):Next->af->Prop
 | .value v,F=>R v F
 | .skip,F=>R undef F
 | .defer d,F=>D d F
 | .enter f args,F=>dh P J f args F R
 | .round l f tmps assign body,F=>jD J l f tmps assign body F R
 |_,_=>False
theorem zg {R a:Value->af->Prop}{D b:Deferred->af->Prop}(hR:∀v F,R v F->a v F)(c:∀d F,D d F->b d F):∀n F,fX P J R D n F->fX P J a b n F
 | .value v,F,h=>hR _ _ h
 | .skip,F,h=>hR _ _ h
 | .defer d,F,h=>c _ _ h
 | .enter f args,F,h=>dh.mono h hR
 | .round l f tmps assign body,F,h=>jD.mono h hR
 | .stack ..,_,h| .callThen ..,_,h| .row ..,_,h| .comm ..,_,h| .spawn ..,_,h| .recover,_,h| .numGoroutine,_,h| .collect,_,h| .watch ..,_,h| .newcoro ..,_,h| .coroswitch ..,_,h| .sleep ..,_,h| .timer ..,_,h| .alone ..,_,h=>h.elim
def kJ (P:Program)(J:Goroutine->af->Prop)(R:Value->af->Prop)(D:Deferred->af->Prop)(n:Next)(F:af):Prop:=fX P J (fun v F=>∃F0,Le F0 F/\R v F0) D n F
theorem DX {R:Value->af->Prop}{D:Deferred->af->Prop}:∀n F,fX P J R D n F->kJ P J R D n F:=zg (fun _ F h=>⟨F,Le.refl F,h⟩) (fun _ _ h=>h)
theorem nk {R a:Value->af->Prop}{D b:Deferred->af->Prop}(hR:∀v F,R v F->a v F)(c:∀d F,D d F->b d F):∀n F,kJ P J R D n F->kJ P J a b n F:=
 zg (fun _ _ ⟨F0,hle,h⟩=>⟨F0,hle,hR _ _ h⟩) c
def zh (P:Program)(J:Goroutine->af->Prop)(o:Oper)(K:Act->af->Prop)(a:Act)(F:af):Prop:=
 bw P (execOp a.eval o) (kJ P J (fun v F'=>K (a.put o.dst v) F') (fun d F'=>K ({a with defers:=d::a.defers}.put o.dst undef) F')) F
def ee (P:Program)(J:Goroutine->af->Prop)(ops:Array Oper)(i:Nat)(K:Act->af->Prop)(a:Act)(F:af):Prop:=
 match ops[i]? with
 |none=>K a F
 |some o=>if Region.wanted o (yielded ops a.tmps) then zh P J o K a F else K (a.put o.dst undef) F
def fB (P:Program)(J:Goroutine->af->Prop)(ops:Array Oper)(K:Act->af->Prop):List Nat->Act->af->Prop
 |[],a,F=>K a F
 |i::rest,a,F=>ee P J ops i (fB P J ops K rest) a F
structure uC (ops:Array Oper)(b:Frame):Prop where
 kind:b.kind≠ .early
 round:b.roundOf=none\/∀o∈ops,∀c,o.op≠ .defer c
theorem uD (hJ:Closed P main J){ops:Array Oper}{i:Nat}{rest:List Nat}{K:Act->af->Prop}(hb:uC ops b)(h:ee P J ops i K a F)
  (hK:∀q F',K q F'->J (G (on b q (.inRegion ops rest::k)) cs) F'):J (G (on b a (.inRegion ops (i::rest)::k)) cs) F:=by
 unfold ee at h
 cases ho:ops[i]? with
 |none=>
  rw[ho] at h
  refine hJ.move (fun w=>uB (by simp[ho])) ?_
  simp only[ho,Option.bind_none,Act.put]
  exact hK _ _ h
 |some o=>
  rw[ho] at h
  simp only at h
  by_cases hw:Region.wanted o (yielded ops a.tmps)=true
  .rw[if_pos hw] at h
   refine hJ.step fun w hF=>?_
   obtain ⟨n,w',F',es,H⟩:=kH _ F w #[] h hF
   have r:=H.run
   rw[Array.empty_append] at r
   have s:b.roundOf=none\/∀c,o.op≠ .defer c:=hb.round.imp id fun x=>x o (Array.mem_of_getElem? ho)
   have g:=DW (P:=P) (main:=main) (b:=b) (a:=a) (k:=k) (cs:=cs) (w:=w) (rest:=rest) s ho hw
   have t:((on b a (.inRegion ops (i::rest)::k)).kind==CallKind.early)=false:=by simpa [on] using hb.kind
   have p:∀v,(on b a (.inRegion ops (i::rest)::k)).finish v=on b (a.put o.dst v) (.inRegion ops rest::k):=by
    intro v;rw[uA,ho];rfl
   have m:∀e∈seen P (on b a (.inRegion ops (i::rest)::k)).fn es,gN F.ro (gr F w.heap.size w'.heap.size) e:=fun e he=>H.iJ e (mem_seen he)
   have j:=H.post
   unfold stepG.apply at g
   simp only[if_true,r,t,Bool.false_eq_true,if_false] at g
   cases n<;>simp only[kJ,fX] at j
   case value v=>
    simp only[p,GStep.after,Array.append_empty] at g
    obtain ⟨F0,hle,j⟩:=j
    exact ⟨_,w',_,F',g,H.upd,H.has,m,hJ.mono hle (hK _ _ j)⟩
   case skip=>
    simp only[p,GStep.after,Array.append_empty] at g
    obtain ⟨F0,hle,j⟩:=j
    exact ⟨_,w',_,F',g,H.upd,H.has,m,hJ.mono hle (hK _ _ j)⟩
   case defer d=>
    have u:({on b a (.inRegion ops (i::rest)::k) with defers:=d::(on b a (.inRegion ops (i::rest)::k)).defers}:Frame).finish undef=
      on b ({a with defers:=d::a.defers}.put o.dst undef) (.inRegion ops rest::k):=by
     have:=uA b {a with defers:=d::a.defers} ops i rest k undef
     rw[ho] at this;exact this
    simp only[u,GStep.after,Array.append_empty] at g
    exact ⟨_,w',_,F',g,H.upd,H.has,m,hK _ _ j⟩
   case round l f tmps cM bd=>
    refine ⟨_,w',_,F',g,H.upd,H.has,?_,j _ _ fun v y hR=>by obtain ⟨F0,hle,hR⟩:=hR;rw[p];exact hJ.mono hle (hK _ _ hR)⟩
    simpa [GStep.after] using m
   case enter f args=>
    refine ⟨_,w',_,F',g,H.upd,H.has,?_,j _ _ fun v y hR=>by obtain ⟨F0,hle,hR⟩:=hR;rw[p];exact hJ.mono hle (hK _ _ hR)⟩
    simpa [GStep.after] using m
  .rw[if_neg hw] at h
   refine hJ.move (fun w=>uB (by simp[ho];simpa using hw)) ?_
   simp only[ho,Option.bind_some]
   exact hK _ _ h
theorem pS {ops:Array Oper}{i:Nat}{K c:Act->af->Prop}{a:Act}{F:af}(h:∀a F,K a F->c a F)(b:ee P J ops i K a F):ee P J ops i c a F:=by
 unfold ee at*;split
 .rename_i ho;rw[ho] at b;exact h _ _ b
 .rename_i o ho;rw[ho] at b;simp only at b;split
  .rename_i hw;rw[if_pos hw] at b;exact gO (nk (fun v F=>h _ _) (fun d F=>h _ _)) _ _ b
  .rename_i hw;rw[if_neg hw] at b;exact h _ _ b
theorem rG (hJ:Closed P main J){ops:Array Oper}{K:Act->af->Prop}(hb:uC ops b)(hK:∀c F',K c F'->J (G (on b c k) cs) F'):
  ∀(l:List Nat) (a:Act) (F:af),fB P J ops K l a F->J (G (on b a (.inRegion ops l::k)) cs) F
 |[],a,F,h=>hJ.move (fun _=>zf) (hK _ _ h)
 |i::rest,a,F,h=>uD hJ hb h fun c F' h'=>rG hJ hb hK rest c F' h'
section draw
variable {ops:Array Oper}{Q:Act->af->Prop}{S:af->Prop}
def eO (P:Program)(J:Goroutine->af->Prop)(ops:Array Oper)(Q:Act->af->Prop)(S:af->Prop):Nat->Array Bool->Act->af->Prop
 |0,listed,a,F=>Region.ready .any ops listed=[]/\Q a F
 |fuel+1,listed,a,F=>(Region.ready .any ops listed=[]->Q a F)/\
  ∀i∈Region.ready .any ops listed,ee P J ops i (fun b F'=>S F'/\eO P J ops Q S fuel (listed.setIfInBounds i true) b F') a F
theorem DY:∀(fuel t:Nat) (listed:Array Bool) (a:Act) (F:af),eO P J ops Q S fuel listed a F->
  fB P J ops Q (Region.linearise.go .any ops fuel t listed []) a F:=by
 intro fuel
 induction fuel with
 |zero=>intro t listed a F h;simpa [Region.linearise.go,fB] using h.2
 |succ fuel ih=>
  intro t listed a F h
  obtain ⟨b,c⟩:=h
  simp only[Region.linearise.go]
  change fB P J ops Q (match (Region.ready .any ops listed)[t % (Region.ready .any ops listed).length]? with
   |some i=>Region.linearise.go .any ops fuel (t/(Region.ready .any ops listed).length) (listed.setIfInBounds i true) [i]
   |none=>[].reverse) a F
  cases hi:(Region.ready .any ops listed)[t % (Region.ready .any ops listed).length]? with
  |none=>
   have d:Region.ready .any ops listed=[]:=by
    cases e:Region.ready .any ops listed with
    |nil=>rfl
    |cons x xs=>
     rw[e] at hi
     have f:t % (x::xs).length<(x::xs).length:=Nat.mod_lt _ an
     simp at hi
     simp at f
     omega
   simpa [fB] using b d
  |some i=>
   simp only[]
   rw[linearise_go_acc,List.reverse_singleton,List.singleton_append]
   exact pS (fun a F h=>ih _ _ a F h.2) (c i (List.mem_of_getElem? hi))
def fY (P:Program)(J:Goroutine->af->Prop)(ops:Array Oper)(S:af->Prop)(o:Oper)(v:Value)(a:Act):Prop:=
 (Region.wanted o (yielded ops a.tmps)=true/\∀F (R:Value->af->Prop),S F->R v F->bw P (execOp a.eval o) (kJ P J R (fun _ _=>False)) F)\/
 (Region.wanted o (yielded ops a.tmps)=false/\v=undef)
theorem fY.nq {i:Nat}{o:Oper}{v:Value}{a:Act}{F:af}(hi:ops[i]?=some o)(b:fY P J ops S o v a)
  {K:Act->af->Prop} (c:S F) (h:K (a.put o.dst v) F):ee P J ops i K a F:=by
 unfold ee
 simp only[hi]
 rcases b with ⟨hw,hv⟩|⟨hw,rfl⟩
 .rw[if_pos hw]
  exact gO (nk (fun _ _ x=>x) (fun _ _ x=>x.elim)) _ _ (hv F (fun v F'=>K (a.put o.dst v) F') c h)
 .rw[if_neg (by simp[hw])];exact h
theorem fY.of_same {o:Oper}{v:Value}{a b:Act}(c:fY P J ops S o v a)(he:execOp b.eval o=execOp a.eval o)
  (hw:Region.wanted o (yielded ops b.tmps)=Region.wanted o (yielded ops a.tmps)):fY P J ops S o v b:=by
 unfold fY at*
 rw[he,hw]
 exact c
theorem uE {j:Nat}{c e:Oper}{v:Value}(m:ops[j]?=some e)(n:c.apart ops e=true)
  (o:∀cs b,c.op≠ .select cs b) (p:∀cs b,e.op≠ .select cs b) {K:Act->af->Prop} {a:Act} {F:af}
  (f:fY P J ops S c v a) (h:ee P J ops j K (a.put c.dst v) F):
  ee P J ops j (fun i F'=>fY P J ops S c v i/\K (i.put c.dst v) F') a F:=by
 obtain ⟨k,g,l⟩:=Oper.apart_spec n
 have keep:∀(a:Act),fY P J ops S c v a->∀u,fY P J ops S c v (a.put e.dst u):=fun a f u=>
  f.of_same (execOp_put c o a e.dst u l) (wanted_put c a e.dst u l)
 have q:∀d,fY P J ops S c v {a with defers:=d::a.defers}:=fun d=>f.of_same rfl rfl
 unfold ee at*
 simp only[m] at*
 rw[wanted_put e a c.dst v k] at h
 split
 .rename_i hw
  rw[if_pos hw] at h
  unfold zh at*
  rw[execOp_put e p a c.dst v k] at h
  refine gO (nk (fun u F' x=>⟨keep a f u,?_⟩) (fun d F' x=>⟨keep _ (q d) _,?_⟩)) _ _ h
  .rw[<-Act.put_comm a v u g];exact x
  .rw[<-Act.put_comm _ v undef g,<-Act.put_defers];exact x
 .rename_i hw
  rw[if_neg hw] at h
  exact ⟨keep a f _,by rw[<-Act.put_comm a v undef g];exact h⟩
theorem DZ {i:Nat}{l:Oper}{v:Value}(hi:ops[i]?=some l)(s:∀(j:Nat) (o:Oper) cs b,ops[j]?=some o->o.op≠ .select cs b):
  ∀(fuel:Nat) (listed:Array Bool) (a:Act) (F:af),
   (∀j d,ops[j]?=some d->j≠i->listed.getD j true=false->(∀e∈d.after,Region.binds .any e=true->e.on≠i)->l.apart ops d=true)->
   i∈Region.ready .any ops listed->fY P J ops S l v a->S F->
   eO P J ops Q S fuel (listed.setIfInBounds i true) (a.put l.dst v) F->eO P J ops Q S (fuel+1) listed a F:=by
 intro fuel
 induction fuel with
 |zero=>
  intro listed a F _ f n m H
  refine ⟨fun h=>(by rw[h] at f;cases f),fun j p=>?_⟩
  by_cases c:j=i
  .subst c;exact n.nq hi m ⟨m,H⟩
  .have:=ready_mono p c
   rw[H.1] at this
   cases this
 |succ fuel ih=>
  intro listed a F t f n m H
  refine ⟨fun h=>(by rw[h] at f;cases f),fun j p=>?_⟩
  by_cases c:j=i
  .subst c;exact n.nq hi m ⟨m,H⟩
  .have g:=H.2 j (ready_mono p c)
   obtain ⟨u,d,r,z⟩:=mem_ready.1 p
   have A:∀e∈d.after,Region.binds .any e=true->e.on≠i:=fun e he hb heq=>by
    have g:=z e he hb
    have w:=(mem_ready.1 f).1
    rw[heq] at g
    rcases Nat.lt_or_ge i listed.size with h'|h'
    .simp[h'] at w g;rw[w] at g;cases g
    .simp[Array.getElem?_eq_none h'] at g
   have B:=uE r (t j d r c u A) (fun cs b=>s i l cs b hi) (fun cs b=>s j d cs b r) n g
   have C:∀k ok,ops[k]?=some ok->k≠i->(listed.setIfInBounds j true).getD k true=false->
     (∀e∈ok.after,Region.binds .any e=true->e.on≠i)->l.apart ops ok=true:=fun k ok D E x G=>by
    refine t k ok D E ?_ G
    by_cases y:j=k
    .subst y;exact u
    .rw[getD_set_ne true y] at x;exact x
   refine pS (fun I F' q=>⟨q.2.1,ih (listed.setIfInBounds j true) I F' C (ready_mono f (Ne.symm c)) q.1 q.2.1 ?_⟩) B
   rw[Array.setIfInBounds_comm _ _ c]
   exact q.2.2
theorem zi (i:Nat){c:Oper}(v:Value){fuel:Nat}{listed:Array Bool}{a:Act}{F:af}(hi:ops[i]?=some c)
  (b:(Region.noSelect ops&&Region.free .any ops listed i&&(Region.ready .any ops listed).contains i)=true)
  (d:fY P J ops S c v a) (e:S F)
  (h:eO P J ops Q S fuel (listed.setIfInBounds i true) (a.put c.dst v) F):eO P J ops Q S (fuel+1) listed a F:=by
 simp only[Bool.and_eq_true] at b
 exact DZ hi (Region.noSelect_spec b.1.1) fuel listed a F (Region.free_spec hi b.1.2) (by simpa using b.2) d e h
theorem D1 {rs:List Nat}{fuel:Nat}{listed:Array Bool}{a:Act}{F:af}(b:Region.ready .any ops listed=rs)(c:rs≠[])
  (h:∀i∈rs,ee P J ops i (fun d F'=>S F'/\eO P J ops Q S fuel (listed.setIfInBounds i true) d F') a F):eO P J ops Q S (fuel+1) listed a F:=
 ⟨fun e=>absurd (b▸e) c,b▸h⟩
theorem D2 (i:Nat){fuel:Nat}{listed:Array Bool}{a:Act}{F:af}(b:Region.ready .any ops listed=[i])
  (h:ee P J ops i (fun c F'=>S F'/\eO P J ops Q S fuel (listed.setIfInBounds i true) c F') a F):eO P J ops Q S (fuel+1) listed a F:=
 D1 b an (by simpa using h)
theorem D3 {listed:Array Bool}{a:Act}{F:af}(b:Region.ready .any ops listed=[])(h:Q a F):∀fuel,eO P J ops Q S fuel listed a F
 |0=>⟨b,h⟩
 |_+1=>⟨fun _=>h,by rw[b];simp⟩
end draw
end
inductive Ex where
 |normal
 |exit (id:Nat)
 |ret
 deriving DecidableEq
def fZ:Code->Bool
 | .region _ ops _=>ops.all fun o=>match o.op with| .defer _=>false|_=>true
 | .seq a b=>fZ a&&fZ b
 | .cond _ a b=>fZ a&&fZ b
 | .block _ c=>fZ c
 | .loop c=>fZ c
 | .scope c=>fZ c
 | .rangeFunc ..=>false
 |_=>true
structure zk (c:Code)(b:Frame):Prop where
 kind:b.kind≠ .early
 round:b.roundOf=none\/fZ c=true
section
variable {P:Program}{main:Bool}{J:Goroutine->af->Prop}
def zl (J:Goroutine->af->Prop)(b:Frame)(k:List Item)(cs:List Frame):Ex->Act->af->Prop
 | .normal,a,F=>J (G (on b a k) cs) F
 | .exit id,a,F=>∀c,exitTo id c=exitTo id k->J (G (on b a (.code (.exit id)::c)) cs) F
 | .ret,a,F=>∀c,J (G (on b a (.code .ret::c)) cs) F
def Wp (J:Goroutine->af->Prop)(c:Code)(Q:Ex->Act->af->Prop)(a:Act)(F:af):Prop:=
 ∀(b:Frame) (k:List Item) (cs:List Frame),zk c b->(∀e d F',Q e d F'->zl J b k cs e d F')->J (G (on b a (.code c::k)) cs) F
theorem Wp.mono {c:Code}{Q d:Ex->Act->af->Prop}{a:Act}{F:af}(h:Wp J c Q a F)(f:∀e a F,Q e a F->d e a F):Wp J c d a F:=
 fun b k cs hb g=>h b k cs hb fun e i F' x=>g e i F' (f _ _ _ x)
theorem Wp.le {hJ:Closed P main J}{c:Code}{Q:Ex->Act->af->Prop}{a:Act}{F F':af}(h:Wp J c Q a F)(hle:Le F F'):Wp J c Q a F':=
 fun b k cs hb d=>hJ.mono hle (h b k cs hb d)
variable {Q:Ex->Act->af->Prop}{a:Act}{F:af}
theorem aK (hJ:Closed P main J)(h:Q .normal a F):Wp J .skip Q a F:=fun b k cs _ c=>hJ.move (fun _=>y4) (c _ _ _ h)
theorem D4 (hJ:Closed P main J){l:Nat}(h:Q .normal a F):Wp J (.label l) Q a F:=fun b k cs _ c=>hJ.move (fun _=>DT) (c _ _ _ h)
theorem bJ {id:Nat}(h:Q (.exit id) a F):Wp J (.exit id) Q a F:=fun b k cs _ c=>c _ _ _ h k rfl
theorem aO (h:Q .ret a F):Wp J .ret Q a F:=fun b k cs _ c=>c _ _ _ h k
def rH (J:Goroutine->af->Prop)(y:Code)(Q:Ex->Act->af->Prop):Ex->Act->af->Prop
 | .normal,a,F=>Wp J y Q a F
 |e,a,F=>Q e a F
theorem ah (hJ:Closed P main J){x y:Code}(h:Wp J x (rH J y Q) a F):Wp J (.seq x y) Q a F:=fun b k cs hb c=>by
 refine hJ.move (fun _=>y6) (h b (.code y::k) cs ⟨hb.kind,hb.round.imp id fun z=>?_⟩ fun e i F' d=>?_)
 .simp only[fZ,Bool.and_eq_true] at z;exact z.1
 .cases e with
  |normal=>exact d b k cs ⟨hb.kind,hb.round.imp id fun z=>by simp only[fZ,Bool.and_eq_true] at z;exact z.2⟩ c
  |exit id=>exact fun f g=>c _ _ _ d f (by rw[g];rfl)
  |ret=>exact c _ _ _ d
theorem uF (hJ:Closed P main J){c:Operand}{x y:Code}(t:Bool)(d:a.eval c= .bool t)(h:Wp J (if t then x else y) Q a F):Wp J (.cond c x y) Q a F:=fun b k cs hb e=>by
 refine hJ.move (fun _=>y7 d) (h b k cs ⟨hb.kind,hb.round.imp id fun z=>?_⟩ e)
 simp only[fZ,Bool.and_eq_true] at z
 cases t
 .exact z.2
 .exact z.1
def uG (id:Nat)(Q:Ex->Act->af->Prop):Ex->Act->af->Prop
 | .normal,a,F=>Q .normal a F
 | .exit i,a,F=>if i=id then Q .normal a F else Q (.exit i) a F
 | .ret,a,F=>Q .ret a F
theorem aU (hJ:Closed P main J){id:Nat}{c:Code}(h:Wp J c (uG id Q) a F):Wp J (.block id c) Q a F:=fun b k cs hb f=>by
 refine hJ.move (fun _=>y8) (h b (.inBlock id::k) cs ⟨hb.kind,hb.round⟩ fun e l F' d=>?_)
 cases e with
 |normal=>exact hJ.move (fun _=>y5) (f _ _ _ d)
 |exit i=>
  intro g j
  simp only[uG] at d
  by_cases hi:i=id
  .rw[if_pos hi] at d
   subst hi
   have:exitTo i g=some k:=by rw[j];simp[exitTo]
   exact hJ.move (fun _=>zb this) (f _ _ _ d)
  .rw[if_neg hi] at d
   refine f _ _ _ d g ?_
   rw[j]
   simp[exitTo,Ne.symm hi]
 |ret=>exact f _ _ _ d
theorem D5 (hJ:Closed P main J){c:Code}(h:Wp J c Q a F):Wp J (.scope c) Q a F:=fun b k cs hb d=>by
 refine hJ.move (fun _=>DV) (h b (.inScope c::k) cs ⟨hb.kind,hb.round⟩ fun e l F' f=>?_)
 cases e with
 |normal=>exact hJ.move (fun _=>DU) (d _ _ _ f)
 |exit i=>exact fun g j=>d _ _ _ f g (by rw[j];rfl)
 |ret=>exact d _ _ _ f
def rJ (I:Nat->Act->af->Prop)(n:Nat)(Q:Ex->Act->af->Prop):Ex->Act->af->Prop
 | .normal,a,F=>∃m,m<n/\I m a F
 |e,a,F=>Q e a F
theorem zm (hJ:Closed P main J){c:Code}(I:Nat->Act->af->Prop)(n:Nat)(g:I n a F)(hs:∀n a F,I n a F->Wp J c (rJ I n Q) a F):Wp J (.loop c) Q a F:=by
 intro b k cs hb f;have key:∀n a F,I n a F->J (G (on b a (.code c:: .inLoop c::k)) cs) F:=by
  intro n
  induction n using Nat.strongRecOn with
  |_ n ih=>
   intro a F h;refine hs n a F h b (.inLoop c::k) cs ⟨hb.kind,hb.round⟩ fun e j F' d=>?_;cases e with
   |normal=>
    obtain ⟨m,hm,l⟩:=d;exact hJ.move (fun _=>za) (ih m hm j F' l)
   |exit i=>exact fun o p=>f _ _ _ d o (by rw[p];rfl)
   |ret=>exact f _ _ _ d
 exact hJ.move (fun _=>y9) (key n a F g)
theorem uH {id:Nat}{ops:Array Oper}{d:Bool}{b:Frame}(hb:zk (.region id ops d) b):uC ops b:=
 ⟨hb.kind,hb.round.imp a fun z o ho c e=>by
  simp only[fZ] at z
  have:=(Array.all_eq_true_iff_forall_mem.1 z) o ho
  rw[e] at this
  cases this⟩
where a {p:Prop} (h:p):p:=h
theorem D6 (hJ:Closed P main J){id:Nat}{ops:Array Oper}(h:fB P J ops (Q .normal) (List.range ops.size) a F):Wp J (.region id ops false) Q a F:=fun b k cs hb c=>
 hJ.move (fun _=>ze) (rG hJ (uH hb) (fun d F' h'=>c .normal d F' h') _ _ _ h)
theorem D7 (hJ:Closed P main J)(S:af->Prop)(hm:P.follows .mixedOrders=true){id:Nat}{ops:Array Oper}(h:eO P J ops (Q .normal) S ops.size (Array.replicate ops.size false) a F):Wp J (.region id ops true) Q a F:=fun b k cs hb c=>
 hJ.step fun w hw=>by
  refine ⟨_,_,_,F,uz,.drawn _ _ _,hw.drawn _,an,?_⟩
  refine rG (K:=Q .normal) hJ (uH hb) (fun d F' h'=>c .normal d F' h') _ _ _ ?_
  simp only[Region.schedule,hm,Bool.true_or,if_true]
  exact DY ops.size _ _ a F h
def iK (P:Program):List Deferred->(af->Prop)->af->Prop
 |[],K,F=>K F
 |d::a,K,F=>∃r,d.target= .collected r/\bw P (Instr.takeDeferred r) (fun calls F'=>calls=[]/\iK P a K F') F
def rK (P:Program)(fn:Func)(R:Value->af->Prop):Ex->Act->af->Prop
 | .exit _,_,_=>False
 |_,a,F=>iK P a.defers (fun F=>bw P (results fn a.tmps) R F) F
theorem uI (hJ:Closed P main J){f:FuncId}{fn:Func}(m:P.funcs[f]?=some fn){R:Value->af->Prop}{c:Frame}{cs:List Frame}(hR:∀v F',R v F'->J (G (c.finish v) cs) F')(tmps:Array Value):
  ∀(a:List Deferred) (fr:Frame) (F:af),fr.fn=f->fr.kind= .normal->fr.mode= .returning->fr.defers=a->fr.tmps=tmps->iK P a (fun F=>bw P (results fn tmps) R F) F->J (G fr (c::cs)) F
 |[],fr,F,i,j,g,k,l,h=>by
  refine hJ.step fun w hw=>?_
  obtain ⟨v,w',F',es,H⟩:=kH _ F w #[] h hw
  have b:=H.run
  rw[Array.empty_append] at b
  refine ⟨G (c.finish v) cs,w',seen P fr.fn es,F',?_,H.upd,H.has,fun e he=>H.iJ e (mem_seen he),hR v F' H.post⟩
  simp only[G,stepG,unwind,g,k,l,i,m,b]
  simp[doReturn,j,GStep.after]
 |d::a,fr,F,i,j,g,k,l,h=>by
  obtain ⟨r,n,o⟩:=h
  refine hJ.step fun w hw=>?_
  obtain ⟨v,w',F',es,H⟩:=kH _ F w #[] o hw
  have b:=H.run
  rw[Array.empty_append] at b
  obtain ⟨hv,p⟩:=H.post
  subst hv
  obtain ⟨t,args⟩:=d
  simp only at n
  subst n
  refine ⟨G {fr with defers:=a} (c::cs),w',seen P fr.fn es,F',?_,H.upd,H.has,fun e he=>H.iJ e (mem_seen he),?_⟩
  .simp only[G,stepG,unwind,g,k,b]
   simp[GStep.after]
  .exact uI hJ m hR tmps a {fr with defers:=a} F' i j g rfl l p
theorem dh.of_wp (hJ:Closed P main J){f:FuncId}{fn:Func}{c:Code}{args:Array Value}{R:Value->af->Prop}(d:P.funcs[f]?=some fn)(hb:fn.body=some c)
  (h:Wp J c (rK P fn R) {tmps:=args++Array.replicate (fn.ntmps - args.size) undef,defers:=[]} F):dh P J f args F R:=by
 intro j cs hR
 let b:Frame:={(default:Frame) with fn:=f,kind:=.normal}
 have k:Frame.enter P f args .normal=on b {tmps:=args++Array.replicate (fn.ntmps - args.size) undef,defers:=[]} [.code c]:=by
  simp[Frame.enter,on,d,hb,b]
  rfl
 rw[k]
 refine h b [] (j::cs) ⟨by simp[b],.inl rfl⟩ fun e a F' g=>?_
 cases e with
 |normal=>exact hJ.move (fun _=>kI rfl) (uI hJ d hR a.tmps a.defers _ F' rfl rfl rfl rfl rfl g)
 |exit i=>exact g.elim
 |ret=>exact fun l=>hJ.move (fun _=>stepG_ret' rfl) (uI hJ d hR a.tmps a.defers _ F' rfl rfl rfl rfl rfl g)
theorem aE.of_wp {f:FuncId}{fn:Func}{c:Code}{args:Array Value}{F:af}{R:Value->af->Prop}(a:P.funcs[f]?=some fn)(hb:fn.body=some c)
  (h:∀main J,Closed P main J->Wp J c (rK P fn R) {tmps:=args++Array.replicate (fn.ntmps - args.size) undef,defers:=[]} F):aE P f args F R:=
 fun main J hJ=>dh.of_wp hJ a hb (h main J hJ)
end
end Go.Sep
end
section
namespace Go.Sep
open Go Go.Conc Go.ConcM
open Go.ConcN (sumTo upd sumTo_upd upd_ne upd_same)
def af.iq (F:af):Loc->Prop
 | .cell a=>a.block∈keys F.own\/(F.ro a).isSome=true
 | .obj r=>r∈keys F.own
 |_=>False
structure ja (P:Program)(bl:Loc->Prop)(g:Goroutine)(F:af)(gs:Array Goroutine)(w:World)(t:Trace)(q:Nat->Nat):Prop where
 g0:gs[0]?=some g
 lv:Leavers P t gs q
 past:Past bl w.heap.size t
 has:Has F w
 apart:∀l,bl l->¬F.iq l
 low:∀l,bl l->l.low w.heap.size
def jE (a b:Os):Prop:=b=a
theorem jE.refl (a:Os):jE a a:=rfl
theorem jE.trans {a b c:Os}(h:jE a b)(k:jE b c):jE a c:=Eq.trans k h
structure fL (F F':af)(w w':World):Prop where
 os:jE w.os w'.os
 tape:w'.tape=w.tape
 output:w'.output=w.output
 size:w.heap.size<=w'.heap.size
 frame:∀b,b<w.heap.size->b∉keys F.own->w'.heap[b]?=w.heap[b]?
 ro:∀a,(F'.ro a).isSome=true->(F.ro a).isSome=true\/a.block∈keys F.own\/w.heap.size<=a.block
 own:∀b,b∈keys F'.own->b∈keys F.own\/w.heap.size<=b
theorem fL.uJ {F F':af}{w w':World}(h:dO F F' w w'):fL F F' w w':=⟨by rw[h.os];exact .refl _,h.tape,h.output,h.size,h.frame,h.ro,h.own⟩
theorem fL.refl (F:af)(w:World):fL F F w w:=.uJ (.refl _ _)
theorem fL.trans {F G H:af}{u v w:World}(h:fL F G u v)(k:fL G H v w):fL F H u w where
 os:=h.os.trans k.os
 tape:=k.tape.trans h.tape
 output:=k.output.trans h.output
 size:=Nat.le_trans h.size k.size
 frame b hb hn:=by
  rw[k.frame b (Nat.lt_of_lt_of_le hb h.size) (fun c=>(h.own b c).elim hn (fun d=>absurd hb aa))]
  exact h.frame b hb hn
 ro a x:=by
  rcases k.ro a x with y|y|y
  .exact h.ro a y
  .exact .inr (h.own _ y)
  .exact .inr (.inr (Nat.le_trans h.size y))
 own b hb:=by
  rcases k.own b hb with x|x
  .exact h.own b x
  .exact .inr (Nat.le_trans h.size x)
theorem kK {P:Program}{a b:Nat}{m c:Machine}{t d:Trace}(h:runNT P a m t=(.next c,d)):runNT P (a+b) m t=runNT P b c d:=by
 rw[runNT_add,h]
theorem Has.at {F:af}{w:World}(h:Has F w)(d:Nat):Has F (w.at d):=⟨h.ro,h.own,h.nodup,h.apart⟩
theorem zn {P:Program}{bl:Loc->Prop}{B:Nat}{a:Goroutine}(n:a.status= .running):∀(M:Nat) (gs:Array Goroutine) (w:World) (sl:Option (Nat×Nat)) (t:Trace) (q:Nat->Nat),
  sumTo gs.size q<=M->gs[0]?=some a->Leavers P t gs q->Past bl B t->
  ∃(N:Nat) (gs':Array Goroutine) (d d':Nat) (c H:Option (Nat×Nat)) (o:Trace) (A:Nat->Nat),
   runNT P N (crowd gs w sl) t=(.next (crowd gs' (w.at d) c),o)/\gs'.size=gs.size/\gs'[0]?=some a/\Leavers P o gs' A/\Past bl B o/\
   stepT P (crowd gs' (w.at d) c)=runT P (crowd gs' (w.at d') H) 0:=by
 intro M
 induction M with
 |zero=>
  intro gs w sl t q hM h b p
  have C:∀g∈gs,awake g:=by
   intro g hg
   obtain ⟨i,hi,rfl⟩:=Array.mem_iff_getElem.1 hg
   rcases Nat.eq_zero_or_pos i with rfl|l
   .have:gs[0]=a:=by simpa [Array.getElem?_eq_getElem hi] using h
    rw[this];exact awake_of (.inl n)
   .exact awake_of ((b.old i _ l (Array.getElem?_eq_getElem hi)).status.elim .inl fun x=>.inr (.inr x))
  obtain ⟨i,g,d,c,hi,hg,r⟩:=crowd_pick (P:=P) (w:=w) (sl:=sl) C ⟨0,a,h,n⟩
  rcases Nat.eq_zero_or_pos i with rfl|l
  .exact ⟨0,gs,w.drawn,d,sl,c,t,q,rfl,rfl,h,b,p,r⟩
  .have m:=b.old i g l hi
   have s:i<gs.size:=(Array.getElem?_eq_some_iff.1 hi).1
   have I:q i=0:=by have:=Go.ConcN.le_sumTo (f:=q) s;omega
   rw[I] at m;rw[m.1] at hg;cases hg
 |succ M ih=>
  intro gs w sl t q hM h b p
  have C:∀g∈gs,awake g:=by
   intro g hg
   obtain ⟨i,hi,rfl⟩:=Array.mem_iff_getElem.1 hg
   rcases Nat.eq_zero_or_pos i with rfl|l
   .have:gs[0]=a:=by simpa [Array.getElem?_eq_getElem hi] using h
    rw[this];exact awake_of (.inl n)
   .exact awake_of ((b.old i _ l (Array.getElem?_eq_getElem hi)).status.elim .inl fun x=>.inr (.inr x))
  obtain ⟨i,g,d,c,hi,hg,r⟩:=crowd_pick (P:=P) (w:=w) (sl:=sl) C ⟨0,a,h,n⟩
  rcases Nat.eq_zero_or_pos i with rfl|l
  .exact ⟨0,gs,w.drawn,d,sl,c,t,q,rfl,rfl,h,b,p,r⟩
  .have m:=b.old i g l hi
   have J:(i==0)=false:=by simp;omega
   have s:i<gs.size:=(Array.getElem?_eq_some_iff.1 hi).1
   cases D:q i with
   |zero=>rw[D] at m;rw[m.1] at hg;cases hg
   |succ k=>
    rw[D] at m
    rcases m with ⟨K,_⟩|⟨_,g',es,hm,L,O⟩
    .rw[K] at hg;cases hg
    have Q:=runT_crowd_go (P:=P) (sl:=c) (i:=i) hi (by rw[J];exact L (w.at d))
    have F:((gs.map (woken P g g' (w.at d))).setIfInBounds i g').size=gs.size:=an
    have ad:sumTo gs.size (upd q i k)+(k+1)=sumTo gs.size q+k:=by
     have:=sumTo_upd q k id s
     simpa [D] using this
    obtain ⟨N,gs',d1,d2,R,S,o,A,T,U,V,W,X,Y⟩:=ih ((gs.map (woken P g g' (w.at d))).setIfInBounds i g') (w.at d) c (t++MemOp.ofEvents i g.frame.fn g.frame.place es) (upd q i k) (by rw[F];omega)
     (by
      have Z:i≠0:=aa
      rw[Array.getElem?_setIfInBounds_ne Z,Array.getElem?_map,h]
      simp[woken_run n])
     ⟨fun j x u v=>by
      by_cases z:i=j
      .subst z
       rw[Array.getElem?_setIfInBounds_self_of_lt (by simpa using s)] at v
       obtain rfl:=Option.some.inj v
       rw[upd_same,Deaf_own]
       exact O
      .rw[Array.getElem?_setIfInBounds_ne z,Array.getElem?_map] at v
       obtain ⟨y,ab,rfl⟩:=Option.map_eq_some_iff.1 v
       have G:=b.old j y u ab
       rw[woken_quitsD G,upd_ne q k (Ne.symm z),Deaf_other t z _ (fun op E=>by obtain ⟨e,_,rfl⟩:=Go.Conc.mem_ofEvents E;rfl)]
       exact G,fun j u=>by
      rw[Deaf_other t (g':=i) (by simp at u;omega) _ (fun op E=>by obtain ⟨e,_,rfl⟩:=Go.Conc.mem_ofEvents E;rfl)]
      exact b.above j (by simpa using u)⟩
     (p.mute aa hm)
    exact ⟨N+1,gs',d1,d2,R,S,o,A,by simp only[runNT,r,Q];exact T,U.trans F,V,W,X,Y⟩
theorem zo {bl:Loc->Prop}{F:af}{w w':World}(hF:Has F w)(hu:w.heap.size<=w'.heap.size)(f:∀l,bl l->¬F.iq l)(g:∀l,bl l->l.low w.heap.size){e:Event}
  (h:gN F.ro (gr F w.heap.size w'.heap.size) e):EvL bl w'.heap.size e:=by
 have hm:∀b,gr F w.heap.size w'.heap.size b->b<w'.heap.size:=fun b hb=>hb.elim (fun x=>Nat.lt_of_lt_of_le (hF.lt x) hu) (fun x=>x.2)
 rcases h with ⟨a,wr,rfl,c⟩|⟨r,wr,rfl,c⟩|⟨m,rfl,i⟩
 .refine ⟨fun x d hs=>?_,an,an,?_⟩
  .exfalso
   have e1:x.loc= .cell a:=by cases wr<;>simp[MemAct.ofEvent,MemAct.touch?] at d<;>rw[<-d]
   rw[e1] at hs
   rcases c with (c|c)|⟨_,c⟩
   .exact f _ hs (.inl c)
   .exact absurd (g _ hs) (by show ¬a.block<_;omega)
   .exact f _ hs (.inr c)
  .show a.block<_
   rcases c with c|⟨_,c⟩
   .exact hm _ c
   .exact Nat.lt_of_lt_of_le (hF.ij c) hu
 .refine ⟨fun x d hs=>?_,an,an,?_⟩
  .exfalso
   have e1:x.loc= .obj r:=by cases wr<;>simp[MemAct.ofEvent,MemAct.touch?] at d<;>rw[<-d]
   rw[e1] at hs
   rcases c with c|c
   .exact f _ hs c
   .exact absurd (g _ hs) (by show ¬r<_;omega)
  .have:=hm _ c
   cases wr<;>exact this
 .cases m<;>simp[pQ] at i<;>exact ⟨fun x d=>by simp[MemAct.ofEvent,MemAct.touch?] at d,an,an,trivial⟩
theorem ja.next {P:Program}{bl:Loc->Prop}{F F':af}{w w':World}(f:∀l,bl l->¬F.iq l)(d:∀l,bl l->l.low w.heap.size)(hu:dO F F' w w'):
  (∀l,bl l->¬F'.iq l)/\(∀l,bl l->l.low w'.heap.size):=by
 refine ⟨fun l hs b=>?_,fun l hs=>Loc.low_mono hu.size (d l hs)⟩
 cases l with
 |cell a=>
  have c:=d _ hs
  have e:=f _ hs
  rcases b with b|b
  .rcases hu.own _ b with x|x
   .exact e (.inl x)
   .exact absurd c (by show ¬a.block<_;omega)
  .rcases hu.ro _ b with x|x|x
   .exact e (.inr x)
   .exact e (.inl x)
   .exact absurd c (by show ¬a.block<_;omega)
 |obj r=>
  have c:=d _ hs
  rcases hu.own _ b with x|x
  .exact f _ hs x
  .exact absurd c (by show ¬r<_;omega)
 |_=>exact b
theorem Le.iq {F F':af}(h:Le F F'){l:Loc}(b:F.iq l):F'.iq l:=by
 cases l with
 |cell a=>exact b.elim (fun x=>.inl (h.own _ x)) (fun x=>(h.ro _ x).elim .inr .inl)
 |obj r=>exact h.own _ b
 |_=>exact b
theorem fL.le {F G H:af}{w w':World}(h:Le F G)(u:fL F H w w'):fL G H w w' where
 os:=u.os
 tape:=u.tape
 output:=u.output
 size:=u.size
 frame b hb hn:=u.frame b hb (fun x=>hn (h.own b x))
 ro a x:=by
  rcases u.ro a x with y|y|y
  .exact (h.ro a y).imp id .inl
  .exact .inr (.inl (h.own _ y))
  .exact .inr (.inr y)
 own b hb:=(u.own b hb).imp (h.own b) id
end Go.Sep
end
section
namespace Go.Sep
open Go Go.Conc
def af.dQ (F:af):af:={ro:=F.get,own:=[]}
theorem Has.dQ {F:af}{w:World}(h:Has F w):Has F.dQ w:=
 ⟨fun a v c=>h.reads c,fun b o hb=>(by cases hb),List.nodup_nil,fun a v c hm=>(by cases hm)⟩
def af.star (G F:af):af:=
 {ro:=fun a=>match F.ro a with
   |some v=>some v
   |none=>if a.block∈keys F.own then none else G.ro a
  own:=G.own++F.own}
structure Fits (F G:af):Prop where
 uK:∃w,Has G w/\Has F w
 own:∀b,b∈keys G.own->b∉keys F.own
 ro:∀a,(F.ro a).isSome=true->a.block∉keys G.own
theorem cu (l l':List (Nat×Obj)):keys (l++l')=keys l++keys l':=List.map_append
theorem Fits.left {F G:af}(h:Fits F G){w:World}(hw:Has (G.star F) w):Has F w where
 ro a v c:=hw.ro a v (by simp[af.star,c])
 own b o hb:=hw.own b o (List.mem_append_right _ hb)
 nodup:=by
  have:=hw.nodup
  simp only[af.star,cu] at this
  exact (List.nodup_append.1 this).2.1
 apart a v c hm:=by
  have:=hw.apart a v (by simp[af.star,c])
  simp only[af.star,cu,List.mem_append,not_or] at this
  exact this.2 hm
theorem Fits.right {F G:af}(h:Fits F G){w:World}(hw:Has (G.star F) w):Has G w:=by
 obtain ⟨m,d,i⟩:=h.uK;refine ⟨fun a v j=>?_,fun b o hb=>hw.own b o (List.mem_append_left _ hb),d.nodup,d.apart⟩;have c:=d.ro a v j;cases f:F.ro a with
 |some g=>
  have e:g=v:=by have:=i.ro a g f;rw[c] at this;exact (Option.some.inj this).symm
  exact e▸hw.ro a g (by simp[af.star,f])
 |none=>
  by_cases hb:a.block∈keys F.own
  .obtain ⟨⟨b,o⟩,hm,e⟩:=List.mem_map.1 hb;simp only at e;subst e;have k:=i.own _ o hm;have l:=hw.own _ o (List.mem_append_right _ hm);unfold World.cell? at c ⊢;rw[l];rw[k] at c;exact c
  .exact hw.ro a v (by simp[af.star,f,hb,j])
theorem Fits.both {F G:af}(h:Fits F G){w:World}(d:Has G w)(hF:Has F w):Has (G.star F) w where
 ro a v c:=by
  simp only[af.star] at c
  split at c
  .rename_i x f;cases c;exact hF.ro _ _ f
  .split at c
   .cases c
   .exact d.ro _ _ c
 own b o hb:=(List.mem_append.1 hb).elim (d.own b o) (hF.own b o)
 nodup:=by
  simp only[af.star,cu]
  exact List.nodup_append.2 ⟨d.nodup,hF.nodup,fun a g b hb e=>h.own a g (e▸hb)⟩
 apart a v c hm:=by
  simp only[af.star,cu,List.mem_append] at hm
  simp only[af.star] at c
  split at c
  .rename_i x f
   rcases hm with hm|hm
   .exact h.ro a (by simp[f]) hm
   .exact hF.apart a x f hm
  .split at c
   .cases c
   .rename_i hn
    rcases hm with hm|hm
    .exact d.apart a v c hm
    .exact hn hm
theorem Fits.le {F G c:af}(hle:Le G c)(h:Fits F c):Fits F G where
 uK:=let ⟨w,d,e⟩:=h.uK;⟨w,hle.has w d,e⟩
 own b hb:=h.own b (hle.own b hb)
 ro a f hm:=h.ro a f (hle.own _ hm)
def zq (J:Goroutine->af->Prop)(F:af)(g:Goroutine)(G:af):Prop:=Fits F G->J g (G.star F)
theorem jF {F G:af}{a:Addr}(h:((G.star F).ro a).isSome=true):(F.ro a).isSome=true\/(G.ro a).isSome=true:=by
 simp only[af.star] at h;split at h
 .rename_i x b;exact .inl (by simp[b])
 .split at h
  .cases h
  .exact .inr h
theorem gE {F G:af}{a:Addr}(h:(F.ro a).isSome=true\/(G.ro a).isSome=true):((G.star F).ro a).isSome=true\/a.block∈keys F.own:=by
 by_cases hb:a.block∈keys F.own
 .exact .inr hb
 .left;simp only[af.star];split
  .rfl
  .rename_i hn;rw[if_neg hb];rcases h with h|h
   .simp[hn] at h
   .exact h
theorem D8 {P:Program}{main:Bool}{J:Goroutine->af->Prop}(hJ:Closed P main J)(F:af):Closed P main (zq J F) where
 mono {g G D} hle h c:=by
  have j:=c.le hle
  refine hJ.mono ⟨fun w hw=>j.both (hle.has w (c.right hw)) (c.left hw),fun b hb=>?_,fun a d=>?_⟩ (h j)
  .simp only[af.star,cu,List.mem_append] at hb ⊢
   exact hb.imp (hle.own b) id
  .rcases jF d with x|x
   .exact (gE (.inl x)).imp id (fun y=>by simp only[af.star,cu,List.mem_append];exact .inr y)
   .rcases hle.ro a x with y|y
    .exact (gE (.inr y)).imp id (fun z=>by simp only[af.star,cu,List.mem_append];exact .inr z)
    .exact .inr (by simp only[af.star,cu,List.mem_append];exact .inl y)
 step {fr cs G} h c:=by
  refine hJ.step fun w hw=>?_
  have t:=c.right hw
  have hF:=c.left hw
  obtain ⟨g',w',es,k,hgo,hu,l,u,A⟩:=h w t
  have n:Has F w':=by
   refine ⟨fun a v i=>?_,fun b o hb=>?_,hF.nodup,hF.apart⟩
   .have p:=hF.ro a v i
    have B:=hF.ij (a:=a) (by simp[i])
    unfold World.cell? at p ⊢
    rw[hu.frame _ B (c.ro a (by simp[i]))]
    exact p
   .rw[hu.frame b (hF.lt (fA hb)) (fun hm=>c.own b hm (fA hb))]
    exact hF.own b o hb
  have q:Fits F k:=by
   refine ⟨⟨w',l,n⟩,fun b hb hm=>?_,fun a d hm=>?_⟩
   .rcases hu.own b hb with x|x
    .exact c.own b x hm
    .have:=hF.lt hm;omega
   .rcases hu.own _ hm with x|x
    .exact c.ro a d x
    .have:=hF.ij d;omega
  refine ⟨g',w',es,k.star F,hgo,⟨hu.os,hu.tape,hu.output,hu.size,fun b hb hn=>hu.frame b hb fun hm=>hn ?_,fun a d=>?_,fun b hb=>?_⟩,q.both l n,fun e he=>?_,A q⟩
  .simp only[af.star,cu,List.mem_append];exact .inl hm
  .rcases jF d with x|x
   .exact (gE (.inl x)).imp id (fun y=>.inl (by simp only[af.star,cu,List.mem_append];exact .inr y))
   .rcases hu.ro a x with y|y|y
    .exact (gE (.inr y)).imp id (fun z=>.inl (by simp only[af.star,cu,List.mem_append];exact .inr z))
    .exact .inr (.inl (by simp only[af.star,cu,List.mem_append];exact .inl y))
    .exact .inr (.inr y)
  .simp only[af.star,cu,List.mem_append] at hb ⊢
   rcases hb with hb|hb
   .exact (hu.own b hb).imp .inl id
   .exact .inl (.inr hb)
  .have s:∀b,gr G w.heap.size w'.heap.size b->gr (G.star F) w.heap.size w'.heap.size b:=fun b hb=>hb.imp (fun x=>by simp only[af.star,cu,List.mem_append];exact .inl x) id
   rcases u e he with ⟨a,wr,rfl,f|⟨C,f⟩⟩|⟨r,wr,rfl,f⟩|⟨m,rfl,hm⟩
   .exact .inl ⟨a,wr,rfl,.inl (s _ f)⟩
   .rcases gE (F:=F) (.inr f) with y|y
    .exact .inl ⟨a,wr,rfl,.inr ⟨C,y⟩⟩
    .exact .inl ⟨a,wr,rfl,.inl (.inl (by simp only[af.star,cu,List.mem_append];exact .inr y))⟩
   .exact .inr (.inl ⟨r,wr,rfl,s _ f⟩)
   .exact .inr (.inr ⟨m,rfl,hm⟩)
theorem D9 {P:Program}{f:FuncId}{args:Array Value}{F:af}{R:Value->List (Nat×Obj)->Prop}(h:aE P f args F.dQ (fun v G=>R v G.own)):
  aE P f args F (fun v G=>∃l,R v l/\G={ro:=F.ro,own:=l++F.own}):=by
 intro main J hJ c cs hK
 by_cases hw:∃w,Has F w
 .obtain ⟨k,i⟩:=hw
  have j:Fits F F.dQ:=⟨⟨k,i.dQ,i⟩,fun b hb=>(by cases hb),fun a e hm=>(by cases hm)⟩
  have m:zq J F (G (Frame.enter P f args .normal) (c::cs)) F.dQ:=by
   refine h main _ (D8 hJ F) c cs fun v G hR p=>?_
   have g:∀(a:Addr) (v:Value),F.ro a=some v->(G.star F).ro a=some v:=fun a v d=>by simp[af.star,d]
   refine hJ.mono (F:={ro:=F.ro,own:=G.own++F.own}) ⟨fun w hw=>⟨fun a v d=>hw.ro a v (g a v d),hw.own,hw.nodup,fun a v d=>hw.apart a v (g a v d)⟩,fun b hb=>hb,fun a e=>?_⟩ (hK v {ro:=F.ro,own:=G.own++F.own} ⟨G.own,hR,rfl⟩)
   obtain ⟨n,o⟩:=Option.isSome_iff_exists.1 e
   exact .inl (by rw[g a n o];rfl)
  refine hJ.mono ⟨fun w hw=>j.both hw.dQ hw,fun b hb=>?_,fun a e=>?_⟩ (m j)
  .simpa [af.star,af.dQ] using hb
  .rcases jF e with x|x
   .exact .inl x
   .obtain ⟨v,hv⟩:=Option.isSome_iff_exists.1 x
    exact (yZ hv).symm
 .exact hJ.step fun w hF=>absurd ⟨w,hF⟩ hw
theorem uL {P:Program}{f:FuncId}{args:Array Value}{F:af}{R:Value->Prop}(h:aE P f args F.dQ (fun v _=>R v)):aE P f args F (fun v G=>R v/\G=F):=by
 intro main J hJ c cs hK;refine D9 (R:=fun v _=>R v) h main J hJ c cs fun v G d=>?_;obtain ⟨l,hR,rfl⟩:=d;refine hJ.mono (F:=F) ⟨fun w hw=>⟨hw.ro,fun b o hb=>hw.own b o (List.mem_append_right _ hb),?_,fun a v e hm=>hw.apart a v e ?_⟩,fun b hb=>?_,fun a g=>.inl g⟩ (hK v F ⟨hR,rfl⟩)
 .have:=hw.nodup;simp only[cu] at this;exact (List.nodup_append.1 this).2.1
 .simp only[cu,List.mem_append];exact .inr hm
 .simp only[cu,List.mem_append];exact .inr hb
end Go.Sep
end
section
namespace Go.Sep
inductive Rk:Type 1
 |mk (ι:Type) (f:ι->Rk)
namespace Rk
def kids:Rk->Rk->Prop
 | .mk ι f,r=>∃i,r=f i
theorem wf:WellFounded (fun a b:Rk=>kids b a):=⟨fun r=>by
 induction r with
 |mk ι f ih=>exact ⟨_,fun b h=>by obtain ⟨i,rfl⟩:=h;exact ih i⟩⟩
def nat:Nat->Rk
 |0=>.mk Empty fun x=>x.elim
 |n+1=>.mk Unit fun _=>nat n
theorem uM (n:Nat):kids (nat (n+1)) (nat n):=⟨(),rfl⟩
end Rk
def pU (n:Nat)(ρ' ρ:Nat->Rk):Prop:=∃i,i<n/\(ρ i).kids (ρ' i)/\∀j,j≠i->ρ' j=ρ j
theorem zu:∀n,WellFounded (pU n)
 |0=>⟨fun ρ=>⟨_,fun _ ⟨i,hi,_⟩=>absurd hi (Nat.not_lt_zero i)⟩⟩
 |n+1=>by
  refine ⟨fun ρ=>?_⟩
  have key:∀(a:Rk) (ρ:Nat->Rk),ρ n=a->Acc (pU (n+1)) ρ:=by
   intro a
   induction Rk.wf.apply a with
   |intro a _ f=>
    intro ρ
    induction (zu n).apply ρ with
    |intro ρ _ g=>
     intro b
     refine ⟨_,fun ρ' ⟨i,hi,c,d⟩=>?_⟩
     by_cases h:i=n
     .subst h
      exact f (ρ' i) (by rw[<-b];exact c) ρ' rfl
     .refine g ρ' ⟨i,aa,c,d⟩ ?_
      rw[d n (fun e=>h e.symm)];exact b
  exact key _ ρ rfl
def zv (n:Nat)(x' x:(Nat->Rk)×Nat):Prop:=pU n x'.1 x.1\/(x'.1=x.1/\x'.2<x.2)
theorem zw (n:Nat):WellFounded (zv n):=by
 refine ⟨fun ⟨ρ,m⟩=>?_⟩
 induction (zu n).apply ρ generalizing m with
 |intro ρ _ b=>
  induction m using Nat.strongRecOn with
  |_ m c=>
   refine ⟨_,fun ⟨ρ',a⟩ h=>?_⟩;rcases h with h|⟨rfl,h⟩
   .exact b ρ' h a
   .exact c a h
end Go.Sep
end

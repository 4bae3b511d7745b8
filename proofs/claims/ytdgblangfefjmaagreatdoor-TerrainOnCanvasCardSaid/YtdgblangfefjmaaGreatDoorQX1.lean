/- A part of the proof: QX1. -/
import Derived.Attr
import Derived.KernelRfl
import Derived.Conc.Own
import Derived.Conc.Events
import Derived.Conc.Beside
import Derived.Conc.Listed
import Derived.Orders
import Derived.Conc.MuSpec
set_option linter.all false
section
namespace Go
theorem aa {Q:Prop}(e:Q:=by omega):Q:=e
theorem ai {Q:Prop}(e:Q:=by kernel_rfl):Q:=e
theorem aO {Q:Prop}(e:Q:=by decide):Q:=e
theorem av {Q:Prop}(e:Q:=by simp):Q:=e
theorem aI {Q:Prop}(e:Q:=by simp only[*,go_sem]):Q:=e
theorem ax {Q:Prop}(e:Q:=by simp only[*,go_sem,-hM,-hJ]):Q:=e
theorem cC {Q:Prop}(e:Q:=by first|(simp only[*,go_sem,-hK,-hM,-hJ];done)|rfl):Q:=e
theorem ee {Q:Prop}(e:Q:=by first|(simp only[*,go_sem,-hK,-hM,-hJ];done)|(simp only[*,go_sem,-hK,-hM,-hJ];rfl)):Q:=e
theorem er {Q:Prop}(e:Q:=by simp only[*,go_sem,-hK,-hM,-hJ]):Q:=e
theorem cL {Q:Prop}(e:Q:=by simp only[*,go_sem,-h]):Q:=e
theorem cY {Q:Prop}(e:Q:=by simp (maxSteps:=9^9) only[*,go_sem]):Q:=e
theorem ag {Q P:Prop}(h:P)(e:Q=P:=by conv=>lhs;simp only[*,go_sem]):Q:=e▸h
theorem bu {Q P:Prop}(h:P)(e:Q=P:=by conv=>lhs;simp only[*,go_sem,-h]):Q:=e▸h
theorem bA {Q P:Prop}(h:P)(e:Q=P:=by conv=>lhs;simp (maxSteps:=9^9) only[*,go_sem]):Q:=e▸h
theorem bX {Q P:Prop}(h:P)(e:Q=P:=by conv=>lhs;simp only[*,go_sem,-hK,-hM,-hJ]):Q:=e▸h
end Go
end
section
namespace Go.Sep
open Go Go.Conc
theorem bn {α:Type}:(∀l:List α,l++[]=l)/\(∀(a:α) l m,(a::l)++m=a::(l++m))/\(∀l:List α,[]++l=l)/\(∀l m n:List α,l++m++n=l++(m++n)):=⟨List.append_nil,fun _ _ _=>rfl,fun _=>rfl,List.append_assoc⟩
structure af where
 ro:Addr->Option Value
 own:List (Nat×Obj)
def keys (l:List (Nat×Obj)):List Nat:=l.map (·.1)
def cellOf:Obj->Nat->Option Value
 | .cells c _ _,off=>c[off]?
 |_,_=>none
def lk:List (Nat×Obj)->Nat->Option Obj
 |[],_=>none
 |(c,o)::l,b=>if c=b then some o else lk l b
def iQ:List (Nat×Obj)->Nat->Obj->List (Nat×Obj)
 |[],_,_=>[]
 |(c,o)::l,b,x=>if c=b then (c,x)::l else (c,o)::iQ l b x
theorem gS:∀{l:List (Nat×Obj)} {b:Nat} {o:Obj},lk l b=some o->(b,o)∈l
 |[],_,_,h=>by cases h
 |(c,x)::l,b,o,h=>by
  unfold lk at h
  split at h
  .rename_i e;cases h;exact e▸List.mem_cons_self
  .exact List.mem_cons_of_mem _ (gS h)
theorem qb:∀(l:List (Nat×Obj)) (b:Nat) (x:Obj),keys (iQ l b x)=keys l
 |[],_,_=>rfl
 |(c,o)::l,b,x=>by
  unfold iQ
  split
  .rfl
  .simp only[keys,List.map_cons];exact congrArg _ (qb l b x)
theorem x6:∀{l:List (Nat×Obj)} {b:Nat} {x:Obj},(keys l).Nodup->∀{c:Nat} {y:Obj},(c,y)∈iQ l b x->(c=b/\y=x)\/(c≠b/\(c,y)∈l)
 |[],_,_,_,_,_,h=>by cases h
 |(d,o)::l,b,x,a,c,y,h=>by
  simp only[keys,List.map_cons,List.nodup_cons] at a
  unfold iQ at h
  split at h
  .rename_i e
   rcases List.mem_cons.1 h with h|h
   .cases h;exact .inl ⟨e,rfl⟩
   .refine .inr ⟨fun f=>a.1 ?_,List.mem_cons_of_mem _ h⟩
    rw[e,<-f]
    exact List.mem_map.2 ⟨_,h,rfl⟩
  .rename_i e
   rcases List.mem_cons.1 h with h|h
   .cases h;exact .inr ⟨e,List.mem_cons_self⟩
   .exact (x6 a.2 h).imp id (fun z=>⟨z.1,List.mem_cons_of_mem _ z.2⟩)
def af.get (F:af)(a:Addr):Option Value:=
 match F.ro a with
 |some v=>some v
 |none=>if a.spot=none then (lk F.own a.block).bind (cellOf · a.off) else none
structure Has (F:af)(w:World):Prop where
 ro:∀a v,F.ro a=some v->w.cell? a=some v
 own:∀b o,(b,o)∈F.own->w.heap[b]?=some o
 nodup:(keys F.own).Nodup
 apart:∀a v,F.ro a=some v->a.block∉keys F.own
theorem Has.reads {F:af}{w:World}(h:Has F w){a:Addr}{v:Value}(r:F.get a=some v):w.cell? a=some v:=by
 unfold af.get at r;split at r
 .rename_i x c;cases r;exact h.ro _ _ c
 .split at r
  .rename_i hs;obtain ⟨o,d,b⟩:=Option.bind_eq_some_iff.1 r;have:=h.own _ _ (gS d);cases o<;>simp[cellOf] at b;simp[World.cell?,this,hs,b]
  .cases r
theorem x7 {F:af}{a:Addr}{v:Value}(r:F.get a=some v):a.block∈keys F.own\/(F.ro a).isSome=true:=by
 unfold af.get at r;split at r
 .rename_i x b;exact .inr (by simp[b])
 .split at r
  .obtain ⟨o,c,_⟩:=Option.bind_eq_some_iff.1 r;exact .inl (List.mem_map.2 ⟨_,gS c,rfl⟩)
  .cases r
structure ey (F F':af)(w w':World):Prop where
 os:w'.os=w.os
 tape:w'.tape=w.tape
 output:w'.output=w.output
 size:w.heap.size<=w'.heap.size
 frame:∀b,b<w.heap.size->b∉keys F.own->w'.heap[b]?=w.heap[b]?
 ro:∀a,(F'.ro a).isSome=true->(F.ro a).isSome=true\/a.block∈keys F.own\/w.heap.size<=a.block
 own:∀b,b∈keys F'.own->b∈keys F.own\/w.heap.size<=b
theorem ey.refl (F:af)(w:World):ey F F w w:=⟨rfl,rfl,rfl,Nat.le_refl _,fun _ _ _=>rfl,fun _ h=>.inl h,fun _ h=>.inl h⟩
theorem ey.trans {F G H:af}{u v w:World}(h:ey F G u v)(k:ey G H v w):ey F H u w where
 os:=k.os.trans h.os
 tape:=k.tape.trans h.tape
 output:=k.output.trans h.output
 size:=Nat.le_trans h.size k.size
 frame b hb c:=by
  rw[k.frame b (Nat.lt_of_lt_of_le hb h.size) (fun d=>(h.own b d).elim c (fun e=>absurd hb aa))]
  exact h.frame b hb c
 ro a x:=by
  rcases k.ro a x with y|y|y
  .exact h.ro a y
  .exact .inr (h.own _ y)
  .exact .inr (.inr (Nat.le_trans h.size y))
 own b hb:=by
  rcases k.own b hb with x|x
  .exact h.own b x
  .exact .inr (Nat.le_trans h.size x)
def om:Mark->Bool
 | .extern _| .noRoom=>true
 |_=>false
def iR (ro:Addr->Option Value)(ks:Nat->Prop)(e:Event):Prop:=
 (∃a wr,e=⟨.cell a,wr,false⟩/\(ks a.block\/(wr=false/\(ro a).isSome=true)))\/
 (∃r wr,e=⟨.obj r,wr,false⟩/\ks r)\/
 (∃m,e=⟨.mark m,false,true⟩/\om m=true)
theorem iR.mono {ro aT:Addr->Option Value}{ks c:Nat->Prop}{e:Event}(h:iR ro ks e)(f:∀a,(ro a).isSome=true->(aT a).isSome=true)(d:∀b,ks b->c b):iR aT c e:=by
 rcases h with ⟨a,wr,rfl,h⟩|⟨r,wr,rfl,h⟩|⟨m,rfl,hm⟩
 .exact .inl ⟨a,wr,rfl,h.imp (d _) (fun ⟨x,y⟩=>⟨x,f _ y⟩)⟩
 .exact .inr (.inl ⟨r,wr,rfl,d _ h⟩)
 .exact .inr (.inr ⟨m,rfl,hm⟩)
def gT (F:af)(n m:Nat)(b:Nat):Prop:=b∈keys F.own\/(n<=b/\b<m)
theorem fe {l:List (Nat×Obj)}{b:Nat}{o:Obj}(h:(b,o)∈l):b∈keys l:=List.mem_map.2 ⟨_,h,rfl⟩
theorem Has.lt {F:af}{w:World}(h:Has F w){b:Nat}(hb:b∈keys F.own):b<w.heap.size:=by
 obtain ⟨⟨c,o⟩,hm,rfl⟩:=List.mem_map.1 hb;have:=h.own c o hm;rcases Nat.lt_or_ge c w.heap.size with x|x
 .exact x
 .simp[Array.getElem?_eq_none x] at this
theorem Has.gU {F:af}{w:World}(h:Has F w){a:Addr}(b:(F.ro a).isSome=true):a.block<w.heap.size:=by
 obtain ⟨v,c⟩:=Option.isSome_iff_exists.1 b;have:=h.ro a v c;unfold World.cell? at this;rcases Nat.lt_or_ge a.block w.heap.size with x|x
 .exact x
 .simp[Array.getElem?_eq_none x] at this
def af.push (F:af)(b:Nat)(o:Obj):af:={F with own:=(b,o)::F.own}
def af.put (F:af)(b:Nat)(o:Obj):af:={F with own:=iQ F.own b o}
def shapeOf:Obj->Option (TypeId×Nat)
 | .cells c elem _=>some (elem,c.size)
 |_=>none
def frozenAt:Obj->Nat->Bool
 | .cells _ _ (a,b),off=>a<=off&&off<b
 |_,_=>false
def Obj.oo:Obj->Bool
 | .cells ..=>true
 |_=>false
def bN:Value->Bool
 | .agg _| .tuple _=>false
 |_=>true
def af.lG (F:af)(a:Addr)(v:Value):Option af:=
 match lk F.own a.block with
 |some (.cells c t fr)=>if bN v=true/\a.spot=none/\a.off<c.size/\frozenAt (.cells c t fr) a.off=false then some (F.put a.block (.cells (c.setIfInBounds a.off v) t fr)) else none
 |_=>none
def af.fy (F:af)(r:Nat):Option Obj:=
 match lk F.own r with
 |some o=>if Obj.oo o=false/\o.isChan=false then some o else none
 |none=>none
def au:List (Nat×Obj)->Nat->Prop
 |[],_=>True
 |(c,_)::l,b=>¬b=c/\au l b
theorem x8:∀{l:List (Nat×Obj)} {b:Nat},(∀x∈keys l,¬b=x)->au l b
 |[],_,_=>trivial
 |(c,_)::l,b,h=>⟨h c (by simp[keys]),x8 fun x a=>h x (by simp only[keys,List.map_cons,List.mem_cons];exact .inr a)⟩
structure ez (F:af)(b:Nat):Prop where
 ro:∀off sp,F.ro ⟨b,off,sp⟩=none
 own:au F.own b
def bp {α:Type}(P:Program):Sem α->(α->af->Prop)->af->Prop
 | .pure a,Q,F=>Q a F
 | .load m a k,Q,F=>m= .plain/\∃v,F.get a=some v/\bp P (k v) Q F
 | .store m a v k,Q,F=>m= .plain/\∃F',F.lG a v=some F'/\bp P k Q F'
 | .new o k,Q,F=>o.isChan=false/\∀b,ez F b->bp P (k b) Q (F.push b o)
 | .shape r k,Q,F=>match lk F.own r with
  |some o=>bp P (k (shapeOf o)) Q F
  |none=>∀s,bp P (k s) Q F
 | .freeze _ _ _,_,_=>False
 | .frozen a k,Q,F=>match lk F.own a.block with
  |some o=>bp P (k (frozenAt o a.off)) Q F
  |none=>∀s,bp P (k s) Q F
 | .getObj r k,Q,F=>∃o,F.fy r=some o/\bp P (k o) Q F
 | .setObj r o k,Q,F=>o.isChan=false/\(F.fy r).isSome=true/\bp P k Q (F.put r o)
 | .choose q k,Q,F=>if q.forced then bp P (k 0) Q F else ∀t,bp P (k (q.cut t)) Q F
 | .sys _ _,_,_=>False
 | .program k,Q,F=>bp P (k P) Q F
 | .mark m k,Q,F=>om m=true/\bp P k Q F
 | .halt _,_,_=>False
theorem gW {α:Type}{P:Program}{Q f:α->af->Prop}(h:∀a F,Q a F->f a F):∀(s:Sem α) (F:af),bp P s Q F->bp P s f F:=by
 intro s
 induction s with
 |pure a=>exact fun F x=>h _ _ x
 |load m a k ih=>exact fun F ⟨x,v,y,z⟩=>⟨x,v,y,ih _ _ z⟩
 |store m a v k ih=>exact fun F ⟨x,F',y,z⟩=>⟨x,F',y,ih _ z⟩
 |new o k ih=>exact fun F x=>⟨x.1,fun b hb=>ih _ _ (x.2 b hb)⟩
 |shape r k ih=>intro F x;unfold bp at x ⊢;split<;>rename_i d<;>rw[d] at x;exact ih _ _ x;exact fun s=>ih _ _ (x s)
 |freeze a n k ih=>exact fun F x=>x
 |frozen a k ih=>intro F x;unfold bp at x ⊢;split<;>rename_i d<;>rw[d] at x;exact ih _ _ x;exact fun s=>ih _ _ (x s)
 |getObj r k ih=>exact fun F ⟨o,x,z⟩=>⟨o,x,ih _ _ z⟩
 |setObj r o k ih=>exact fun F ⟨x,y,z⟩=>⟨x,y,ih _ z⟩
 |choose q k ih=>
  intro F x;unfold bp at x ⊢;split
  .rename_i e;rw[if_pos e] at x;exact ih _ _ x
  .rename_i e;rw[if_neg e] at x;exact fun t=>ih _ _ (x t)
 |sys c k ih=>exact fun F x=>x
 |program k ih=>exact fun F x=>ih _ _ x
 |mark m k ih=>exact fun F ⟨x,y⟩=>⟨x,ih _ y⟩
 |halt h=>exact fun F x=>x
theorem x9 {α β:Type}{P:Program}{Q:β->af->Prop}{f:α->Sem β}:∀(s:Sem α) (F:af),bp P (s.bind f) Q F↔bp P s (fun a G=>bp P (f a) Q G) F:=by
 intro s
 induction s with
 |pure a=>exact fun F=>Iff.rfl
 |load m a k ih=>intro F;simp only[Sem.bind,bp,ih]
 |store m a v k ih=>intro F;simp only[Sem.bind,bp,ih]
 |new o k ih=>intro F;simp only[Sem.bind,bp,ih]
 |shape r k ih=>intro F;simp only[Sem.bind,bp,ih]
 |freeze a n k ih=>intro F;simp only[Sem.bind,bp]
 |frozen a k ih=>intro F;simp only[Sem.bind,bp,ih]
 |getObj r k ih=>intro F;simp only[Sem.bind,bp,ih]
 |setObj r o k ih=>intro F;simp only[Sem.bind,bp,ih]
 |choose q k ih=>intro F;simp only[Sem.bind,bp,ih]
 |sys c k ih=>intro F;simp only[Sem.bind,bp]
 |program k ih=>intro F;simp only[Sem.bind,bp,ih]
 |mark m k ih=>intro F;simp only[Sem.bind,bp,ih]
 |halt h=>intro F;simp only[Sem.bind,bp]
theorem Has.push {F:af}{w:World}(h:Has F w)(o:Obj):Has (F.push w.heap.size o) {w with heap:=w.heap.push o}:=by
 have f:∀b o,(b,o)∈F.own->b<w.heap.size:=fun b o hb=>by
  have:=h.own b o hb;rcases Nat.lt_or_ge b w.heap.size with x|x
  .exact x
  .simp[Array.getElem?_eq_none x] at this
 have i:w.heap.size∉keys F.own:=fun hm=>by
  obtain ⟨⟨b,x⟩,j,e⟩:=List.mem_map.1 hm;have:=f b x j;simp at e;omega
 refine ⟨fun a v d=>?_,fun b x hb=>?_,?_,fun a v d hm=>?_⟩
 .have:=h.ro a v d;unfold World.cell? at this ⊢;split at this
  .rename_i c t fr g;have k:a.block<w.heap.size:=by
    rcases Nat.lt_or_ge a.block w.heap.size with x|x
    .exact x
    .simp[Array.getElem?_eq_none x] at g
   rw[show (w.heap.push o)[a.block]?=w.heap[a.block]? from by rw[Array.getElem?_push,if_neg aa],g];exact this
  .cases this
 .simp only[af.push,List.mem_cons] at hb;rcases hb with hb|hb
  .cases hb;simp
  .have:=f b x hb;show (w.heap.push o)[b]?=some x;rw[Array.getElem?_push,if_neg aa];exact h.own b x hb
 .simp only[af.push,keys,List.map_cons,List.nodup_cons];exact ⟨i,h.nodup⟩
 .simp only[af.push,keys,List.map_cons,List.mem_cons] at hm;rcases hm with hm|hm
  .have:=h.ro a v d;unfold World.cell? at this;rw[hm] at this;simp at this
  .exact h.apart a v d hm
theorem Has.fresh {F:af}{w:World}(h:Has F w):ez F w.heap.size:=by
 refine ⟨fun off sp=>?_,x8 fun x b e=>?_⟩
 .cases c:F.ro ⟨w.heap.size,off,sp⟩ with
  |none=>rfl
  |some v=>have:=h.gU (a:=⟨w.heap.size,off,sp⟩) (by simp[c]);simp at this
 .have:=h.lt b;omega
theorem Has.set {F:af}{w w':World}(h:Has F w){b:Nat}{o:Obj}(hm:b∈keys F.own)(hb:w'.heap[b]?=some o)(g:∀c,c≠b->w'.heap[c]?=w.heap[c]?):Has (F.put b o) w':=by
 refine ⟨fun a v d=>?_,fun c y i=>?_,?_,fun a v d=>?_⟩
 .have f:a.block≠b:=fun e=>h.apart a v d (e▸hm);have:=h.ro a v d;unfold World.cell? at this ⊢;rw[g _ f];exact this
 .rcases x6 h.nodup i with ⟨rfl,rfl⟩|⟨f,hm⟩
  .exact hb
  .rw[g _ f];exact h.own _ _ hm
 .simp only[af.put,qb];exact h.nodup
 .simp only[af.put,qb];exact h.apart a v d
theorem ey.put {F:af}{w w':World}{b:Nat}{o:Obj}(hm:b∈keys F.own)(a:w'.os=w.os)(ht:w'.tape=w.tape)(d:w'.output=w.output)(hs:w'.heap.size=w.heap.size)(f:∀c,c≠b->w'.heap[c]?=w.heap[c]?):ey F (F.put b o) w w' where
 os:=a
 tape:=ht
 output:=d
 size:=aa
 frame c _ g:=f c (fun e=>g (e▸hm))
 ro _ h:=.inl h
 own c i:=.inl (by simpa [af.put,qb] using i)
theorem ey.push {F:af}{w:World}(o:Obj):ey F (F.push w.heap.size o) w {w with heap:=w.heap.push o} where
 os:=rfl
 tape:=rfl
 output:=rfl
 size:=av
 frame b hb _:=by show (w.heap.push o)[b]?=_;rw[Array.getElem?_push,if_neg aa]
 ro _ h:=.inl h
 own c a:=by
  simp only[af.push,keys,List.map_cons,List.mem_cons] at a
  rcases a with rfl|a
  .exact .inr (Nat.le_refl _)
  .exact .inl a
structure lH {α:Type}(P:Program)(s:Sem α)(Q:α->af->Prop)(F:af)(w:World)(dg:Array Event)(a:α)(w':World)(F':af)(es:Array Event):Prop where
 run:s.runT P w dg=(.ok a w',dg++es)
 upd:ey F F' w w'
 has:Has F' w'
 ie:∀e∈es,iR F.ro (gT F w.heap.size w'.heap.size) e
 post:Q a F'
theorem lH.cons {α:Type}{P:Program}{s s':Sem α}{Q:α->af->Prop}{F c F':af}{w w1 w':World}{dg es:Array Event}{e:Event}{a:α}
  (h:lH P s' Q c w1 (dg.push e) a w' F' es) (g:s.runT P w dg=s'.runT P w1 (dg.push e)) (hu:ey F c w w1) (hb:Has c w1) (he:iR F.ro (· ∈keys F.own) e) (i:c.ro=F.ro):lH P s Q F w dg a w' F' (#[e]++es) where
 run:=by rw[g,h.run];simp
 upd:=hu.trans h.upd
 has:=h.has
 ie x d:=by
  simp only[Array.mem_append,List.mem_toArray,List.mem_singleton] at d
  rcases d with rfl|d
  .exact he.mono (fun _ h=>h) (fun _ h=>.inl h)
  .exact (h.ie x d).mono (fun a j=>by rw[<-i];exact j) (fun b f=>by
    rcases f with f|⟨k,l⟩
    .exact (hu.own b f).imp id (fun y=>⟨y,Nat.lt_of_lt_of_le (hb.lt f) h.upd.size⟩)
    .exact .inr ⟨Nat.le_trans hu.size k,l⟩)
 post:=h.post
theorem lH.skip {α:Type}{P:Program}{s s':Sem α}{Q:α->af->Prop}{F c F':af}{w w1 w':World}{dg es:Array Event}{a:α}
  (h:lH P s' Q c w1 dg a w' F' es) (e:s.runT P w dg=s'.runT P w1 dg) (hu:ey F c w w1) (hb:Has c w1) (f:c.ro=F.ro):lH P s Q F w dg a w' F' es where
 run:=by rw[e,h.run]
 upd:=hu.trans h.upd
 has:=h.has
 ie x g:=(h.ie x g).mono (fun a i=>by rw[<-f];exact i) (fun b d=>by
    rcases d with d|⟨j,k⟩
    .exact (hu.own b d).imp id (fun y=>⟨y,Nat.lt_of_lt_of_le (hb.lt d) h.upd.size⟩)
    .exact .inr ⟨Nat.le_trans hu.size j,k⟩)
 post:=h.post
theorem Has.drawn {F:af}{w:World}(h:Has F w)(n:Nat):Has F {w with drawn:=n}:=⟨h.ro,h.own,h.nodup,h.apart⟩
theorem ey.drawn (F:af)(w:World)(n:Nat):ey F F w {w with drawn:=n}:=⟨rfl,rfl,rfl,Nat.le_refl _,fun _ _ _=>rfl,fun _ h=>.inl h,fun _ h=>.inl h⟩
theorem kG {α:Type}{P:Program}{Q:α->af->Prop}:∀(s:Sem α) (F:af) (w:World) (dg:Array Event),bp P s Q F->Has F w->
  ∃a w' F' es,lH P s Q F w dg a w' F' es:=by
 intro s
 induction s with
 |pure a=>exact fun F w dg h hw=>⟨a,w,F,#[],by simp[Sem.runT],.refl _ _,hw,av,h⟩
 |load m a k ih=>
  rintro F w dg ⟨rfl,v,D,h⟩ hw
  obtain ⟨x,w',F',es,H⟩:=ih v F w (dg.push ⟨.cell a,false,false⟩) h hw
  refine ⟨x,w',F',_,H.cons ?_ (.refl _ _) hw (.inl ⟨a,false,rfl,(x7 D).imp id fun y=>⟨rfl,y⟩⟩) rfl⟩
  have:=hw.reads D
  simp only[Sem.runT,this]
  rfl
 |store m a v k ih=>
  rintro F w dg ⟨rfl,M,l,h⟩ hw
  unfold af.lG at l
  split at l
  case h_2=>cases l
  rename_i c t fr p
  split at l
  case isFalse=>cases l
  rename_i j
  obtain ⟨G,E,I,J⟩:=j
  cases l
  have d:=gS p
  have hb:=hw.own _ _ d
  have A:(w.setCell a v).heap[a.block]?=some (.cells (c.setIfInBounds a.off v) t fr):=by
   simp[World.setCell,Array.getElem?_modify,hb,E]
  have g:∀b,b≠a.block->(w.setCell a v).heap[b]?=w.heap[b]?:=by
   intro b g
   simp only[World.setCell]
   rw[Array.getElem?_modify,if_neg (fun e=>g e.symm)]
  have u:=hw.set (o:=.cells (c.setIfInBounds a.off v) t fr) (fe d) A g
  obtain ⟨x,w',F',es,H⟩:=ih _ (w.setCell a v) (dg.push ⟨.cell a,true,false⟩) h u
  refine ⟨x,w',F',_,H.cons ?_ (ey.put (fe d) rfl rfl rfl (by simp[World.setCell]) g) u (.inl ⟨a,true,rfl,.inl (fe d)⟩) rfl⟩
  have j:w.cell? a=some c[a.off]:=by simp[World.cell?,hb,E,I]
  have K:w.frozen? a=false:=by
   have:w.frozen? a=frozenAt (.cells c t fr) a.off:=by
    obtain ⟨N,O⟩:=fr
    simp[World.frozen?,hb,frozenAt]
   rw[this,J]
  cases v<;>simp[bN] at G<;>simp only[Sem.runT,j,K]<;>rfl
 |new o k ih=>
  intro F w dg h hw
  obtain ⟨x,w',F',es,H⟩:=ih w.heap.size (F.push w.heap.size o) {w with heap:=w.heap.push o} dg (h.2 _ hw.fresh) (hw.push o)
  exact ⟨x,w',F',es,H.skip (by simp only[Sem.runT]) (ey.push o) (hw.push o) rfl⟩
 |shape r k ih=>
  intro F w dg h hw
  have:bp P (k (w.shape? r)) Q F:=by
   unfold bp at h
   split at h
   .rename_i o f
    have e:w.shape? r=shapeOf o:=by
     have:=hw.own _ _ (gS f)
     cases o<;>simp[World.shape?,this,shapeOf]
    rw[e];exact h
   .exact h _
  obtain ⟨x,w',F',es,H⟩:=ih _ F w dg this hw
  exact ⟨x,w',F',es,H.skip (by simp only[Sem.runT]) (.refl _ _) hw rfl⟩
 |freeze a n k ih=>exact fun F w dg h hw=>h.elim
 |frozen a k ih=>
  intro F w dg h hw
  have:bp P (k (w.frozen? a)) Q F:=by
   unfold bp at h
   split at h
   .rename_i o f
    have e:w.frozen? a=frozenAt o a.off:=by
     have:=hw.own _ _ (gS f)
     cases o<;>simp[World.frozen?,this,frozenAt]
    rw[e];exact h
   .exact h _
  obtain ⟨x,w',F',es,H⟩:=ih _ F w dg this hw
  exact ⟨x,w',F',es,H.skip (by simp only[Sem.runT]) (.refl _ _) hw rfl⟩
 |getObj r k ih=>
  rintro F w dg ⟨o,f,h⟩ hw
  unfold af.fy at f
  split at f
  case h_2=>cases f
  rename_i o' p
  split at f
  case isFalse=>cases f
  rename_i B
  cases f
  obtain ⟨x,w',F',es,H⟩:=ih _ F w (dg.push ⟨.obj r,false,false⟩) h hw
  refine ⟨x,w',F',_,H.cons ?_ (.refl _ _) hw (.inr (.inl ⟨r,false,rfl,fe (gS p)⟩)) rfl⟩
  have:=hw.own _ _ (gS p)
  obtain ⟨j,C⟩:=B
  cases o<;>simp[Obj.oo] at j<;>simp only[Sem.runT,this,C]<;>rfl
 |setObj r o k ih=>
  rintro F w dg ⟨C,i,h⟩ hw
  obtain ⟨x,i⟩:=Option.isSome_iff_exists.1 i
  unfold af.fy at i
  split at i
  case h_2=>cases i
  rename_i R p
  split at i
  case isFalse=>cases i
  rename_i B
  cases i
  have d:=gS p
  have hb:=hw.own _ _ d
  have L:r<w.heap.size:=hw.lt (fe d)
  have A:({w with heap:=w.heap.setIfInBounds r o}:World).heap[r]?=some o:=by simp[L]
  have g:∀b,b≠r->({w with heap:=w.heap.setIfInBounds r o}:World).heap[b]?=w.heap[b]?:=fun b g=>by
   simp[Array.getElem?_setIfInBounds,Ne.symm g]
  have u:=hw.set (w':={w with heap:=w.heap.setIfInBounds r o}) (o:=o) (fe d) A g
  obtain ⟨y,w',F',es,H⟩:=ih (F.put r o) {w with heap:=w.heap.setIfInBounds r o} (dg.push ⟨.obj r,true,false⟩) h u
  refine ⟨y,w',F',_,H.cons ?_ (ey.put (fe d) rfl rfl rfl av g) u (.inr (.inl ⟨r,true,rfl,fe d⟩)) rfl⟩
  obtain ⟨j,_⟩:=B
  cases x<;>simp[Obj.oo] at j<;>simp only[Sem.runT,hb,C]
 |choose q k ih=>
  intro F w dg h hw
  unfold bp at h
  by_cases z:q.forced=true
  .rw[if_pos z] at h
   obtain ⟨x,w',F',es,H⟩:=ih _ F w dg h hw
   exact ⟨x,w',F',es,H.skip (by simp only[Sem.runT,z,if_true]) (.refl _ _) hw rfl⟩
  .rw[if_neg z] at h
   obtain ⟨x,w',F',es,H⟩:=ih (q.cut (w.tape w.drawn q)) F {w with drawn:=w.drawn+1} dg (h _) (hw.drawn _)
   exact ⟨x,w',F',es,H.skip (by simp only[Sem.runT,if_neg z]) (.drawn _ _ _) (hw.drawn _) rfl⟩
 |sys c k ih=>exact fun F w dg h hw=>h.elim
 |program k ih=>
  intro F w dg h hw
  obtain ⟨x,w',F',es,H⟩:=ih P F w dg h hw
  exact ⟨x,w',F',es,H.skip (by simp only[Sem.runT]) (.refl _ _) hw rfl⟩
 |mark m k ih=>
  rintro F w dg ⟨hm,h⟩ hw
  obtain ⟨x,w',F',es,H⟩:=ih F w (dg.push ⟨.mark m,false,true⟩) h hw
  exact ⟨x,w',F',_,H.cons (by simp only[Sem.runT]) (.refl _ _) hw (.inr (.inr ⟨m,rfl,hm⟩)) rfl⟩
 |halt h=>exact fun F w dg h hw=>h.elim
def on (b:Frame)(a:Act)(todo:List Item):Frame:={b with tmps:=a.tmps,todo:=todo,defers:=a.defers,mode:=.run}
structure Le (F F':af):Prop where
 has:∀w,Has F' w->Has F w
 own:∀b,b∈keys F.own->b∈keys F'.own
 ro:∀a,(F.ro a).isSome=true->(F'.ro a).isSome=true\/a.block∈keys F'.own
theorem Le.refl (F:af):Le F F:=⟨fun _ h=>h,fun _ h=>h,fun _ h=>.inl h⟩
theorem Le.trans {F G H:af}(h:Le F G)(k:Le G H):Le F H:=
 ⟨fun w x=>h.has w (k.has w x),fun b x=>k.own b (h.own b x),fun a x=>(h.ro a x).elim (k.ro a) (fun y=>.inr (k.own _ y))⟩
def B4 (P:Program)(main:Bool)(J:Goroutine->af->Prop)(g:Goroutine)(F:af)(w:World):Prop:=
 ∃g' w' es F',stepG P main g w= .go g' w' es/\ey F F' w w'/\Has F' w'/\(∀e∈es,iR F.ro (gT F w.heap.size w'.heap.size) e)/\J g' F'
structure Closed (P:Program)(main:Bool)(J:Goroutine->af->Prop):Prop where
 mono:∀{g F F'},Le F F'->J g F->J g F'
 step:∀{fr cs F},(∀w,Has F w->B4 P main J (G fr cs) F w)->J (G fr cs) F
def c8 (P:Program)(J:Goroutine->af->Prop)(f:FuncId)(args:Array Value)(F:af)(R:Value->af->Prop):Prop:=
 ∀(c:Frame) (cs:List Frame),(∀v F',R v F'->J (G (c.finish v) cs) F')->J (G (Frame.enter P f args .normal) (c::cs)) F
def aA (P:Program)(f:FuncId)(args:Array Value)(F:af)(R:Value->af->Prop):Prop:=
 ∀(main:Bool) (J:Goroutine->af->Prop),Closed P main J->c8 P J f args F R
section
variable {P:Program}{main:Bool}{J:Goroutine->af->Prop}
theorem c8.mono {f:FuncId}{args:Array Value}{F:af}{R a:Value->af->Prop}(h:c8 P J f args F R)(b:∀v F',R v F'->a v F'):c8 P J f args F a:=
 fun c cs k=>h c cs fun v F' r=>k v F' (b v F' r)
theorem aA.mono {f:FuncId}{args:Array Value}{F:af}{R a:Value->af->Prop}(h:aA P f args F R)(b:∀v F',R v F'->a v F'):aA P f args F a:=
 fun m J hJ=>(h m J hJ).mono b
theorem Closed.move (hJ:Closed P main J){fr fr':Frame}{cs cs':List Frame}{F:af}(hs:∀w,stepG P main (G fr cs) w= .go (G fr' cs') w #[])(h:J (G fr' cs') F):J (G fr cs) F:=
 hJ.step fun w hw=>⟨_,w,#[],F,hs w,.refl _ _,hw,av,h⟩
variable {b:Frame}{a:Act}{k:List Item}{cs:List Frame}{F:af}
theorem ya {w:World}:stepG P main (G (on b a (.code .skip::k)) cs) w= .go (G (on b a k) cs) w #[]:=by simp[G,stepG,stepG.exec,on]
theorem B5 {l:Nat}{w:World}:stepG P main (G (on b a (.code (.label l)::k)) cs) w= .go (G (on b a k) cs) w #[]:=by simp[G,stepG,stepG.exec,on]
theorem yb {id:Nat}{w:World}:stepG P main (G (on b a (.inBlock id::k)) cs) w= .go (G (on b a k) cs) w #[]:=by simp[G,stepG,stepG.exec,on]
theorem B6 {c:Code}{w:World}:stepG P main (G (on b a (.inScope c::k)) cs) w= .go (G (on b a k) cs) w #[]:=by simp[G,stepG,stepG.exec,on]
theorem yc {x y:Code}{w:World}:stepG P main (G (on b a (.code (.seq x y)::k)) cs) w= .go (G (on b a (.code x:: .code y::k)) cs) w #[]:=by simp[G,stepG,stepG.exec,on]
theorem s7 (b:Frame)(a:Act)(todo:List Item)(x:Operand):(on b a todo).eval x=a.eval x:=by cases x<;>rfl
theorem yd {c:Operand}{x y:Code}{t:Bool}{w:World}(h:a.eval c= .bool t):stepG P main (G (on b a (.code (.cond c x y)::k)) cs) w= .go (G (on b a (.code (if t then x else y)::k)) cs) w #[]:=by
 have d:(on b a (.code (.cond c x y)::k)).eval c= .bool t:=by rw[s7];exact h
 simp only[on] at d;simp[G,stepG,stepG.exec,on,d]
theorem ye {id:Nat}{c:Code}{w:World}:stepG P main (G (on b a (.code (.block id c)::k)) cs) w= .go (G (on b a (.code c:: .inBlock id::k)) cs) w #[]:=by simp[G,stepG,stepG.exec,on]
theorem yf {c:Code}{w:World}:stepG P main (G (on b a (.code (.loop c)::k)) cs) w= .go (G (on b a (.code c:: .inLoop c::k)) cs) w #[]:=by simp[G,stepG,stepG.exec,on]
theorem yg {c:Code}{w:World}:stepG P main (G (on b a (.inLoop c::k)) cs) w= .go (G (on b a (.code c:: .inLoop c::k)) cs) w #[]:=by simp[G,stepG,stepG.exec,on]
theorem B7 {c:Code}{w:World}:stepG P main (G (on b a (.code (.scope c)::k)) cs) w= .go (G (on b a (.code c:: .inScope c::k)) cs) w #[]:=by simp[G,stepG,stepG.exec,on]
theorem yh {id:Nat}{c:List Item}{w:World}(h:exitTo id k=some c):stepG P main (G (on b a (.code (.exit id)::k)) cs) w= .go (G (on b a c) cs) w #[]:=by simp[G,stepG,stepG.exec,on,h]
theorem yj {id:Nat}{ops:Array Oper}{w:World}:stepG P main (G (on b a (.code (.region id ops false)::k)) cs) w= .go (G (on b a (.inRegion ops (List.range ops.size)::k)) cs) w #[]:=by simp[G,stepG,stepG.exec,on]
theorem yl {id:Nat}{ops:Array Oper}{w:World}:stepG P main (G (on b a (.code (.region id ops true)::k)) cs) w=
  .go (G (on b a (.inRegion ops (Region.schedule (P.follows .mixedOrders) ops (w.tape w.drawn (.order b.fn id)))::k)) cs) {w with drawn:=w.drawn+1} #[]:=by
 simp[G,stepG,stepG.exec,on,choose,Sem.run,Question.forced,Question.cut]
theorem ym {ops:Array Oper}{w:World}:stepG P main (G (on b a (.inRegion ops []::k)) cs) w= .go (G (on b a k) cs) w #[]:=by simp[G,stepG,stepG.exec,on]
theorem stepG_ret' {w:World}(c:b.roundOf=none):stepG P main (G (on b a (.code .ret::k)) cs) w= .go (G {on b a (.code .ret::k) with mode:=.returning} cs) w #[]:=by simp[G,stepG,stepG.exec,on,c]
theorem lI {w:World}(c:b.roundOf=none):stepG P main (G (on b a []) cs) w= .go (G {on b a [] with mode:=.returning} cs) w #[]:=by simp[G,stepG,stepG.exec,on,c]
theorem s8 (b:Frame)(a:Act)(ops:Array Oper)(i:Nat)(rest:List Nat)(k:List Item)(v:Value):
  (on b a (.inRegion ops (i::rest)::k)).finish v=on b (a.put ((ops[i]?).bind (·.dst)) v) (.inRegion ops rest::k):=by
 cases h:(ops[i]?).bind (·.dst)<;>simp[Frame.finish,on,Act.put,h]
theorem s9 {ops:Array Oper}{i:Nat}{rest:List Nat}{w:World}(h:((ops[i]?).map (Region.wanted · (yielded ops a.tmps))).getD false=false):
  stepG P main (G (on b a (.inRegion ops (i::rest)::k)) cs) w= .go (G (on b (a.put ((ops[i]?).bind (·.dst)) undef) (.inRegion ops rest::k)) cs) w #[]:=by
 rw[<-s8]
 have c:=h
 simp only[on] at*
 simp[G,stepG,stepG.exec,c]
theorem B8 {ops:Array Oper}{i:Nat}{rest:List Nat}{o:Oper}{w:World}(d:b.roundOf=none\/∀c,o.op≠ .defer c)(e:ops[i]?=some o)(hw:Region.wanted o (yielded ops a.tmps)=true):
  stepG P main (G (on b a (.inRegion ops (i::rest)::k)) cs) w=stepG.apply P true (on b a (.inRegion ops (i::rest)::k)) cs none (execOp a.eval o) w:=by
 have he:(on b a (.inRegion ops (i::rest)::k)).eval=a.eval:=funext (s7 b a _)
 simp only[on] at he
 rcases d with d|d
 .rw[d] at he
  simp[G,stepG,stepG.exec,stepG.oper,Frame.oper?,on,e,hw,he,d]
 .have:∀l,(match (some l:Option Nat),o.op with
   |some l,.defer c=>stepG.apply P true (on b a (.inRegion ops (i::rest)::k)) cs none (do Instr.deferInRound l (<-resolve (on b a (.inRegion ops (i::rest)::k)).eval c o.type);pure .skip) w
   |_,_=>stepG.apply P true (on b a (.inRegion ops (i::rest)::k)) cs none (execOp a.eval o) w)=stepG.apply P true (on b a (.inRegion ops (i::rest)::k)) cs none (execOp a.eval o) w:=by
   intro l
   cases f:o.op<;>first|rfl|exact absurd f (d _)
  cases hb:b.roundOf with
  |none=>
   rw[hb] at he
   simp[G,stepG,stepG.exec,stepG.oper,Frame.oper?,on,e,hw,he,hb]
  |some l=>
   have t:=this l
   simp only[on,he] at t
   simp only[hb] at t
   simp[G,stepG,stepG.exec,stepG.oper,Frame.oper?,on,e,hw,he,hb]
   exact t
def jq (J:Goroutine->af->Prop)(l:Nat)(f:FuncId)(tmps:Array Value)(assign body:Code)(F:af)(R:Value->af->Prop):Prop:=
 ∀(c:Frame) (cs:List Frame),(∀v F',R v F'->J (G (c.finish v) cs) F')->J (G (Frame.round l f tmps assign body .normal) (c::cs)) F
theorem jq.mono {l:Nat}{f:FuncId}{tmps:Array Value}{assign body:Code}{F:af}{R a:Value->af->Prop}(h:jq J l f tmps assign body F R)(b:∀v F',R v F'->a v F'):jq J l f tmps assign body F a:=
 fun c cs k=>h c cs fun v F' r=>k v F' (b v F' r)
def fO (P:Program)(J:Goroutine->af->Prop)(R:Value->af->Prop)(D:Deferred->af->Prop):Next->af->Prop
 | .value v,F=>R v F
 | .skip,F=>R undef F
 | .defer d,F=>D d F
 | .enter f args,F=>c8 P J f args F R
 | .round l f tmps assign body,F=>jq J l f tmps assign body F R
 |_,_=>False
theorem yo {R b:Value->af->Prop}{D c:Deferred->af->Prop}(a:∀v F,R v F->b v F)(e:∀d F,D d F->c d F):∀n F,fO P J R D n F->fO P J b c n F
 | .value v,F,h=>a _ _ h
 | .skip,F,h=>a _ _ h
 | .defer d,F,h=>e _ _ h
 | .enter f args,F,h=>c8.mono h a
 | .round l f tmps assign body,F,h=>jq.mono h a
 | .stack ..,_,h| .callThen ..,_,h| .row ..,_,h| .comm ..,_,h| .spawn ..,_,h| .recover,_,h| .numGoroutine,_,h| .collect,_,h| .watch ..,_,h| .newcoro ..,_,h| .coroswitch ..,_,h| .sleep ..,_,h| .timer ..,_,h| .alone ..,_,h=>h.elim
def jR (P:Program)(J:Goroutine->af->Prop)(R:Value->af->Prop)(D:Deferred->af->Prop)(n:Next)(F:af):Prop:=fO P J (fun v F=>∃F0,Le F0 F/\R v F0) D n F
theorem B9 {R:Value->af->Prop}{D:Deferred->af->Prop}:∀n F,fO P J R D n F->jR P J R D n F:=yo (fun _ F h=>⟨F,Le.refl F,h⟩) (fun _ _ h=>h)
theorem oq {R a:Value->af->Prop}{D b:Deferred->af->Prop}(c:∀v F,R v F->a v F)(e:∀d F,D d F->b d F):∀n F,jR P J R D n F->jR P J a b n F:=
 yo (fun _ _ ⟨F0,hle,h⟩=>⟨F0,hle,c _ _ h⟩) e
def yp (P:Program)(J:Goroutine->af->Prop)(o:Oper)(K:Act->af->Prop)(a:Act)(F:af):Prop:=
 bp P (execOp a.eval o) (jR P J (fun v F'=>K (a.put o.dst v) F') (fun d F'=>K ({a with defers:=d::a.defers}.put o.dst undef) F')) F
def ef (P:Program)(J:Goroutine->af->Prop)(ops:Array Oper)(i:Nat)(K:Act->af->Prop)(a:Act)(F:af):Prop:=
 match ops[i]? with
 |none=>K a F
 |some o=>if Region.wanted o (yielded ops a.tmps) then yp P J o K a F else K (a.put o.dst undef) F
def fY (P:Program)(J:Goroutine->af->Prop)(ops:Array Oper)(K:Act->af->Prop):List Nat->Act->af->Prop
 |[],a,F=>K a F
 |i::rest,a,F=>ef P J ops i (fY P J ops K rest) a F
structure tc (ops:Array Oper)(b:Frame):Prop where
 kind:b.kind≠ .early
 round:b.roundOf=none\/∀o∈ops,∀c,o.op≠ .defer c
theorem yq (hJ:Closed P main J){ops:Array Oper}{i:Nat}{rest:List Nat}{K:Act->af->Prop}(hb:tc ops b)(h:ef P J ops i K a F)
  (hK:∀s F',K s F'->J (G (on b s (.inRegion ops rest::k)) cs) F'):J (G (on b a (.inRegion ops (i::rest)::k)) cs) F:=by
 unfold ef at h
 cases g:ops[i]? with
 |none=>
  rw[g] at h
  refine hJ.move (fun w=>s9 (by simp[g])) ?_
  simp only[g,Option.bind_none,Act.put]
  exact hK _ _ h
 |some o=>
  rw[g] at h
  simp only at h
  by_cases hw:Region.wanted o (yielded ops a.tmps)=true
  .rw[if_pos hw] at h
   refine hJ.step fun w u=>?_
   obtain ⟨n,w',F',es,H⟩:=kG _ F w #[] h u
   have t:=H.run
   rw[Array.empty_append] at t
   have y:b.roundOf=none\/∀c,o.op≠ .defer c:=hb.round.imp id fun x=>x o (Array.mem_of_getElem? g)
   have j:=B8 (P:=P) (main:=main) (b:=b) (a:=a) (k:=k) (cs:=cs) (w:=w) (rest:=rest) y g hw
   have z:((on b a (.inRegion ops (i::rest)::k)).kind==CallKind.early)=false:=by simpa [on] using hb.kind
   have r:∀v,(on b a (.inRegion ops (i::rest)::k)).finish v=on b (a.put o.dst v) (.inRegion ops rest::k):=by
    intro v;rw[s8,g];rfl
   have q:∀e∈seen P (on b a (.inRegion ops (i::rest)::k)).fn es,iR F.ro (gT F w.heap.size w'.heap.size) e:=fun e he=>H.ie e (mem_seen he)
   have m:=H.post
   unfold stepG.apply at j
   simp only[if_true,t,z,Bool.false_eq_true,if_false] at j
   cases n<;>simp only[jR,fO] at m
   case value v=>
    simp only[r,GStep.after,Array.append_empty] at j
    obtain ⟨F0,hle,m⟩:=m
    exact ⟨_,w',_,F',j,H.upd,H.has,q,hJ.mono hle (hK _ _ m)⟩
   case skip=>
    simp only[r,GStep.after,Array.append_empty] at j
    obtain ⟨F0,hle,m⟩:=m
    exact ⟨_,w',_,F',j,H.upd,H.has,q,hJ.mono hle (hK _ _ m)⟩
   case defer d=>
    have A:({on b a (.inRegion ops (i::rest)::k) with defers:=d::(on b a (.inRegion ops (i::rest)::k)).defers}:Frame).finish undef=
      on b ({a with defers:=d::a.defers}.put o.dst undef) (.inRegion ops rest::k):=by
     have:=s8 b {a with defers:=d::a.defers} ops i rest k undef
     rw[g] at this;exact this
    simp only[A,GStep.after,Array.append_empty] at j
    exact ⟨_,w',_,F',j,H.upd,H.has,q,hK _ _ m⟩
   case round l f tmps cI bd=>
    refine ⟨_,w',_,F',j,H.upd,H.has,?_,m _ _ fun v B p=>by obtain ⟨F0,hle,p⟩:=p;rw[r];exact hJ.mono hle (hK _ _ p)⟩
    simpa [GStep.after] using q
   case enter f args=>
    refine ⟨_,w',_,F',j,H.upd,H.has,?_,m _ _ fun v B p=>by obtain ⟨F0,hle,p⟩:=p;rw[r];exact hJ.mono hle (hK _ _ p)⟩
    simpa [GStep.after] using q
  .rw[if_neg hw] at h
   refine hJ.move (fun w=>s9 (by simp[g];simpa using hw)) ?_
   simp only[g,Option.bind_some]
   exact hK _ _ h
theorem ot {ops:Array Oper}{i:Nat}{K e:Act->af->Prop}{a:Act}{F:af}(h:∀a F,K a F->e a F)(b:ef P J ops i K a F):ef P J ops i e a F:=by
 unfold ef at*;split
 .rename_i c;rw[c] at b;exact h _ _ b
 .rename_i o c;rw[c] at b;simp only at b;split
  .rename_i hw;rw[if_pos hw] at b;exact gW (oq (fun v F=>h _ _) (fun d F=>h _ _)) _ _ b
  .rename_i hw;rw[if_neg hw] at b;exact h _ _ b
theorem qc (hJ:Closed P main J){ops:Array Oper}{K:Act->af->Prop}(hb:tc ops b)(hK:∀c F',K c F'->J (G (on b c k) cs) F'):
  ∀(l:List Nat) (a:Act) (F:af),fY P J ops K l a F->J (G (on b a (.inRegion ops l::k)) cs) F
 |[],a,F,h=>hJ.move (fun _=>ym) (hK _ _ h)
 |i::rest,a,F,h=>yq hJ hb h fun c F' d=>qc hJ hb hK rest c F' d
section draw
variable {ops:Array Oper}{Q:Act->af->Prop}{S:af->Prop}
def eu (P:Program)(J:Goroutine->af->Prop)(ops:Array Oper)(Q:Act->af->Prop)(S:af->Prop):Nat->Array Bool->Act->af->Prop
 |0,listed,a,F=>Region.ready .any ops listed=[]/\Q a F
 |fuel+1,listed,a,F=>(Region.ready .any ops listed=[]->Q a F)/\
  ∀i∈Region.ready .any ops listed,ef P J ops i (fun b F'=>S F'/\eu P J ops Q S fuel (listed.setIfInBounds i true) b F') a F
theorem Ca:∀(fuel t:Nat) (listed:Array Bool) (a:Act) (F:af),eu P J ops Q S fuel listed a F->
  fY P J ops Q (Region.linearise.go .any ops fuel t listed []) a F:=by
 intro fuel
 induction fuel with
 |zero=>intro t listed a F h;simpa [Region.linearise.go,fY] using h.2
 |succ fuel ih=>
  intro t listed a F h
  obtain ⟨c,d⟩:=h
  simp only[Region.linearise.go]
  change fY P J ops Q (match (Region.ready .any ops listed)[t % (Region.ready .any ops listed).length]? with
   |some i=>Region.linearise.go .any ops fuel (t/(Region.ready .any ops listed).length) (listed.setIfInBounds i true) [i]
   |none=>[].reverse) a F
  cases b:(Region.ready .any ops listed)[t % (Region.ready .any ops listed).length]? with
  |none=>
   have e:Region.ready .any ops listed=[]:=by
    cases f:Region.ready .any ops listed with
    |nil=>rfl
    |cons x xs=>
     rw[f] at b
     have g:t % (x::xs).length<(x::xs).length:=Nat.mod_lt _ av
     simp at b
     simp at g
     omega
   simpa [fY] using c e
  |some i=>
   simp only[]
   rw[linearise_go_acc,List.reverse_singleton,List.singleton_append]
   exact ot (fun a F h=>ih _ _ a F h.2) (d i (List.mem_of_getElem? b))
def fP (P:Program)(J:Goroutine->af->Prop)(ops:Array Oper)(S:af->Prop)(o:Oper)(v:Value)(a:Act):Prop:=
 (Region.wanted o (yielded ops a.tmps)=true/\∀F (R:Value->af->Prop),S F->R v F->bp P (execOp a.eval o) (jR P J R (fun _ _=>False)) F)\/
 (Region.wanted o (yielded ops a.tmps)=false/\v=undef)
theorem fP.mN {i:Nat}{o:Oper}{v:Value}{a:Act}{F:af}(b:ops[i]?=some o)(c:fP P J ops S o v a)
  {K:Act->af->Prop} (d:S F) (h:K (a.put o.dst v) F):ef P J ops i K a F:=by
 unfold ef
 simp only[b]
 rcases c with ⟨hw,e⟩|⟨hw,rfl⟩
 .rw[if_pos hw]
  exact gW (oq (fun _ _ x=>x) (fun _ _ x=>x.elim)) _ _ (e F (fun v F'=>K (a.put o.dst v) F') d h)
 .rw[if_neg (by simp[hw])];exact h
theorem fP.of_same {o:Oper}{v:Value}{a b:Act}(c:fP P J ops S o v a)(he:execOp b.eval o=execOp a.eval o)
  (hw:Region.wanted o (yielded ops b.tmps)=Region.wanted o (yielded ops a.tmps)):fP P J ops S o v b:=by
 unfold fP at*
 rw[he,hw]
 exact c
theorem td {j:Nat}{c e:Oper}{v:Value}(m:ops[j]?=some e)(n:c.apart ops e=true)
  (o:∀cs b,c.op≠ .select cs b) (p:∀cs b,e.op≠ .select cs b) {K:Act->af->Prop} {a:Act} {F:af}
  (f:fP P J ops S c v a) (h:ef P J ops j K (a.put c.dst v) F):
  ef P J ops j (fun i F'=>fP P J ops S c v i/\K (i.put c.dst v) F') a F:=by
 obtain ⟨k,g,l⟩:=Oper.apart_spec n
 have keep:∀(a:Act),fP P J ops S c v a->∀u,fP P J ops S c v (a.put e.dst u):=fun a f u=>
  f.of_same (execOp_put c o a e.dst u l) (wanted_put c a e.dst u l)
 have q:∀d,fP P J ops S c v {a with defers:=d::a.defers}:=fun d=>f.of_same rfl rfl
 unfold ef at*
 simp only[m] at*
 rw[wanted_put e a c.dst v k] at h
 split
 .rename_i hw
  rw[if_pos hw] at h
  unfold yp at*
  rw[execOp_put e p a c.dst v k] at h
  refine gW (oq (fun u F' x=>⟨keep a f u,?_⟩) (fun d F' x=>⟨keep _ (q d) _,?_⟩)) _ _ h
  .rw[<-Act.put_comm a v u g];exact x
  .rw[<-Act.put_comm _ v undef g,<-Act.put_defers];exact x
 .rename_i hw
  rw[if_neg hw] at h
  exact ⟨keep a f _,by rw[<-Act.put_comm a v undef g];exact h⟩
theorem Cb {i:Nat}{l:Oper}{v:Value}(r:ops[i]?=some l)(u:∀(j:Nat) (o:Oper) cs b,ops[j]?=some o->o.op≠ .select cs b):
  ∀(fuel:Nat) (listed:Array Bool) (a:Act) (F:af),
   (∀j d,ops[j]?=some d->j≠i->listed.getD j true=false->(∀e∈d.after,Region.binds .any e=true->e.on≠i)->l.apart ops d=true)->
   i∈Region.ready .any ops listed->fP P J ops S l v a->S F->
   eu P J ops Q S fuel (listed.setIfInBounds i true) (a.put l.dst v) F->eu P J ops Q S (fuel+1) listed a F:=by
 intro fuel
 induction fuel with
 |zero=>
  intro listed a F _ f n m H
  refine ⟨fun h=>(by rw[h] at f;cases f),fun j p=>?_⟩
  by_cases c:j=i
  .subst c;exact n.mN r m ⟨m,H⟩
  .have:=ready_mono p c
   rw[H.1] at this
   cases this
 |succ fuel ih=>
  intro listed a F w f n m H
  refine ⟨fun h=>(by rw[h] at f;cases f),fun j p=>?_⟩
  by_cases c:j=i
  .subst c;exact n.mN r m ⟨m,H⟩
  .have g:=H.2 j (ready_mono p c)
   obtain ⟨x,d,s,B⟩:=mem_ready.1 p
   have C:∀e∈d.after,Region.binds .any e=true->e.on≠i:=fun e he hb heq=>by
    have g:=B e he hb
    have y:=(mem_ready.1 f).1
    rw[heq] at g
    rcases Nat.lt_or_ge i listed.size with t|t
    .simp[t] at y g;rw[y] at g;cases g
    .simp[Array.getElem?_eq_none t] at g
   have D:=td s (w j d s c x C) (fun cs b=>u i l cs b r) (fun cs b=>u j d cs b s) n g
   have E:∀k ok,ops[k]?=some ok->k≠i->(listed.setIfInBounds j true).getD k true=false->
     (∀e∈ok.after,Region.binds .any e=true->e.on≠i)->l.apart ops ok=true:=fun k ok G I z K=>by
    refine w k ok G I ?_ K
    by_cases A:j=k
    .subst A;exact x
    .rw[getD_set_ne true A] at z;exact z
   refine ot (fun L F' q=>⟨q.2.1,ih (listed.setIfInBounds j true) L F' E (ready_mono f (Ne.symm c)) q.1 q.2.1 ?_⟩) D
   rw[Array.setIfInBounds_comm _ _ c]
   exact q.2.2
theorem yt (i:Nat){c:Oper}(v:Value){fuel:Nat}{listed:Array Bool}{a:Act}{F:af}(d:ops[i]?=some c)
  (b:(Region.noSelect ops&&Region.free .any ops listed i&&(Region.ready .any ops listed).contains i)=true)
  (e:fP P J ops S c v a) (f:S F)
  (h:eu P J ops Q S fuel (listed.setIfInBounds i true) (a.put c.dst v) F):eu P J ops Q S (fuel+1) listed a F:=by
 simp only[Bool.and_eq_true] at b
 exact Cb d (Region.noSelect_spec b.1.1) fuel listed a F (Region.free_spec d b.1.2) (by simpa using b.2) e f h
theorem Cc {rs:List Nat}{fuel:Nat}{listed:Array Bool}{a:Act}{F:af}(b:Region.ready .any ops listed=rs)(c:rs≠[])
  (h:∀i∈rs,ef P J ops i (fun d F'=>S F'/\eu P J ops Q S fuel (listed.setIfInBounds i true) d F') a F):eu P J ops Q S (fuel+1) listed a F:=
 ⟨fun e=>absurd (b▸e) c,b▸h⟩
theorem Cd (i:Nat){fuel:Nat}{listed:Array Bool}{a:Act}{F:af}(b:Region.ready .any ops listed=[i])
  (h:ef P J ops i (fun c F'=>S F'/\eu P J ops Q S fuel (listed.setIfInBounds i true) c F') a F):eu P J ops Q S (fuel+1) listed a F:=
 Cc b av (by simpa using h)
theorem yu {listed:Array Bool}{a:Act}{F:af}(b:Region.ready .any ops listed=[])(h:Q a F):∀fuel,eu P J ops Q S fuel listed a F
 |0=>⟨b,h⟩
 |_+1=>⟨fun _=>h,by rw[b];simp⟩
end draw
end
inductive Ex where
 |normal
 |exit (id:Nat)
 |ret
 deriving DecidableEq
def fQ:Code->Bool
 | .region _ ops _=>ops.all fun o=>match o.op with| .defer _=>false|_=>true
 | .seq a b=>fQ a&&fQ b
 | .cond _ a b=>fQ a&&fQ b
 | .block _ c=>fQ c
 | .loop c=>fQ c
 | .scope c=>fQ c
 | .rangeFunc ..=>false
 |_=>true
structure yw (c:Code)(b:Frame):Prop where
 kind:b.kind≠ .early
 round:b.roundOf=none\/fQ c=true
section
variable {P:Program}{main:Bool}{J:Goroutine->af->Prop}
def yx (J:Goroutine->af->Prop)(b:Frame)(k:List Item)(cs:List Frame):Ex->Act->af->Prop
 | .normal,a,F=>J (G (on b a k) cs) F
 | .exit id,a,F=>∀c,exitTo id c=exitTo id k->J (G (on b a (.code (.exit id)::c)) cs) F
 | .ret,a,F=>∀c,J (G (on b a (.code .ret::c)) cs) F
def Wp (J:Goroutine->af->Prop)(c:Code)(Q:Ex->Act->af->Prop)(a:Act)(F:af):Prop:=
 ∀(b:Frame) (k:List Item) (cs:List Frame),yw c b->(∀e d F',Q e d F'->yx J b k cs e d F')->J (G (on b a (.code c::k)) cs) F
theorem Wp.mono {c:Code}{Q d:Ex->Act->af->Prop}{a:Act}{F:af}(h:Wp J c Q a F)(f:∀e a F,Q e a F->d e a F):Wp J c d a F:=
 fun b k cs hb g=>h b k cs hb fun e i F' x=>g e i F' (f _ _ _ x)
theorem Wp.le {hJ:Closed P main J}{c:Code}{Q:Ex->Act->af->Prop}{a:Act}{F F':af}(h:Wp J c Q a F)(hle:Le F F'):Wp J c Q a F':=
 fun b k cs hb d=>hJ.mono hle (h b k cs hb d)
variable {Q:Ex->Act->af->Prop}{a:Act}{F:af}
theorem aK (hJ:Closed P main J)(h:Q .normal a F):Wp J .skip Q a F:=fun b k cs _ c=>hJ.move (fun _=>ya) (c _ _ _ h)
theorem Ce (hJ:Closed P main J){l:Nat}(h:Q .normal a F):Wp J (.label l) Q a F:=fun b k cs _ c=>hJ.move (fun _=>B5) (c _ _ _ h)
theorem bT {id:Nat}(h:Q (.exit id) a F):Wp J (.exit id) Q a F:=fun b k cs _ c=>c _ _ _ h k rfl
theorem aJ (h:Q .ret a F):Wp J .ret Q a F:=fun b k cs _ c=>c _ _ _ h k
def qd (J:Goroutine->af->Prop)(y:Code)(Q:Ex->Act->af->Prop):Ex->Act->af->Prop
 | .normal,a,F=>Wp J y Q a F
 |e,a,F=>Q e a F
theorem ah (hJ:Closed P main J){x y:Code}(h:Wp J x (qd J y Q) a F):Wp J (.seq x y) Q a F:=fun b k cs hb c=>by
 refine hJ.move (fun _=>yc) (h b (.code y::k) cs ⟨hb.kind,hb.round.imp id fun z=>?_⟩ fun e i F' d=>?_)
 .simp only[fQ,Bool.and_eq_true] at z;exact z.1
 .cases e with
  |normal=>exact d b k cs ⟨hb.kind,hb.round.imp id fun z=>by simp only[fQ,Bool.and_eq_true] at z;exact z.2⟩ c
  |exit id=>exact fun f g=>c _ _ _ d f (by rw[g];rfl)
  |ret=>exact c _ _ _ d
theorem tf (hJ:Closed P main J){c:Operand}{x y:Code}(t:Bool)(d:a.eval c= .bool t)(h:Wp J (if t then x else y) Q a F):Wp J (.cond c x y) Q a F:=fun b k cs hb e=>by
 refine hJ.move (fun _=>yd d) (h b k cs ⟨hb.kind,hb.round.imp id fun z=>?_⟩ e)
 simp only[fQ,Bool.and_eq_true] at z
 cases t
 .exact z.2
 .exact z.1
def tg (id:Nat)(Q:Ex->Act->af->Prop):Ex->Act->af->Prop
 | .normal,a,F=>Q .normal a F
 | .exit i,a,F=>if i=id then Q .normal a F else Q (.exit i) a F
 | .ret,a,F=>Q .ret a F
theorem aW (hJ:Closed P main J){id:Nat}{c:Code}(h:Wp J c (tg id Q) a F):Wp J (.block id c) Q a F:=fun b k cs hb f=>by
 refine hJ.move (fun _=>ye) (h b (.inBlock id::k) cs ⟨hb.kind,hb.round⟩ fun e m F' d=>?_)
 cases e with
 |normal=>exact hJ.move (fun _=>yb) (f _ _ _ d)
 |exit i=>
  intro j l
  simp only[tg] at d
  by_cases g:i=id
  .rw[if_pos g] at d
   subst g
   have:exitTo i j=some k:=by rw[l];simp[exitTo]
   exact hJ.move (fun _=>yh this) (f _ _ _ d)
  .rw[if_neg g] at d
   refine f _ _ _ d j ?_
   rw[l]
   simp[exitTo,Ne.symm g]
 |ret=>exact f _ _ _ d
theorem Cf (hJ:Closed P main J){c:Code}(h:Wp J c Q a F):Wp J (.scope c) Q a F:=fun b k cs hb d=>by
 refine hJ.move (fun _=>B7) (h b (.inScope c::k) cs ⟨hb.kind,hb.round⟩ fun e l F' f=>?_)
 cases e with
 |normal=>exact hJ.move (fun _=>B6) (d _ _ _ f)
 |exit i=>exact fun g j=>d _ _ _ f g (by rw[j];rfl)
 |ret=>exact d _ _ _ f
def qf (I:Nat->Act->af->Prop)(n:Nat)(Q:Ex->Act->af->Prop):Ex->Act->af->Prop
 | .normal,a,F=>∃m,m<n/\I m a F
 |e,a,F=>Q e a F
theorem yy (hJ:Closed P main J){c:Code}(I:Nat->Act->af->Prop)(n:Nat)(g:I n a F)(hs:∀n a F,I n a F->Wp J c (qf I n Q) a F):Wp J (.loop c) Q a F:=by
 intro b k cs hb f;have key:∀n a F,I n a F->J (G (on b a (.code c:: .inLoop c::k)) cs) F:=by
  intro n
  induction n using Nat.strongRecOn with
  |_ n ih=>
   intro a F h;refine hs n a F h b (.inLoop c::k) cs ⟨hb.kind,hb.round⟩ fun e j F' d=>?_;cases e with
   |normal=>
    obtain ⟨m,hm,l⟩:=d;exact hJ.move (fun _=>yg) (ih m hm j F' l)
   |exit i=>exact fun o p=>f _ _ _ d o (by rw[p];rfl)
   |ret=>exact f _ _ _ d
 exact hJ.move (fun _=>yf) (key n a F g)
theorem th {id:Nat}{ops:Array Oper}{d:Bool}{b:Frame}(hb:yw (.region id ops d) b):tc ops b:=
 ⟨hb.kind,hb.round.imp a fun z o e c f=>by
  simp only[fQ] at z
  have:=(Array.all_eq_true_iff_forall_mem.1 z) o e
  rw[f] at this
  cases this⟩
where a {p:Prop} (h:p):p:=h
theorem Cg (hJ:Closed P main J){id:Nat}{ops:Array Oper}(h:fY P J ops (Q .normal) (List.range ops.size) a F):Wp J (.region id ops false) Q a F:=fun b k cs hb c=>
 hJ.move (fun _=>yj) (qc hJ (th hb) (fun d F' e=>c .normal d F' e) _ _ _ h)
theorem tj (hJ:Closed P main J)(S:af->Prop)(hm:P.follows .mixedOrders=true){id:Nat}{ops:Array Oper}(h:eu P J ops (Q .normal) S ops.size (Array.replicate ops.size false) a F):Wp J (.region id ops true) Q a F:=fun b k cs hb c=>
 hJ.step fun w hw=>by
  refine ⟨_,_,_,F,yl,.drawn _ _ _,hw.drawn _,av,?_⟩
  refine qc (K:=Q .normal) hJ (th hb) (fun d F' e=>c .normal d F' e) _ _ _ ?_
  simp only[Region.schedule,hm,Bool.true_or,if_true]
  exact Ca ops.size _ _ a F h
def ig (P:Program):List Deferred->(af->Prop)->af->Prop
 |[],K,F=>K F
 |d::a,K,F=>∃r,d.target= .collected r/\bp P (Instr.takeDeferred r) (fun calls F'=>calls=[]/\ig P a K F') F
def qg (P:Program)(fn:Func)(R:Value->af->Prop):Ex->Act->af->Prop
 | .exit _,_,_=>False
 |_,a,F=>ig P a.defers (fun F=>bp P (results fn a.tmps) R F) F
theorem tn (hJ:Closed P main J){f:FuncId}{fn:Func}(m:P.funcs[f]?=some fn){R:Value->af->Prop}{c:Frame}{cs:List Frame}(n:∀v F',R v F'->J (G (c.finish v) cs) F')(tmps:Array Value):
  ∀(a:List Deferred) (fr:Frame) (F:af),fr.fn=f->fr.kind= .normal->fr.mode= .returning->fr.defers=a->fr.tmps=tmps->ig P a (fun F=>bp P (results fn tmps) R F) F->J (G fr (c::cs)) F
 |[],fr,F,i,j,g,k,l,h=>by
  refine hJ.step fun w hw=>?_
  obtain ⟨v,w',F',es,H⟩:=kG _ F w #[] h hw
  have b:=H.run
  rw[Array.empty_append] at b
  refine ⟨G (c.finish v) cs,w',seen P fr.fn es,F',?_,H.upd,H.has,fun e he=>H.ie e (mem_seen he),n v F' H.post⟩
  simp only[G,stepG,unwind,g,k,l,i,m,b]
  simp[doReturn,j,GStep.after]
 |d::a,fr,F,i,j,g,k,l,h=>by
  obtain ⟨r,o,p⟩:=h
  refine hJ.step fun w hw=>?_
  obtain ⟨v,w',F',es,H⟩:=kG _ F w #[] p hw
  have b:=H.run
  rw[Array.empty_append] at b
  obtain ⟨q,s⟩:=H.post
  subst q
  obtain ⟨t,args⟩:=d
  simp only at o
  subst o
  refine ⟨G {fr with defers:=a} (c::cs),w',seen P fr.fn es,F',?_,H.upd,H.has,fun e he=>H.ie e (mem_seen he),?_⟩
  .simp only[G,stepG,unwind,g,k,b]
   simp[GStep.after]
  .exact tn hJ m n tmps a {fr with defers:=a} F' i j g rfl l s
theorem c8.of_wp (hJ:Closed P main J){f:FuncId}{fn:Func}{c:Code}{args:Array Value}{R:Value->af->Prop}(d:P.funcs[f]?=some fn)(hb:fn.body=some c)
  (h:Wp J c (qg P fn R) {tmps:=args++Array.replicate (fn.ntmps - args.size) undef,defers:=[]} F):c8 P J f args F R:=by
 intro k cs j
 let b:Frame:={(default:Frame) with fn:=f,kind:=.normal}
 have l:Frame.enter P f args .normal=on b {tmps:=args++Array.replicate (fn.ntmps - args.size) undef,defers:=[]} [.code c]:=by
  simp[Frame.enter,on,d,hb,b]
  rfl
 rw[l]
 refine h b [] (k::cs) ⟨by simp[b],.inl rfl⟩ fun e a F' g=>?_
 cases e with
 |normal=>exact hJ.move (fun _=>lI rfl) (tn hJ d j a.tmps a.defers _ F' rfl rfl rfl rfl rfl g)
 |exit i=>exact g.elim
 |ret=>exact fun m=>hJ.move (fun _=>stepG_ret' rfl) (tn hJ d j a.tmps a.defers _ F' rfl rfl rfl rfl rfl g)
theorem aA.of_wp {f:FuncId}{fn:Func}{c:Code}{args:Array Value}{F:af}{R:Value->af->Prop}(a:P.funcs[f]?=some fn)(hb:fn.body=some c)
  (h:∀main J,Closed P main J->Wp J c (qg P fn R) {tmps:=args++Array.replicate (fn.ntmps - args.size) undef,defers:=[]} F):aA P f args F R:=
 fun main J hJ=>c8.of_wp hJ a hb (h main J hJ)
end
end Go.Sep
end
section
namespace Go.Sep
open Go Go.Conc Go.ConcM
open Go.ConcN (sumTo upd sumTo_upd upd_ne upd_same)
def af.gF (F:af):Loc->Prop
 | .cell a=>a.block∈keys F.own\/(F.ro a).isSome=true
 | .obj r=>r∈keys F.own
 |_=>False
structure jr (P:Program)(bI:Loc->Prop)(g:Goroutine)(F:af)(gs:Array Goroutine)(w:World)(t:Trace)(q:Nat->Nat):Prop where
 g0:gs[0]?=some g
 lv:Leavers P t gs q
 fR:Past bI w.heap.size t
 has:Has F w
 apart:∀l,bI l->¬F.gF l
 low:∀l,bI l->l.low w.heap.size
structure fB (F F':af)(w w':World):Prop where
 os:OsLater w.os w'.os
 tape:w'.tape=w.tape
 output:w'.output=w.output
 size:w.heap.size<=w'.heap.size
 frame:∀b,b<w.heap.size->b∉keys F.own->w'.heap[b]?=w.heap[b]?
 ro:∀a,(F'.ro a).isSome=true->(F.ro a).isSome=true\/a.block∈keys F.own\/w.heap.size<=a.block
 own:∀b,b∈keys F'.own->b∈keys F.own\/w.heap.size<=b
theorem fB.ou {F F':af}{w w':World}(h:ey F F' w w'):fB F F' w w':=⟨by rw[h.os];exact .refl _,h.tape,h.output,h.size,h.frame,h.ro,h.own⟩
theorem fB.refl (F:af)(w:World):fB F F w w:=.ou (.refl _ _)
theorem fB.trans {F G H:af}{u v w:World}(h:fB F G u v)(k:fB G H v w):fB F H u w where
 os:=h.os.trans k.os
 tape:=k.tape.trans h.tape
 output:=k.output.trans h.output
 size:=Nat.le_trans h.size k.size
 frame b hb c:=by
  rw[k.frame b (Nat.lt_of_lt_of_le hb h.size) (fun d=>(h.own b d).elim c (fun e=>absurd hb aa))]
  exact h.frame b hb c
 ro a x:=by
  rcases k.ro a x with y|y|y
  .exact h.ro a y
  .exact .inr (h.own _ y)
  .exact .inr (.inr (Nat.le_trans h.size y))
 own b hb:=by
  rcases k.own b hb with x|x
  .exact h.own b x
  .exact .inr (Nat.le_trans h.size x)
theorem js {P:Program}{a b:Nat}{m c:Machine}{t d:Trace}(h:runNT P a m t=(.next c,d)):runNT P (a+b) m t=runNT P b c d:=by
 rw[runNT_add,h]
theorem Has.at {F:af}{w:World}(h:Has F w)(d:Nat):Has F (w.at d):=⟨h.ro,h.own,h.nodup,h.apart⟩
theorem qh {P:Program}{bI:Loc->Prop}{B:Nat}{a:Goroutine}(o:a.status= .running):∀(M:Nat) (gs:Array Goroutine) (w:World) (sl:Option (Nat×Nat)) (t:Trace) (q:Nat->Nat),
  sumTo gs.size q<=M->gs[0]?=some a->Leavers P t gs q->Past bI B t->
  ∃(N:Nat) (cg:Array Goroutine) (d I:Nat) (h J:Option (Nat×Nat)) (p:Trace) (C:Nat->Nat),
   runNT P N (crowd gs w sl) t=(.next (crowd cg (w.at d) h),p)/\cg.size=gs.size/\cg[0]?=some a/\Leavers P p cg C/\Past bI B p/\
   stepT P (crowd cg (w.at d) h)=runT P (crowd cg (w.at I) J) 0:=by
 intro M
 induction M with
 |zero=>
  intro gs w sl t q hM l c r
  have D:∀g∈gs,awake g:=by
   intro g hg
   obtain ⟨i,b,rfl⟩:=Array.mem_iff_getElem.1 hg
   rcases Nat.eq_zero_or_pos i with rfl|m
   .have:gs[0]=a:=by simpa [Array.getElem?_eq_getElem b] using l
    rw[this];exact awake_of (.inl o)
   .exact awake_of ((c.old i _ m (Array.getElem?_eq_getElem b)).status.elim .inl fun x=>.inr (.inr x))
  obtain ⟨i,g,d,h,b,hg,s⟩:=crowd_pick (P:=P) (w:=w) (sl:=sl) D ⟨0,a,l,o⟩
  rcases Nat.eq_zero_or_pos i with rfl|m
  .exact ⟨0,gs,w.drawn,d,sl,h,t,q,rfl,rfl,l,c,r,s⟩
  .have n:=c.old i g m b
   have u:i<gs.size:=(Array.getElem?_eq_some_iff.1 b).1
   have K:q i=0:=by have:=Go.ConcN.le_sumTo (f:=q) u;omega
   rw[K] at n;rw[n.1] at hg;cases hg
 |succ M ih=>
  intro gs w sl t q hM l c r
  have D:∀g∈gs,awake g:=by
   intro g hg
   obtain ⟨i,b,rfl⟩:=Array.mem_iff_getElem.1 hg
   rcases Nat.eq_zero_or_pos i with rfl|m
   .have:gs[0]=a:=by simpa [Array.getElem?_eq_getElem b] using l
    rw[this];exact awake_of (.inl o)
   .exact awake_of ((c.old i _ m (Array.getElem?_eq_getElem b)).status.elim .inl fun x=>.inr (.inr x))
  obtain ⟨i,g,d,h,b,hg,s⟩:=crowd_pick (P:=P) (w:=w) (sl:=sl) D ⟨0,a,l,o⟩
  rcases Nat.eq_zero_or_pos i with rfl|m
  .exact ⟨0,gs,w.drawn,d,sl,h,t,q,rfl,rfl,l,c,r,s⟩
  .have n:=c.old i g m b
   have L:(i==0)=false:=by simp;omega
   have u:i<gs.size:=(Array.getElem?_eq_some_iff.1 b).1
   cases E:q i with
   |zero=>rw[E] at n;rw[n.1] at hg;cases hg
   |succ k=>
    rw[E] at n
    rcases n with ⟨O,_⟩|⟨_,g',es,hm,Q,R⟩
    .rw[O] at hg;cases hg
    have S:=runT_crowd_go (P:=P) (sl:=h) (i:=i) b (by rw[L];exact Q (w.at d))
    have G:((gs.map (woken P g g' (w.at d))).setIfInBounds i g').size=gs.size:=av
    have al:sumTo gs.size (upd q i k)+(k+1)=sumTo gs.size q+k:=by
     have:=sumTo_upd q k id u
     simpa [E] using this
    obtain ⟨N,cg,d1,d2,T,U,p,C,V,W,X,Y,Z,ab⟩:=ih ((gs.map (woken P g g' (w.at d))).setIfInBounds i g') (w.at d) h (t++MemOp.ofEvents i g.frame.fn g.frame.place es) (upd q i k) (by rw[G];omega)
     (by
      have ad:i≠0:=aa
      rw[Array.getElem?_setIfInBounds_ne ad,Array.getElem?_map,l]
      simp[woken_run o])
     ⟨fun j x v z=>by
      by_cases A:i=j
      .subst A
       rw[Array.getElem?_setIfInBounds_self_of_lt (by simpa using u)] at z
       obtain rfl:=Option.some.inj z
       rw[upd_same,Deaf_own]
       exact R
      .rw[Array.getElem?_setIfInBounds_ne A,Array.getElem?_map] at z
       obtain ⟨y,ae,rfl⟩:=Option.map_eq_some_iff.1 z
       have H:=c.old j y v ae
       rw[woken_quitsD H,upd_ne q k (Ne.symm A),Deaf_other t A _ (fun op F=>by obtain ⟨e,_,rfl⟩:=Go.Conc.mem_ofEvents F;rfl)]
       exact H,fun j v=>by
      rw[Deaf_other t (g':=i) (by simp at v;omega) _ (fun op F=>by obtain ⟨e,_,rfl⟩:=Go.Conc.mem_ofEvents F;rfl)]
      exact c.above j (by simpa using v)⟩
     (r.mute aa hm)
    exact ⟨N+1,cg,d1,d2,T,U,p,C,by simp only[runNT,s,S];exact V,W.trans G,X,Y,Z,ab⟩
theorem yz {bI:Loc->Prop}{F:af}{w w':World}(g:Has F w)(hu:w.heap.size<=w'.heap.size)(f:∀l,bI l->¬F.gF l)(i:∀l,bI l->l.low w.heap.size){e:Event}
  (h:iR F.ro (gT F w.heap.size w'.heap.size) e):EvL bI w'.heap.size e:=by
 have hm:∀b,gT F w.heap.size w'.heap.size b->b<w'.heap.size:=fun b hb=>hb.elim (fun x=>Nat.lt_of_lt_of_le (g.lt x) hu) (fun x=>x.2)
 rcases h with ⟨a,wr,rfl,c⟩|⟨r,wr,rfl,c⟩|⟨m,rfl,j⟩
 .refine ⟨fun x d hs=>?_,av,av,?_⟩
  .exfalso
   have e1:x.loc= .cell a:=by cases wr<;>simp[MemAct.ofEvent,MemAct.touch?] at d<;>rw[<-d]
   rw[e1] at hs
   rcases c with (c|c)|⟨_,c⟩
   .exact f _ hs (.inl c)
   .exact absurd (i _ hs) (by show ¬a.block<_;omega)
   .exact f _ hs (.inr c)
  .show a.block<_
   rcases c with c|⟨_,c⟩
   .exact hm _ c
   .exact Nat.lt_of_lt_of_le (g.gU c) hu
 .refine ⟨fun x d hs=>?_,av,av,?_⟩
  .exfalso
   have e1:x.loc= .obj r:=by cases wr<;>simp[MemAct.ofEvent,MemAct.touch?] at d<;>rw[<-d]
   rw[e1] at hs
   rcases c with c|c
   .exact f _ hs c
   .exact absurd (i _ hs) (by show ¬r<_;omega)
  .have:=hm _ c
   cases wr<;>exact this
 .cases m<;>simp[om] at j<;>exact ⟨fun x d=>by simp[MemAct.ofEvent,MemAct.touch?] at d,av,av,trivial⟩
theorem jr.next {P:Program}{bI:Loc->Prop}{F F':af}{w w':World}(f:∀l,bI l->¬F.gF l)(d:∀l,bI l->l.low w.heap.size)(hu:ey F F' w w'):
  (∀l,bI l->¬F'.gF l)/\(∀l,bI l->l.low w'.heap.size):=by
 refine ⟨fun l hs b=>?_,fun l hs=>Loc.low_mono hu.size (d l hs)⟩
 cases l with
 |cell a=>
  have c:=d _ hs
  have e:=f _ hs
  rcases b with b|b
  .rcases hu.own _ b with x|x
   .exact e (.inl x)
   .exact absurd c (by show ¬a.block<_;omega)
  .rcases hu.ro _ b with x|x|x
   .exact e (.inr x)
   .exact e (.inl x)
   .exact absurd c (by show ¬a.block<_;omega)
 |obj r=>
  have c:=d _ hs
  rcases hu.own _ b with x|x
  .exact f _ hs x
  .exact absurd c (by show ¬r<_;omega)
 |_=>exact b
theorem Le.gF {F F':af}(h:Le F F'){l:Loc}(b:F.gF l):F'.gF l:=by
 cases l with
 |cell a=>exact b.elim (fun x=>.inl (h.own _ x)) (fun x=>(h.ro _ x).elim .inr .inl)
 |obj r=>exact h.own _ b
 |_=>exact b
theorem fB.le {F G H:af}{w w':World}(h:Le F G)(u:fB F H w w'):fB G H w w' where
 os:=u.os
 tape:=u.tape
 output:=u.output
 size:=u.size
 frame b hb c:=u.frame b hb (fun x=>c (h.own b x))
 ro a x:=by
  rcases u.ro a x with y|y|y
  .exact (h.ro a y).imp id .inl
  .exact .inr (.inl (h.own _ y))
  .exact .inr (.inr y)
 own b hb:=(u.own b hb).imp (h.own b) id
end Go.Sep
end
section
namespace Go.Sep
open Go Go.Conc
def af.cG (F:af):af:={ro:=F.get,own:=[]}
theorem Has.cG {F:af}{w:World}(h:Has F w):Has F.cG w:=
 ⟨fun a v c=>h.reads c,fun b o hb=>(by cases hb),List.nodup_nil,fun a v c hm=>(by cases hm)⟩
def af.star (G F:af):af:=
 {ro:=fun a=>match F.ro a with
   |some v=>some v
   |none=>if a.block∈keys F.own then none else G.ro a
  own:=G.own++F.own}
structure Fits (F G:af):Prop where
 tq:∃w,Has G w/\Has F w
 own:∀b,b∈keys G.own->b∉keys F.own
 ro:∀a,(F.ro a).isSome=true->a.block∉keys G.own
theorem cE (l l':List (Nat×Obj)):keys (l++l')=keys l++keys l':=List.map_append
theorem Fits.left {F G:af}(h:Fits F G){w:World}(hw:Has (G.star F) w):Has F w where
 ro a v c:=hw.ro a v (by simp[af.star,c])
 own b o hb:=hw.own b o (List.mem_append_right _ hb)
 nodup:=by
  have:=hw.nodup
  simp only[af.star,cE] at this
  exact (List.nodup_append.1 this).2.1
 apart a v c hm:=by
  have:=hw.apart a v (by simp[af.star,c])
  simp only[af.star,cE,List.mem_append,not_or] at this
  exact this.2 hm
theorem Fits.right {F G:af}(h:Fits F G){w:World}(hw:Has (G.star F) w):Has G w:=by
 obtain ⟨m,d,i⟩:=h.tq;refine ⟨fun a v j=>?_,fun b o hb=>hw.own b o (List.mem_append_left _ hb),d.nodup,d.apart⟩;have c:=d.ro a v j;cases f:F.ro a with
 |some g=>
  have e:g=v:=by have:=i.ro a g f;rw[c] at this;exact (Option.some.inj this).symm
  exact e▸hw.ro a g (by simp[af.star,f])
 |none=>
  by_cases hb:a.block∈keys F.own
  .obtain ⟨⟨b,o⟩,hm,e⟩:=List.mem_map.1 hb;simp only at e;subst e;have k:=i.own _ o hm;have l:=hw.own _ o (List.mem_append_right _ hm);unfold World.cell? at c ⊢;rw[l];rw[k] at c;exact c
  .exact hw.ro a v (by simp[af.star,f,hb,j])
theorem Fits.both {F G:af}(h:Fits F G){w:World}(d:Has G w)(f:Has F w):Has (G.star F) w where
 ro a v c:=by
  simp only[af.star] at c
  split at c
  .rename_i x g;cases c;exact f.ro _ _ g
  .split at c
   .cases c
   .exact d.ro _ _ c
 own b o hb:=(List.mem_append.1 hb).elim (d.own b o) (f.own b o)
 nodup:=by
  simp only[af.star,cE]
  exact List.nodup_append.2 ⟨d.nodup,f.nodup,fun a i b hb e=>h.own a i (e▸hb)⟩
 apart a v c hm:=by
  simp only[af.star,cE,List.mem_append] at hm
  simp only[af.star] at c
  split at c
  .rename_i x g
   rcases hm with hm|hm
   .exact h.ro a (by simp[g]) hm
   .exact f.apart a x g hm
  .split at c
   .cases c
   .rename_i j
    rcases hm with hm|hm
    .exact d.apart a v c hm
    .exact j hm
theorem Fits.le {F G c:af}(hle:Le G c)(h:Fits F c):Fits F G where
 tq:=let ⟨w,d,e⟩:=h.tq;⟨w,hle.has w d,e⟩
 own b hb:=h.own b (hle.own b hb)
 ro a f hm:=h.ro a f (hle.own _ hm)
def yA (J:Goroutine->af->Prop)(F:af)(g:Goroutine)(G:af):Prop:=Fits F G->J g (G.star F)
theorem jS {F G:af}{a:Addr}(h:((G.star F).ro a).isSome=true):(F.ro a).isSome=true\/(G.ro a).isSome=true:=by
 simp only[af.star] at h;split at h
 .rename_i x b;exact .inl (by simp[b])
 .split at h
  .cases h
  .exact .inr h
theorem gG {F G:af}{a:Addr}(h:(F.ro a).isSome=true\/(G.ro a).isSome=true):((G.star F).ro a).isSome=true\/a.block∈keys F.own:=by
 by_cases hb:a.block∈keys F.own
 .exact .inr hb
 .left;simp only[af.star];split
  .rfl
  .rename_i b;rw[if_neg hb];rcases h with h|h
   .simp[b] at h
   .exact h
theorem Ch {P:Program}{main:Bool}{J:Goroutine->af->Prop}(hJ:Closed P main J)(F:af):Closed P main (yA J F) where
 mono {g G H} hle h c:=by
  have k:=c.le hle
  refine hJ.mono ⟨fun w hw=>k.both (hle.has w (c.right hw)) (c.left hw),fun b hb=>?_,fun a f=>?_⟩ (h k)
  .simp only[af.star,cE,List.mem_append] at hb ⊢
   exact hb.imp (hle.own b) id
  .rcases jS f with x|x
   .exact (gG (.inl x)).imp id (fun y=>by simp only[af.star,cE,List.mem_append];exact .inr y)
   .rcases hle.ro a x with y|y
    .exact (gG (.inr y)).imp id (fun z=>by simp only[af.star,cE,List.mem_append];exact .inr z)
    .exact .inr (by simp only[af.star,cE,List.mem_append];exact .inl y)
 step {fr cs G} h c:=by
  refine hJ.step fun w hw=>?_
  have u:=c.right hw
  have d:=c.left hw
  obtain ⟨g',w',es,l,hgo,hu,n,A,B⟩:=h w u
  have p:Has F w':=by
   refine ⟨fun a v j=>?_,fun b o hb=>?_,d.nodup,d.apart⟩
   .have q:=d.ro a v j
    have C:=d.gU (a:=a) (by simp[j])
    unfold World.cell? at q ⊢
    rw[hu.frame _ C (c.ro a (by simp[j]))]
    exact q
   .rw[hu.frame b (d.lt (fe hb)) (fun hm=>c.own b hm (fe hb))]
    exact d.own b o hb
  have s:Fits F l:=by
   refine ⟨⟨w',n,p⟩,fun b hb hm=>?_,fun a f hm=>?_⟩
   .rcases hu.own b hb with x|x
    .exact c.own b x hm
    .have:=d.lt hm;omega
   .rcases hu.own _ hm with x|x
    .exact c.ro a f x
    .have:=d.gU f;omega
  refine ⟨g',w',es,l.star F,hgo,⟨hu.os,hu.tape,hu.output,hu.size,fun b hb D=>hu.frame b hb fun hm=>D ?_,fun a f=>?_,fun b hb=>?_⟩,s.both n p,fun e he=>?_,B s⟩
  .simp only[af.star,cE,List.mem_append];exact .inl hm
  .rcases jS f with x|x
   .exact (gG (.inl x)).imp id (fun y=>.inl (by simp only[af.star,cE,List.mem_append];exact .inr y))
   .rcases hu.ro a x with y|y|y
    .exact (gG (.inr y)).imp id (fun z=>.inl (by simp only[af.star,cE,List.mem_append];exact .inr z))
    .exact .inr (.inl (by simp only[af.star,cE,List.mem_append];exact .inl y))
    .exact .inr (.inr y)
  .simp only[af.star,cE,List.mem_append] at hb ⊢
   rcases hb with hb|hb
   .exact (hu.own b hb).imp .inl id
   .exact .inl (.inr hb)
  .have t:∀b,gT G w.heap.size w'.heap.size b->gT (G.star F) w.heap.size w'.heap.size b:=fun b hb=>hb.imp (fun x=>by simp only[af.star,cE,List.mem_append];exact .inl x) id
   rcases A e he with ⟨a,wr,rfl,i|⟨E,i⟩⟩|⟨r,wr,rfl,i⟩|⟨m,rfl,hm⟩
   .exact .inl ⟨a,wr,rfl,.inl (t _ i)⟩
   .rcases gG (F:=F) (.inr i) with y|y
    .exact .inl ⟨a,wr,rfl,.inr ⟨E,y⟩⟩
    .exact .inl ⟨a,wr,rfl,.inl (.inl (by simp only[af.star,cE,List.mem_append];exact .inr y))⟩
   .exact .inr (.inl ⟨r,wr,rfl,t _ i⟩)
   .exact .inr (.inr ⟨m,rfl,hm⟩)
theorem Ci {P:Program}{f:FuncId}{args:Array Value}{F:af}{R:Value->List (Nat×Obj)->Prop}(h:aA P f args F.cG (fun v G=>R v G.own)):
  aA P f args F (fun v G=>∃l,R v l/\G={ro:=F.ro,own:=l++F.own}):=by
 intro main J hJ c cs hK
 by_cases hw:∃w,Has F w
 .obtain ⟨k,i⟩:=hw
  have j:Fits F F.cG:=⟨⟨k,i.cG,i⟩,fun b hb=>(by cases hb),fun a e hm=>(by cases hm)⟩
  have m:yA J F (G (Frame.enter P f args .normal) (c::cs)) F.cG:=by
   refine h main _ (Ch hJ F) c cs fun v G n s=>?_
   have g:∀(a:Addr) (v:Value),F.ro a=some v->(G.star F).ro a=some v:=fun a v d=>by simp[af.star,d]
   refine hJ.mono (F:={ro:=F.ro,own:=G.own++F.own}) ⟨fun w hw=>⟨fun a v d=>hw.ro a v (g a v d),hw.own,hw.nodup,fun a v d=>hw.apart a v (g a v d)⟩,fun b hb=>hb,fun a e=>?_⟩ (hK v {ro:=F.ro,own:=G.own++F.own} ⟨G.own,n,rfl⟩)
   obtain ⟨o,p⟩:=Option.isSome_iff_exists.1 e
   exact .inl (by rw[g a o p];rfl)
  refine hJ.mono ⟨fun w hw=>j.both hw.cG hw,fun b hb=>?_,fun a e=>?_⟩ (m j)
  .simpa [af.star,af.cG] using hb
  .rcases jS e with x|x
   .exact .inl x
   .obtain ⟨v,q⟩:=Option.isSome_iff_exists.1 x
    exact (x7 q).symm
 .exact hJ.step fun w r=>absurd ⟨w,r⟩ hw
theorem tr {P:Program}{f:FuncId}{args:Array Value}{F:af}{R:Value->Prop}(h:aA P f args F.cG (fun v _=>R v)):aA P f args F (fun v G=>R v/\G=F):=by
 intro main J hJ c cs hK;refine Ci (R:=fun v _=>R v) h main J hJ c cs fun v G d=>?_;obtain ⟨l,e,rfl⟩:=d;refine hJ.mono (F:=F) ⟨fun w hw=>⟨hw.ro,fun b o hb=>hw.own b o (List.mem_append_right _ hb),?_,fun a v g hm=>hw.apart a v g ?_⟩,fun b hb=>?_,fun a i=>.inl i⟩ (hK v F ⟨e,rfl⟩)
 .have:=hw.nodup;simp only[cE] at this;exact (List.nodup_append.1 this).2.1
 .simp only[cE,List.mem_append];exact .inr hm
 .simp only[cE,List.mem_append];exact .inr hb
end Go.Sep
end
section
namespace Go.Sep
inductive Rk:Type 1
 |mk (ι:Type) (f:ι->Rk)
namespace Rk
def kids:Rk->Rk->Prop
 | .mk ι f,r=>∃i,r=f i
theorem wf:WellFounded (fun a b:Rk=>kids b a):=⟨fun r=>by
 induction r with
 |mk ι f ih=>exact ⟨_,fun b h=>by obtain ⟨i,rfl⟩:=h;exact ih i⟩⟩
def nat:Nat->Rk
 |0=>.mk Empty fun x=>x.elim
 |n+1=>.mk Unit fun _=>nat n
theorem yB (n:Nat):kids (nat (n+1)) (nat n):=⟨(),rfl⟩
end Rk
def qi (n:Nat)(ρ' ρ:Nat->Rk):Prop:=∃i,i<n/\(ρ i).kids (ρ' i)/\∀j,j≠i->ρ' j=ρ j
theorem yC:∀n,WellFounded (qi n)
 |0=>⟨fun ρ=>⟨_,fun _ ⟨i,b,_⟩=>absurd b (Nat.not_lt_zero i)⟩⟩
 |n+1=>by
  refine ⟨fun ρ=>?_⟩
  have key:∀(a:Rk) (ρ:Nat->Rk),ρ n=a->Acc (qi (n+1)) ρ:=by
   intro a
   induction Rk.wf.apply a with
   |intro a _ g=>
    intro ρ
    induction (yC n).apply ρ with
    |intro ρ _ j=>
     intro c
     refine ⟨_,fun ρ' ⟨i,b,d,f⟩=>?_⟩
     by_cases h:i=n
     .subst h
      exact g (ρ' i) (by rw[<-c];exact d) ρ' rfl
     .refine j ρ' ⟨i,aa,d,f⟩ ?_
      rw[f n (fun e=>h e.symm)];exact c
  exact key _ ρ rfl
def yD (n:Nat)(a x:(Nat->Rk)×Nat):Prop:=qi n a.1 x.1\/(a.1=x.1/\a.2<x.2)
theorem yE (n:Nat):WellFounded (yD n):=by
 refine ⟨fun ⟨ρ,m⟩=>?_⟩
 induction (yC n).apply ρ generalizing m with
 |intro ρ _ b=>
  induction m using Nat.strongRecOn with
  |_ m c=>
   refine ⟨_,fun ⟨ρ',a⟩ h=>?_⟩;rcases h with h|⟨rfl,h⟩
   .exact b ρ' h a
   .exact c a h
end Go.Sep
end

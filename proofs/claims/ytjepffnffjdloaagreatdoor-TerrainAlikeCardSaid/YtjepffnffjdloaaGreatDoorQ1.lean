/- A part of the proof of a row and its tied card: Q1. -/
import Derived.Conc.Own
import Derived.Conc.Events
import Derived.Conc.Beside
import Derived.Conc.Listed
import Derived.Orders
import Derived.Conc.MuSpec
set_option linter.all false
section
namespace Go.Sep
open Go Go.Conc
structure af where
 ro:Addr->Option Value
 own:List (Nat×Obj)
def keys (l:List (Nat×Obj)):List Nat:=l.map (·.1)
def cellOf:Obj->Nat->Option Value
 | .cells c _ _,off=>c[off]?
 |_,_=>none
def lk:List (Nat×Obj)->Nat->Option Obj
 |[],_=>none
 |(c,o)::l,b=>if c=b then some o else lk l b
def iz:List (Nat×Obj)->Nat->Obj->List (Nat×Obj)
 |[],_,_=>[]
 |(c,o)::l,b,x=>if c=b then (c,x)::l else (c,o)::iz l b x
theorem gE:∀{l:List (Nat×Obj)} {b:Nat} {o:Obj},lk l b=some o->(b,o)∈l
 |[],_,_,h=>by cases h
 |(c,x)::l,b,o,h=>by
  unfold lk at h
  split at h
  ·rename_i e;cases h;exact e▸List.mem_cons_self
  ·exact List.mem_cons_of_mem _ (gE h)
theorem qy:∀(l:List (Nat×Obj)) (b:Nat) (x:Obj),keys (iz l b x)=keys l
 |[],_,_=>rfl
 |(c,o)::l,b,x=>by
  unfold iz
  split
  ·rfl
  ·simp only[keys,List.map_cons];exact congrArg _ (qy l b x)
theorem yl:∀{l:List (Nat×Obj)} {b:Nat} {x:Obj},(keys l).Nodup->∀{c:Nat} {y:Obj},(c,y)∈iz l b x->(c=b/\y=x)\/(c≠b/\(c,y)∈l)
 |[],_,_,_,_,_,h=>by cases h
 |(d,o)::l,b,x,hn,c,y,h=>by
  simp only[keys,List.map_cons,List.nodup_cons] at hn
  unfold iz at h
  split at h
  ·rename_i e
   rcases List.mem_cons.1 h with h|h
   ·cases h;exact .inl ⟨e,rfl⟩
   ·refine .inr ⟨fun a=>hn.1 ?_,List.mem_cons_of_mem _ h⟩
    rw[e,<-a]
    exact List.mem_map.2 ⟨_,h,rfl⟩
  ·rename_i e
   rcases List.mem_cons.1 h with h|h
   ·cases h;exact .inr ⟨e,List.mem_cons_self⟩
   ·exact (yl hn.2 h).imp id (fun z=>⟨z.1,List.mem_cons_of_mem _ z.2⟩)
def af.get (F:af)(a:Addr):Option Value:=
 match F.ro a with
 |some v=>some v
 |none=>if a.spot=none then (lk F.own a.block).bind (cellOf · a.off) else none
structure Has (F:af)(w:World):Prop where
 ro:∀a v,F.ro a=some v->w.cell? a=some v
 own:∀b o,(b,o)∈F.own->w.heap[b]?=some o
 nodup:(keys F.own).Nodup
 apart:∀a v,F.ro a=some v->a.block∉keys F.own
theorem Has.reads {F:af}{w:World}(h:Has F w){a:Addr}{v:Value}(r:F.get a=some v):w.cell? a=some v:=by
 unfold af.get at r
 split at r
 ·rename_i x c;cases r;exact h.ro _ _ c
 ·split at r
  ·rename_i hs
   obtain ⟨o,d,b⟩:=Option.bind_eq_some_iff.1 r
   have:=h.own _ _ (gE d)
   cases o<;>simp[cellOf] at b
   simp[World.cell?,this,hs,b]
  ·cases r
theorem ym {F:af}{a:Addr}{v:Value}(r:F.get a=some v):a.block∈keys F.own\/(F.ro a).isSome=true:=by
 unfold af.get at r
 split at r
 ·rename_i x b;exact .inr (by simp[b])
 ·split at r
  ·obtain ⟨o,c,_⟩:=Option.bind_eq_some_iff.1 r
   exact .inl (List.mem_map.2 ⟨_,gE c,rfl⟩)
  ·cases r
structure dJ (F F':af)(w w':World):Prop where
 os:w'.os=w.os
 tape:w'.tape=w.tape
 output:w'.output=w.output
 size:w.heap.size<=w'.heap.size
 frame:∀b,b<w.heap.size->b∉keys F.own->w'.heap[b]?=w.heap[b]?
 ro:∀a,(F'.ro a).isSome=true->(F.ro a).isSome=true\/a.block∈keys F.own\/w.heap.size<=a.block
 own:∀b,b∈keys F'.own->b∈keys F.own\/w.heap.size<=b
theorem dJ.refl (F:af)(w:World):dJ F F w w:=⟨rfl,rfl,rfl,Nat.le_refl _,fun _ _ _=>rfl,fun _ h=>.inl h,fun _ h=>.inl h⟩
theorem dJ.trans {F G H:af}{u v w:World}(h:dJ F G u v)(k:dJ G H v w):dJ F H u w where
 os:=k.os.trans h.os
 tape:=k.tape.trans h.tape
 output:=k.output.trans h.output
 size:=Nat.le_trans h.size k.size
 frame b hb hn:=by
  rw[k.frame b (Nat.lt_of_lt_of_le hb h.size) (fun hk=>(h.own b hk).elim hn (fun c=>absurd hb (by omega)))]
  exact h.frame b hb hn
 ro a x:=by
  rcases k.ro a x with y|y|y
  ·exact h.ro a y
  ·exact .inr (h.own _ y)
  ·exact .inr (.inr (Nat.le_trans h.size y))
 own b hb:=by
  rcases k.own b hb with x|x
  ·exact h.own b x
  ·exact .inr (Nat.le_trans h.size x)
def oC:Mark->Bool
 | .extern _| .noRoom=>true
 |_=>false
def iA (ro:Addr->Option Value)(ks:Nat->Prop)(e:Event):Prop:=
 (∃a wr,e=⟨.cell a,wr,false⟩/\(ks a.block\/(wr=false/\(ro a).isSome=true)))\/
 (∃r wr,e=⟨.obj r,wr,false⟩/\ks r)\/
 (∃m,e=⟨.mark m,false,true⟩/\oC m=true)
theorem iA.mono {ro aL:Addr->Option Value}{ks c:Nat->Prop}{e:Event}(h:iA ro ks e)(d:∀a,(ro a).isSome=true->(aL a).isSome=true)(hk:∀b,ks b->c b):iA aL c e:=by
 rcases h with ⟨a,wr,rfl,h⟩|⟨r,wr,rfl,h⟩|⟨m,rfl,hm⟩
 ·exact .inl ⟨a,wr,rfl,h.imp (hk _) (fun ⟨x,y⟩=>⟨x,d _ y⟩)⟩
 ·exact .inr (.inl ⟨r,wr,rfl,hk _ h⟩)
 ·exact .inr (.inr ⟨m,rfl,hm⟩)
def gF (F:af)(n m:Nat)(b:Nat):Prop:=b∈keys F.own\/(n<=b/\b<m)
theorem eK {l:List (Nat×Obj)}{b:Nat}{o:Obj}(h:(b,o)∈l):b∈keys l:=List.mem_map.2 ⟨_,h,rfl⟩
theorem Has.lt {F:af}{w:World}(h:Has F w){b:Nat}(hb:b∈keys F.own):b<w.heap.size:=by
 obtain ⟨⟨c,o⟩,hm,rfl⟩:=List.mem_map.1 hb
 have:=h.own c o hm
 rcases Nat.lt_or_ge c w.heap.size with x|x
 ·exact x
 ·simp[Array.getElem?_eq_none x] at this
theorem Has.gG {F:af}{w:World}(h:Has F w){a:Addr}(b:(F.ro a).isSome=true):a.block<w.heap.size:=by
 obtain ⟨v,c⟩:=Option.isSome_iff_exists.1 b
 have:=h.ro a v c
 unfold World.cell? at this
 rcases Nat.lt_or_ge a.block w.heap.size with x|x
 ·exact x
 ·simp[Array.getElem?_eq_none x] at this
def af.push (F:af)(b:Nat)(o:Obj):af:={F with own:=(b,o)::F.own}
def af.put (F:af)(b:Nat)(o:Obj):af:={F with own:=iz F.own b o}
def shapeOf:Obj->Option (TypeId×Nat)
 | .cells c elem _=>some (elem,c.size)
 |_=>none
def frozenAt:Obj->Nat->Bool
 | .cells _ _ (lo,hi),off=>lo<=off&&off<hi
 |_,_=>false
def Obj.oD:Obj->Bool
 | .cells ..=>true
 |_=>false
def bx:Value->Bool
 | .agg _| .tuple _=>false
 |_=>true
def af.lE (F:af)(a:Addr)(v:Value):Option af:=
 match lk F.own a.block with
 |some (.cells c t fr)=>if bx v=true/\a.spot=none/\a.off<c.size/\frozenAt (.cells c t fr) a.off=false then some (F.put a.block (.cells (c.setIfInBounds a.off v) t fr)) else none
 |_=>none
def af.eT (F:af)(r:Nat):Option Obj:=
 match lk F.own r with
 |some o=>if Obj.oD o=false/\o.isChan=false then some o else none
 |none=>none
def au:List (Nat×Obj)->Nat->Prop
 |[],_=>True
 |(c,_)::l,b=>¬b=c/\au l b
theorem yo:∀{l:List (Nat×Obj)} {b:Nat},(∀x∈keys l,¬b=x)->au l b
 |[],_,_=>trivial
 |(c,_)::l,b,h=>⟨h c (by simp[keys]),yo fun x a=>h x (by simp only[keys,List.map_cons,List.mem_cons];exact .inr a)⟩
structure dK (F:af)(b:Nat):Prop where
 ro:∀off sp,F.ro ⟨b,off,sp⟩=none
 own:au F.own b
def aT {α:Type}(P:Program):Sem α->(α->af->Prop)->af->Prop
 | .pure a,Q,F=>Q a F
 | .load m a k,Q,F=>m= .plain/\∃v,F.get a=some v/\aT P (k v) Q F
 | .store m a v k,Q,F=>m= .plain/\∃F',F.lE a v=some F'/\aT P k Q F'
 | .new o k,Q,F=>o.isChan=false/\∀b,dK F b->aT P (k b) Q (F.push b o)
 | .shape r k,Q,F=>match lk F.own r with
  |some o=>aT P (k (shapeOf o)) Q F
  |none=>∀s,aT P (k s) Q F
 | .freeze _ _ _,_,_=>False
 | .frozen a k,Q,F=>match lk F.own a.block with
  |some o=>aT P (k (frozenAt o a.off)) Q F
  |none=>∀s,aT P (k s) Q F
 | .getObj r k,Q,F=>∃o,F.eT r=some o/\aT P (k o) Q F
 | .setObj r o k,Q,F=>o.isChan=false/\(F.eT r).isSome=true/\aT P k Q (F.put r o)
 | .choose q k,Q,F=>if q.forced then aT P (k 0) Q F else ∀t,aT P (k (q.cut t)) Q F
 | .sys _ _,_,_=>False
 | .program k,Q,F=>aT P (k P) Q F
 | .mark m k,Q,F=>oC m=true/\aT P k Q F
 | .halt _,_,_=>False
theorem gH {α:Type}{P:Program}{Q f:α->af->Prop}(h:∀a F,Q a F->f a F):∀(s:Sem α) (F:af),aT P s Q F->aT P s f F:=by
 intro s
 induction s with
 |pure a=>exact fun F x=>h _ _ x
 |load m a k ih=>exact fun F ⟨x,v,y,z⟩=>⟨x,v,y,ih _ _ z⟩
 |store m a v k ih=>exact fun F ⟨x,F',y,z⟩=>⟨x,F',y,ih _ z⟩
 |new o k ih=>exact fun F x=>⟨x.1,fun b hb=>ih _ _ (x.2 b hb)⟩
 |shape r k ih=>intro F x;unfold aT at x ⊢;split<;>rename_i d<;>rw[d] at x;exact ih _ _ x;exact fun s=>ih _ _ (x s)
 |freeze a n k ih=>exact fun F x=>x
 |frozen a k ih=>intro F x;unfold aT at x ⊢;split<;>rename_i d<;>rw[d] at x;exact ih _ _ x;exact fun s=>ih _ _ (x s)
 |getObj r k ih=>exact fun F ⟨o,x,z⟩=>⟨o,x,ih _ _ z⟩
 |setObj r o k ih=>exact fun F ⟨x,y,z⟩=>⟨x,y,ih _ z⟩
 |choose q k ih=>
  intro F x
  unfold aT at x ⊢
  split
  ·rename_i e;rw[if_pos e] at x;exact ih _ _ x
  ·rename_i e;rw[if_neg e] at x;exact fun t=>ih _ _ (x t)
 |sys c k ih=>exact fun F x=>x
 |program k ih=>exact fun F x=>ih _ _ x
 |mark m k ih=>exact fun F ⟨x,y⟩=>⟨x,ih _ y⟩
 |halt h=>exact fun F x=>x
theorem yp {α β:Type}{P:Program}{Q:β->af->Prop}{f:α->Sem β}:∀(s:Sem α) (F:af),aT P (s.bind f) Q F↔aT P s (fun a G=>aT P (f a) Q G) F:=by
 intro s
 induction s with
 |pure a=>exact fun F=>Iff.rfl
 |load m a k ih=>intro F;simp only[Sem.bind,aT,ih]
 |store m a v k ih=>intro F;simp only[Sem.bind,aT,ih]
 |new o k ih=>intro F;simp only[Sem.bind,aT,ih]
 |shape r k ih=>intro F;simp only[Sem.bind,aT,ih]
 |freeze a n k ih=>intro F;simp only[Sem.bind,aT]
 |frozen a k ih=>intro F;simp only[Sem.bind,aT,ih]
 |getObj r k ih=>intro F;simp only[Sem.bind,aT,ih]
 |setObj r o k ih=>intro F;simp only[Sem.bind,aT,ih]
 |choose q k ih=>intro F;simp only[Sem.bind,aT,ih]
 |sys c k ih=>intro F;simp only[Sem.bind,aT]
 |program k ih=>intro F;simp only[Sem.bind,aT,ih]
 |mark m k ih=>intro F;simp only[Sem.bind,aT,ih]
 |halt h=>intro F;simp only[Sem.bind,aT]
theorem Has.push {F:af}{w:World}(h:Has F w)(o:Obj):Has (F.push w.heap.size o) {w with heap:=w.heap.push o}:=by
 have f:∀b o,(b,o)∈F.own->b<w.heap.size:=fun b o hb=>by
  have:=h.own b o hb
  rcases Nat.lt_or_ge b w.heap.size with x|x
  ·exact x
  ·simp[Array.getElem?_eq_none x] at this
 have hk:w.heap.size∉keys F.own:=fun hm=>by
  obtain ⟨⟨b,x⟩,i,e⟩:=List.mem_map.1 hm
  have:=f b x i
  simp at e
  omega
 refine ⟨fun a v d=>?_,fun b x hb=>?_,?_,fun a v d hm=>?_⟩
 ·have:=h.ro a v d
  unfold World.cell? at this ⊢
  split at this
  ·rename_i c t fr g
   have j:a.block<w.heap.size:=by
    rcases Nat.lt_or_ge a.block w.heap.size with x|x
    ·exact x
    ·simp[Array.getElem?_eq_none x] at g
   rw[show (w.heap.push o)[a.block]?=w.heap[a.block]? from by rw[Array.getElem?_push,if_neg (by omega)],g]
   exact this
  ·cases this
 ·simp only[af.push,List.mem_cons] at hb
  rcases hb with hb|hb
  ·cases hb;simp
  ·have:=f b x hb
   show (w.heap.push o)[b]?=some x
   rw[Array.getElem?_push,if_neg (by omega)]
   exact h.own b x hb
 ·simp only[af.push,keys,List.map_cons,List.nodup_cons]
  exact ⟨hk,h.nodup⟩
 ·simp only[af.push,keys,List.map_cons,List.mem_cons] at hm
  rcases hm with hm|hm
  ·have:=h.ro a v d
   unfold World.cell? at this
   rw[hm] at this
   simp at this
  ·exact h.apart a v d hm
theorem Has.fresh {F:af}{w:World}(h:Has F w):dK F w.heap.size:=by
 refine ⟨fun off sp=>?_,yo fun x b e=>?_⟩
 ·cases c:F.ro ⟨w.heap.size,off,sp⟩ with
  |none=>rfl
  |some v=>have:=h.gG (a:=⟨w.heap.size,off,sp⟩) (by simp[c]);simp at this
 ·have:=h.lt b;omega
theorem Has.set {F:af}{w w':World}(h:Has F w){b:Nat}{o:Obj}(hm:b∈keys F.own)(hb:w'.heap[b]?=some o)(f:∀c,c≠b->w'.heap[c]?=w.heap[c]?):Has (F.put b o) w':=by
 refine ⟨fun a v d=>?_,fun c y g=>?_,?_,fun a v d=>?_⟩
 ·have hn:a.block≠b:=fun e=>h.apart a v d (e▸hm)
  have:=h.ro a v d
  unfold World.cell? at this ⊢
  rw[f _ hn]
  exact this
 ·rcases yl h.nodup g with ⟨rfl,rfl⟩|⟨hn,hm⟩
  ·exact hb
  ·rw[f _ hn];exact h.own _ _ hm
 ·simp only[af.put,qy];exact h.nodup
 ·simp only[af.put,qy];exact h.apart a v d
theorem dJ.put {F:af}{w w':World}{b:Nat}{o:Obj}(hm:b∈keys F.own)(a:w'.os=w.os)(ht:w'.tape=w.tape)(d:w'.output=w.output)(hs:w'.heap.size=w.heap.size)(f:∀c,c≠b->w'.heap[c]?=w.heap[c]?):dJ F (F.put b o) w w' where
 os:=a
 tape:=ht
 output:=d
 size:=by omega
 frame c _ hn:=f c (fun e=>hn (e▸hm))
 ro _ h:=.inl h
 own c g:=.inl (by simpa [af.put,qy] using g)
theorem dJ.push {F:af}{w:World}(o:Obj):dJ F (F.push w.heap.size o) w {w with heap:=w.heap.push o} where
 os:=rfl
 tape:=rfl
 output:=rfl
 size:=by simp
 frame b hb _:=by show (w.heap.push o)[b]?=_;rw[Array.getElem?_push,if_neg (by omega)]
 ro _ h:=.inl h
 own c a:=by
  simp only[af.push,keys,List.map_cons,List.mem_cons] at a
  rcases a with rfl|a
  ·exact .inr (Nat.le_refl _)
  ·exact .inl a
structure lF {α:Type}(P:Program)(s:Sem α)(Q:α->af->Prop)(F:af)(w:World)(cJ:Array Event)(a:α)(w':World)(F':af)(es:Array Event):Prop where
 run:s.runT P w cJ=(.ok a w',cJ++es)
 upd:dJ F F' w w'
 has:Has F' w'
 gU:∀e∈es,iA F.ro (gF F w.heap.size w'.heap.size) e
 post:Q a F'
theorem lF.cons {α:Type}{P:Program}{s s':Sem α}{Q:α->af->Prop}{F c F':af}{w w1 w':World}{cJ es:Array Event}{e:Event}{a:α}
  (h:lF P s' Q c w1 (cJ.push e) a w' F' es) (g:s.runT P w cJ=s'.runT P w1 (cJ.push e)) (hu:dJ F c w w1) (hb:Has c w1) (he:iA F.ro (· ∈keys F.own) e) (i:c.ro=F.ro):lF P s Q F w cJ a w' F' (#[e]++es) where
 run:=by rw[g,h.run];simp
 upd:=hu.trans h.upd
 has:=h.has
 gU x d:=by
  simp only[Array.mem_append,List.mem_toArray,List.mem_singleton] at d
  rcases d with rfl|d
  ·exact he.mono (fun _ h=>h) (fun _ h=>.inl h)
  ·exact (h.gU x d).mono (fun a j=>by rw[<-i];exact j) (fun b f=>by
    rcases f with f|⟨h1,h2⟩
    ·exact (hu.own b f).imp id (fun y=>⟨y,Nat.lt_of_lt_of_le (hb.lt f) h.upd.size⟩)
    ·exact .inr ⟨Nat.le_trans hu.size h1,h2⟩)
 post:=h.post
theorem lF.skip {α:Type}{P:Program}{s s':Sem α}{Q:α->af->Prop}{F c F':af}{w w1 w':World}{cJ es:Array Event}{a:α}
  (h:lF P s' Q c w1 cJ a w' F' es) (e:s.runT P w cJ=s'.runT P w1 cJ) (hu:dJ F c w w1) (hb:Has c w1) (f:c.ro=F.ro):lF P s Q F w cJ a w' F' es where
 run:=by rw[e,h.run]
 upd:=hu.trans h.upd
 has:=h.has
 gU x g:=(h.gU x g).mono (fun a i=>by rw[<-f];exact i) (fun b d=>by
    rcases d with d|⟨h1,h2⟩
    ·exact (hu.own b d).imp id (fun y=>⟨y,Nat.lt_of_lt_of_le (hb.lt d) h.upd.size⟩)
    ·exact .inr ⟨Nat.le_trans hu.size h1,h2⟩)
 post:=h.post
theorem Has.drawn {F:af}{w:World}(h:Has F w)(n:Nat):Has F {w with drawn:=n}:=⟨h.ro,h.own,h.nodup,h.apart⟩
theorem dJ.drawn (F:af)(w:World)(n:Nat):dJ F F w {w with drawn:=n}:=⟨rfl,rfl,rfl,Nat.le_refl _,fun _ _ _=>rfl,fun _ h=>.inl h,fun _ h=>.inl h⟩
theorem kH {α:Type}{P:Program}{Q:α->af->Prop}:∀(s:Sem α) (F:af) (w:World) (cJ:Array Event),aT P s Q F->Has F w->
  ∃a w' F' es,lF P s Q F w cJ a w' F' es:=by
 intro s
 induction s with
 |pure a=>exact fun F w cJ h hw=>⟨a,w,F,#[],by simp[Sem.runT],.refl _ _,hw,by simp,h⟩
 |load m a k ih=>
  rintro F w cJ ⟨rfl,v,D,h⟩ hw
  obtain ⟨x,w',F',es,H⟩:=ih v F w (cJ.push ⟨.cell a,false,false⟩) h hw
  refine ⟨x,w',F',_,H.cons ?_ (.refl _ _) hw (.inl ⟨a,false,rfl,(ym D).imp id fun y=>⟨rfl,y⟩⟩) rfl⟩
  have:=hw.reads D
  simp only[Sem.runT,this]
  rfl
 |store m a v k ih=>
  rintro F w cJ ⟨rfl,M,l,h⟩ hw
  unfold af.lE at l
  split at l
  case h_2=>cases l
  rename_i c t fr p
  split at l
  case isFalse=>cases l
  rename_i j
  obtain ⟨G,E,I,J⟩:=j
  cases l
  have d:=gE p
  have hb:=hw.own _ _ d
  have A:(w.setCell a v).heap[a.block]?=some (.cells (c.setIfInBounds a.off v) t fr):=by
   simp[World.setCell,Array.getElem?_modify,hb,E]
  have g:∀b,b≠a.block->(w.setCell a v).heap[b]?=w.heap[b]?:=by
   intro b g
   simp only[World.setCell]
   rw[Array.getElem?_modify,if_neg (fun e=>g e.symm)]
  have u:=hw.set (o:=.cells (c.setIfInBounds a.off v) t fr) (eK d) A g
  obtain ⟨x,w',F',es,H⟩:=ih _ (w.setCell a v) (cJ.push ⟨.cell a,true,false⟩) h u
  refine ⟨x,w',F',_,H.cons ?_ (dJ.put (eK d) rfl rfl rfl (by simp[World.setCell]) g) u (.inl ⟨a,true,rfl,.inl (eK d)⟩) rfl⟩
  have j:w.cell? a=some c[a.off]:=by simp[World.cell?,hb,E,I]
  have K:w.frozen? a=false:=by
   have:w.frozen? a=frozenAt (.cells c t fr) a.off:=by
    obtain ⟨lo,hi⟩:=fr
    simp[World.frozen?,hb,frozenAt]
   rw[this,J]
  cases v<;>simp[bx] at G<;>simp only[Sem.runT,j,K]<;>rfl
 |new o k ih=>
  intro F w cJ h hw
  obtain ⟨x,w',F',es,H⟩:=ih w.heap.size (F.push w.heap.size o) {w with heap:=w.heap.push o} cJ (h.2 _ hw.fresh) (hw.push o)
  exact ⟨x,w',F',es,H.skip (by simp only[Sem.runT]) (dJ.push o) (hw.push o) rfl⟩
 |shape r k ih=>
  intro F w cJ h hw
  have:aT P (k (w.shape? r)) Q F:=by
   unfold aT at h
   split at h
   ·rename_i o f
    have e:w.shape? r=shapeOf o:=by
     have:=hw.own _ _ (gE f)
     cases o<;>simp[World.shape?,this,shapeOf]
    rw[e];exact h
   ·exact h _
  obtain ⟨x,w',F',es,H⟩:=ih _ F w cJ this hw
  exact ⟨x,w',F',es,H.skip (by simp only[Sem.runT]) (.refl _ _) hw rfl⟩
 |freeze a n k ih=>exact fun F w cJ h hw=>h.elim
 |frozen a k ih=>
  intro F w cJ h hw
  have:aT P (k (w.frozen? a)) Q F:=by
   unfold aT at h
   split at h
   ·rename_i o f
    have e:w.frozen? a=frozenAt o a.off:=by
     have:=hw.own _ _ (gE f)
     cases o<;>simp[World.frozen?,this,frozenAt]
    rw[e];exact h
   ·exact h _
  obtain ⟨x,w',F',es,H⟩:=ih _ F w cJ this hw
  exact ⟨x,w',F',es,H.skip (by simp only[Sem.runT]) (.refl _ _) hw rfl⟩
 |getObj r k ih=>
  rintro F w cJ ⟨o,f,h⟩ hw
  unfold af.eT at f
  split at f
  case h_2=>cases f
  rename_i o' p
  split at f
  case isFalse=>cases f
  rename_i B
  cases f
  obtain ⟨x,w',F',es,H⟩:=ih _ F w (cJ.push ⟨.obj r,false,false⟩) h hw
  refine ⟨x,w',F',_,H.cons ?_ (.refl _ _) hw (.inr (.inl ⟨r,false,rfl,eK (gE p)⟩)) rfl⟩
  have:=hw.own _ _ (gE p)
  obtain ⟨j,C⟩:=B
  cases o<;>simp[Obj.oD] at j<;>simp only[Sem.runT,this,C]<;>rfl
 |setObj r o k ih=>
  rintro F w cJ ⟨C,i,h⟩ hw
  obtain ⟨x,i⟩:=Option.isSome_iff_exists.1 i
  unfold af.eT at i
  split at i
  case h_2=>cases i
  rename_i N p
  split at i
  case isFalse=>cases i
  rename_i B
  cases i
  have d:=gE p
  have hb:=hw.own _ _ d
  have L:r<w.heap.size:=hw.lt (eK d)
  have A:({w with heap:=w.heap.setIfInBounds r o}:World).heap[r]?=some o:=by simp[L]
  have g:∀b,b≠r->({w with heap:=w.heap.setIfInBounds r o}:World).heap[b]?=w.heap[b]?:=fun b g=>by
   simp[Array.getElem?_setIfInBounds,Ne.symm g]
  have u:=hw.set (w':={w with heap:=w.heap.setIfInBounds r o}) (o:=o) (eK d) A g
  obtain ⟨y,w',F',es,H⟩:=ih (F.put r o) {w with heap:=w.heap.setIfInBounds r o} (cJ.push ⟨.obj r,true,false⟩) h u
  refine ⟨y,w',F',_,H.cons ?_ (dJ.put (eK d) rfl rfl rfl (by simp) g) u (.inr (.inl ⟨r,true,rfl,eK d⟩)) rfl⟩
  obtain ⟨j,_⟩:=B
  cases x<;>simp[Obj.oD] at j<;>simp only[Sem.runT,hb,C]
 |choose q k ih=>
  intro F w cJ h hw
  unfold aT at h
  by_cases z:q.forced=true
  ·rw[if_pos z] at h
   obtain ⟨x,w',F',es,H⟩:=ih _ F w cJ h hw
   exact ⟨x,w',F',es,H.skip (by simp only[Sem.runT,z,if_true]) (.refl _ _) hw rfl⟩
  ·rw[if_neg z] at h
   obtain ⟨x,w',F',es,H⟩:=ih (q.cut (w.tape w.drawn q)) F {w with drawn:=w.drawn+1} cJ (h _) (hw.drawn _)
   exact ⟨x,w',F',es,H.skip (by simp only[Sem.runT,if_neg z]) (.drawn _ _ _) (hw.drawn _) rfl⟩
 |sys c k ih=>exact fun F w cJ h hw=>h.elim
 |program k ih=>
  intro F w cJ h hw
  obtain ⟨x,w',F',es,H⟩:=ih P F w cJ h hw
  exact ⟨x,w',F',es,H.skip (by simp only[Sem.runT]) (.refl _ _) hw rfl⟩
 |mark m k ih=>
  rintro F w cJ ⟨hm,h⟩ hw
  obtain ⟨x,w',F',es,H⟩:=ih F w (cJ.push ⟨.mark m,false,true⟩) h hw
  exact ⟨x,w',F',_,H.cons (by simp only[Sem.runT]) (.refl _ _) hw (.inr (.inr ⟨m,rfl,hm⟩)) rfl⟩
 |halt h=>exact fun F w cJ h hw=>h.elim
def on (b:Frame)(a:Act)(todo:List Item):Frame:={b with tmps:=a.tmps,todo:=todo,defers:=a.defers,mode:=.run}
structure Le (F F':af):Prop where
 has:∀w,Has F' w->Has F w
 own:∀b,b∈keys F.own->b∈keys F'.own
 ro:∀a,(F.ro a).isSome=true->(F'.ro a).isSome=true\/a.block∈keys F'.own
theorem Le.refl (F:af):Le F F:=⟨fun _ h=>h,fun _ h=>h,fun _ h=>.inl h⟩
theorem Le.trans {F G H:af}(h:Le F G)(k:Le G H):Le F H:=
 ⟨fun w x=>h.has w (k.has w x),fun b x=>k.own b (h.own b x),fun a x=>(h.ro a x).elim (k.ro a) (fun y=>.inr (k.own _ y))⟩
def CZ (P:Program)(main:Bool)(J:Goroutine->af->Prop)(g:Goroutine)(F:af)(w:World):Prop:=
 ∃g' w' es F',stepG P main g w= .go g' w' es/\dJ F F' w w'/\Has F' w'/\(∀e∈es,iA F.ro (gF F w.heap.size w'.heap.size) e)/\J g' F'
structure Closed (P:Program)(main:Bool)(J:Goroutine->af->Prop):Prop where
 mono:∀{g F F'},Le F F'->J g F->J g F'
 step:∀{fr cs F},(∀w,Has F w->CZ P main J (G fr cs) F w)->J (G fr cs) F
def cK (P:Program)(J:Goroutine->af->Prop)(f:FuncId)(args:Array Value)(F:af)(R:Value->af->Prop):Prop:=
 ∀(c:Frame) (cs:List Frame),(∀v F',R v F'->J (G (c.finish v) cs) F')->J (G (Frame.enter P f args .normal) (c::cs)) F
def aC (P:Program)(f:FuncId)(args:Array Value)(F:af)(R:Value->af->Prop):Prop:=
 ∀(main:Bool) (J:Goroutine->af->Prop),Closed P main J->cK P J f args F R
section
variable {P : Program} {main : Bool} {J : Goroutine → af → Prop}
theorem cK.mono {f:FuncId}{args:Array Value}{F:af}{R a:Value->af->Prop}(h:cK P J f args F R)(b:∀v F',R v F'->a v F'):cK P J f args F a:=
 fun c cs k=>h c cs fun v F' r=>k v F' (b v F' r)
theorem aC.mono {f:FuncId}{args:Array Value}{F:af}{R a:Value->af->Prop}(h:aC P f args F R)(b:∀v F',R v F'->a v F'):aC P f args F a:=
 fun m J hJ=>(h m J hJ).mono b
theorem Closed.move (hJ:Closed P main J){fr fr':Frame}{cs cs':List Frame}{F:af}(hs:∀w,stepG P main (G fr cs) w= .go (G fr' cs') w #[])(h:J (G fr' cs') F):J (G fr cs) F:=
 hJ.step fun w hw=>⟨_,w,#[],F,hs w,.refl _ _,hw,by simp,h⟩
variable {b : Frame} {a : Act} {k : List Item} {cs : List Frame} {F : af}
theorem yq {w:World}:stepG P main (G (on b a (.code .skip::k)) cs) w= .go (G (on b a k) cs) w #[]:=by simp[G,stepG,stepG.exec,on]
theorem C0 {l:Nat}{w:World}:stepG P main (G (on b a (.code (.label l)::k)) cs) w= .go (G (on b a k) cs) w #[]:=by simp[G,stepG,stepG.exec,on]
theorem yt {id:Nat}{w:World}:stepG P main (G (on b a (.inBlock id::k)) cs) w= .go (G (on b a k) cs) w #[]:=by simp[G,stepG,stepG.exec,on]
theorem C1 {c:Code}{w:World}:stepG P main (G (on b a (.inScope c::k)) cs) w= .go (G (on b a k) cs) w #[]:=by simp[G,stepG,stepG.exec,on]
theorem yu {x y:Code}{w:World}:stepG P main (G (on b a (.code (.seq x y)::k)) cs) w= .go (G (on b a (.code x:: .code y::k)) cs) w #[]:=by simp[G,stepG,stepG.exec,on]
theorem tO (b:Frame)(a:Act)(todo:List Item)(x:Operand):(on b a todo).eval x=a.eval x:=by cases x<;>rfl
theorem yw {c:Operand}{x y:Code}{t:Bool}{w:World}(h:a.eval c= .bool t):stepG P main (G (on b a (.code (.cond c x y)::k)) cs) w= .go (G (on b a (.code (if t then x else y)::k)) cs) w #[]:=by
 have d:(on b a (.code (.cond c x y)::k)).eval c= .bool t:=by rw[tO];exact h
 simp only[on] at d
 simp[G,stepG,stepG.exec,on,d]
theorem yx {id:Nat}{c:Code}{w:World}:stepG P main (G (on b a (.code (.block id c)::k)) cs) w= .go (G (on b a (.code c:: .inBlock id::k)) cs) w #[]:=by simp[G,stepG,stepG.exec,on]
theorem yy {c:Code}{w:World}:stepG P main (G (on b a (.code (.loop c)::k)) cs) w= .go (G (on b a (.code c:: .inLoop c::k)) cs) w #[]:=by simp[G,stepG,stepG.exec,on]
theorem yz {c:Code}{w:World}:stepG P main (G (on b a (.inLoop c::k)) cs) w= .go (G (on b a (.code c:: .inLoop c::k)) cs) w #[]:=by simp[G,stepG,stepG.exec,on]
theorem C2 {c:Code}{w:World}:stepG P main (G (on b a (.code (.scope c)::k)) cs) w= .go (G (on b a (.code c:: .inScope c::k)) cs) w #[]:=by simp[G,stepG,stepG.exec,on]
theorem yA {id:Nat}{c:List Item}{w:World}(h:exitTo id k=some c):stepG P main (G (on b a (.code (.exit id)::k)) cs) w= .go (G (on b a c) cs) w #[]:=by simp[G,stepG,stepG.exec,on,h]
theorem yB {id:Nat}{ops:Array Oper}{w:World}:stepG P main (G (on b a (.code (.region id ops false)::k)) cs) w= .go (G (on b a (.inRegion ops (List.range ops.size)::k)) cs) w #[]:=by simp[G,stepG,stepG.exec,on]
theorem yC {id:Nat}{ops:Array Oper}{w:World}:stepG P main (G (on b a (.code (.region id ops true)::k)) cs) w=
  .go (G (on b a (.inRegion ops (Region.schedule (P.follows .mixedOrders) ops (w.tape w.drawn (.order b.fn id)))::k)) cs) {w with drawn:=w.drawn+1} #[]:=by
 simp[G,stepG,stepG.exec,on,choose,Sem.run,Question.forced,Question.cut]
theorem yD {ops:Array Oper}{w:World}:stepG P main (G (on b a (.inRegion ops []::k)) cs) w= .go (G (on b a k) cs) w #[]:=by simp[G,stepG,stepG.exec,on]
theorem stepG_ret' {w:World}(c:b.roundOf=none):stepG P main (G (on b a (.code .ret::k)) cs) w= .go (G {on b a (.code .ret::k) with mode:=.returning} cs) w #[]:=by simp[G,stepG,stepG.exec,on,c]
theorem lG {w:World}(c:b.roundOf=none):stepG P main (G (on b a []) cs) w= .go (G {on b a [] with mode:=.returning} cs) w #[]:=by simp[G,stepG,stepG.exec,on,c]
theorem tP (b:Frame)(a:Act)(ops:Array Oper)(i:Nat)(rest:List Nat)(k:List Item)(v:Value):
  (on b a (.inRegion ops (i::rest)::k)).finish v=on b (a.put ((ops[i]?).bind (·.dst)) v) (.inRegion ops rest::k):=by
 cases h:(ops[i]?).bind (·.dst)<;>simp[Frame.finish,on,Act.put,h]
theorem tQ {ops:Array Oper}{i:Nat}{rest:List Nat}{w:World}(h:((ops[i]?).map (Region.wanted · (yielded ops a.tmps))).getD false=false):
  stepG P main (G (on b a (.inRegion ops (i::rest)::k)) cs) w= .go (G (on b (a.put ((ops[i]?).bind (·.dst)) undef) (.inRegion ops rest::k)) cs) w #[]:=by
 rw[<-tP]
 have c:=h
 simp only[on] at*
 simp[G,stepG,stepG.exec,c]
theorem C3 {ops:Array Oper}{i:Nat}{rest:List Nat}{o:Oper}{w:World}(d:b.roundOf=none\/∀c,o.op≠ .defer c)(e:ops[i]?=some o)(hw:Region.wanted o (yielded ops a.tmps)=true):
  stepG P main (G (on b a (.inRegion ops (i::rest)::k)) cs) w=stepG.apply P true (on b a (.inRegion ops (i::rest)::k)) cs none (execOp a.eval o) w:=by
 have he:(on b a (.inRegion ops (i::rest)::k)).eval=a.eval:=funext (tO b a _)
 simp only[on] at he
 rcases d with d|d
 ·rw[d] at he
  simp[G,stepG,stepG.exec,stepG.oper,Frame.oper?,on,e,hw,he,d]
 ·have:∀l,(match (some l:Option Nat),o.op with
   |some l,.defer c=>stepG.apply P true (on b a (.inRegion ops (i::rest)::k)) cs none (do Instr.deferInRound l (<-resolve (on b a (.inRegion ops (i::rest)::k)).eval c o.type);pure .skip) w
   |_,_=>stepG.apply P true (on b a (.inRegion ops (i::rest)::k)) cs none (execOp a.eval o) w)=stepG.apply P true (on b a (.inRegion ops (i::rest)::k)) cs none (execOp a.eval o) w:=by
   intro l
   cases f:o.op<;>first|rfl|exact absurd f (d _)
  cases hb:b.roundOf with
  |none=>
   rw[hb] at he
   simp[G,stepG,stepG.exec,stepG.oper,Frame.oper?,on,e,hw,he,hb]
  |some l=>
   have t:=this l
   simp only[on,he] at t
   simp only[hb] at t
   simp[G,stepG,stepG.exec,stepG.oper,Frame.oper?,on,e,hw,he,hb]
   exact t
def jc (J:Goroutine->af->Prop)(l:Nat)(f:FuncId)(tmps:Array Value)(assign body:Code)(F:af)(R:Value->af->Prop):Prop:=
 ∀(c:Frame) (cs:List Frame),(∀v F',R v F'->J (G (c.finish v) cs) F')->J (G (Frame.round l f tmps assign body .normal) (c::cs)) F
theorem jc.mono {l:Nat}{f:FuncId}{tmps:Array Value}{assign body:Code}{F:af}{R a:Value->af->Prop}(h:jc J l f tmps assign body F R)(b:∀v F',R v F'->a v F'):jc J l f tmps assign body F a:=
 fun c cs k=>h c cs fun v F' r=>k v F' (b v F' r)
def fj (P:Program)(J:Goroutine->af->Prop)(R:Value->af->Prop)(D:Deferred->af->Prop):Next->af->Prop
 | .value v,F=>R v F
 | .skip,F=>R undef F
 | .defer d,F=>D d F
 | .enter f args,F=>cK P J f args F R
 | .round l f tmps assign body,F=>jc J l f tmps assign body F R
 |_,_=>False
theorem yE {R b:Value->af->Prop}{D c:Deferred->af->Prop}(a:∀v F,R v F->b v F)(e:∀d F,D d F->c d F):∀n F,fj P J R D n F->fj P J b c n F
 | .value v,F,h=>a _ _ h
 | .skip,F,h=>a _ _ h
 | .defer d,F,h=>e _ _ h
 | .enter f args,F,h=>cK.mono h a
 | .round l f tmps assign body,F,h=>jc.mono h a
 | .stack ..,_,h| .callThen ..,_,h| .row ..,_,h| .comm ..,_,h| .spawn ..,_,h| .recover,_,h| .numGoroutine,_,h| .collect,_,h| .watch ..,_,h| .newcoro ..,_,h| .coroswitch ..,_,h| .sleep ..,_,h| .timer ..,_,h| .alone ..,_,h=>h.elim
def jL (P:Program)(J:Goroutine->af->Prop)(R:Value->af->Prop)(D:Deferred->af->Prop)(n:Next)(F:af):Prop:=fj P J (fun v F=>∃F0,Le F0 F/\R v F0) D n F
theorem C4 {R:Value->af->Prop}{D:Deferred->af->Prop}:∀n F,fj P J R D n F->jL P J R D n F:=yE (fun _ F h=>⟨F,Le.refl F,h⟩) (fun _ _ h=>h)
theorem oE {R a:Value->af->Prop}{D b:Deferred->af->Prop}(c:∀v F,R v F->a v F)(e:∀d F,D d F->b d F):∀n F,jL P J R D n F->jL P J a b n F:=
 yE (fun _ _ ⟨F0,hle,h⟩=>⟨F0,hle,c _ _ h⟩) e
def yF (P:Program)(J:Goroutine->af->Prop)(o:Oper)(K:Act->af->Prop)(a:Act)(F:af):Prop:=
 aT P (execOp a.eval o) (jL P J (fun v F'=>K (a.put o.dst v) F') (fun d F'=>K ({a with defers:=d::a.defers}.put o.dst undef) F')) F
def dG (P:Program)(J:Goroutine->af->Prop)(ops:Array Oper)(i:Nat)(K:Act->af->Prop)(a:Act)(F:af):Prop:=
 match ops[i]? with
 |none=>K a F
 |some o=>if Region.wanted o (yielded ops a.tmps) then yF P J o K a F else K (a.put o.dst undef) F
def fF (P:Program)(J:Goroutine->af->Prop)(ops:Array Oper)(K:Act->af->Prop):List Nat->Act->af->Prop
 |[],a,F=>K a F
 |i::rest,a,F=>dG P J ops i (fF P J ops K rest) a F
structure tR (ops:Array Oper)(b:Frame):Prop where
 kind:b.kind≠ .early
 round:b.roundOf=none\/∀o∈ops,∀c,o.op≠ .defer c
theorem yG (hJ:Closed P main J){ops:Array Oper}{i:Nat}{rest:List Nat}{K:Act->af->Prop}(hb:tR ops b)(h:dG P J ops i K a F)
  (p:∀a' F',K a' F'->J (G (on b a' (.inRegion ops rest::k)) cs) F'):J (G (on b a (.inRegion ops (i::rest)::k)) cs) F:=by
 unfold dG at h
 cases g:ops[i]? with
 |none=>
  rw[g] at h
  refine hJ.move (fun w=>tQ (by simp[g])) ?_
  simp only[g,Option.bind_none,Act.put]
  exact p _ _ h
 |some o=>
  rw[g] at h
  simp only at h
  by_cases hw:Region.wanted o (yielded ops a.tmps)=true
  ·rw[if_pos hw] at h
   refine hJ.step fun w u=>?_
   obtain ⟨n,w',F',es,H⟩:=kH _ F w #[] h u
   have t:=H.run
   rw[Array.empty_append] at t
   have y:b.roundOf=none\/∀c,o.op≠ .defer c:=hb.round.imp id fun x=>x o (Array.mem_of_getElem? g)
   have j:=C3 (P:=P) (main:=main) (b:=b) (a:=a) (k:=k) (cs:=cs) (w:=w) (rest:=rest) y g hw
   have hk:((on b a (.inRegion ops (i::rest)::k)).kind==CallKind.early)=false:=by simpa [on] using hb.kind
   have s:∀v,(on b a (.inRegion ops (i::rest)::k)).finish v=on b (a.put o.dst v) (.inRegion ops rest::k):=by
    intro v;rw[tP,g];rfl
   have r:∀e∈seen P (on b a (.inRegion ops (i::rest)::k)).fn es,iA F.ro (gF F w.heap.size w'.heap.size) e:=fun e he=>H.gU e (mem_seen he)
   have m:=H.post
   unfold stepG.apply at j
   simp only[if_true,t,hk,Bool.false_eq_true,if_false] at j
   cases n<;>simp only[jL,fj] at m
   case value v=>
    simp only[s,GStep.after,Array.append_empty] at j
    obtain ⟨F0,hle,m⟩:=m
    exact ⟨_,w',_,F',j,H.upd,H.has,r,hJ.mono hle (p _ _ m)⟩
   case skip=>
    simp only[s,GStep.after,Array.append_empty] at j
    obtain ⟨F0,hle,m⟩:=m
    exact ⟨_,w',_,F',j,H.upd,H.has,r,hJ.mono hle (p _ _ m)⟩
   case defer d=>
    have z:({on b a (.inRegion ops (i::rest)::k) with defers:=d::(on b a (.inRegion ops (i::rest)::k)).defers}:Frame).finish undef=
      on b ({a with defers:=d::a.defers}.put o.dst undef) (.inRegion ops rest::k):=by
     have:=tP b {a with defers:=d::a.defers} ops i rest k undef
     rw[g] at this;exact this
    simp only[z,GStep.after,Array.append_empty] at j
    exact ⟨_,w',_,F',j,H.upd,H.has,r,p _ _ m⟩
   case round l f tmps cx bd=>
    refine ⟨_,w',_,F',j,H.upd,H.has,?_,m _ _ fun v A q=>by obtain ⟨F0,hle,q⟩:=q;rw[s];exact hJ.mono hle (p _ _ q)⟩
    simpa [GStep.after] using r
   case enter f args=>
    refine ⟨_,w',_,F',j,H.upd,H.has,?_,m _ _ fun v A q=>by obtain ⟨F0,hle,q⟩:=q;rw[s];exact hJ.mono hle (p _ _ q)⟩
    simpa [GStep.after] using r
  ·rw[if_neg hw] at h
   refine hJ.move (fun w=>tQ (by simp[g];simpa using hw)) ?_
   simp only[g,Option.bind_some]
   exact p _ _ h
theorem oF {ops:Array Oper}{i:Nat}{K e:Act->af->Prop}{a:Act}{F:af}(h:∀a F,K a F->e a F)(b:dG P J ops i K a F):dG P J ops i e a F:=by
 unfold dG at*
 split
 ·rename_i c;rw[c] at b;exact h _ _ b
 ·rename_i o c
  rw[c] at b
  simp only at b
  split
  ·rename_i hw;rw[if_pos hw] at b;exact gH (oE (fun v F=>h _ _) (fun d F=>h _ _)) _ _ b
  ·rename_i hw;rw[if_neg hw] at b;exact h _ _ b
theorem qz (hJ:Closed P main J){ops:Array Oper}{K:Act->af->Prop}(hb:tR ops b)(c:∀a' F',K a' F'->J (G (on b a' k) cs) F'):
  ∀(l:List Nat) (a:Act) (F:af),fF P J ops K l a F->J (G (on b a (.inRegion ops l::k)) cs) F
 |[],a,F,h=>hJ.move (fun _=>yD) (c _ _ h)
 |i::rest,a,F,h=>yG hJ hb h fun a' F' d=>qz hJ hb c rest a' F' d
section draw
variable {ops : Array Oper} {Q : Act → af → Prop} {S : af → Prop}
def dH (P:Program)(J:Goroutine->af->Prop)(ops:Array Oper)(Q:Act->af->Prop)(S:af->Prop):Nat->Array Bool->Act->af->Prop
 |0,listed,a,F=>Region.ready .any ops listed=[]/\Q a F
 |fuel+1,listed,a,F=>(Region.ready .any ops listed=[]->Q a F)/\
  ∀i∈Region.ready .any ops listed,dG P J ops i (fun a' F'=>S F'/\dH P J ops Q S fuel (listed.setIfInBounds i true) a' F') a F
theorem C5:∀(fuel t:Nat) (listed:Array Bool) (a:Act) (F:af),dH P J ops Q S fuel listed a F->
  fF P J ops Q (Region.linearise.go .any ops fuel t listed []) a F:=by
 intro fuel
 induction fuel with
 |zero=>intro t listed a F h;simpa [Region.linearise.go,fF] using h.2
 |succ fuel ih=>
  intro t listed a F h
  obtain ⟨b,c⟩:=h
  simp only[Region.linearise.go]
  change fF P J ops Q (match (Region.ready .any ops listed)[t % (Region.ready .any ops listed).length]? with
   |some i=>Region.linearise.go .any ops fuel (t/(Region.ready .any ops listed).length) (listed.setIfInBounds i true) [i]
   |none=>[].reverse) a F
  cases hi:(Region.ready .any ops listed)[t % (Region.ready .any ops listed).length]? with
  |none=>
   have d:Region.ready .any ops listed=[]:=by
    cases e:Region.ready .any ops listed with
    |nil=>rfl
    |cons x xs=>
     rw[e] at hi
     have f:t % (x::xs).length<(x::xs).length:=Nat.mod_lt _ (by simp)
     simp at hi
     simp at f
     omega
   simpa [fF] using b d
  |some i=>
   simp only[]
   rw[linearise_go_acc,List.reverse_singleton,List.singleton_append]
   exact oF (fun a F h=>ih _ _ a F h.2) (c i (List.mem_of_getElem? hi))
def fl (P:Program)(J:Goroutine->af->Prop)(ops:Array Oper)(S:af->Prop)(o:Oper)(v:Value)(a:Act):Prop:=
 (Region.wanted o (yielded ops a.tmps)=true/\∀F (R:Value->af->Prop),S F->R v F->aT P (execOp a.eval o) (jL P J R (fun _ _=>False)) F)\/
 (Region.wanted o (yielded ops a.tmps)=false/\v=undef)
theorem fl.mS {i:Nat}{o:Oper}{v:Value}{a:Act}{F:af}(hi:ops[i]?=some o)(b:fl P J ops S o v a)
  {K:Act->af->Prop} (c:S F) (h:K (a.put o.dst v) F):dG P J ops i K a F:=by
 unfold dG
 simp only[hi]
 rcases b with ⟨hw,d⟩|⟨hw,rfl⟩
 ·rw[if_pos hw]
  exact gH (oE (fun _ _ x=>x) (fun _ _ x=>x.elim)) _ _ (d F (fun v F'=>K (a.put o.dst v) F') c h)
 ·rw[if_neg (by simp[hw])];exact h
theorem fl.of_same {o:Oper}{v:Value}{a a':Act}(b:fl P J ops S o v a)(he:execOp a'.eval o=execOp a.eval o)
  (hw:Region.wanted o (yielded ops a'.tmps)=Region.wanted o (yielded ops a.tmps)):fl P J ops S o v a':=by
 unfold fl at*
 rw[he,hw]
 exact b
theorem tS {j:Nat}{c e:Oper}{v:Value}(g:ops[j]?=some e)(i:c.apart ops e=true)
  (k:∀cs b,c.op≠ .select cs b) (l:∀cs b,e.op≠ .select cs b) {K:Act->af->Prop} {a:Act} {F:af}
  (f:fl P J ops S c v a) (h:dG P J ops j K (a.put c.dst v) F):
  dG P J ops j (fun a' F'=>fl P J ops S c v a'/\K (a'.put c.dst v) F') a F:=by
 obtain ⟨h1,h2,h3⟩:=Oper.apart_spec i
 have keep:∀(a:Act),fl P J ops S c v a->∀u,fl P J ops S c v (a.put e.dst u):=fun a f u=>
  f.of_same (execOp_put c k a e.dst u h3) (wanted_put c a e.dst u h3)
 have m:∀d,fl P J ops S c v {a with defers:=d::a.defers}:=fun d=>f.of_same rfl rfl
 unfold dG at*
 simp only[g] at*
 rw[wanted_put e a c.dst v h1] at h
 split
 ·rename_i hw
  rw[if_pos hw] at h
  unfold yF at*
  rw[execOp_put e l a c.dst v h1] at h
  refine gH (oE (fun u F' x=>⟨keep a f u,?_⟩) (fun d F' x=>⟨keep _ (m d) _,?_⟩)) _ _ h
  ·rw[<-Act.put_comm a v u h2];exact x
  ·rw[<-Act.put_comm _ v undef h2,<-Act.put_defers];exact x
 ·rename_i hw
  rw[if_neg hw] at h
  exact ⟨keep a f _,by rw[<-Act.put_comm a v undef h2];exact h⟩
theorem C6 {i:Nat}{g:Oper}{v:Value}(hi:ops[i]?=some g)(r:∀(j:Nat) (o:Oper) cs b,ops[j]?=some o->o.op≠ .select cs b):
  ∀(fuel:Nat) (listed:Array Bool) (a:Act) (F:af),
   (∀j d,ops[j]?=some d->j≠i->listed.getD j true=false->(∀e∈d.after,Region.binds .any e=true->e.on≠i)->g.apart ops d=true)->
   i∈Region.ready .any ops listed->fl P J ops S g v a->S F->
   dH P J ops Q S fuel (listed.setIfInBounds i true) (a.put g.dst v) F->dH P J ops Q S (fuel+1) listed a F:=by
 intro fuel
 induction fuel with
 |zero=>
  intro listed a F _ f m l H
  refine ⟨fun h=>(by rw[h] at f;cases f),fun j n=>?_⟩
  by_cases c:j=i
  ·subst c;exact m.mS hi l ⟨l,H⟩
  ·have:=ready_mono n c
   rw[H.1] at this
   cases this
 |succ fuel ih=>
  intro listed a F s f m l H
  refine ⟨fun h=>(by rw[h] at f;cases f),fun j n=>?_⟩
  by_cases c:j=i
  ·subst c;exact m.mS hi l ⟨l,H⟩
  ·have h1:=H.2 j (ready_mono n c)
   obtain ⟨t,d,p,x⟩:=mem_ready.1 n
   have y:∀e∈d.after,Region.binds .any e=true->e.on≠i:=fun e he hb heq=>by
    have h1:=x e he hb
    have h0:=(mem_ready.1 f).1
    rw[heq] at h1
    rcases Nat.lt_or_ge i listed.size with q|q
    ·simp[q] at h0 h1;rw[h0] at h1;cases h1
    ·simp[Array.getElem?_eq_none q] at h1
   have h2:=tS p (s j d p c t y) (fun cs b=>r i g cs b hi) (fun cs b=>r j d cs b p) m h1
   have z:∀k ok,ops[k]?=some ok->k≠i->(listed.setIfInBounds j true).getD k true=false->
     (∀e∈ok.after,Region.binds .any e=true->e.on≠i)->g.apart ops ok=true:=fun k ok hk A u B=>by
    refine s k ok hk A ?_ B
    by_cases w:j=k
    ·subst w;exact t
    ·rw[getD_set_ne true w] at u;exact u
   refine oF (fun a' F' h3=>⟨h3.2.1,ih (listed.setIfInBounds j true) a' F' z (ready_mono f (Ne.symm c)) h3.1 h3.2.1 ?_⟩) h2
   rw[Array.setIfInBounds_comm _ _ c]
   exact h3.2.2
theorem yH (i:Nat){c:Oper}(v:Value){fuel:Nat}{listed:Array Bool}{a:Act}{F:af}(hi:ops[i]?=some c)
  (b:(Region.noSelect ops&&Region.free .any ops listed i&&(Region.ready .any ops listed).contains i)=true)
  (d:fl P J ops S c v a) (e:S F)
  (h:dH P J ops Q S fuel (listed.setIfInBounds i true) (a.put c.dst v) F):dH P J ops Q S (fuel+1) listed a F:=by
 simp only[Bool.and_eq_true] at b
 exact C6 hi (Region.noSelect_spec b.1.1) fuel listed a F (Region.free_spec hi b.1.2) (by simpa using b.2) d e h
theorem C7 {rs:List Nat}{fuel:Nat}{listed:Array Bool}{a:Act}{F:af}(b:Region.ready .any ops listed=rs)(c:rs≠[])
  (h:∀i∈rs,dG P J ops i (fun a' F'=>S F'/\dH P J ops Q S fuel (listed.setIfInBounds i true) a' F') a F):dH P J ops Q S (fuel+1) listed a F:=
 ⟨fun h0=>absurd (b▸h0) c,b▸h⟩
theorem C8 (i:Nat){fuel:Nat}{listed:Array Bool}{a:Act}{F:af}(b:Region.ready .any ops listed=[i])
  (h:dG P J ops i (fun a' F'=>S F'/\dH P J ops Q S fuel (listed.setIfInBounds i true) a' F') a F):dH P J ops Q S (fuel+1) listed a F:=
 C7 b (by simp) (by simpa using h)
theorem yI {listed:Array Bool}{a:Act}{F:af}(b:Region.ready .any ops listed=[])(h:Q a F):∀fuel,dH P J ops Q S fuel listed a F
 |0=>⟨b,h⟩
 |_+1=>⟨fun _=>h,by rw[b];simp⟩
end draw
end
inductive Ex where
 |normal
 |exit (id:Nat)
 |ret
 deriving DecidableEq
def fo:Code->Bool
 | .region _ ops _=>ops.all fun o=>match o.op with| .defer _=>false|_=>true
 | .seq a b=>fo a&&fo b
 | .cond _ a b=>fo a&&fo b
 | .block _ c=>fo c
 | .loop c=>fo c
 | .scope c=>fo c
 | .rangeFunc ..=>false
 |_=>true
structure yJ (c:Code)(b:Frame):Prop where
 kind:b.kind≠ .early
 round:b.roundOf=none\/fo c=true
section
variable {P : Program} {main : Bool} {J : Goroutine → af → Prop}
def yK (J:Goroutine->af->Prop)(b:Frame)(k:List Item)(cs:List Frame):Ex->Act->af->Prop
 | .normal,a,F=>J (G (on b a k) cs) F
 | .exit id,a,F=>∀c,exitTo id c=exitTo id k->J (G (on b a (.code (.exit id)::c)) cs) F
 | .ret,a,F=>∀c,J (G (on b a (.code .ret::c)) cs) F
def Wp (J:Goroutine->af->Prop)(c:Code)(Q:Ex->Act->af->Prop)(a:Act)(F:af):Prop:=
 ∀(b:Frame) (k:List Item) (cs:List Frame),yJ c b->(∀e a' F',Q e a' F'->yK J b k cs e a' F')->J (G (on b a (.code c::k)) cs) F
theorem Wp.mono {c:Code}{Q d:Ex->Act->af->Prop}{a:Act}{F:af}(h:Wp J c Q a F)(f:∀e a F,Q e a F->d e a F):Wp J c d a F:=
 fun b k cs hb hk=>h b k cs hb fun e a' F' x=>hk e a' F' (f _ _ _ x)
theorem Wp.le {hJ:Closed P main J}{c:Code}{Q:Ex->Act->af->Prop}{a:Act}{F F':af}(h:Wp J c Q a F)(hle:Le F F'):Wp J c Q a F':=
 fun b k cs hb hk=>hJ.mono hle (h b k cs hb hk)
variable {Q : Ex → Act → af → Prop} {a : Act} {F : af}
theorem aG (hJ:Closed P main J)(h:Q .normal a F):Wp J .skip Q a F:=fun b k cs _ hk=>hJ.move (fun _=>yq) (hk _ _ _ h)
theorem C9 (hJ:Closed P main J){l:Nat}(h:Q .normal a F):Wp J (.label l) Q a F:=fun b k cs _ hk=>hJ.move (fun _=>C0) (hk _ _ _ h)
theorem b7 {id:Nat}(h:Q (.exit id) a F):Wp J (.exit id) Q a F:=fun b k cs _ hk=>hk _ _ _ h k rfl
theorem aB (h:Q .ret a F):Wp J .ret Q a F:=fun b k cs _ hk=>hk _ _ _ h k
def yL (J:Goroutine->af->Prop)(y:Code)(Q:Ex->Act->af->Prop):Ex->Act->af->Prop
 | .normal,a,F=>Wp J y Q a F
 |e,a,F=>Q e a F
theorem aa (hJ:Closed P main J){x y:Code}(h:Wp J x (yL J y Q) a F):Wp J (.seq x y) Q a F:=fun b k cs hb hk=>by
 refine hJ.move (fun _=>yu) (h b (.code y::k) cs ⟨hb.kind,hb.round.imp id fun z=>?_⟩ fun e a' F' c=>?_)
 ·simp only[fo,Bool.and_eq_true] at z;exact z.1
 ·cases e with
  |normal=>exact c b k cs ⟨hb.kind,hb.round.imp id fun z=>by simp only[fo,Bool.and_eq_true] at z;exact z.2⟩ hk
  |exit id=>exact fun d f=>hk _ _ _ c d (by rw[f];rfl)
  |ret=>exact hk _ _ _ c
theorem tT (hJ:Closed P main J){c:Operand}{x y:Code}(t:Bool)(d:a.eval c= .bool t)(h:Wp J (if t then x else y) Q a F):Wp J (.cond c x y) Q a F:=fun b k cs hb hk=>by
 refine hJ.move (fun _=>yw d) (h b k cs ⟨hb.kind,hb.round.imp id fun z=>?_⟩ hk)
 simp only[fo,Bool.and_eq_true] at z
 cases t
 ·exact z.2
 ·exact z.1
def tU (id:Nat)(Q:Ex->Act->af->Prop):Ex->Act->af->Prop
 | .normal,a,F=>Q .normal a F
 | .exit i,a,F=>if i=id then Q .normal a F else Q (.exit i) a F
 | .ret,a,F=>Q .ret a F
theorem aY (hJ:Closed P main J){id:Nat}{c:Code}(h:Wp J c (tU id Q) a F):Wp J (.block id c) Q a F:=fun b k cs hb hk=>by
 refine hJ.move (fun _=>yx) (h b (.inBlock id::k) cs ⟨hb.kind,hb.round⟩ fun e a' F' d=>?_)
 cases e with
 |normal=>exact hJ.move (fun _=>yt) (hk _ _ _ d)
 |exit i=>
  intro f g
  simp only[tU] at d
  by_cases hi:i=id
  ·rw[if_pos hi] at d
   subst hi
   have:exitTo i f=some k:=by rw[g];simp[exitTo]
   exact hJ.move (fun _=>yA this) (hk _ _ _ d)
  ·rw[if_neg hi] at d
   refine hk _ _ _ d f ?_
   rw[g]
   simp[exitTo,Ne.symm hi]
 |ret=>exact hk _ _ _ d
theorem Da (hJ:Closed P main J){c:Code}(h:Wp J c Q a F):Wp J (.scope c) Q a F:=fun b k cs hb hk=>by
 refine hJ.move (fun _=>C2) (h b (.inScope c::k) cs ⟨hb.kind,hb.round⟩ fun e a' F' d=>?_)
 cases e with
 |normal=>exact hJ.move (fun _=>C1) (hk _ _ _ d)
 |exit i=>exact fun f g=>hk _ _ _ d f (by rw[g];rfl)
 |ret=>exact hk _ _ _ d
def qA (I:Nat->Act->af->Prop)(n:Nat)(Q:Ex->Act->af->Prop):Ex->Act->af->Prop
 | .normal,a,F=>∃m,m<n/\I m a F
 |e,a,F=>Q e a F
theorem yM (hJ:Closed P main J){c:Code}(I:Nat->Act->af->Prop)(n:Nat)(h0:I n a F)(hs:∀n a F,I n a F->Wp J c (qA I n Q) a F):Wp J (.loop c) Q a F:=by
 intro b k cs hb hk
 have key:∀n a F,I n a F->J (G (on b a (.code c:: .inLoop c::k)) cs) F:=by
  intro n
  induction n using Nat.strongRecOn with
  |_ n ih=>
   intro a F f
   refine hs n a F f b (.inLoop c::k) cs ⟨hb.kind,hb.round⟩ fun e a' F' d=>?_
   cases e with
   |normal=>
    obtain ⟨m,hm,g⟩:=d
    exact hJ.move (fun _=>yz) (ih m hm a' F' g)
   |exit i=>exact fun h j=>hk _ _ _ d h (by rw[j];rfl)
   |ret=>exact hk _ _ _ d
 exact hJ.move (fun _=>yy) (key n a F h0)
theorem tV {id:Nat}{ops:Array Oper}{d:Bool}{b:Frame}(hb:yJ (.region id ops d) b):tR ops b:=
 ⟨hb.kind,hb.round.imp a fun z o e c f=>by
  simp only[fo] at z
  have:=(Array.all_eq_true_iff_forall_mem.1 z) o e
  rw[f] at this
  cases this⟩
where a {p:Prop} (h:p):p:=h
theorem Db (hJ:Closed P main J){id:Nat}{ops:Array Oper}(h:fF P J ops (Q .normal) (List.range ops.size) a F):Wp J (.region id ops false) Q a F:=fun b k cs hb hk=>
 hJ.move (fun _=>yB) (qz hJ (tV hb) (fun a' F' c=>hk .normal a' F' c) _ _ _ h)
theorem tX (hJ:Closed P main J)(S:af->Prop)(hm:P.follows .mixedOrders=true){id:Nat}{ops:Array Oper}(h:dH P J ops (Q .normal) S ops.size (Array.replicate ops.size false) a F):Wp J (.region id ops true) Q a F:=fun b k cs hb hk=>
 hJ.step fun w hw=>by
  refine ⟨_,_,_,F,yC,.drawn _ _ _,hw.drawn _,by simp,?_⟩
  refine qz (K:=Q .normal) hJ (tV hb) (fun a' F' c=>hk .normal a' F' c) _ _ _ ?_
  simp only[Region.schedule,hm,Bool.true_or,if_true]
  exact C5 ops.size _ _ a F h
def gW (P:Program):List Deferred->(af->Prop)->af->Prop
 |[],K,F=>K F
 |d::a,K,F=>∃r,d.target= .collected r/\aT P (Instr.takeDeferred r) (fun calls F'=>calls=[]/\gW P a K F') F
def qB (P:Program)(fn:Func)(R:Value->af->Prop):Ex->Act->af->Prop
 | .exit _,_,_=>False
 |_,a,F=>gW P a.defers (fun F=>aT P (results fn a.tmps) R F) F
theorem tY (hJ:Closed P main J){f:FuncId}{fn:Func}(j:P.funcs[f]?=some fn){R:Value->af->Prop}{c:Frame}{cs:List Frame}(k:∀v F',R v F'->J (G (c.finish v) cs) F')(tmps:Array Value):
  ∀(a:List Deferred) (fr:Frame) (F:af),fr.fn=f->fr.kind= .normal->fr.mode= .returning->fr.defers=a->fr.tmps=tmps->gW P a (fun F=>aT P (results fn tmps) R F) F->J (G fr (c::cs)) F
 |[],fr,F,h1,h2,h3,g,i,h=>by
  refine hJ.step fun w hw=>?_
  obtain ⟨v,w',F',es,H⟩:=kH _ F w #[] h hw
  have b:=H.run
  rw[Array.empty_append] at b
  refine ⟨G (c.finish v) cs,w',seen P fr.fn es,F',?_,H.upd,H.has,fun e he=>H.gU e (mem_seen he),k v F' H.post⟩
  simp only[G,stepG,unwind,h3,g,i,h1,j,b]
  simp[doReturn,h2,GStep.after]
 |d::a,fr,F,h1,h2,h3,g,i,h=>by
  obtain ⟨r,l,m⟩:=h
  refine hJ.step fun w hw=>?_
  obtain ⟨v,w',F',es,H⟩:=kH _ F w #[] m hw
  have b:=H.run
  rw[Array.empty_append] at b
  obtain ⟨n,o⟩:=H.post
  subst n
  obtain ⟨t,args⟩:=d
  simp only at l
  subst l
  refine ⟨G {fr with defers:=a} (c::cs),w',seen P fr.fn es,F',?_,H.upd,H.has,fun e he=>H.gU e (mem_seen he),?_⟩
  ·simp only[G,stepG,unwind,h3,g,b]
   simp[GStep.after]
  ·exact tY hJ j k tmps a {fr with defers:=a} F' h1 h2 h3 rfl i o
theorem cK.of_wp (hJ:Closed P main J){f:FuncId}{fn:Func}{c:Code}{args:Array Value}{R:Value->af->Prop}(a:P.funcs[f]?=some fn)(hb:fn.body=some c)
  (h:Wp J c (qB P fn R) {tmps:=args++Array.replicate (fn.ntmps - args.size) undef,defers:=[]} F):cK P J f args F R:=by
 intro j cs g
 let b:Frame:={(default:Frame) with fn:=f,kind:=.normal}
 have k:Frame.enter P f args .normal=on b {tmps:=args++Array.replicate (fn.ntmps - args.size) undef,defers:=[]} [.code c]:=by
  simp[Frame.enter,on,a,hb,b]
  rfl
 rw[k]
 refine h b [] (j::cs) ⟨by simp[b],.inl rfl⟩ fun e a' F' d=>?_
 cases e with
 |normal=>exact hJ.move (fun _=>lG rfl) (tY hJ a g a'.tmps a'.defers _ F' rfl rfl rfl rfl rfl d)
 |exit i=>exact d.elim
 |ret=>exact fun l=>hJ.move (fun _=>stepG_ret' rfl) (tY hJ a g a'.tmps a'.defers _ F' rfl rfl rfl rfl rfl d)
theorem aC.of_wp {f:FuncId}{fn:Func}{c:Code}{args:Array Value}{F:af}{R:Value->af->Prop}(a:P.funcs[f]?=some fn)(hb:fn.body=some c)
  (h:∀main J,Closed P main J->Wp J c (qB P fn R) {tmps:=args++Array.replicate (fn.ntmps - args.size) undef,defers:=[]} F):aC P f args F R:=
 fun main J hJ=>cK.of_wp hJ a hb (h main J hJ)
end
end Go.Sep
end
section
namespace Go.Sep
open Go Go.Conc Go.ConcM
open Go.ConcN (sumTo upd sumTo_upd upd_ne upd_same)
def af.gf (F:af):Loc->Prop
 | .cell a=>a.block∈keys F.own\/(F.ro a).isSome=true
 | .obj r=>r∈keys F.own
 |_=>False
structure jd (P:Program)(bt:Loc->Prop)(g:Goroutine)(F:af)(gs:Array Goroutine)(w:World)(t:Trace)(q:Nat->Nat):Prop where
 g0:gs[0]?=some g
 lv:Leavers P t gs q
 fq:Past bt w.heap.size t
 has:Has F w
 apart:∀l,bt l->¬F.gf l
 low:∀l,bt l->l.low w.heap.size
structure eZ (F F':af)(w w':World):Prop where
 os:OsLater w.os w'.os
 tape:w'.tape=w.tape
 output:w'.output=w.output
 size:w.heap.size<=w'.heap.size
 frame:∀b,b<w.heap.size->b∉keys F.own->w'.heap[b]?=w.heap[b]?
 ro:∀a,(F'.ro a).isSome=true->(F.ro a).isSome=true\/a.block∈keys F.own\/w.heap.size<=a.block
 own:∀b,b∈keys F'.own->b∈keys F.own\/w.heap.size<=b
theorem eZ.oG {F F':af}{w w':World}(h:dJ F F' w w'):eZ F F' w w':=⟨by rw[h.os];exact .refl _,h.tape,h.output,h.size,h.frame,h.ro,h.own⟩
theorem eZ.refl (F:af)(w:World):eZ F F w w:=.oG (.refl _ _)
theorem eZ.trans {F G H:af}{u v w:World}(h:eZ F G u v)(k:eZ G H v w):eZ F H u w where
 os:=h.os.trans k.os
 tape:=k.tape.trans h.tape
 output:=k.output.trans h.output
 size:=Nat.le_trans h.size k.size
 frame b hb hn:=by
  rw[k.frame b (Nat.lt_of_lt_of_le hb h.size) (fun hk=>(h.own b hk).elim hn (fun c=>absurd hb (by omega)))]
  exact h.frame b hb hn
 ro a x:=by
  rcases k.ro a x with y|y|y
  ·exact h.ro a y
  ·exact .inr (h.own _ y)
  ·exact .inr (.inr (Nat.le_trans h.size y))
 own b hb:=by
  rcases k.own b hb with x|x
  ·exact h.own b x
  ·exact .inr (Nat.le_trans h.size x)
theorem je {P:Program}{a b:Nat}{m c:Machine}{t d:Trace}(h:runNT P a m t=(.next c,d)):runNT P (a+b) m t=runNT P b c d:=by
 rw[runNT_add,h]
theorem Has.at {F:af}{w:World}(h:Has F w)(d:Nat):Has F (w.at d):=⟨h.ro,h.own,h.nodup,h.apart⟩
theorem qC {P:Program}{bt:Loc->Prop}{B:Nat}{a:Goroutine}(m:a.status= .running):∀(M:Nat) (gs:Array Goroutine) (w:World) (sl:Option (Nat×Nat)) (t:Trace) (q:Nat->Nat),
  sumTo gs.size q<=M->gs[0]?=some a->Leavers P t gs q->Past bt B t->
  ∃(N:Nat) (bT:Array Goroutine) (d d':Nat) (c G:Option (Nat×Nat)) (n:Trace) (z:Nat->Nat),
   runNT P N (crowd gs w sl) t=(.next (crowd bT (w.at d) c),n)/\bT.size=gs.size/\bT[0]?=some a/\Leavers P n bT z/\Past bt B n/\
   stepT P (crowd bT (w.at d) c)=runT P (crowd bT (w.at d') G) 0:=by
 intro M
 induction M with
 |zero=>
  intro gs w sl t q H h0 b o
  have A:∀g∈gs,awake g:=by
   intro g hg
   obtain ⟨i,hi,rfl⟩:=Array.mem_iff_getElem.1 hg
   rcases Nat.eq_zero_or_pos i with rfl|h
   ·have:gs[0]=a:=by simpa [Array.getElem?_eq_getElem hi] using h0
    rw[this];exact awake_of (.inl m)
   ·exact awake_of ((b.old i _ h (Array.getElem?_eq_getElem hi)).status.elim .inl fun x=>.inr (.inr x))
  obtain ⟨i,g,d,c,hi,hg,p⟩:=crowd_pick (P:=P) (w:=w) (sl:=sl) A ⟨0,a,h0,m⟩
  rcases Nat.eq_zero_or_pos i with rfl|h
  ·exact ⟨0,gs,w.drawn,d,sl,c,t,q,rfl,rfl,h0,b,o,p⟩
  ·have l:=b.old i g h hi
   have r:i<gs.size:=(Array.getElem?_eq_some_iff.1 hi).1
   have I:q i=0:=by have:=Go.ConcN.le_sumTo (f:=q) r;omega
   rw[I] at l;rw[l.1] at hg;cases hg
 |succ M ih=>
  intro gs w sl t q H h0 b o
  have A:∀g∈gs,awake g:=by
   intro g hg
   obtain ⟨i,hi,rfl⟩:=Array.mem_iff_getElem.1 hg
   rcases Nat.eq_zero_or_pos i with rfl|h
   ·have:gs[0]=a:=by simpa [Array.getElem?_eq_getElem hi] using h0
    rw[this];exact awake_of (.inl m)
   ·exact awake_of ((b.old i _ h (Array.getElem?_eq_getElem hi)).status.elim .inl fun x=>.inr (.inr x))
  obtain ⟨i,g,d,c,hi,hg,p⟩:=crowd_pick (P:=P) (w:=w) (sl:=sl) A ⟨0,a,h0,m⟩
  rcases Nat.eq_zero_or_pos i with rfl|h
  ·exact ⟨0,gs,w.drawn,d,sl,c,t,q,rfl,rfl,h0,b,o,p⟩
  ·have l:=b.old i g h hi
   have J:(i==0)=false:=by simp;omega
   have r:i<gs.size:=(Array.getElem?_eq_some_iff.1 hi).1
   cases C:q i with
   |zero=>rw[C] at l;rw[l.1] at hg;cases hg
   |succ k=>
    rw[C] at l
    rcases l with ⟨K,_⟩|⟨_,g',es,hm,L,O⟩
    ·rw[K] at hg;cases hg
    have Q:=runT_crowd_go (P:=P) (sl:=c) (i:=i) hi (by rw[J];exact L (w.at d))
    have E:((gs.map (woken P g g' (w.at d))).setIfInBounds i g').size=gs.size:=by simp
    have ad:sumTo gs.size (upd q i k)+(k+1)=sumTo gs.size q+k:=by
     have:=sumTo_upd q k id r
     simpa [C] using this
    obtain ⟨N,bT,d1,d2,R,S,n,z,T,U,V,W,X,Y⟩:=ih ((gs.map (woken P g g' (w.at d))).setIfInBounds i g') (w.at d) c (t++MemOp.ofEvents i g.frame.fn g.frame.place es) (upd q i k) (by rw[E];omega)
     (by
      have Z:i≠0:=by omega
      rw[Array.getElem?_setIfInBounds_ne Z,Array.getElem?_map,h0]
      simp[woken_run m])
     ⟨fun j x s u=>by
      by_cases v:i=j
      ·subst v
       rw[Array.getElem?_setIfInBounds_self_of_lt (by simpa using r)] at u
       obtain rfl:=Option.some.inj u
       rw[upd_same,Deaf_own]
       exact O
      ·rw[Array.getElem?_setIfInBounds_ne v,Array.getElem?_map] at u
       obtain ⟨y,ab,rfl⟩:=Option.map_eq_some_iff.1 u
       have F:=b.old j y s ab
       rw[woken_quitsD F,upd_ne q k (Ne.symm v),Deaf_other t v _ (fun op D=>by obtain ⟨e,_,rfl⟩:=Go.Conc.mem_ofEvents D;rfl)]
       exact F,fun j s=>by
      rw[Deaf_other t (g':=i) (by simp at s;omega) _ (fun op D=>by obtain ⟨e,_,rfl⟩:=Go.Conc.mem_ofEvents D;rfl)]
      exact b.above j (by simpa using s)⟩
     (o.mute (by omega) hm)
    exact ⟨N+1,bT,d1,d2,R,S,n,z,by simp only[runNT,p,Q];exact T,U.trans E,V,W,X,Y⟩
theorem yN {bt:Loc->Prop}{F:af}{w w':World}(g:Has F w)(hu:w.heap.size<=w'.heap.size)(f:∀l,bt l->¬F.gf l)(i:∀l,bt l->l.low w.heap.size){e:Event}
  (h:iA F.ro (gF F w.heap.size w'.heap.size) e):EvL bt w'.heap.size e:=by
 have hm:∀b,gF F w.heap.size w'.heap.size b->b<w'.heap.size:=fun b hb=>hb.elim (fun x=>Nat.lt_of_lt_of_le (g.lt x) hu) (fun x=>x.2)
 rcases h with ⟨a,wr,rfl,c⟩|⟨r,wr,rfl,c⟩|⟨m,rfl,j⟩
 ·refine ⟨fun x d hs=>?_,by simp,by simp,?_⟩
  ·exfalso
   have e1:x.loc= .cell a:=by cases wr<;>simp[MemAct.ofEvent,MemAct.touch?] at d<;>rw[<-d]
   rw[e1] at hs
   rcases c with (c|c)|⟨_,c⟩
   ·exact f _ hs (.inl c)
   ·exact absurd (i _ hs) (by show ¬a.block<_;omega)
   ·exact f _ hs (.inr c)
  ·show a.block<_
   rcases c with c|⟨_,c⟩
   ·exact hm _ c
   ·exact Nat.lt_of_lt_of_le (g.gG c) hu
 ·refine ⟨fun x d hs=>?_,by simp,by simp,?_⟩
  ·exfalso
   have e1:x.loc= .obj r:=by cases wr<;>simp[MemAct.ofEvent,MemAct.touch?] at d<;>rw[<-d]
   rw[e1] at hs
   rcases c with c|c
   ·exact f _ hs c
   ·exact absurd (i _ hs) (by show ¬r<_;omega)
  ·have:=hm _ c
   cases wr<;>exact this
 ·cases m<;>simp[oC] at j<;>exact ⟨fun x d=>by simp[MemAct.ofEvent,MemAct.touch?] at d,by simp,by simp,trivial⟩
theorem jd.next {P:Program}{bt:Loc->Prop}{F F':af}{w w':World}(d:∀l,bt l->¬F.gf l)(c:∀l,bt l->l.low w.heap.size)(hu:dJ F F' w w'):
  (∀l,bt l->¬F'.gf l)/\(∀l,bt l->l.low w'.heap.size):=by
 refine ⟨fun l hs b=>?_,fun l hs=>Loc.low_mono hu.size (c l hs)⟩
 cases l with
 |cell a=>
  have h1:=c _ hs
  have h2:=d _ hs
  rcases b with b|b
  ·rcases hu.own _ b with x|x
   ·exact h2 (.inl x)
   ·exact absurd h1 (by show ¬a.block<_;omega)
  ·rcases hu.ro _ b with x|x|x
   ·exact h2 (.inr x)
   ·exact h2 (.inl x)
   ·exact absurd h1 (by show ¬a.block<_;omega)
 |obj r=>
  have h1:=c _ hs
  rcases hu.own _ b with x|x
  ·exact d _ hs x
  ·exact absurd h1 (by show ¬r<_;omega)
 |_=>exact b
theorem Le.gf {F F':af}(h:Le F F'){l:Loc}(b:F.gf l):F'.gf l:=by
 cases l with
 |cell a=>exact b.elim (fun x=>.inl (h.own _ x)) (fun x=>(h.ro _ x).elim .inr .inl)
 |obj r=>exact h.own _ b
 |_=>exact b
theorem eZ.le {F G H:af}{w w':World}(h:Le F G)(u:eZ F H w w'):eZ G H w w' where
 os:=u.os
 tape:=u.tape
 output:=u.output
 size:=u.size
 frame b hb hn:=u.frame b hb (fun x=>hn (h.own b x))
 ro a x:=by
  rcases u.ro a x with y|y|y
  ·exact (h.ro a y).imp id .inl
  ·exact .inr (.inl (h.own _ y))
  ·exact .inr (.inr y)
 own b hb:=(u.own b hb).imp (h.own b) id
end Go.Sep
end
section
namespace Go.Sep
open Go Go.Conc
def af.cr (F:af):af:={ro:=F.get,own:=[]}
theorem Has.cr {F:af}{w:World}(h:Has F w):Has F.cr w:=
 ⟨fun a v c=>h.reads c,fun b o hb=>(by cases hb),List.nodup_nil,fun a v c hm=>(by cases hm)⟩
def af.star (G F:af):af:=
 {ro:=fun a=>match F.ro a with
   |some v=>some v
   |none=>if a.block∈keys F.own then none else G.ro a
  own:=G.own++F.own}
structure Fits (F G:af):Prop where
 tZ:∃w,Has G w/\Has F w
 own:∀b,b∈keys G.own->b∉keys F.own
 ro:∀a,(F.ro a).isSome=true->a.block∉keys G.own
theorem cm (l l':List (Nat×Obj)):keys (l++l')=keys l++keys l':=List.map_append
theorem Fits.left {F G:af}(h:Fits F G){w:World}(hw:Has (G.star F) w):Has F w where
 ro a v c:=hw.ro a v (by simp[af.star,c])
 own b o hb:=hw.own b o (List.mem_append_right _ hb)
 nodup:=by
  have:=hw.nodup
  simp only[af.star,cm] at this
  exact (List.nodup_append.1 this).2.1
 apart a v c hm:=by
  have:=hw.apart a v (by simp[af.star,c])
  simp only[af.star,cm,List.mem_append,not_or] at this
  exact this.2 hm
theorem Fits.right {F G:af}(h:Fits F G){w:World}(hw:Has (G.star F) w):Has G w:=by
 obtain ⟨j,c,g⟩:=h.tZ
 refine ⟨fun a v i=>?_,fun b o hb=>hw.own b o (List.mem_append_left _ hb),c.nodup,c.apart⟩
 have h0:=c.ro a v i
 cases d:F.ro a with
 |some f=>
  have e:f=v:=by have:=g.ro a f d;rw[h0] at this;exact (Option.some.inj this).symm
  exact e▸hw.ro a f (by simp[af.star,d])
 |none=>
  by_cases hb:a.block∈keys F.own
  ·obtain ⟨⟨b,o⟩,hm,e⟩:=List.mem_map.1 hb
   simp only at e
   subst e
   have h1:=g.own _ o hm
   have h2:=hw.own _ o (List.mem_append_right _ hm)
   unfold World.cell? at h0 ⊢
   rw[h2]
   rw[h1] at h0
   exact h0
  ·exact hw.ro a v (by simp[af.star,d,hb,i])
theorem Fits.both {F G:af}(h:Fits F G){w:World}(d:Has G w)(f:Has F w):Has (G.star F) w where
 ro a v c:=by
  simp only[af.star] at c
  split at c
  ·rename_i x g;cases c;exact f.ro _ _ g
  ·split at c
   ·cases c
   ·exact d.ro _ _ c
 own b o hb:=(List.mem_append.1 hb).elim (d.own b o) (f.own b o)
 nodup:=by
  simp only[af.star,cm]
  exact List.nodup_append.2 ⟨d.nodup,f.nodup,fun a i b hb e=>h.own a i (e▸hb)⟩
 apart a v c hm:=by
  simp only[af.star,cm,List.mem_append] at hm
  simp only[af.star] at c
  split at c
  ·rename_i x g
   rcases hm with hm|hm
   ·exact h.ro a (by simp[g]) hm
   ·exact f.apart a x g hm
  ·split at c
   ·cases c
   ·rename_i hn
    rcases hm with hm|hm
    ·exact d.apart a v c hm
    ·exact hn hm
theorem Fits.le {F G c:af}(hle:Le G c)(h:Fits F c):Fits F G where
 tZ:=let ⟨w,h1,h2⟩:=h.tZ;⟨w,hle.has w h1,h2⟩
 own b hb:=h.own b (hle.own b hb)
 ro a d hm:=h.ro a d (hle.own _ hm)
def yO (J:Goroutine->af->Prop)(F:af)(g:Goroutine)(G:af):Prop:=Fits F G->J g (G.star F)
theorem jM {F G:af}{a:Addr}(h:((G.star F).ro a).isSome=true):(F.ro a).isSome=true\/(G.ro a).isSome=true:=by
 simp only[af.star] at h
 split at h
 ·rename_i x b;exact .inl (by simp[b])
 ·split at h
  ·cases h
  ·exact .inr h
theorem gh {F G:af}{a:Addr}(h:(F.ro a).isSome=true\/(G.ro a).isSome=true):((G.star F).ro a).isSome=true\/a.block∈keys F.own:=by
 by_cases hb:a.block∈keys F.own
 ·exact .inr hb
 ·left
  simp only[af.star]
  split
  ·rfl
  ·rename_i hn
   rw[if_neg hb]
   rcases h with h|h
   ·simp[hn] at h
   ·exact h
theorem Dc {P:Program}{main:Bool}{J:Goroutine->af->Prop}(hJ:Closed P main J)(F:af):Closed P main (yO J F) where
 mono {g G C} hle h c:=by
  have k:=c.le hle
  refine hJ.mono ⟨fun w hw=>k.both (hle.has w (c.right hw)) (c.left hw),fun b hb=>?_,fun a f=>?_⟩ (h k)
  ·simp only[af.star,cm,List.mem_append] at hb ⊢
   exact hb.imp (hle.own b) id
  ·rcases jM f with x|x
   ·exact (gh (.inl x)).imp id (fun y=>by simp only[af.star,cm,List.mem_append];exact .inr y)
   ·rcases hle.ro a x with y|y
    ·exact (gh (.inr y)).imp id (fun z=>by simp only[af.star,cm,List.mem_append];exact .inr z)
    ·exact .inr (by simp only[af.star,cm,List.mem_append];exact .inl y)
 step {fr cs G} h c:=by
  refine hJ.step fun w hw=>?_
  have s:=c.right hw
  have d:=c.left hw
  obtain ⟨g',w',es,l,hgo,hu,n,t,u⟩:=h w s
  have p:Has F w':=by
   refine ⟨fun a v j=>?_,fun b o hb=>?_,d.nodup,d.apart⟩
   ·have h0:=d.ro a v j
    have A:=d.gG (a:=a) (by simp[j])
    unfold World.cell? at h0 ⊢
    rw[hu.frame _ A (c.ro a (by simp[j]))]
    exact h0
   ·rw[hu.frame b (d.lt (eK hb)) (fun hm=>c.own b hm (eK hb))]
    exact d.own b o hb
  have q:Fits F l:=by
   refine ⟨⟨w',n,p⟩,fun b hb hm=>?_,fun a f hm=>?_⟩
   ·rcases hu.own b hb with x|x
    ·exact c.own b x hm
    ·have:=d.lt hm;omega
   ·rcases hu.own _ hm with x|x
    ·exact c.ro a f x
    ·have:=d.gG f;omega
  refine ⟨g',w',es,l.star F,hgo,⟨hu.os,hu.tape,hu.output,hu.size,fun b hb hn=>hu.frame b hb fun hm=>hn ?_,fun a f=>?_,fun b hb=>?_⟩,q.both n p,fun e he=>?_,u q⟩
  ·simp only[af.star,cm,List.mem_append];exact .inl hm
  ·rcases jM f with x|x
   ·exact (gh (.inl x)).imp id (fun y=>.inl (by simp only[af.star,cm,List.mem_append];exact .inr y))
   ·rcases hu.ro a x with y|y|y
    ·exact (gh (.inr y)).imp id (fun z=>.inl (by simp only[af.star,cm,List.mem_append];exact .inr z))
    ·exact .inr (.inl (by simp only[af.star,cm,List.mem_append];exact .inl y))
    ·exact .inr (.inr y)
  ·simp only[af.star,cm,List.mem_append] at hb ⊢
   rcases hb with hb|hb
   ·exact (hu.own b hb).imp .inl id
   ·exact .inl (.inr hb)
  ·have hk:∀b,gF G w.heap.size w'.heap.size b->gF (G.star F) w.heap.size w'.heap.size b:=fun b hb=>hb.imp (fun x=>by simp only[af.star,cm,List.mem_append];exact .inl x) id
   rcases t e he with ⟨a,wr,rfl,i|⟨B,i⟩⟩|⟨r,wr,rfl,i⟩|⟨m,rfl,hm⟩
   ·exact .inl ⟨a,wr,rfl,.inl (hk _ i)⟩
   ·rcases gh (F:=F) (.inr i) with y|y
    ·exact .inl ⟨a,wr,rfl,.inr ⟨B,y⟩⟩
    ·exact .inl ⟨a,wr,rfl,.inl (.inl (by simp only[af.star,cm,List.mem_append];exact .inr y))⟩
   ·exact .inr (.inl ⟨r,wr,rfl,hk _ i⟩)
   ·exact .inr (.inr ⟨m,rfl,hm⟩)
theorem Dd {P:Program}{f:FuncId}{args:Array Value}{F:af}{R:Value->List (Nat×Obj)->Prop}(h:aC P f args F.cr (fun v G=>R v G.own)):
  aC P f args F (fun v G=>∃l,R v l/\G={ro:=F.ro,own:=l++F.own}):=by
 intro main J hJ c cs k
 by_cases hw:∃w,Has F w
 ·obtain ⟨m,i⟩:=hw
  have j:Fits F F.cr:=⟨⟨m,i.cr,i⟩,fun b hb=>(by cases hb),fun a e hm=>(by cases hm)⟩
  have n:yO J F (G (Frame.enter P f args .normal) (c::cs)) F.cr:=by
   refine h main _ (Dc hJ F) c cs fun v G o t=>?_
   have g:∀(a:Addr) (v:Value),F.ro a=some v->(G.star F).ro a=some v:=fun a v d=>by simp[af.star,d]
   refine hJ.mono (F:={ro:=F.ro,own:=G.own++F.own}) ⟨fun w hw=>⟨fun a v d=>hw.ro a v (g a v d),hw.own,hw.nodup,fun a v d=>hw.apart a v (g a v d)⟩,fun b hb=>hb,fun a e=>?_⟩ (k v {ro:=F.ro,own:=G.own++F.own} ⟨G.own,o,rfl⟩)
   obtain ⟨p,q⟩:=Option.isSome_iff_exists.1 e
   exact .inl (by rw[g a p q];rfl)
  refine hJ.mono ⟨fun w hw=>j.both hw.cr hw,fun b hb=>?_,fun a e=>?_⟩ (n j)
  ·simpa [af.star,af.cr] using hb
  ·rcases jM e with x|x
   ·exact .inl x
   ·obtain ⟨v,r⟩:=Option.isSome_iff_exists.1 x
    exact (ym r).symm
 ·exact hJ.step fun w s=>absurd ⟨w,s⟩ hw
theorem oH {P:Program}{f:FuncId}{args:Array Value}{F:af}{R:Value->Prop}(h:aC P f args F.cr (fun v _=>R v)):aC P f args F (fun v G=>R v/\G=F):=by
 intro main J hJ c cs d
 refine Dd (R:=fun v _=>R v) h main J hJ c cs fun v G e=>?_
 obtain ⟨l,g,rfl⟩:=e
 refine hJ.mono (F:=F) ⟨fun w hw=>⟨hw.ro,fun b o hb=>hw.own b o (List.mem_append_right _ hb),?_,fun a v i hm=>hw.apart a v i ?_⟩,fun b hb=>?_,fun a j=>.inl j⟩ (d v F ⟨g,rfl⟩)
 ·have:=hw.nodup
  simp only[cm] at this
  exact (List.nodup_append.1 this).2.1
 ·simp only[cm,List.mem_append];exact .inr hm
 ·simp only[cm,List.mem_append];exact .inr hb
end Go.Sep
end
section
namespace Go.Sep
inductive Rk:Type 1
 |mk (ι:Type) (f:ι->Rk)
namespace Rk
def kids:Rk->Rk->Prop
 | .mk ι f,r=>∃i,r=f i
theorem wf:WellFounded (fun a b:Rk=>kids b a):=⟨fun r=>by
 induction r with
 |mk ι f ih=>exact ⟨_,fun b h=>by obtain ⟨i,rfl⟩:=h;exact ih i⟩⟩
def nat:Nat->Rk
 |0=>.mk Empty fun x=>x.elim
 |n+1=>.mk Unit fun _=>nat n
theorem yP (n:Nat):kids (nat (n+1)) (nat n):=⟨(),rfl⟩
end Rk
def qD (n:Nat)(ρ' ρ:Nat->Rk):Prop:=∃i,i<n/\(ρ i).kids (ρ' i)/\∀j,j≠i->ρ' j=ρ j
theorem yQ:∀n,WellFounded (qD n)
 |0=>⟨fun ρ=>⟨_,fun _ ⟨i,hi,_⟩=>absurd hi (Nat.not_lt_zero i)⟩⟩
 |n+1=>by
  refine ⟨fun ρ=>?_⟩
  have key:∀(a:Rk) (ρ:Nat->Rk),ρ n=a->Acc (qD (n+1)) ρ:=by
   intro a
   induction Rk.wf.apply a with
   |intro a _ d=>
    intro ρ
    induction (yQ n).apply ρ with
    |intro ρ _ f=>
     intro b
     refine ⟨_,fun ρ' ⟨i,hi,hk,c⟩=>?_⟩
     by_cases h:i=n
     ·subst h
      exact d (ρ' i) (by rw[<-b];exact hk) ρ' rfl
     ·refine f ρ' ⟨i,by omega,hk,c⟩ ?_
      rw[c n (fun e=>h e.symm)];exact b
  exact key _ ρ rfl
def yR (n:Nat)(a x:(Nat->Rk)×Nat):Prop:=qD n a.1 x.1\/(a.1=x.1/\a.2<x.2)
theorem yS (n:Nat):WellFounded (yR n):=by
 refine ⟨fun ⟨ρ,m⟩=>?_⟩
 induction (yQ n).apply ρ generalizing m with
 |intro ρ _ b=>
  induction m using Nat.strongRecOn with
  |_ m c=>
   refine ⟨_,fun ⟨ρ',a⟩ h=>?_⟩
   rcases h with h|⟨rfl,h⟩
   ·exact b ρ' h a
   ·exact c a h
end Go.Sep
end

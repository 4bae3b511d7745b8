/- A part of the proof of a row and its tied card: part 1. -/
import Derived.Conc.Own
import Derived.Conc.Events
import Derived.Conc.Beside
import Derived.Conc.Listed
import Derived.Orders
import Derived.Conc.MuSpec
set_option linter.all false
section
namespace Go.Sep
open Go Go.Conc
structure af where
 ro:Addr->Option Value
 own:List (Nat×Obj)
def keys (l:List (Nat×Obj)):List Nat:=l.map (·.1)
def cellOf:Obj->Nat->Option Value
 | .cells c _ _,off=>c[off]?
 |_,_=>none
def lk:List (Nat×Obj)->Nat->Option Obj
 |[],_=>none
 |(c,o)::l,b=>if c=b then some o else lk l b
def gN:List (Nat×Obj)->Nat->Obj->List (Nat×Obj)
 |[],_,_=>[]
 |(c,o)::l,b,x=>if c=b then (c,x)::l else (c,o)::gN l b x
theorem fU:∀{l:List (Nat×Obj)} {b:Nat} {o:Obj},lk l b=some o->(b,o)∈l
 |[],_,_,h=>by cases h
 |(c,x)::l,b,o,h=>by
  unfold lk at h
  split at h
  ·rename_i e;cases h;exact e▸List.mem_cons_self
  ·exact List.mem_cons_of_mem _ (fU h)
theorem oR:∀(l:List (Nat×Obj)) (b:Nat) (x:Obj),keys (gN l b x)=keys l
 |[],_,_=>rfl
 |(c,o)::l,b,x=>by
  unfold gN
  split
  ·rfl
  ·simp only[keys,List.map_cons];exact congrArg _ (oR l b x)
theorem vX:∀{l:List (Nat×Obj)} {b:Nat} {x:Obj},(keys l).Nodup->∀{c:Nat} {y:Obj},(c,y)∈gN l b x->(c=b/\y=x)\/(c≠b/\(c,y)∈l)
 |[],_,_,_,_,_,h=>by cases h
 |(d,o)::l,b,x,a,c,y,h=>by
  simp only[keys,List.map_cons,List.nodup_cons] at a
  unfold gN at h
  split at h
  ·rename_i e
   rcases List.mem_cons.1 h with h|h
   ·cases h;exact .inl ⟨e,rfl⟩
   ·refine .inr ⟨fun f=>a.1 ?_,List.mem_cons_of_mem _ h⟩
    rw[e,<-f]
    exact List.mem_map.2 ⟨_,h,rfl⟩
  ·rename_i e
   rcases List.mem_cons.1 h with h|h
   ·cases h;exact .inr ⟨e,List.mem_cons_self⟩
   ·exact (vX a.2 h).imp id (fun z=>⟨z.1,List.mem_cons_of_mem _ z.2⟩)
def af.get (F:af)(a:Addr):Option Value:=
 match F.ro a with
 |some v=>some v
 |none=>if a.spot=none then (lk F.own a.block).bind (cellOf · a.off) else none
structure Has (F:af)(w:World):Prop where
 ro:∀a v,F.ro a=some v->w.cell? a=some v
 own:∀b o,(b,o)∈F.own->w.heap[b]?=some o
 nodup:(keys F.own).Nodup
 apart:∀a v,F.ro a=some v->a.block∉keys F.own
theorem Has.reads {F:af}{w:World}(h:Has F w){a:Addr}{v:Value}(r:F.get a=some v):w.cell? a=some v:=by
 unfold af.get at r
 split at r
 ·rename_i x c;cases r;exact h.ro _ _ c
 ·split at r
  ·rename_i hs
   obtain ⟨o,d,b⟩:=Option.bind_eq_some_iff.1 r
   have:=h.own _ _ (fU d)
   cases o<;>simp[cellOf] at b
   simp[World.cell?,this,hs,b]
  ·cases r
theorem vY {F:af}{a:Addr}{v:Value}(r:F.get a=some v):a.block∈keys F.own\/(F.ro a).isSome=true:=by
 unfold af.get at r
 split at r
 ·rename_i x b;exact .inr (by simp[b])
 ·split at r
  ·obtain ⟨o,c,_⟩:=Option.bind_eq_some_iff.1 r
   exact .inl (List.mem_map.2 ⟨_,fU c,rfl⟩)
  ·cases r
structure dm (F F':af)(w w':World):Prop where
 os:w'.os=w.os
 tape:w'.tape=w.tape
 output:w'.output=w.output
 size:w.heap.size<=w'.heap.size
 frame:∀b,b<w.heap.size->b∉keys F.own->w'.heap[b]?=w.heap[b]?
 ro:∀a,(F'.ro a).isSome=true->(F.ro a).isSome=true\/a.block∈keys F.own\/w.heap.size<=a.block
 own:∀b,b∈keys F'.own->b∈keys F.own\/w.heap.size<=b
theorem dm.refl (F:af)(w:World):dm F F w w:=⟨rfl,rfl,rfl,Nat.le_refl _,fun _ _ _=>rfl,fun _ h=>.inl h,fun _ h=>.inl h⟩
theorem dm.trans {F G H:af}{u v w:World}(h:dm F G u v)(k:dm G H v w):dm F H u w where
 os:=k.os.trans h.os
 tape:=k.tape.trans h.tape
 output:=k.output.trans h.output
 size:=Nat.le_trans h.size k.size
 frame b hb c:=by
  rw[k.frame b (Nat.lt_of_lt_of_le hb h.size) (fun d=>(h.own b d).elim c (fun e=>absurd hb (by omega)))]
  exact h.frame b hb c
 ro a x:=by
  rcases k.ro a x with y|y|y
  ·exact h.ro a y
  ·exact .inr (h.own _ y)
  ·exact .inr (.inr (Nat.le_trans h.size y))
 own b hb:=by
  rcases k.own b hb with x|x
  ·exact h.own b x
  ·exact .inr (Nat.le_trans h.size x)
def mY:Mark->Bool
 | .extern _| .noRoom=>true
 |_=>false
def gO (ro:Addr->Option Value)(ks:Nat->Prop)(e:Event):Prop:=
 (∃a wr,e=⟨.cell a,wr,false⟩/\(ks a.block\/(wr=false/\(ro a).isSome=true)))\/
 (∃r wr,e=⟨.obj r,wr,false⟩/\ks r)\/
 (∃m,e=⟨.mark m,false,true⟩/\mY m=true)
theorem gO.mono {ro aH:Addr->Option Value}{ks c:Nat->Prop}{e:Event}(h:gO ro ks e)(f:∀a,(ro a).isSome=true->(aH a).isSome=true)(d:∀b,ks b->c b):gO aH c e:=by
 rcases h with ⟨a,wr,rfl,h⟩|⟨r,wr,rfl,h⟩|⟨m,rfl,hm⟩
 ·exact .inl ⟨a,wr,rfl,h.imp (d _) (fun ⟨x,y⟩=>⟨x,f _ y⟩)⟩
 ·exact .inr (.inl ⟨r,wr,rfl,d _ h⟩)
 ·exact .inr (.inr ⟨m,rfl,hm⟩)
def fV (F:af)(n m:Nat)(b:Nat):Prop:=b∈keys F.own\/(n<=b/\b<m)
theorem ep {l:List (Nat×Obj)}{b:Nat}{o:Obj}(h:(b,o)∈l):b∈keys l:=List.mem_map.2 ⟨_,h,rfl⟩
theorem Has.lt {F:af}{w:World}(h:Has F w){b:Nat}(hb:b∈keys F.own):b<w.heap.size:=by
 obtain ⟨⟨c,o⟩,hm,rfl⟩:=List.mem_map.1 hb
 have:=h.own c o hm
 rcases Nat.lt_or_ge c w.heap.size with x|x
 ·exact x
 ·simp[Array.getElem?_eq_none x] at this
theorem Has.fW {F:af}{w:World}(h:Has F w){a:Addr}(b:(F.ro a).isSome=true):a.block<w.heap.size:=by
 obtain ⟨v,c⟩:=Option.isSome_iff_exists.1 b
 have:=h.ro a v c
 unfold World.cell? at this
 rcases Nat.lt_or_ge a.block w.heap.size with x|x
 ·exact x
 ·simp[Array.getElem?_eq_none x] at this
def af.push (F:af)(b:Nat)(o:Obj):af:={F with own:=(b,o)::F.own}
def af.put (F:af)(b:Nat)(o:Obj):af:={F with own:=gN F.own b o}
def shapeOf:Obj->Option (TypeId×Nat)
 | .cells c elem _=>some (elem,c.size)
 |_=>none
def frozenAt:Obj->Nat->Bool
 | .cells _ _ (a,b),off=>a<=off&&off<b
 |_,_=>false
def Obj.mZ:Obj->Bool
 | .cells ..=>true
 |_=>false
def bw:Value->Bool
 | .agg _| .tuple _=>false
 |_=>true
def af.kg (F:af)(a:Addr)(v:Value):Option af:=
 match lk F.own a.block with
 |some (.cells c t fr)=>if bw v=true/\a.spot=none/\a.off<c.size/\frozenAt (.cells c t fr) a.off=false then some (F.put a.block (.cells (c.setIfInBounds a.off v) t fr)) else none
 |_=>none
def af.ez (F:af)(r:Nat):Option Obj:=
 match lk F.own r with
 |some o=>if Obj.mZ o=false/\o.isChan=false then some o else none
 |none=>none
def aj:List (Nat×Obj)->Nat->Prop
 |[],_=>True
 |(c,_)::l,b=>¬b=c/\aj l b
theorem vZ:∀{l:List (Nat×Obj)} {b:Nat},(∀x∈keys l,¬b=x)->aj l b
 |[],_,_=>trivial
 |(c,_)::l,b,h=>⟨h c (by simp[keys]),vZ fun x a=>h x (by simp only[keys,List.map_cons,List.mem_cons];exact .inr a)⟩
structure dn (F:af)(b:Nat):Prop where
 ro:∀off sp,F.ro ⟨b,off,sp⟩=none
 own:aj F.own b
def aO {α:Type}(P:Program):Sem α->(α->af->Prop)->af->Prop
 | .pure a,Q,F=>Q a F
 | .load m a k,Q,F=>m= .plain/\∃v,F.get a=some v/\aO P (k v) Q F
 | .store m a v k,Q,F=>m= .plain/\∃F',F.kg a v=some F'/\aO P k Q F'
 | .new o k,Q,F=>o.isChan=false/\∀b,dn F b->aO P (k b) Q (F.push b o)
 | .shape r k,Q,F=>match lk F.own r with
  |some o=>aO P (k (shapeOf o)) Q F
  |none=>∀s,aO P (k s) Q F
 | .freeze _ _ _,_,_=>False
 | .frozen a k,Q,F=>match lk F.own a.block with
  |some o=>aO P (k (frozenAt o a.off)) Q F
  |none=>∀s,aO P (k s) Q F
 | .getObj r k,Q,F=>∃o,F.ez r=some o/\aO P (k o) Q F
 | .setObj r o k,Q,F=>o.isChan=false/\(F.ez r).isSome=true/\aO P k Q (F.put r o)
 | .choose q k,Q,F=>if q.forced then aO P (k 0) Q F else ∀t,aO P (k (q.cut t)) Q F
 | .sys _ _,_,_=>False
 | .program k,Q,F=>aO P (k P) Q F
 | .mark m k,Q,F=>mY m=true/\aO P k Q F
 | .halt _,_,_=>False
theorem fX {α:Type}{P:Program}{Q f:α->af->Prop}(h:∀a F,Q a F->f a F):∀(s:Sem α) (F:af),aO P s Q F->aO P s f F:=by
 intro s
 induction s with
 |pure a=>exact fun F x=>h _ _ x
 |load m a k ih=>exact fun F ⟨x,v,y,z⟩=>⟨x,v,y,ih _ _ z⟩
 |store m a v k ih=>exact fun F ⟨x,F',y,z⟩=>⟨x,F',y,ih _ z⟩
 |new o k ih=>exact fun F x=>⟨x.1,fun b hb=>ih _ _ (x.2 b hb)⟩
 |shape r k ih=>intro F x;unfold aO at x ⊢;split<;>rename_i d<;>rw[d] at x;exact ih _ _ x;exact fun s=>ih _ _ (x s)
 |freeze a n k ih=>exact fun F x=>x
 |frozen a k ih=>intro F x;unfold aO at x ⊢;split<;>rename_i d<;>rw[d] at x;exact ih _ _ x;exact fun s=>ih _ _ (x s)
 |getObj r k ih=>exact fun F ⟨o,x,z⟩=>⟨o,x,ih _ _ z⟩
 |setObj r o k ih=>exact fun F ⟨x,y,z⟩=>⟨x,y,ih _ z⟩
 |choose q k ih=>
  intro F x
  unfold aO at x ⊢
  split
  ·rename_i e;rw[if_pos e] at x;exact ih _ _ x
  ·rename_i e;rw[if_neg e] at x;exact fun t=>ih _ _ (x t)
 |sys c k ih=>exact fun F x=>x
 |program k ih=>exact fun F x=>ih _ _ x
 |mark m k ih=>exact fun F ⟨x,y⟩=>⟨x,ih _ y⟩
 |halt h=>exact fun F x=>x
theorem v5 {α β:Type}{P:Program}{Q:β->af->Prop}{f:α->Sem β}:∀(s:Sem α) (F:af),aO P (s.bind f) Q F↔aO P s (fun a G=>aO P (f a) Q G) F:=by
 intro s
 induction s with
 |pure a=>exact fun F=>Iff.rfl
 |load m a k ih=>intro F;simp only[Sem.bind,aO,ih]
 |store m a v k ih=>intro F;simp only[Sem.bind,aO,ih]
 |new o k ih=>intro F;simp only[Sem.bind,aO,ih]
 |shape r k ih=>intro F;simp only[Sem.bind,aO,ih]
 |freeze a n k ih=>intro F;simp only[Sem.bind,aO]
 |frozen a k ih=>intro F;simp only[Sem.bind,aO,ih]
 |getObj r k ih=>intro F;simp only[Sem.bind,aO,ih]
 |setObj r o k ih=>intro F;simp only[Sem.bind,aO,ih]
 |choose q k ih=>intro F;simp only[Sem.bind,aO,ih]
 |sys c k ih=>intro F;simp only[Sem.bind,aO]
 |program k ih=>intro F;simp only[Sem.bind,aO,ih]
 |mark m k ih=>intro F;simp only[Sem.bind,aO,ih]
 |halt h=>intro F;simp only[Sem.bind,aO]
theorem Has.push {F:af}{w:World}(h:Has F w)(o:Obj):Has (F.push w.heap.size o) {w with heap:=w.heap.push o}:=by
 have f:∀b o,(b,o)∈F.own->b<w.heap.size:=fun b o hb=>by
  have:=h.own b o hb
  rcases Nat.lt_or_ge b w.heap.size with x|x
  ·exact x
  ·simp[Array.getElem?_eq_none x] at this
 have i:w.heap.size∉keys F.own:=fun hm=>by
  obtain ⟨⟨b,x⟩,j,e⟩:=List.mem_map.1 hm
  have:=f b x j
  simp at e
  omega
 refine ⟨fun a v d=>?_,fun b x hb=>?_,?_,fun a v d hm=>?_⟩
 ·have:=h.ro a v d
  unfold World.cell? at this ⊢
  split at this
  ·rename_i c t fr g
   have k:a.block<w.heap.size:=by
    rcases Nat.lt_or_ge a.block w.heap.size with x|x
    ·exact x
    ·simp[Array.getElem?_eq_none x] at g
   rw[show (w.heap.push o)[a.block]?=w.heap[a.block]? from by rw[Array.getElem?_push,if_neg (by omega)],g]
   exact this
  ·cases this
 ·simp only[af.push,List.mem_cons] at hb
  rcases hb with hb|hb
  ·cases hb;simp
  ·have:=f b x hb
   show (w.heap.push o)[b]?=some x
   rw[Array.getElem?_push,if_neg (by omega)]
   exact h.own b x hb
 ·simp only[af.push,keys,List.map_cons,List.nodup_cons]
  exact ⟨i,h.nodup⟩
 ·simp only[af.push,keys,List.map_cons,List.mem_cons] at hm
  rcases hm with hm|hm
  ·have:=h.ro a v d
   unfold World.cell? at this
   rw[hm] at this
   simp at this
  ·exact h.apart a v d hm
theorem Has.fresh {F:af}{w:World}(h:Has F w):dn F w.heap.size:=by
 refine ⟨fun off sp=>?_,vZ fun x b e=>?_⟩
 ·cases c:F.ro ⟨w.heap.size,off,sp⟩ with
  |none=>rfl
  |some v=>have:=h.fW (a:=⟨w.heap.size,off,sp⟩) (by simp[c]);simp at this
 ·have:=h.lt b;omega
theorem Has.set {F:af}{w w':World}(h:Has F w){b:Nat}{o:Obj}(hm:b∈keys F.own)(hb:w'.heap[b]?=some o)(g:∀c,c≠b->w'.heap[c]?=w.heap[c]?):Has (F.put b o) w':=by
 refine ⟨fun a v d=>?_,fun c y i=>?_,?_,fun a v d=>?_⟩
 ·have f:a.block≠b:=fun e=>h.apart a v d (e▸hm)
  have:=h.ro a v d
  unfold World.cell? at this ⊢
  rw[g _ f]
  exact this
 ·rcases vX h.nodup i with ⟨rfl,rfl⟩|⟨f,hm⟩
  ·exact hb
  ·rw[g _ f];exact h.own _ _ hm
 ·simp only[af.put,oR];exact h.nodup
 ·simp only[af.put,oR];exact h.apart a v d
theorem dm.put {F:af}{w w':World}{b:Nat}{o:Obj}(hm:b∈keys F.own)(a:w'.os=w.os)(ht:w'.tape=w.tape)(d:w'.output=w.output)(hs:w'.heap.size=w.heap.size)(f:∀c,c≠b->w'.heap[c]?=w.heap[c]?):dm F (F.put b o) w w' where
 os:=a
 tape:=ht
 output:=d
 size:=by omega
 frame c _ g:=f c (fun e=>g (e▸hm))
 ro _ h:=.inl h
 own c i:=.inl (by simpa [af.put,oR] using i)
theorem dm.push {F:af}{w:World}(o:Obj):dm F (F.push w.heap.size o) w {w with heap:=w.heap.push o} where
 os:=rfl
 tape:=rfl
 output:=rfl
 size:=by simp
 frame b hb _:=by show (w.heap.push o)[b]?=_;rw[Array.getElem?_push,if_neg (by omega)]
 ro _ h:=.inl h
 own c a:=by
  simp only[af.push,keys,List.map_cons,List.mem_cons] at a
  rcases a with rfl|a
  ·exact .inr (Nat.le_refl _)
  ·exact .inl a
structure ki {α:Type}(P:Program)(s:Sem α)(Q:α->af->Prop)(F:af)(w:World)(cB:Array Event)(a:α)(w':World)(F':af)(es:Array Event):Prop where
 run:s.runT P w cB=(.ok a w',cB++es)
 upd:dm F F' w w'
 has:Has F' w'
 gi:∀e∈es,gO F.ro (fV F w.heap.size w'.heap.size) e
 post:Q a F'
theorem ki.cons {α:Type}{P:Program}{s s':Sem α}{Q:α->af->Prop}{F c F':af}{w w1 w':World}{cB es:Array Event}{e:Event}{a:α}
  (h:ki P s' Q c w1 (cB.push e) a w' F' es) (g:s.runT P w cB=s'.runT P w1 (cB.push e)) (hu:dm F c w w1) (hb:Has c w1) (he:gO F.ro (· ∈keys F.own) e) (i:c.ro=F.ro):ki P s Q F w cB a w' F' (#[e]++es) where
 run:=by rw[g,h.run];simp
 upd:=hu.trans h.upd
 has:=h.has
 gi x d:=by
  simp only[Array.mem_append,List.mem_toArray,List.mem_singleton] at d
  rcases d with rfl|d
  ·exact he.mono (fun _ h=>h) (fun _ h=>.inl h)
  ·exact (h.gi x d).mono (fun a j=>by rw[<-i];exact j) (fun b f=>by
    rcases f with f|⟨h1,h2⟩
    ·exact (hu.own b f).imp id (fun y=>⟨y,Nat.lt_of_lt_of_le (hb.lt f) h.upd.size⟩)
    ·exact .inr ⟨Nat.le_trans hu.size h1,h2⟩)
 post:=h.post
theorem ki.skip {α:Type}{P:Program}{s s':Sem α}{Q:α->af->Prop}{F c F':af}{w w1 w':World}{cB es:Array Event}{a:α}
  (h:ki P s' Q c w1 cB a w' F' es) (e:s.runT P w cB=s'.runT P w1 cB) (hu:dm F c w w1) (hb:Has c w1) (f:c.ro=F.ro):ki P s Q F w cB a w' F' es where
 run:=by rw[e,h.run]
 upd:=hu.trans h.upd
 has:=h.has
 gi x g:=(h.gi x g).mono (fun a i=>by rw[<-f];exact i) (fun b d=>by
    rcases d with d|⟨h1,h2⟩
    ·exact (hu.own b d).imp id (fun y=>⟨y,Nat.lt_of_lt_of_le (hb.lt d) h.upd.size⟩)
    ·exact .inr ⟨Nat.le_trans hu.size h1,h2⟩)
 post:=h.post
theorem Has.drawn {F:af}{w:World}(h:Has F w)(n:Nat):Has F {w with drawn:=n}:=⟨h.ro,h.own,h.nodup,h.apart⟩
theorem dm.drawn (F:af)(w:World)(n:Nat):dm F F w {w with drawn:=n}:=⟨rfl,rfl,rfl,Nat.le_refl _,fun _ _ _=>rfl,fun _ h=>.inl h,fun _ h=>.inl h⟩
theorem jz {α:Type}{P:Program}{Q:α->af->Prop}:∀(s:Sem α) (F:af) (w:World) (cB:Array Event),aO P s Q F->Has F w->
  ∃a w' F' es,ki P s Q F w cB a w' F' es:=by
 intro s
 induction s with
 |pure a=>exact fun F w cB h hw=>⟨a,w,F,#[],by simp[Sem.runT],.refl _ _,hw,by simp,h⟩
 |load m a k ih=>
  rintro F w cB ⟨rfl,v,D,h⟩ hw
  obtain ⟨x,w',F',es,H⟩:=ih v F w (cB.push ⟨.cell a,false,false⟩) h hw
  refine ⟨x,w',F',_,H.cons ?_ (.refl _ _) hw (.inl ⟨a,false,rfl,(vY D).imp id fun y=>⟨rfl,y⟩⟩) rfl⟩
  have:=hw.reads D
  simp only[Sem.runT,this]
  rfl
 |store m a v k ih=>
  rintro F w cB ⟨rfl,M,l,h⟩ hw
  unfold af.kg at l
  split at l
  case h_2=>cases l
  rename_i c t fr p
  split at l
  case isFalse=>cases l
  rename_i j
  obtain ⟨G,E,I,J⟩:=j
  cases l
  have d:=fU p
  have hb:=hw.own _ _ d
  have A:(w.setCell a v).heap[a.block]?=some (.cells (c.setIfInBounds a.off v) t fr):=by
   simp[World.setCell,Array.getElem?_modify,hb,E]
  have g:∀b,b≠a.block->(w.setCell a v).heap[b]?=w.heap[b]?:=by
   intro b g
   simp only[World.setCell]
   rw[Array.getElem?_modify,if_neg (fun e=>g e.symm)]
  have u:=hw.set (o:=.cells (c.setIfInBounds a.off v) t fr) (ep d) A g
  obtain ⟨x,w',F',es,H⟩:=ih _ (w.setCell a v) (cB.push ⟨.cell a,true,false⟩) h u
  refine ⟨x,w',F',_,H.cons ?_ (dm.put (ep d) rfl rfl rfl (by simp[World.setCell]) g) u (.inl ⟨a,true,rfl,.inl (ep d)⟩) rfl⟩
  have j:w.cell? a=some c[a.off]:=by simp[World.cell?,hb,E,I]
  have K:w.frozen? a=false:=by
   have:w.frozen? a=frozenAt (.cells c t fr) a.off:=by
    obtain ⟨N,O⟩:=fr
    simp[World.frozen?,hb,frozenAt]
   rw[this,J]
  cases v<;>simp[bw] at G<;>simp only[Sem.runT,j,K]<;>rfl
 |new o k ih=>
  intro F w cB h hw
  obtain ⟨x,w',F',es,H⟩:=ih w.heap.size (F.push w.heap.size o) {w with heap:=w.heap.push o} cB (h.2 _ hw.fresh) (hw.push o)
  exact ⟨x,w',F',es,H.skip (by simp only[Sem.runT]) (dm.push o) (hw.push o) rfl⟩
 |shape r k ih=>
  intro F w cB h hw
  have:aO P (k (w.shape? r)) Q F:=by
   unfold aO at h
   split at h
   ·rename_i o f
    have e:w.shape? r=shapeOf o:=by
     have:=hw.own _ _ (fU f)
     cases o<;>simp[World.shape?,this,shapeOf]
    rw[e];exact h
   ·exact h _
  obtain ⟨x,w',F',es,H⟩:=ih _ F w cB this hw
  exact ⟨x,w',F',es,H.skip (by simp only[Sem.runT]) (.refl _ _) hw rfl⟩
 |freeze a n k ih=>exact fun F w cB h hw=>h.elim
 |frozen a k ih=>
  intro F w cB h hw
  have:aO P (k (w.frozen? a)) Q F:=by
   unfold aO at h
   split at h
   ·rename_i o f
    have e:w.frozen? a=frozenAt o a.off:=by
     have:=hw.own _ _ (fU f)
     cases o<;>simp[World.frozen?,this,frozenAt]
    rw[e];exact h
   ·exact h _
  obtain ⟨x,w',F',es,H⟩:=ih _ F w cB this hw
  exact ⟨x,w',F',es,H.skip (by simp only[Sem.runT]) (.refl _ _) hw rfl⟩
 |getObj r k ih=>
  rintro F w cB ⟨o,f,h⟩ hw
  unfold af.ez at f
  split at f
  case h_2=>cases f
  rename_i o' p
  split at f
  case isFalse=>cases f
  rename_i B
  cases f
  obtain ⟨x,w',F',es,H⟩:=ih _ F w (cB.push ⟨.obj r,false,false⟩) h hw
  refine ⟨x,w',F',_,H.cons ?_ (.refl _ _) hw (.inr (.inl ⟨r,false,rfl,ep (fU p)⟩)) rfl⟩
  have:=hw.own _ _ (fU p)
  obtain ⟨j,C⟩:=B
  cases o<;>simp[Obj.mZ] at j<;>simp only[Sem.runT,this,C]<;>rfl
 |setObj r o k ih=>
  rintro F w cB ⟨C,i,h⟩ hw
  obtain ⟨x,i⟩:=Option.isSome_iff_exists.1 i
  unfold af.ez at i
  split at i
  case h_2=>cases i
  rename_i R p
  split at i
  case isFalse=>cases i
  rename_i B
  cases i
  have d:=fU p
  have hb:=hw.own _ _ d
  have L:r<w.heap.size:=hw.lt (ep d)
  have A:({w with heap:=w.heap.setIfInBounds r o}:World).heap[r]?=some o:=by simp[L]
  have g:∀b,b≠r->({w with heap:=w.heap.setIfInBounds r o}:World).heap[b]?=w.heap[b]?:=fun b g=>by
   simp[Array.getElem?_setIfInBounds,Ne.symm g]
  have u:=hw.set (w':={w with heap:=w.heap.setIfInBounds r o}) (o:=o) (ep d) A g
  obtain ⟨y,w',F',es,H⟩:=ih (F.put r o) {w with heap:=w.heap.setIfInBounds r o} (cB.push ⟨.obj r,true,false⟩) h u
  refine ⟨y,w',F',_,H.cons ?_ (dm.put (ep d) rfl rfl rfl (by simp) g) u (.inr (.inl ⟨r,true,rfl,ep d⟩)) rfl⟩
  obtain ⟨j,_⟩:=B
  cases x<;>simp[Obj.mZ] at j<;>simp only[Sem.runT,hb,C]
 |choose q k ih=>
  intro F w cB h hw
  unfold aO at h
  by_cases z:q.forced=true
  ·rw[if_pos z] at h
   obtain ⟨x,w',F',es,H⟩:=ih _ F w cB h hw
   exact ⟨x,w',F',es,H.skip (by simp only[Sem.runT,z,if_true]) (.refl _ _) hw rfl⟩
  ·rw[if_neg z] at h
   obtain ⟨x,w',F',es,H⟩:=ih (q.cut (w.tape w.drawn q)) F {w with drawn:=w.drawn+1} cB (h _) (hw.drawn _)
   exact ⟨x,w',F',es,H.skip (by simp only[Sem.runT,if_neg z]) (.drawn _ _ _) (hw.drawn _) rfl⟩
 |sys c k ih=>exact fun F w cB h hw=>h.elim
 |program k ih=>
  intro F w cB h hw
  obtain ⟨x,w',F',es,H⟩:=ih P F w cB h hw
  exact ⟨x,w',F',es,H.skip (by simp only[Sem.runT]) (.refl _ _) hw rfl⟩
 |mark m k ih=>
  rintro F w cB ⟨hm,h⟩ hw
  obtain ⟨x,w',F',es,H⟩:=ih F w (cB.push ⟨.mark m,false,true⟩) h hw
  exact ⟨x,w',F',_,H.cons (by simp only[Sem.runT]) (.refl _ _) hw (.inr (.inr ⟨m,rfl,hm⟩)) rfl⟩
 |halt h=>exact fun F w cB h hw=>h.elim
def on (b:Frame)(a:Act)(todo:List Item):Frame:={b with tmps:=a.tmps,todo:=todo,defers:=a.defers,mode:=.run}
structure Le (F F':af):Prop where
 has:∀w,Has F' w->Has F w
 own:∀b,b∈keys F.own->b∈keys F'.own
 ro:∀a,(F.ro a).isSome=true->(F'.ro a).isSome=true\/a.block∈keys F'.own
theorem Le.refl (F:af):Le F F:=⟨fun _ h=>h,fun _ h=>h,fun _ h=>.inl h⟩
theorem Le.trans {F G H:af}(h:Le F G)(k:Le G H):Le F H:=
 ⟨fun w x=>h.has w (k.has w x),fun b x=>k.own b (h.own b x),fun a x=>(h.ro a x).elim (k.ro a) (fun y=>.inr (k.own _ y))⟩
def AB (P:Program)(main:Bool)(J:Goroutine->af->Prop)(g:Goroutine)(F:af)(w:World):Prop:=
 ∃g' w' es F',stepG P main g w= .go g' w' es/\dm F F' w w'/\Has F' w'/\(∀e∈es,gO F.ro (fV F w.heap.size w'.heap.size) e)/\J g' F'
structure Closed (P:Program)(main:Bool)(J:Goroutine->af->Prop):Prop where
 mono:∀{g F F'},Le F F'->J g F->J g F'
 step:∀{fr cs F},(∀w,Has F w->AB P main J (G fr cs) F w)->J (G fr cs) F
def cC (P:Program)(J:Goroutine->af->Prop)(f:FuncId)(args:Array Value)(F:af)(R:Value->af->Prop):Prop:=
 ∀(c:Frame) (cs:List Frame),(∀v F',R v F'->J (G (c.finish v) cs) F')->J (G (Frame.enter P f args .normal) (c::cs)) F
def ay (P:Program)(f:FuncId)(args:Array Value)(F:af)(R:Value->af->Prop):Prop:=
 ∀(main:Bool) (J:Goroutine->af->Prop),Closed P main J->cC P J f args F R
section
variable {P : Program} {main : Bool} {J : Goroutine → af → Prop}
theorem cC.mono {f:FuncId}{args:Array Value}{F:af}{R a:Value->af->Prop}(h:cC P J f args F R)(b:∀v F',R v F'->a v F'):cC P J f args F a:=
 fun c cs k=>h c cs fun v F' r=>k v F' (b v F' r)
theorem ay.mono {f:FuncId}{args:Array Value}{F:af}{R a:Value->af->Prop}(h:ay P f args F R)(b:∀v F',R v F'->a v F'):ay P f args F a:=
 fun m J hJ=>(h m J hJ).mono b
theorem Closed.move (hJ:Closed P main J){fr fr':Frame}{cs cs':List Frame}{F:af}(hs:∀w,stepG P main (G fr cs) w= .go (G fr' cs') w #[])(h:J (G fr' cs') F):J (G fr cs) F:=
 hJ.step fun w hw=>⟨_,w,#[],F,hs w,.refl _ _,hw,by simp,h⟩
variable {b : Frame} {a : Act} {k : List Item} {cs : List Frame} {F : af}
theorem v7 {w:World}:stepG P main (G (on b a (.code .skip::k)) cs) w= .go (G (on b a k) cs) w #[]:=by simp[G,stepG,stepG.exec,on]
theorem AD {l:Nat}{w:World}:stepG P main (G (on b a (.code (.label l)::k)) cs) w= .go (G (on b a k) cs) w #[]:=by simp[G,stepG,stepG.exec,on]
theorem v8 {id:Nat}{w:World}:stepG P main (G (on b a (.inBlock id::k)) cs) w= .go (G (on b a k) cs) w #[]:=by simp[G,stepG,stepG.exec,on]
theorem AE {c:Code}{w:World}:stepG P main (G (on b a (.inScope c::k)) cs) w= .go (G (on b a k) cs) w #[]:=by simp[G,stepG,stepG.exec,on]
theorem v9 {x y:Code}{w:World}:stepG P main (G (on b a (.code (.seq x y)::k)) cs) w= .go (G (on b a (.code x:: .code y::k)) cs) w #[]:=by simp[G,stepG,stepG.exec,on]
theorem rF (b:Frame)(a:Act)(todo:List Item)(x:Operand):(on b a todo).eval x=a.eval x:=by cases x<;>rfl
theorem we {c:Operand}{x y:Code}{t:Bool}{w:World}(h:a.eval c= .bool t):stepG P main (G (on b a (.code (.cond c x y)::k)) cs) w= .go (G (on b a (.code (if t then x else y)::k)) cs) w #[]:=by
 have d:(on b a (.code (.cond c x y)::k)).eval c= .bool t:=by rw[rF];exact h
 simp only[on] at d
 simp[G,stepG,stepG.exec,on,d]
theorem wh {id:Nat}{c:Code}{w:World}:stepG P main (G (on b a (.code (.block id c)::k)) cs) w= .go (G (on b a (.code c:: .inBlock id::k)) cs) w #[]:=by simp[G,stepG,stepG.exec,on]
theorem wj {c:Code}{w:World}:stepG P main (G (on b a (.code (.loop c)::k)) cs) w= .go (G (on b a (.code c:: .inLoop c::k)) cs) w #[]:=by simp[G,stepG,stepG.exec,on]
theorem wm {c:Code}{w:World}:stepG P main (G (on b a (.inLoop c::k)) cs) w= .go (G (on b a (.code c:: .inLoop c::k)) cs) w #[]:=by simp[G,stepG,stepG.exec,on]
theorem AF {c:Code}{w:World}:stepG P main (G (on b a (.code (.scope c)::k)) cs) w= .go (G (on b a (.code c:: .inScope c::k)) cs) w #[]:=by simp[G,stepG,stepG.exec,on]
theorem wo {id:Nat}{c:List Item}{w:World}(h:exitTo id k=some c):stepG P main (G (on b a (.code (.exit id)::k)) cs) w= .go (G (on b a c) cs) w #[]:=by simp[G,stepG,stepG.exec,on,h]
theorem wq {id:Nat}{ops:Array Oper}{w:World}:stepG P main (G (on b a (.code (.region id ops false)::k)) cs) w= .go (G (on b a (.inRegion ops (List.range ops.size)::k)) cs) w #[]:=by simp[G,stepG,stepG.exec,on]
theorem wu {id:Nat}{ops:Array Oper}{w:World}:stepG P main (G (on b a (.code (.region id ops true)::k)) cs) w=
  .go (G (on b a (.inRegion ops (Region.schedule (P.follows .mixedOrders) ops (w.tape w.drawn (.order b.fn id)))::k)) cs) {w with drawn:=w.drawn+1} #[]:=by
 simp[G,stepG,stepG.exec,on,choose,Sem.run,Question.forced,Question.cut]
theorem wv {ops:Array Oper}{w:World}:stepG P main (G (on b a (.inRegion ops []::k)) cs) w= .go (G (on b a k) cs) w #[]:=by simp[G,stepG,stepG.exec,on]
theorem stepG_ret' {w:World}(c:b.roundOf=none):stepG P main (G (on b a (.code .ret::k)) cs) w= .go (G {on b a (.code .ret::k) with mode:=.returning} cs) w #[]:=by simp[G,stepG,stepG.exec,on,c]
theorem ko {w:World}(c:b.roundOf=none):stepG P main (G (on b a []) cs) w= .go (G {on b a [] with mode:=.returning} cs) w #[]:=by simp[G,stepG,stepG.exec,on,c]
theorem rG (b:Frame)(a:Act)(ops:Array Oper)(i:Nat)(rest:List Nat)(k:List Item)(v:Value):
  (on b a (.inRegion ops (i::rest)::k)).finish v=on b (a.put ((ops[i]?).bind (·.dst)) v) (.inRegion ops rest::k):=by
 cases h:(ops[i]?).bind (·.dst)<;>simp[Frame.finish,on,Act.put,h]
theorem rH {ops:Array Oper}{i:Nat}{rest:List Nat}{w:World}(h:((ops[i]?).map (Region.wanted · (yielded ops a.tmps))).getD false=false):
  stepG P main (G (on b a (.inRegion ops (i::rest)::k)) cs) w= .go (G (on b (a.put ((ops[i]?).bind (·.dst)) undef) (.inRegion ops rest::k)) cs) w #[]:=by
 rw[<-rG]
 have c:=h
 simp only[on] at*
 simp[G,stepG,stepG.exec,c]
theorem AG {ops:Array Oper}{i:Nat}{rest:List Nat}{o:Oper}{w:World}(d:b.roundOf=none\/∀c,o.op≠ .defer c)(e:ops[i]?=some o)(hw:Region.wanted o (yielded ops a.tmps)=true):
  stepG P main (G (on b a (.inRegion ops (i::rest)::k)) cs) w=stepG.apply P true (on b a (.inRegion ops (i::rest)::k)) cs none (execOp a.eval o) w:=by
 have he:(on b a (.inRegion ops (i::rest)::k)).eval=a.eval:=funext (rF b a _)
 simp only[on] at he
 rcases d with d|d
 ·rw[d] at he
  simp[G,stepG,stepG.exec,stepG.oper,Frame.oper?,on,e,hw,he,d]
 ·have:∀l,(match (some l:Option Nat),o.op with
   |some l,.defer c=>stepG.apply P true (on b a (.inRegion ops (i::rest)::k)) cs none (do Instr.deferInRound l (<-resolve (on b a (.inRegion ops (i::rest)::k)).eval c o.type);pure .skip) w
   |_,_=>stepG.apply P true (on b a (.inRegion ops (i::rest)::k)) cs none (execOp a.eval o) w)=stepG.apply P true (on b a (.inRegion ops (i::rest)::k)) cs none (execOp a.eval o) w:=by
   intro l
   cases f:o.op<;>first|rfl|exact absurd f (d _)
  cases hb:b.roundOf with
  |none=>
   rw[hb] at he
   simp[G,stepG,stepG.exec,stepG.oper,Frame.oper?,on,e,hw,he,hb]
  |some l=>
   have t:=this l
   simp only[on,he] at t
   simp only[hb] at t
   simp[G,stepG,stepG.exec,stepG.oper,Frame.oper?,on,e,hw,he,hb]
   exact t
def ig (J:Goroutine->af->Prop)(l:Nat)(f:FuncId)(tmps:Array Value)(assign body:Code)(F:af)(R:Value->af->Prop):Prop:=
 ∀(c:Frame) (cs:List Frame),(∀v F',R v F'->J (G (c.finish v) cs) F')->J (G (Frame.round l f tmps assign body .normal) (c::cs)) F
theorem ig.mono {l:Nat}{f:FuncId}{tmps:Array Value}{assign body:Code}{F:af}{R a:Value->af->Prop}(h:ig J l f tmps assign body F R)(b:∀v F',R v F'->a v F'):ig J l f tmps assign body F a:=
 fun c cs k=>h c cs fun v F' r=>k v F' (b v F' r)
def eN (P:Program)(J:Goroutine->af->Prop)(R:Value->af->Prop)(D:Deferred->af->Prop):Next->af->Prop
 | .value v,F=>R v F
 | .skip,F=>R undef F
 | .defer d,F=>D d F
 | .enter f args,F=>cC P J f args F R
 | .round l f tmps assign body,F=>ig J l f tmps assign body F R
 |_,_=>False
theorem wz {R b:Value->af->Prop}{D c:Deferred->af->Prop}(a:∀v F,R v F->b v F)(e:∀d F,D d F->c d F):∀n F,eN P J R D n F->eN P J b c n F
 | .value v,F,h=>a _ _ h
 | .skip,F,h=>a _ _ h
 | .defer d,F,h=>e _ _ h
 | .enter f args,F,h=>cC.mono h a
 | .round l f tmps assign body,F,h=>ig.mono h a
 | .stack ..,_,h| .callThen ..,_,h| .row ..,_,h| .comm ..,_,h| .spawn ..,_,h| .recover,_,h| .numGoroutine,_,h| .collect,_,h| .watch ..,_,h| .newcoro ..,_,h| .coroswitch ..,_,h| .sleep ..,_,h| .timer ..,_,h| .alone ..,_,h=>h.elim
def iO (P:Program)(J:Goroutine->af->Prop)(R:Value->af->Prop)(D:Deferred->af->Prop)(n:Next)(F:af):Prop:=eN P J (fun v F=>∃F0,Le F0 F/\R v F0) D n F
theorem AH {R:Value->af->Prop}{D:Deferred->af->Prop}:∀n F,eN P J R D n F->iO P J R D n F:=wz (fun _ F h=>⟨F,Le.refl F,h⟩) (fun _ _ h=>h)
theorem m0 {R a:Value->af->Prop}{D b:Deferred->af->Prop}(c:∀v F,R v F->a v F)(e:∀d F,D d F->b d F):∀n F,iO P J R D n F->iO P J a b n F:=
 wz (fun _ _ ⟨F0,hle,h⟩=>⟨F0,hle,c _ _ h⟩) e
def wA (P:Program)(J:Goroutine->af->Prop)(o:Oper)(K:Act->af->Prop)(a:Act)(F:af):Prop:=
 aO P (execOp a.eval o) (iO P J (fun v F'=>K (a.put o.dst v) F') (fun d F'=>K ({a with defers:=d::a.defers}.put o.dst undef) F')) F
def dh (P:Program)(J:Goroutine->af->Prop)(ops:Array Oper)(i:Nat)(K:Act->af->Prop)(a:Act)(F:af):Prop:=
 match ops[i]? with
 |none=>K a F
 |some o=>if Region.wanted o (yielded ops a.tmps) then wA P J o K a F else K (a.put o.dst undef) F
def e4 (P:Program)(J:Goroutine->af->Prop)(ops:Array Oper)(K:Act->af->Prop):List Nat->Act->af->Prop
 |[],a,F=>K a F
 |i::rest,a,F=>dh P J ops i (e4 P J ops K rest) a F
structure rJ (ops:Array Oper)(b:Frame):Prop where
 kind:b.kind≠ .early
 round:b.roundOf=none\/∀o∈ops,∀c,o.op≠ .defer c
theorem wB (hJ:Closed P main J){ops:Array Oper}{i:Nat}{rest:List Nat}{K:Act->af->Prop}(hb:rJ ops b)(h:dh P J ops i K a F)
  (p:∀t F',K t F'->J (G (on b t (.inRegion ops rest::k)) cs) F'):J (G (on b a (.inRegion ops (i::rest)::k)) cs) F:=by
 unfold dh at h
 cases g:ops[i]? with
 |none=>
  rw[g] at h
  refine hJ.move (fun w=>rH (by simp[g])) ?_
  simp only[g,Option.bind_none,Act.put]
  exact p _ _ h
 |some o=>
  rw[g] at h
  simp only at h
  by_cases hw:Region.wanted o (yielded ops a.tmps)=true
  ·rw[if_pos hw] at h
   refine hJ.step fun w y=>?_
   obtain ⟨n,w',F',es,H⟩:=jz _ F w #[] h y
   have u:=H.run
   rw[Array.empty_append] at u
   have z:b.roundOf=none\/∀c,o.op≠ .defer c:=hb.round.imp id fun x=>x o (Array.mem_of_getElem? g)
   have j:=AG (P:=P) (main:=main) (b:=b) (a:=a) (k:=k) (cs:=cs) (w:=w) (rest:=rest) z g hw
   have A:((on b a (.inRegion ops (i::rest)::k)).kind==CallKind.early)=false:=by simpa [on] using hb.kind
   have s:∀v,(on b a (.inRegion ops (i::rest)::k)).finish v=on b (a.put o.dst v) (.inRegion ops rest::k):=by
    intro v;rw[rG,g];rfl
   have r:∀e∈seen P (on b a (.inRegion ops (i::rest)::k)).fn es,gO F.ro (fV F w.heap.size w'.heap.size) e:=fun e he=>H.gi e (mem_seen he)
   have m:=H.post
   unfold stepG.apply at j
   simp only[if_true,u,A,Bool.false_eq_true,if_false] at j
   cases n<;>simp only[iO,eN] at m
   case value v=>
    simp only[s,GStep.after,Array.append_empty] at j
    obtain ⟨F0,hle,m⟩:=m
    exact ⟨_,w',_,F',j,H.upd,H.has,r,hJ.mono hle (p _ _ m)⟩
   case skip=>
    simp only[s,GStep.after,Array.append_empty] at j
    obtain ⟨F0,hle,m⟩:=m
    exact ⟨_,w',_,F',j,H.upd,H.has,r,hJ.mono hle (p _ _ m)⟩
   case defer d=>
    have B:({on b a (.inRegion ops (i::rest)::k) with defers:=d::(on b a (.inRegion ops (i::rest)::k)).defers}:Frame).finish undef=
      on b ({a with defers:=d::a.defers}.put o.dst undef) (.inRegion ops rest::k):=by
     have:=rG b {a with defers:=d::a.defers} ops i rest k undef
     rw[g] at this;exact this
    simp only[B,GStep.after,Array.append_empty] at j
    exact ⟨_,w',_,F',j,H.upd,H.has,r,p _ _ m⟩
   case round l f tmps ck bd=>
    refine ⟨_,w',_,F',j,H.upd,H.has,?_,m _ _ fun v C q=>by obtain ⟨F0,hle,q⟩:=q;rw[s];exact hJ.mono hle (p _ _ q)⟩
    simpa [GStep.after] using r
   case enter f args=>
    refine ⟨_,w',_,F',j,H.upd,H.has,?_,m _ _ fun v C q=>by obtain ⟨F0,hle,q⟩:=q;rw[s];exact hJ.mono hle (p _ _ q)⟩
    simpa [GStep.after] using r
  ·rw[if_neg hw] at h
   refine hJ.move (fun w=>rH (by simp[g];simpa using hw)) ?_
   simp only[g,Option.bind_some]
   exact p _ _ h
theorem m3 {ops:Array Oper}{i:Nat}{K e:Act->af->Prop}{a:Act}{F:af}(h:∀a F,K a F->e a F)(b:dh P J ops i K a F):dh P J ops i e a F:=by
 unfold dh at*
 split
 ·rename_i c;rw[c] at b;exact h _ _ b
 ·rename_i o c
  rw[c] at b
  simp only at b
  split
  ·rename_i hw;rw[if_pos hw] at b;exact fX (m0 (fun v F=>h _ _) (fun d F=>h _ _)) _ _ b
  ·rename_i hw;rw[if_neg hw] at b;exact h _ _ b
theorem oS (hJ:Closed P main J){ops:Array Oper}{K:Act->af->Prop}(hb:rJ ops b)(d:∀c F',K c F'->J (G (on b c k) cs) F'):
  ∀(l:List Nat) (a:Act) (F:af),e4 P J ops K l a F->J (G (on b a (.inRegion ops l::k)) cs) F
 |[],a,F,h=>hJ.move (fun _=>wv) (d _ _ h)
 |i::rest,a,F,h=>wB hJ hb h fun c F' e=>oS hJ hb d rest c F' e
section draw
variable {ops : Array Oper} {Q : Act → af → Prop} {S : af → Prop}
def di (P:Program)(J:Goroutine->af->Prop)(ops:Array Oper)(Q:Act->af->Prop)(S:af->Prop):Nat->Array Bool->Act->af->Prop
 |0,listed,a,F=>Region.ready .any ops listed=[]/\Q a F
 |fuel+1,listed,a,F=>(Region.ready .any ops listed=[]->Q a F)/\
  ∀i∈Region.ready .any ops listed,dh P J ops i (fun b F'=>S F'/\di P J ops Q S fuel (listed.setIfInBounds i true) b F') a F
theorem AI:∀(fuel t:Nat) (listed:Array Bool) (a:Act) (F:af),di P J ops Q S fuel listed a F->
  e4 P J ops Q (Region.linearise.go .any ops fuel t listed []) a F:=by
 intro fuel
 induction fuel with
 |zero=>intro t listed a F h;simpa [Region.linearise.go,e4] using h.2
 |succ fuel ih=>
  intro t listed a F h
  obtain ⟨c,d⟩:=h
  simp only[Region.linearise.go]
  change e4 P J ops Q (match (Region.ready .any ops listed)[t % (Region.ready .any ops listed).length]? with
   |some i=>Region.linearise.go .any ops fuel (t/(Region.ready .any ops listed).length) (listed.setIfInBounds i true) [i]
   |none=>[].reverse) a F
  cases b:(Region.ready .any ops listed)[t % (Region.ready .any ops listed).length]? with
  |none=>
   have e:Region.ready .any ops listed=[]:=by
    cases f:Region.ready .any ops listed with
    |nil=>rfl
    |cons x xs=>
     rw[f] at b
     have g:t % (x::xs).length<(x::xs).length:=Nat.mod_lt _ (by simp)
     simp at b
     simp at g
     omega
   simpa [e4] using c e
  |some i=>
   simp only[]
   rw[linearise_go_acc,List.reverse_singleton,List.singleton_append]
   exact m3 (fun a F h=>ih _ _ a F h.2) (d i (List.mem_of_getElem? b))
def eO (P:Program)(J:Goroutine->af->Prop)(ops:Array Oper)(S:af->Prop)(o:Oper)(v:Value)(a:Act):Prop:=
 (Region.wanted o (yielded ops a.tmps)=true/\∀F (R:Value->af->Prop),S F->R v F->aO P (execOp a.eval o) (iO P J R (fun _ _=>False)) F)\/
 (Region.wanted o (yielded ops a.tmps)=false/\v=undef)
theorem eO.lG {i:Nat}{o:Oper}{v:Value}{a:Act}{F:af}(b:ops[i]?=some o)(c:eO P J ops S o v a)
  {K:Act->af->Prop} (d:S F) (h:K (a.put o.dst v) F):dh P J ops i K a F:=by
 unfold dh
 simp only[b]
 rcases c with ⟨hw,e⟩|⟨hw,rfl⟩
 ·rw[if_pos hw]
  exact fX (m0 (fun _ _ x=>x) (fun _ _ x=>x.elim)) _ _ (e F (fun v F'=>K (a.put o.dst v) F') d h)
 ·rw[if_neg (by simp[hw])];exact h
theorem eO.of_same {o:Oper}{v:Value}{a b:Act}(c:eO P J ops S o v a)(he:execOp b.eval o=execOp a.eval o)
  (hw:Region.wanted o (yielded ops b.tmps)=Region.wanted o (yielded ops a.tmps)):eO P J ops S o v b:=by
 unfold eO at*
 rw[he,hw]
 exact c
theorem rK {j:Nat}{c e:Oper}{v:Value}(i:ops[j]?=some e)(k:c.apart ops e=true)
  (l:∀cs b,c.op≠ .select cs b) (m:∀cs b,e.op≠ .select cs b) {K:Act->af->Prop} {a:Act} {F:af}
  (f:eO P J ops S c v a) (h:dh P J ops j K (a.put c.dst v) F):
  dh P J ops j (fun g F'=>eO P J ops S c v g/\K (g.put c.dst v) F') a F:=by
 obtain ⟨h1,h2,h3⟩:=Oper.apart_spec k
 have keep:∀(a:Act),eO P J ops S c v a->∀u,eO P J ops S c v (a.put e.dst u):=fun a f u=>
  f.of_same (execOp_put c l a e.dst u h3) (wanted_put c a e.dst u h3)
 have n:∀d,eO P J ops S c v {a with defers:=d::a.defers}:=fun d=>f.of_same rfl rfl
 unfold dh at*
 simp only[i] at*
 rw[wanted_put e a c.dst v h1] at h
 split
 ·rename_i hw
  rw[if_pos hw] at h
  unfold wA at*
  rw[execOp_put e m a c.dst v h1] at h
  refine fX (m0 (fun u F' x=>⟨keep a f u,?_⟩) (fun d F' x=>⟨keep _ (n d) _,?_⟩)) _ _ h
  ·rw[<-Act.put_comm a v u h2];exact x
  ·rw[<-Act.put_comm _ v undef h2,<-Act.put_defers];exact x
 ·rename_i hw
  rw[if_neg hw] at h
  exact ⟨keep a f _,by rw[<-Act.put_comm a v undef h2];exact h⟩
theorem AJ {i:Nat}{g:Oper}{v:Value}(p:ops[i]?=some g)(s:∀(j:Nat) (o:Oper) cs b,ops[j]?=some o->o.op≠ .select cs b):
  ∀(fuel:Nat) (listed:Array Bool) (a:Act) (F:af),
   (∀j d,ops[j]?=some d->j≠i->listed.getD j true=false->(∀e∈d.after,Region.binds .any e=true->e.on≠i)->g.apart ops d=true)->
   i∈Region.ready .any ops listed->eO P J ops S g v a->S F->
   di P J ops Q S fuel (listed.setIfInBounds i true) (a.put g.dst v) F->di P J ops Q S (fuel+1) listed a F:=by
 intro fuel
 induction fuel with
 |zero=>
  intro listed a F _ f m l H
  refine ⟨fun h=>(by rw[h] at f;cases f),fun j n=>?_⟩
  by_cases c:j=i
  ·subst c;exact m.lG p l ⟨l,H⟩
  ·have:=ready_mono n c
   rw[H.1] at this
   cases this
 |succ fuel ih=>
  intro listed a F t f m l H
  refine ⟨fun h=>(by rw[h] at f;cases f),fun j n=>?_⟩
  by_cases c:j=i
  ·subst c;exact m.lG p l ⟨l,H⟩
  ·have h1:=H.2 j (ready_mono n c)
   obtain ⟨u,d,q,y⟩:=mem_ready.1 n
   have z:∀e∈d.after,Region.binds .any e=true->e.on≠i:=fun e he hb heq=>by
    have h1:=y e he hb
    have h0:=(mem_ready.1 f).1
    rw[heq] at h1
    rcases Nat.lt_or_ge i listed.size with r|r
    ·simp[r] at h0 h1;rw[h0] at h1;cases h1
    ·simp[Array.getElem?_eq_none r] at h1
   have h2:=rK q (t j d q c u z) (fun cs b=>s i g cs b p) (fun cs b=>s j d cs b q) m h1
   have A:∀k ok,ops[k]?=some ok->k≠i->(listed.setIfInBounds j true).getD k true=false->
     (∀e∈ok.after,Region.binds .any e=true->e.on≠i)->g.apart ops ok=true:=fun k ok B C w D=>by
    refine t k ok B C ?_ D
    by_cases x:j=k
    ·subst x;exact u
    ·rw[getD_set_ne true x] at w;exact w
   refine m3 (fun E F' h3=>⟨h3.2.1,ih (listed.setIfInBounds j true) E F' A (ready_mono f (Ne.symm c)) h3.1 h3.2.1 ?_⟩) h2
   rw[Array.setIfInBounds_comm _ _ c]
   exact h3.2.2
theorem wC (i:Nat){c:Oper}(v:Value){fuel:Nat}{listed:Array Bool}{a:Act}{F:af}(d:ops[i]?=some c)
  (b:(Region.noSelect ops&&Region.free .any ops listed i&&(Region.ready .any ops listed).contains i)=true)
  (e:eO P J ops S c v a) (f:S F)
  (h:di P J ops Q S fuel (listed.setIfInBounds i true) (a.put c.dst v) F):di P J ops Q S (fuel+1) listed a F:=by
 simp only[Bool.and_eq_true] at b
 exact AJ d (Region.noSelect_spec b.1.1) fuel listed a F (Region.free_spec d b.1.2) (by simpa using b.2) e f h
theorem AK {rs:List Nat}{fuel:Nat}{listed:Array Bool}{a:Act}{F:af}(b:Region.ready .any ops listed=rs)(c:rs≠[])
  (h:∀i∈rs,dh P J ops i (fun d F'=>S F'/\di P J ops Q S fuel (listed.setIfInBounds i true) d F') a F):di P J ops Q S (fuel+1) listed a F:=
 ⟨fun h0=>absurd (b▸h0) c,b▸h⟩
theorem AL (i:Nat){fuel:Nat}{listed:Array Bool}{a:Act}{F:af}(b:Region.ready .any ops listed=[i])
  (h:dh P J ops i (fun c F'=>S F'/\di P J ops Q S fuel (listed.setIfInBounds i true) c F') a F):di P J ops Q S (fuel+1) listed a F:=
 AK b (by simp) (by simpa using h)
theorem wD {listed:Array Bool}{a:Act}{F:af}(b:Region.ready .any ops listed=[])(h:Q a F):∀fuel,di P J ops Q S fuel listed a F
 |0=>⟨b,h⟩
 |_+1=>⟨fun _=>h,by rw[b];simp⟩
end draw
end
inductive Ex where
 |normal
 |exit (id:Nat)
 |ret
 deriving DecidableEq
def eP:Code->Bool
 | .region _ ops _=>ops.all fun o=>match o.op with| .defer _=>false|_=>true
 | .seq a b=>eP a&&eP b
 | .cond _ a b=>eP a&&eP b
 | .block _ c=>eP c
 | .loop c=>eP c
 | .scope c=>eP c
 | .rangeFunc ..=>false
 |_=>true
structure wE (c:Code)(b:Frame):Prop where
 kind:b.kind≠ .early
 round:b.roundOf=none\/eP c=true
section
variable {P : Program} {main : Bool} {J : Goroutine → af → Prop}
def wF (J:Goroutine->af->Prop)(b:Frame)(k:List Item)(cs:List Frame):Ex->Act->af->Prop
 | .normal,a,F=>J (G (on b a k) cs) F
 | .exit id,a,F=>∀c,exitTo id c=exitTo id k->J (G (on b a (.code (.exit id)::c)) cs) F
 | .ret,a,F=>∀c,J (G (on b a (.code .ret::c)) cs) F
def Wp (J:Goroutine->af->Prop)(c:Code)(Q:Ex->Act->af->Prop)(a:Act)(F:af):Prop:=
 ∀(b:Frame) (k:List Item) (cs:List Frame),wE c b->(∀e d F',Q e d F'->wF J b k cs e d F')->J (G (on b a (.code c::k)) cs) F
theorem Wp.mono {c:Code}{Q d:Ex->Act->af->Prop}{a:Act}{F:af}(h:Wp J c Q a F)(f:∀e a F,Q e a F->d e a F):Wp J c d a F:=
 fun b k cs hb g=>h b k cs hb fun e i F' x=>g e i F' (f _ _ _ x)
theorem Wp.le {hJ:Closed P main J}{c:Code}{Q:Ex->Act->af->Prop}{a:Act}{F F':af}(h:Wp J c Q a F)(hle:Le F F'):Wp J c Q a F':=
 fun b k cs hb d=>hJ.mono hle (h b k cs hb d)
variable {Q : Ex → Act → af → Prop} {a : Act} {F : af}
theorem aE (hJ:Closed P main J)(h:Q .normal a F):Wp J .skip Q a F:=fun b k cs _ c=>hJ.move (fun _=>v7) (c _ _ _ h)
theorem AM (hJ:Closed P main J){l:Nat}(h:Q .normal a F):Wp J (.label l) Q a F:=fun b k cs _ c=>hJ.move (fun _=>AD) (c _ _ _ h)
theorem bR {id:Nat}(h:Q (.exit id) a F):Wp J (.exit id) Q a F:=fun b k cs _ c=>c _ _ _ h k rfl
theorem av (h:Q .ret a F):Wp J .ret Q a F:=fun b k cs _ c=>c _ _ _ h k
def wG (J:Goroutine->af->Prop)(y:Code)(Q:Ex->Act->af->Prop):Ex->Act->af->Prop
 | .normal,a,F=>Wp J y Q a F
 |e,a,F=>Q e a F
theorem aa (hJ:Closed P main J){x y:Code}(h:Wp J x (wG J y Q) a F):Wp J (.seq x y) Q a F:=fun b k cs hb c=>by
 refine hJ.move (fun _=>v9) (h b (.code y::k) cs ⟨hb.kind,hb.round.imp id fun z=>?_⟩ fun e i F' d=>?_)
 ·simp only[eP,Bool.and_eq_true] at z;exact z.1
 ·cases e with
  |normal=>exact d b k cs ⟨hb.kind,hb.round.imp id fun z=>by simp only[eP,Bool.and_eq_true] at z;exact z.2⟩ c
  |exit id=>exact fun f g=>c _ _ _ d f (by rw[g];rfl)
  |ret=>exact c _ _ _ d
theorem rM (hJ:Closed P main J){c:Operand}{x y:Code}(t:Bool)(d:a.eval c= .bool t)(h:Wp J (if t then x else y) Q a F):Wp J (.cond c x y) Q a F:=fun b k cs hb e=>by
 refine hJ.move (fun _=>we d) (h b k cs ⟨hb.kind,hb.round.imp id fun z=>?_⟩ e)
 simp only[eP,Bool.and_eq_true] at z
 cases t
 ·exact z.2
 ·exact z.1
def rN (id:Nat)(Q:Ex->Act->af->Prop):Ex->Act->af->Prop
 | .normal,a,F=>Q .normal a F
 | .exit i,a,F=>if i=id then Q .normal a F else Q (.exit i) a F
 | .ret,a,F=>Q .ret a F
theorem aU (hJ:Closed P main J){id:Nat}{c:Code}(h:Wp J c (rN id Q) a F):Wp J (.block id c) Q a F:=fun b k cs hb f=>by
 refine hJ.move (fun _=>wh) (h b (.inBlock id::k) cs ⟨hb.kind,hb.round⟩ fun e m F' d=>?_)
 cases e with
 |normal=>exact hJ.move (fun _=>v8) (f _ _ _ d)
 |exit i=>
  intro j l
  simp only[rN] at d
  by_cases g:i=id
  ·rw[if_pos g] at d
   subst g
   have:exitTo i j=some k:=by rw[l];simp[exitTo]
   exact hJ.move (fun _=>wo this) (f _ _ _ d)
  ·rw[if_neg g] at d
   refine f _ _ _ d j ?_
   rw[l]
   simp[exitTo,Ne.symm g]
 |ret=>exact f _ _ _ d
theorem AN (hJ:Closed P main J){c:Code}(h:Wp J c Q a F):Wp J (.scope c) Q a F:=fun b k cs hb d=>by
 refine hJ.move (fun _=>AF) (h b (.inScope c::k) cs ⟨hb.kind,hb.round⟩ fun e l F' f=>?_)
 cases e with
 |normal=>exact hJ.move (fun _=>AE) (d _ _ _ f)
 |exit i=>exact fun g j=>d _ _ _ f g (by rw[j];rfl)
 |ret=>exact d _ _ _ f
def oT (I:Nat->Act->af->Prop)(n:Nat)(Q:Ex->Act->af->Prop):Ex->Act->af->Prop
 | .normal,a,F=>∃m,m<n/\I m a F
 |e,a,F=>Q e a F
theorem wH (hJ:Closed P main J){c:Code}(I:Nat->Act->af->Prop)(n:Nat)(h0:I n a F)(hs:∀n a F,I n a F->Wp J c (oT I n Q) a F):Wp J (.loop c) Q a F:=by
 intro b k cs hb f
 have key:∀n a F,I n a F->J (G (on b a (.code c:: .inLoop c::k)) cs) F:=by
  intro n
  induction n using Nat.strongRecOn with
  |_ n ih=>
   intro a F g
   refine hs n a F g b (.inLoop c::k) cs ⟨hb.kind,hb.round⟩ fun e h F' d=>?_
   cases e with
   |normal=>
    obtain ⟨m,hm,j⟩:=d
    exact hJ.move (fun _=>wm) (ih m hm h F' j)
   |exit i=>exact fun l o=>f _ _ _ d l (by rw[o];rfl)
   |ret=>exact f _ _ _ d
 exact hJ.move (fun _=>wj) (key n a F h0)
theorem rO {id:Nat}{ops:Array Oper}{d:Bool}{b:Frame}(hb:wE (.region id ops d) b):rJ ops b:=
 ⟨hb.kind,hb.round.imp a fun z o e c f=>by
  simp only[eP] at z
  have:=(Array.all_eq_true_iff_forall_mem.1 z) o e
  rw[f] at this
  cases this⟩
where a {p:Prop} (h:p):p:=h
theorem AO (hJ:Closed P main J){id:Nat}{ops:Array Oper}(h:e4 P J ops (Q .normal) (List.range ops.size) a F):Wp J (.region id ops false) Q a F:=fun b k cs hb c=>
 hJ.move (fun _=>wq) (oS hJ (rO hb) (fun d F' e=>c .normal d F' e) _ _ _ h)
theorem rP (hJ:Closed P main J)(S:af->Prop)(hm:P.follows .mixedOrders=true){id:Nat}{ops:Array Oper}(h:di P J ops (Q .normal) S ops.size (Array.replicate ops.size false) a F):Wp J (.region id ops true) Q a F:=fun b k cs hb c=>
 hJ.step fun w hw=>by
  refine ⟨_,_,_,F,wu,.drawn _ _ _,hw.drawn _,by simp,?_⟩
  refine oS (K:=Q .normal) hJ (rO hb) (fun d F' e=>c .normal d F' e) _ _ _ ?_
  simp only[Region.schedule,hm,Bool.true_or,if_true]
  exact AI ops.size _ _ a F h
def gj (P:Program):List Deferred->(af->Prop)->af->Prop
 |[],K,F=>K F
 |d::a,K,F=>∃r,d.target= .collected r/\aO P (Instr.takeDeferred r) (fun calls F'=>calls=[]/\gj P a K F') F
def oU (P:Program)(fn:Func)(R:Value->af->Prop):Ex->Act->af->Prop
 | .exit _,_,_=>False
 |_,a,F=>gj P a.defers (fun F=>aO P (results fn a.tmps) R F) F
theorem rQ (hJ:Closed P main J){f:FuncId}{fn:Func}(j:P.funcs[f]?=some fn){R:Value->af->Prop}{c:Frame}{cs:List Frame}(k:∀v F',R v F'->J (G (c.finish v) cs) F')(tmps:Array Value):
  ∀(a:List Deferred) (fr:Frame) (F:af),fr.fn=f->fr.kind= .normal->fr.mode= .returning->fr.defers=a->fr.tmps=tmps->gj P a (fun F=>aO P (results fn tmps) R F) F->J (G fr (c::cs)) F
 |[],fr,F,h1,h2,h3,g,i,h=>by
  refine hJ.step fun w hw=>?_
  obtain ⟨v,w',F',es,H⟩:=jz _ F w #[] h hw
  have b:=H.run
  rw[Array.empty_append] at b
  refine ⟨G (c.finish v) cs,w',seen P fr.fn es,F',?_,H.upd,H.has,fun e he=>H.gi e (mem_seen he),k v F' H.post⟩
  simp only[G,stepG,unwind,h3,g,i,h1,j,b]
  simp[doReturn,h2,GStep.after]
 |d::a,fr,F,h1,h2,h3,g,i,h=>by
  obtain ⟨r,l,m⟩:=h
  refine hJ.step fun w hw=>?_
  obtain ⟨v,w',F',es,H⟩:=jz _ F w #[] m hw
  have b:=H.run
  rw[Array.empty_append] at b
  obtain ⟨n,o⟩:=H.post
  subst n
  obtain ⟨t,args⟩:=d
  simp only at l
  subst l
  refine ⟨G {fr with defers:=a} (c::cs),w',seen P fr.fn es,F',?_,H.upd,H.has,fun e he=>H.gi e (mem_seen he),?_⟩
  ·simp only[G,stepG,unwind,h3,g,b]
   simp[GStep.after]
  ·exact rQ hJ j k tmps a {fr with defers:=a} F' h1 h2 h3 rfl i o
theorem cC.of_wp (hJ:Closed P main J){f:FuncId}{fn:Func}{c:Code}{args:Array Value}{R:Value->af->Prop}(d:P.funcs[f]?=some fn)(hb:fn.body=some c)
  (h:Wp J c (oU P fn R) {tmps:=args++Array.replicate (fn.ntmps - args.size) undef,defers:=[]} F):cC P J f args F R:=by
 intro k cs j
 let b:Frame:={(default:Frame) with fn:=f,kind:=.normal}
 have l:Frame.enter P f args .normal=on b {tmps:=args++Array.replicate (fn.ntmps - args.size) undef,defers:=[]} [.code c]:=by
  simp[Frame.enter,on,d,hb,b]
  rfl
 rw[l]
 refine h b [] (k::cs) ⟨by simp[b],.inl rfl⟩ fun e a F' g=>?_
 cases e with
 |normal=>exact hJ.move (fun _=>ko rfl) (rQ hJ d j a.tmps a.defers _ F' rfl rfl rfl rfl rfl g)
 |exit i=>exact g.elim
 |ret=>exact fun m=>hJ.move (fun _=>stepG_ret' rfl) (rQ hJ d j a.tmps a.defers _ F' rfl rfl rfl rfl rfl g)
theorem ay.of_wp {f:FuncId}{fn:Func}{c:Code}{args:Array Value}{F:af}{R:Value->af->Prop}(a:P.funcs[f]?=some fn)(hb:fn.body=some c)
  (h:∀main J,Closed P main J->Wp J c (oU P fn R) {tmps:=args++Array.replicate (fn.ntmps - args.size) undef,defers:=[]} F):ay P f args F R:=
 fun main J hJ=>cC.of_wp hJ a hb (h main J hJ)
end
end Go.Sep
end
section
namespace Go.Sep
open Go Go.Conc Go.ConcM
open Go.ConcN (sumTo upd sumTo_upd upd_ne upd_same)
def af.fF (F:af):Loc->Prop
 | .cell a=>a.block∈keys F.own\/(F.ro a).isSome=true
 | .obj r=>r∈keys F.own
 |_=>False
structure gk (P:Program)(aZ:Loc->Prop)(g:Goroutine)(F:af)(gs:Array Goroutine)(w:World)(t:Trace)(q:Nat->Nat):Prop where
 g0:gs[0]?=some g
 lv:Leavers P t gs q
 eR:Past aZ w.heap.size t
 has:Has F w
 apart:∀l,aZ l->¬F.fF l
 low:∀l,aZ l->l.low w.heap.size
structure eA (F F':af)(w w':World):Prop where
 os:OsLater w.os w'.os
 tape:w'.tape=w.tape
 output:w'.output=w.output
 size:w.heap.size<=w'.heap.size
 frame:∀b,b<w.heap.size->b∉keys F.own->w'.heap[b]?=w.heap[b]?
 ro:∀a,(F'.ro a).isSome=true->(F.ro a).isSome=true\/a.block∈keys F.own\/w.heap.size<=a.block
 own:∀b,b∈keys F'.own->b∈keys F.own\/w.heap.size<=b
theorem eA.m4 {F F':af}{w w':World}(h:dm F F' w w'):eA F F' w w':=⟨by rw[h.os];exact .refl _,h.tape,h.output,h.size,h.frame,h.ro,h.own⟩
theorem eA.refl (F:af)(w:World):eA F F w w:=.m4 (.refl _ _)
theorem eA.trans {F G H:af}{u v w:World}(h:eA F G u v)(k:eA G H v w):eA F H u w where
 os:=h.os.trans k.os
 tape:=k.tape.trans h.tape
 output:=k.output.trans h.output
 size:=Nat.le_trans h.size k.size
 frame b hb c:=by
  rw[k.frame b (Nat.lt_of_lt_of_le hb h.size) (fun d=>(h.own b d).elim c (fun e=>absurd hb (by omega)))]
  exact h.frame b hb c
 ro a x:=by
  rcases k.ro a x with y|y|y
  ·exact h.ro a y
  ·exact .inr (h.own _ y)
  ·exact .inr (.inr (Nat.le_trans h.size y))
 own b hb:=by
  rcases k.own b hb with x|x
  ·exact h.own b x
  ·exact .inr (Nat.le_trans h.size x)
def wI (P:Program)(Φ:Goroutine->af->Prop)(g:Goroutine)(F:af):Prop:=
 ∀(aZ:Loc->Prop) (gs:Array Goroutine) (w:World) (sl:Option (Nat×Nat)) (t:Trace) (q:Nat->Nat),gk P aZ g F gs w t q->
  ∃(N:Nat) (bH:Array Goroutine) (w':World) (b:Option (Nat×Nat)) (a:Trace) (c:Nat->Nat) (g':Goroutine) (F':af) (d:Loc->Prop),
   runNT P N (crowd gs w sl) t=(.next (crowd bH w' b),a)/\gk P d g' F' bH w' a c/\eA F F' w w'/\Φ g' F'
theorem ij {P:Program}{a b:Nat}{m c:Machine}{t d:Trace}(h:runNT P a m t=(.next c,d)):runNT P (a+b) m t=runNT P b c d:=by
 rw[runNT_add,h]
theorem Has.at {F:af}{w:World}(h:Has F w)(d:Nat):Has F (w.at d):=⟨h.ro,h.own,h.nodup,h.apart⟩
theorem oV {P:Program}{aZ:Loc->Prop}{B:Nat}{a:Goroutine}(n:a.status= .running):∀(M:Nat) (gs:Array Goroutine) (w:World) (sl:Option (Nat×Nat)) (t:Trace) (q:Nat->Nat),
  sumTo gs.size q<=M->gs[0]?=some a->Leavers P t gs q->Past aZ B t->
  ∃(N:Nat) (bH:Array Goroutine) (d H:Nat) (h I:Option (Nat×Nat)) (o:Trace) (A:Nat->Nat),
   runNT P N (crowd gs w sl) t=(.next (crowd bH (w.at d) h),o)/\bH.size=gs.size/\bH[0]?=some a/\Leavers P o bH A/\Past aZ B o/\
   stepT P (crowd bH (w.at d) h)=runT P (crowd bH (w.at H) I) 0:=by
 intro M
 induction M with
 |zero=>
  intro gs w sl t q J h0 c p
  have C:∀g∈gs,awake g:=by
   intro g hg
   obtain ⟨i,b,rfl⟩:=Array.mem_iff_getElem.1 hg
   rcases Nat.eq_zero_or_pos i with rfl|l
   ·have:gs[0]=a:=by simpa [Array.getElem?_eq_getElem b] using h0
    rw[this];exact awake_of (.inl n)
   ·exact awake_of ((c.old i _ l (Array.getElem?_eq_getElem b)).status.elim .inl fun x=>.inr (.inr x))
  obtain ⟨i,g,d,h,b,hg,r⟩:=crowd_pick (P:=P) (w:=w) (sl:=sl) C ⟨0,a,h0,n⟩
  rcases Nat.eq_zero_or_pos i with rfl|l
  ·exact ⟨0,gs,w.drawn,d,sl,h,t,q,rfl,rfl,h0,c,p,r⟩
  ·have m:=c.old i g l b
   have s:i<gs.size:=(Array.getElem?_eq_some_iff.1 b).1
   have K:q i=0:=by have:=Go.ConcN.le_sumTo (f:=q) s;omega
   rw[K] at m;rw[m.1] at hg;cases hg
 |succ M ih=>
  intro gs w sl t q J h0 c p
  have C:∀g∈gs,awake g:=by
   intro g hg
   obtain ⟨i,b,rfl⟩:=Array.mem_iff_getElem.1 hg
   rcases Nat.eq_zero_or_pos i with rfl|l
   ·have:gs[0]=a:=by simpa [Array.getElem?_eq_getElem b] using h0
    rw[this];exact awake_of (.inl n)
   ·exact awake_of ((c.old i _ l (Array.getElem?_eq_getElem b)).status.elim .inl fun x=>.inr (.inr x))
  obtain ⟨i,g,d,h,b,hg,r⟩:=crowd_pick (P:=P) (w:=w) (sl:=sl) C ⟨0,a,h0,n⟩
  rcases Nat.eq_zero_or_pos i with rfl|l
  ·exact ⟨0,gs,w.drawn,d,sl,h,t,q,rfl,rfl,h0,c,p,r⟩
  ·have m:=c.old i g l b
   have L:(i==0)=false:=by simp;omega
   have s:i<gs.size:=(Array.getElem?_eq_some_iff.1 b).1
   cases D:q i with
   |zero=>rw[D] at m;rw[m.1] at hg;cases hg
   |succ k=>
    rw[D] at m
    rcases m with ⟨O,_⟩|⟨_,g',es,hm,Q,R⟩
    ·rw[O] at hg;cases hg
    have S:=runT_crowd_go (P:=P) (sl:=h) (i:=i) b (by rw[L];exact Q (w.at d))
    have F:((gs.map (woken P g g' (w.at d))).setIfInBounds i g').size=gs.size:=by simp
    have al:sumTo gs.size (upd q i k)+(k+1)=sumTo gs.size q+k:=by
     have:=sumTo_upd q k id s
     simpa [D] using this
    obtain ⟨N,bH,d1,d2,T,U,o,A,V,W,X,Y,Z,ab⟩:=ih ((gs.map (woken P g g' (w.at d))).setIfInBounds i g') (w.at d) h (t++MemOp.ofEvents i g.frame.fn g.frame.place es) (upd q i k) (by rw[F];omega)
     (by
      have ad:i≠0:=by omega
      rw[Array.getElem?_setIfInBounds_ne ad,Array.getElem?_map,h0]
      simp[woken_run n])
     ⟨fun j x u v=>by
      by_cases z:i=j
      ·subst z
       rw[Array.getElem?_setIfInBounds_self_of_lt (by simpa using s)] at v
       obtain rfl:=Option.some.inj v
       rw[upd_same,Deaf_own]
       exact R
      ·rw[Array.getElem?_setIfInBounds_ne z,Array.getElem?_map] at v
       obtain ⟨y,ae,rfl⟩:=Option.map_eq_some_iff.1 v
       have G:=c.old j y u ae
       rw[woken_quitsD G,upd_ne q k (Ne.symm z),Deaf_other t z _ (fun op E=>by obtain ⟨e,_,rfl⟩:=Go.Conc.mem_ofEvents E;rfl)]
       exact G,fun j u=>by
      rw[Deaf_other t (g':=i) (by simp at u;omega) _ (fun op E=>by obtain ⟨e,_,rfl⟩:=Go.Conc.mem_ofEvents E;rfl)]
      exact c.above j (by simpa using u)⟩
     (p.mute (by omega) hm)
    exact ⟨N+1,bH,d1,d2,T,U,o,A,by simp only[runNT,r,S];exact V,W.trans F,X,Y,Z,ab⟩
theorem wJ {aZ:Loc->Prop}{F:af}{w w':World}(g:Has F w)(hu:w.heap.size<=w'.heap.size)(f:∀l,aZ l->¬F.fF l)(i:∀l,aZ l->l.low w.heap.size){e:Event}
  (h:gO F.ro (fV F w.heap.size w'.heap.size) e):EvL aZ w'.heap.size e:=by
 have hm:∀b,fV F w.heap.size w'.heap.size b->b<w'.heap.size:=fun b hb=>hb.elim (fun x=>Nat.lt_of_lt_of_le (g.lt x) hu) (fun x=>x.2)
 rcases h with ⟨a,wr,rfl,c⟩|⟨r,wr,rfl,c⟩|⟨m,rfl,j⟩
 ·refine ⟨fun x d hs=>?_,by simp,by simp,?_⟩
  ·exfalso
   have e1:x.loc= .cell a:=by cases wr<;>simp[MemAct.ofEvent,MemAct.touch?] at d<;>rw[<-d]
   rw[e1] at hs
   rcases c with (c|c)|⟨_,c⟩
   ·exact f _ hs (.inl c)
   ·exact absurd (i _ hs) (by show ¬a.block<_;omega)
   ·exact f _ hs (.inr c)
  ·show a.block<_
   rcases c with c|⟨_,c⟩
   ·exact hm _ c
   ·exact Nat.lt_of_lt_of_le (g.fW c) hu
 ·refine ⟨fun x d hs=>?_,by simp,by simp,?_⟩
  ·exfalso
   have e1:x.loc= .obj r:=by cases wr<;>simp[MemAct.ofEvent,MemAct.touch?] at d<;>rw[<-d]
   rw[e1] at hs
   rcases c with c|c
   ·exact f _ hs c
   ·exact absurd (i _ hs) (by show ¬r<_;omega)
  ·have:=hm _ c
   cases wr<;>exact this
 ·cases m<;>simp[mY] at j<;>exact ⟨fun x d=>by simp[MemAct.ofEvent,MemAct.touch?] at d,by simp,by simp,trivial⟩
theorem gk.next {P:Program}{aZ:Loc->Prop}{F F':af}{w w':World}(d:∀l,aZ l->¬F.fF l)(c:∀l,aZ l->l.low w.heap.size)(hu:dm F F' w w'):
  (∀l,aZ l->¬F'.fF l)/\(∀l,aZ l->l.low w'.heap.size):=by
 refine ⟨fun l hs b=>?_,fun l hs=>Loc.low_mono hu.size (c l hs)⟩
 cases l with
 |cell a=>
  have h1:=c _ hs
  have h2:=d _ hs
  rcases b with b|b
  ·rcases hu.own _ b with x|x
   ·exact h2 (.inl x)
   ·exact absurd h1 (by show ¬a.block<_;omega)
  ·rcases hu.ro _ b with x|x|x
   ·exact h2 (.inr x)
   ·exact h2 (.inl x)
   ·exact absurd h1 (by show ¬a.block<_;omega)
 |obj r=>
  have h1:=c _ hs
  rcases hu.own _ b with x|x
  ·exact d _ hs x
  ·exact absurd h1 (by show ¬r<_;omega)
 |_=>exact b
theorem Le.fF {F F':af}(h:Le F F'){l:Loc}(b:F.fF l):F'.fF l:=by
 cases l with
 |cell a=>exact b.elim (fun x=>.inl (h.own _ x)) (fun x=>(h.ro _ x).elim .inr .inl)
 |obj r=>exact h.own _ b
 |_=>exact b
theorem eA.le {F G H:af}{w w':World}(h:Le F G)(u:eA F H w w'):eA G H w w' where
 os:=u.os
 tape:=u.tape
 output:=u.output
 size:=u.size
 frame b hb c:=u.frame b hb (fun x=>c (h.own b x))
 ro a x:=by
  rcases u.ro a x with y|y|y
  ·exact (h.ro a y).imp id .inl
  ·exact .inr (.inl (h.own _ y))
  ·exact .inr (.inr y)
 own b hb:=(u.own b hb).imp (h.own b) id
theorem wI.done {P:Program}{Φ:Goroutine->af->Prop}{g:Goroutine}{F:af}(h:Φ g F):wI P Φ g F:=
 fun aZ gs w sl t q a=>⟨0,gs,w,sl,t,q,g,F,aZ,rfl,a,.refl _ _,h⟩
end Go.Sep
end
section
namespace Go.Sep
open Go Go.Conc
def af.cc (F:af):af:={ro:=F.get,own:=[]}
theorem Has.cc {F:af}{w:World}(h:Has F w):Has F.cc w:=
 ⟨fun a v c=>h.reads c,fun b o hb=>(by cases hb),List.nodup_nil,fun a v c hm=>(by cases hm)⟩
def af.star (G F:af):af:=
 {ro:=fun a=>match F.ro a with
   |some v=>some v
   |none=>if a.block∈keys F.own then none else G.ro a
  own:=G.own++F.own}
structure Fits (F G:af):Prop where
 rR:∃w,Has G w/\Has F w
 own:∀b,b∈keys G.own->b∉keys F.own
 ro:∀a,(F.ro a).isSome=true->a.block∉keys G.own
theorem bY (l l':List (Nat×Obj)):keys (l++l')=keys l++keys l':=List.map_append
theorem Fits.left {F G:af}(h:Fits F G){w:World}(hw:Has (G.star F) w):Has F w where
 ro a v c:=hw.ro a v (by simp[af.star,c])
 own b o hb:=hw.own b o (List.mem_append_right _ hb)
 nodup:=by
  have:=hw.nodup
  simp only[af.star,bY] at this
  exact (List.nodup_append.1 this).2.1
 apart a v c hm:=by
  have:=hw.apart a v (by simp[af.star,c])
  simp only[af.star,bY,List.mem_append,not_or] at this
  exact this.2 hm
theorem Fits.right {F G:af}(h:Fits F G){w:World}(hw:Has (G.star F) w):Has G w:=by
 obtain ⟨j,c,g⟩:=h.rR
 refine ⟨fun a v i=>?_,fun b o hb=>hw.own b o (List.mem_append_left _ hb),c.nodup,c.apart⟩
 have h0:=c.ro a v i
 cases d:F.ro a with
 |some f=>
  have e:f=v:=by have:=g.ro a f d;rw[h0] at this;exact (Option.some.inj this).symm
  exact e▸hw.ro a f (by simp[af.star,d])
 |none=>
  by_cases hb:a.block∈keys F.own
  ·obtain ⟨⟨b,o⟩,hm,e⟩:=List.mem_map.1 hb
   simp only at e
   subst e
   have h1:=g.own _ o hm
   have h2:=hw.own _ o (List.mem_append_right _ hm)
   unfold World.cell? at h0 ⊢
   rw[h2]
   rw[h1] at h0
   exact h0
  ·exact hw.ro a v (by simp[af.star,d,hb,i])
theorem Fits.both {F G:af}(h:Fits F G){w:World}(d:Has G w)(f:Has F w):Has (G.star F) w where
 ro a v c:=by
  simp only[af.star] at c
  split at c
  ·rename_i x g;cases c;exact f.ro _ _ g
  ·split at c
   ·cases c
   ·exact d.ro _ _ c
 own b o hb:=(List.mem_append.1 hb).elim (d.own b o) (f.own b o)
 nodup:=by
  simp only[af.star,bY]
  exact List.nodup_append.2 ⟨d.nodup,f.nodup,fun a i b hb e=>h.own a i (e▸hb)⟩
 apart a v c hm:=by
  simp only[af.star,bY,List.mem_append] at hm
  simp only[af.star] at c
  split at c
  ·rename_i x g
   rcases hm with hm|hm
   ·exact h.ro a (by simp[g]) hm
   ·exact f.apart a x g hm
  ·split at c
   ·cases c
   ·rename_i j
    rcases hm with hm|hm
    ·exact d.apart a v c hm
    ·exact j hm
theorem Fits.le {F G c:af}(hle:Le G c)(h:Fits F c):Fits F G where
 rR:=let ⟨w,h1,h2⟩:=h.rR;⟨w,hle.has w h1,h2⟩
 own b hb:=h.own b (hle.own b hb)
 ro a d hm:=h.ro a d (hle.own _ hm)
def wK (J:Goroutine->af->Prop)(F:af)(g:Goroutine)(G:af):Prop:=Fits F G->J g (G.star F)
theorem iP {F G:af}{a:Addr}(h:((G.star F).ro a).isSome=true):(F.ro a).isSome=true\/(G.ro a).isSome=true:=by
 simp only[af.star] at h
 split at h
 ·rename_i x b;exact .inl (by simp[b])
 ·split at h
  ·cases h
  ·exact .inr h
theorem fG {F G:af}{a:Addr}(h:(F.ro a).isSome=true\/(G.ro a).isSome=true):((G.star F).ro a).isSome=true\/a.block∈keys F.own:=by
 by_cases hb:a.block∈keys F.own
 ·exact .inr hb
 ·left
  simp only[af.star]
  split
  ·rfl
  ·rename_i b
   rw[if_neg hb]
   rcases h with h|h
   ·simp[b] at h
   ·exact h
theorem AP {P:Program}{main:Bool}{J:Goroutine->af->Prop}(hJ:Closed P main J)(F:af):Closed P main (wK J F) where
 mono {g G E} hle h c:=by
  have k:=c.le hle
  refine hJ.mono ⟨fun w hw=>k.both (hle.has w (c.right hw)) (c.left hw),fun b hb=>?_,fun a f=>?_⟩ (h k)
  ·simp only[af.star,bY,List.mem_append] at hb ⊢
   exact hb.imp (hle.own b) id
  ·rcases iP f with x|x
   ·exact (fG (.inl x)).imp id (fun y=>by simp only[af.star,bY,List.mem_append];exact .inr y)
   ·rcases hle.ro a x with y|y
    ·exact (fG (.inr y)).imp id (fun z=>by simp only[af.star,bY,List.mem_append];exact .inr z)
    ·exact .inr (by simp only[af.star,bY,List.mem_append];exact .inl y)
 step {fr cs G} h c:=by
  refine hJ.step fun w hw=>?_
  have t:=c.right hw
  have d:=c.left hw
  obtain ⟨g',w',es,l,hgo,hu,n,u,A⟩:=h w t
  have p:Has F w':=by
   refine ⟨fun a v j=>?_,fun b o hb=>?_,d.nodup,d.apart⟩
   ·have h0:=d.ro a v j
    have B:=d.fW (a:=a) (by simp[j])
    unfold World.cell? at h0 ⊢
    rw[hu.frame _ B (c.ro a (by simp[j]))]
    exact h0
   ·rw[hu.frame b (d.lt (ep hb)) (fun hm=>c.own b hm (ep hb))]
    exact d.own b o hb
  have q:Fits F l:=by
   refine ⟨⟨w',n,p⟩,fun b hb hm=>?_,fun a f hm=>?_⟩
   ·rcases hu.own b hb with x|x
    ·exact c.own b x hm
    ·have:=d.lt hm;omega
   ·rcases hu.own _ hm with x|x
    ·exact c.ro a f x
    ·have:=d.fW f;omega
  refine ⟨g',w',es,l.star F,hgo,⟨hu.os,hu.tape,hu.output,hu.size,fun b hb C=>hu.frame b hb fun hm=>C ?_,fun a f=>?_,fun b hb=>?_⟩,q.both n p,fun e he=>?_,A q⟩
  ·simp only[af.star,bY,List.mem_append];exact .inl hm
  ·rcases iP f with x|x
   ·exact (fG (.inl x)).imp id (fun y=>.inl (by simp only[af.star,bY,List.mem_append];exact .inr y))
   ·rcases hu.ro a x with y|y|y
    ·exact (fG (.inr y)).imp id (fun z=>.inl (by simp only[af.star,bY,List.mem_append];exact .inr z))
    ·exact .inr (.inl (by simp only[af.star,bY,List.mem_append];exact .inl y))
    ·exact .inr (.inr y)
  ·simp only[af.star,bY,List.mem_append] at hb ⊢
   rcases hb with hb|hb
   ·exact (hu.own b hb).imp .inl id
   ·exact .inl (.inr hb)
  ·have s:∀b,fV G w.heap.size w'.heap.size b->fV (G.star F) w.heap.size w'.heap.size b:=fun b hb=>hb.imp (fun x=>by simp only[af.star,bY,List.mem_append];exact .inl x) id
   rcases u e he with ⟨a,wr,rfl,i|⟨D,i⟩⟩|⟨r,wr,rfl,i⟩|⟨m,rfl,hm⟩
   ·exact .inl ⟨a,wr,rfl,.inl (s _ i)⟩
   ·rcases fG (F:=F) (.inr i) with y|y
    ·exact .inl ⟨a,wr,rfl,.inr ⟨D,y⟩⟩
    ·exact .inl ⟨a,wr,rfl,.inl (.inl (by simp only[af.star,bY,List.mem_append];exact .inr y))⟩
   ·exact .inr (.inl ⟨r,wr,rfl,s _ i⟩)
   ·exact .inr (.inr ⟨m,rfl,hm⟩)
theorem AQ {P:Program}{f:FuncId}{args:Array Value}{F:af}{R:Value->List (Nat×Obj)->Prop}(h:ay P f args F.cc (fun v G=>R v G.own)):
  ay P f args F (fun v G=>∃l,R v l/\G={ro:=F.ro,own:=l++F.own}):=by
 intro main J hJ c cs k
 by_cases hw:∃w,Has F w
 ·obtain ⟨m,i⟩:=hw
  have j:Fits F F.cc:=⟨⟨m,i.cc,i⟩,fun b hb=>(by cases hb),fun a e hm=>(by cases hm)⟩
  have n:wK J F (G (Frame.enter P f args .normal) (c::cs)) F.cc:=by
   refine h main _ (AP hJ F) c cs fun v G o t=>?_
   have g:∀(a:Addr) (v:Value),F.ro a=some v->(G.star F).ro a=some v:=fun a v d=>by simp[af.star,d]
   refine hJ.mono (F:={ro:=F.ro,own:=G.own++F.own}) ⟨fun w hw=>⟨fun a v d=>hw.ro a v (g a v d),hw.own,hw.nodup,fun a v d=>hw.apart a v (g a v d)⟩,fun b hb=>hb,fun a e=>?_⟩ (k v {ro:=F.ro,own:=G.own++F.own} ⟨G.own,o,rfl⟩)
   obtain ⟨p,q⟩:=Option.isSome_iff_exists.1 e
   exact .inl (by rw[g a p q];rfl)
  refine hJ.mono ⟨fun w hw=>j.both hw.cc hw,fun b hb=>?_,fun a e=>?_⟩ (n j)
  ·simpa [af.star,af.cc] using hb
  ·rcases iP e with x|x
   ·exact .inl x
   ·obtain ⟨v,r⟩:=Option.isSome_iff_exists.1 x
    exact (vY r).symm
 ·exact hJ.step fun w s=>absurd ⟨w,s⟩ hw
theorem m5 {P:Program}{f:FuncId}{args:Array Value}{F:af}{R:Value->Prop}(h:ay P f args F.cc (fun v _=>R v)):ay P f args F (fun v G=>R v/\G=F):=by
 intro main J hJ c cs d
 refine AQ (R:=fun v _=>R v) h main J hJ c cs fun v G e=>?_
 obtain ⟨l,g,rfl⟩:=e
 refine hJ.mono (F:=F) ⟨fun w hw=>⟨hw.ro,fun b o hb=>hw.own b o (List.mem_append_right _ hb),?_,fun a v i hm=>hw.apart a v i ?_⟩,fun b hb=>?_,fun a j=>.inl j⟩ (d v F ⟨g,rfl⟩)
 ·have:=hw.nodup
  simp only[bY] at this
  exact (List.nodup_append.1 this).2.1
 ·simp only[bY,List.mem_append];exact .inr hm
 ·simp only[bY,List.mem_append];exact .inr hb
end Go.Sep
end
section
namespace Go.Sep
inductive Rk:Type 1
 |mk (ι:Type) (f:ι->Rk)
namespace Rk
def kids:Rk->Rk->Prop
 | .mk ι f,r=>∃i,r=f i
theorem wf:WellFounded (fun a b:Rk=>kids b a):=⟨fun r=>by
 induction r with
 |mk ι f ih=>exact ⟨_,fun b h=>by obtain ⟨i,rfl⟩:=h;exact ih i⟩⟩
def nat:Nat->Rk
 |0=>.mk Empty fun x=>x.elim
 |n+1=>.mk Unit fun _=>nat n
theorem wL (n:Nat):kids (nat (n+1)) (nat n):=⟨(),rfl⟩
end Rk
def oW (n:Nat)(ρ' ρ:Nat->Rk):Prop:=∃i,i<n/\(ρ i).kids (ρ' i)/\∀j,j≠i->ρ' j=ρ j
theorem wM:∀n,WellFounded (oW n)
 |0=>⟨fun ρ=>⟨_,fun _ ⟨i,b,_⟩=>absurd b (Nat.not_lt_zero i)⟩⟩
 |n+1=>by
  refine ⟨fun ρ=>?_⟩
  have key:∀(a:Rk) (ρ:Nat->Rk),ρ n=a->Acc (oW (n+1)) ρ:=by
   intro a
   induction Rk.wf.apply a with
   |intro a _ g=>
    intro ρ
    induction (wM n).apply ρ with
    |intro ρ _ j=>
     intro c
     refine ⟨_,fun ρ' ⟨i,b,d,f⟩=>?_⟩
     by_cases h:i=n
     ·subst h
      exact g (ρ' i) (by rw[<-c];exact d) ρ' rfl
     ·refine j ρ' ⟨i,by omega,d,f⟩ ?_
      rw[f n (fun e=>h e.symm)];exact c
  exact key _ ρ rfl
def wN (n:Nat)(a x:(Nat->Rk)×Nat):Prop:=oW n a.1 x.1\/(a.1=x.1/\a.2<x.2)
theorem wO (n:Nat):WellFounded (wN n):=by
 refine ⟨fun ⟨ρ,m⟩=>?_⟩
 induction (wM n).apply ρ generalizing m with
 |intro ρ _ b=>
  induction m using Nat.strongRecOn with
  |_ m c=>
   refine ⟨_,fun ⟨ρ',a⟩ h=>?_⟩
   rcases h with h|⟨rfl,h⟩
   ·exact b ρ' h a
   ·exact c a h
end Go.Sep
end

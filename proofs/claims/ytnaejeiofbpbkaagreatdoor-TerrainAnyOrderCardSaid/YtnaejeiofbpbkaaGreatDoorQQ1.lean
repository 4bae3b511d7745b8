/- A part of the proof: QQ1. -/
import Derived.Conc.Own
import Derived.Conc.Events
import Derived.Conc.Beside
import Derived.Conc.Listed
import Derived.Orders
import Derived.Conc.MuSpec
set_option linter.all false
section
namespace Go.Sep
open Go Go.Conc
theorem aV {α:Type}:(∀l:List α,l++[]=l)/\(∀(a:α) l m,(a::l)++m=a::(l++m))/\(∀l:List α,[]++l=l)/\(∀l m n:List α,l++m++n=l++(m++n)):=⟨List.append_nil,fun _ _ _=>rfl,fun _=>rfl,List.append_assoc⟩
structure aa where
 ro:Addr->Option Value
 own:List (Nat×Obj)
def keys (l:List (Nat×Obj)):List Nat:=l.map (·.1)
def cellOf:Obj->Nat->Option Value
 | .cells c _ _,off=>c[off]?
 |_,_=>none
def lk:List (Nat×Obj)->Nat->Option Obj
 |[],_=>none
 |(c,o)::l,b=>if c=b then some o else lk l b
def ju:List (Nat×Obj)->Nat->Obj->List (Nat×Obj)
 |[],_,_=>[]
 |(c,o)::l,b,x=>if c=b then (c,x)::l else (c,o)::ju l b x
theorem ia:∀{l:List (Nat×Obj)} {b:Nat} {o:Obj},lk l b=some o->(b,o)∈l
 |[],_,_,h=>by cases h
 |(c,x)::l,b,o,h=>by
  unfold lk at h
  split at h
  .rename_i e;cases h;exact e▸List.mem_cons_self
  .exact List.mem_cons_of_mem _ (ia h)
theorem sG:∀(l:List (Nat×Obj)) (b:Nat) (x:Obj),keys (ju l b x)=keys l
 |[],_,_=>rfl
 |(c,o)::l,b,x=>by
  unfold ju
  split
  .rfl
  .simp only[keys,List.map_cons];exact congrArg _ (sG l b x)
theorem Ar:∀{l:List (Nat×Obj)} {b:Nat} {x:Obj},(keys l).Nodup->∀{c:Nat} {y:Obj},(c,y)∈ju l b x->(c=b/\y=x)\/(c≠b/\(c,y)∈l)
 |[],_,_,_,_,_,h=>by cases h
 |(d,o)::l,b,x,a,c,y,h=>by
  simp only[keys,List.map_cons,List.nodup_cons] at a
  unfold ju at h
  split at h
  .rename_i e
   rcases List.mem_cons.1 h with h|h
   .cases h;exact .inl ⟨e,rfl⟩
   .refine .inr ⟨fun f=>a.1 ?_,List.mem_cons_of_mem _ h⟩
    rw[e,<-f]
    exact List.mem_map.2 ⟨_,h,rfl⟩
  .rename_i e
   rcases List.mem_cons.1 h with h|h
   .cases h;exact .inr ⟨e,List.mem_cons_self⟩
   .exact (Ar a.2 h).imp id (fun z=>⟨z.1,List.mem_cons_of_mem _ z.2⟩)
def aa.get (F:aa)(a:Addr):Option Value:=
 match F.ro a with
 |some v=>some v
 |none=>if a.spot=none then (lk F.own a.block).bind (cellOf · a.off) else none
structure Has (F:aa)(w:World):Prop where
 ro:∀a v,F.ro a=some v->w.cell? a=some v
 own:∀b o,(b,o)∈F.own->w.heap[b]?=some o
 nodup:(keys F.own).Nodup
 apart:∀a v,F.ro a=some v->a.block∉keys F.own
theorem Has.reads {F:aa}{w:World}(h:Has F w){a:Addr}{v:Value}(r:F.get a=some v):w.cell? a=some v:=by
 unfold aa.get at r;split at r
 .rename_i x c;cases r;exact h.ro _ _ c
 .split at r
  .rename_i hs;obtain ⟨o,d,b⟩:=Option.bind_eq_some_iff.1 r;have:=h.own _ _ (ia d);cases o<;>simp[cellOf] at b;simp[World.cell?,this,hs,b]
  .cases r
theorem As {F:aa}{a:Addr}{v:Value}(r:F.get a=some v):a.block∈keys F.own\/(F.ro a).isSome=true:=by
 unfold aa.get at r;split at r
 .rename_i x b;exact .inr (by simp[b])
 .split at r
  .obtain ⟨o,c,_⟩:=Option.bind_eq_some_iff.1 r;exact .inl (List.mem_map.2 ⟨_,ia c,rfl⟩)
  .cases r
structure ef (F F':aa)(w w':World):Prop where
 os:w'.os=w.os
 tape:w'.tape=w.tape
 output:w'.output=w.output
 size:w.heap.size<=w'.heap.size
 frame:∀b,b<w.heap.size->b∉keys F.own->w'.heap[b]?=w.heap[b]?
 ro:∀a,(F'.ro a).isSome=true->(F.ro a).isSome=true\/a.block∈keys F.own\/w.heap.size<=a.block
 own:∀b,b∈keys F'.own->b∈keys F.own\/w.heap.size<=b
theorem ef.refl (F:aa)(w:World):ef F F w w:=⟨rfl,rfl,rfl,Nat.le_refl _,fun _ _ _=>rfl,fun _ h=>.inl h,fun _ h=>.inl h⟩
theorem ef.trans {F G H:aa}{u v w:World}(h:ef F G u v)(k:ef G H v w):ef F H u w where
 os:=k.os.trans h.os
 tape:=k.tape.trans h.tape
 output:=k.output.trans h.output
 size:=Nat.le_trans h.size k.size
 frame b hb c:=by
  rw[k.frame b (Nat.lt_of_lt_of_le hb h.size) (fun d=>(h.own b d).elim c (fun e=>absurd hb (by omega)))]
  exact h.frame b hb c
 ro a x:=by
  rcases k.ro a x with y|y|y
  .exact h.ro a y
  .exact .inr (h.own _ y)
  .exact .inr (.inr (Nat.le_trans h.size y))
 own b hb:=by
  rcases k.own b hb with x|x
  .exact h.own b x
  .exact .inr (Nat.le_trans h.size x)
def qm:Mark->Bool
 | .extern _| .noRoom=>true
 |_=>false
def jv (ro:Addr->Option Value)(ks:Nat->Prop)(e:Event):Prop:=
 (∃a wr,e=⟨.cell a,wr,false⟩/\(ks a.block\/(wr=false/\(ro a).isSome=true)))\/
 (∃r wr,e=⟨.obj r,wr,false⟩/\ks r)\/
 (∃m,e=⟨.mark m,false,true⟩/\qm m=true)
theorem jv.mono {ro aN:Addr->Option Value}{ks c:Nat->Prop}{e:Event}(h:jv ro ks e)(f:∀a,(ro a).isSome=true->(aN a).isSome=true)(d:∀b,ks b->c b):jv aN c e:=by
 rcases h with ⟨a,wr,rfl,h⟩|⟨r,wr,rfl,h⟩|⟨m,rfl,hm⟩
 .exact .inl ⟨a,wr,rfl,h.imp (d _) (fun ⟨x,y⟩=>⟨x,f _ y⟩)⟩
 .exact .inr (.inl ⟨r,wr,rfl,d _ h⟩)
 .exact .inr (.inr ⟨m,rfl,hm⟩)
def ie (F:aa)(n m:Nat)(b:Nat):Prop:=b∈keys F.own\/(n<=b/\b<m)
theorem e6 {l:List (Nat×Obj)}{b:Nat}{o:Obj}(h:(b,o)∈l):b∈keys l:=List.mem_map.2 ⟨_,h,rfl⟩
theorem Has.lt {F:aa}{w:World}(h:Has F w){b:Nat}(hb:b∈keys F.own):b<w.heap.size:=by
 obtain ⟨⟨c,o⟩,hm,rfl⟩:=List.mem_map.1 hb;have:=h.own c o hm;rcases Nat.lt_or_ge c w.heap.size with x|x
 .exact x
 .simp[Array.getElem?_eq_none x] at this
theorem Has.ig {F:aa}{w:World}(h:Has F w){a:Addr}(b:(F.ro a).isSome=true):a.block<w.heap.size:=by
 obtain ⟨v,c⟩:=Option.isSome_iff_exists.1 b;have:=h.ro a v c;unfold World.cell? at this;rcases Nat.lt_or_ge a.block w.heap.size with x|x
 .exact x
 .simp[Array.getElem?_eq_none x] at this
def aa.push (F:aa)(b:Nat)(o:Obj):aa:={F with own:=(b,o)::F.own}
def aa.put (F:aa)(b:Nat)(o:Obj):aa:={F with own:=ju F.own b o}
def shapeOf:Obj->Option (TypeId×Nat)
 | .cells c elem _=>some (elem,c.size)
 |_=>none
def frozenAt:Obj->Nat->Bool
 | .cells _ _ (lo,hi),off=>lo<=off&&off<hi
 |_,_=>false
def Obj.qn:Obj->Bool
 | .cells ..=>true
 |_=>false
def bJ:Value->Bool
 | .agg _| .tuple _=>false
 |_=>true
def aa.mJ (F:aa)(a:Addr)(v:Value):Option aa:=
 match lk F.own a.block with
 |some (.cells c t fr)=>if bJ v=true/\a.spot=none/\a.off<c.size/\frozenAt (.cells c t fr) a.off=false then some (F.put a.block (.cells (c.setIfInBounds a.off v) t fr)) else none
 |_=>none
def aa.fj (F:aa)(r:Nat):Option Obj:=
 match lk F.own r with
 |some o=>if Obj.qn o=false/\o.isChan=false then some o else none
 |none=>none
def av:List (Nat×Obj)->Nat->Prop
 |[],_=>True
 |(c,_)::l,b=>¬b=c/\av l b
theorem Au:∀{l:List (Nat×Obj)} {b:Nat},(∀x∈keys l,¬b=x)->av l b
 |[],_,_=>trivial
 |(c,_)::l,b,h=>⟨h c (by simp[keys]),Au fun x a=>h x (by simp only[keys,List.map_cons,List.mem_cons];exact .inr a)⟩
structure eg (F:aa)(b:Nat):Prop where
 ro:∀off sp,F.ro ⟨b,off,sp⟩=none
 own:av F.own b
def aX {α:Type}(P:Program):Sem α->(α->aa->Prop)->aa->Prop
 | .pure a,Q,F=>Q a F
 | .load m a k,Q,F=>m= .plain/\∃v,F.get a=some v/\aX P (k v) Q F
 | .store m a v k,Q,F=>m= .plain/\∃F',F.mJ a v=some F'/\aX P k Q F'
 | .new o k,Q,F=>o.isChan=false/\∀b,eg F b->aX P (k b) Q (F.push b o)
 | .shape r k,Q,F=>match lk F.own r with
  |some o=>aX P (k (shapeOf o)) Q F
  |none=>∀s,aX P (k s) Q F
 | .freeze _ _ _,_,_=>False
 | .frozen a k,Q,F=>match lk F.own a.block with
  |some o=>aX P (k (frozenAt o a.off)) Q F
  |none=>∀s,aX P (k s) Q F
 | .getObj r k,Q,F=>∃o,F.fj r=some o/\aX P (k o) Q F
 | .setObj r o k,Q,F=>o.isChan=false/\(F.fj r).isSome=true/\aX P k Q (F.put r o)
 | .choose q k,Q,F=>if q.forced then aX P (k 0) Q F else ∀t,aX P (k (q.cut t)) Q F
 | .sys _ _,_,_=>False
 | .program k,Q,F=>aX P (k P) Q F
 | .mark m k,Q,F=>qm m=true/\aX P k Q F
 | .halt _,_,_=>False
theorem ij {α:Type}{P:Program}{Q f:α->aa->Prop}(h:∀a F,Q a F->f a F):∀(s:Sem α) (F:aa),aX P s Q F->aX P s f F:=by
 intro s
 induction s with
 |pure a=>exact fun F x=>h _ _ x
 |load m a k ih=>exact fun F ⟨x,v,y,z⟩=>⟨x,v,y,ih _ _ z⟩
 |store m a v k ih=>exact fun F ⟨x,F',y,z⟩=>⟨x,F',y,ih _ z⟩
 |new o k ih=>exact fun F x=>⟨x.1,fun b hb=>ih _ _ (x.2 b hb)⟩
 |shape r k ih=>intro F x;unfold aX at x ⊢;split<;>rename_i d<;>rw[d] at x;exact ih _ _ x;exact fun s=>ih _ _ (x s)
 |freeze a n k ih=>exact fun F x=>x
 |frozen a k ih=>intro F x;unfold aX at x ⊢;split<;>rename_i d<;>rw[d] at x;exact ih _ _ x;exact fun s=>ih _ _ (x s)
 |getObj r k ih=>exact fun F ⟨o,x,z⟩=>⟨o,x,ih _ _ z⟩
 |setObj r o k ih=>exact fun F ⟨x,y,z⟩=>⟨x,y,ih _ z⟩
 |choose q k ih=>
  intro F x;unfold aX at x ⊢;split
  .rename_i e;rw[if_pos e] at x;exact ih _ _ x
  .rename_i e;rw[if_neg e] at x;exact fun t=>ih _ _ (x t)
 |sys c k ih=>exact fun F x=>x
 |program k ih=>exact fun F x=>ih _ _ x
 |mark m k ih=>exact fun F ⟨x,y⟩=>⟨x,ih _ y⟩
 |halt h=>exact fun F x=>x
theorem Av {α β:Type}{P:Program}{Q:β->aa->Prop}{f:α->Sem β}:∀(s:Sem α) (F:aa),aX P (s.bind f) Q F↔aX P s (fun a G=>aX P (f a) Q G) F:=by
 intro s
 induction s with
 |pure a=>exact fun F=>Iff.rfl
 |load m a k ih=>intro F;simp only[Sem.bind,aX,ih]
 |store m a v k ih=>intro F;simp only[Sem.bind,aX,ih]
 |new o k ih=>intro F;simp only[Sem.bind,aX,ih]
 |shape r k ih=>intro F;simp only[Sem.bind,aX,ih]
 |freeze a n k ih=>intro F;simp only[Sem.bind,aX]
 |frozen a k ih=>intro F;simp only[Sem.bind,aX,ih]
 |getObj r k ih=>intro F;simp only[Sem.bind,aX,ih]
 |setObj r o k ih=>intro F;simp only[Sem.bind,aX,ih]
 |choose q k ih=>intro F;simp only[Sem.bind,aX,ih]
 |sys c k ih=>intro F;simp only[Sem.bind,aX]
 |program k ih=>intro F;simp only[Sem.bind,aX,ih]
 |mark m k ih=>intro F;simp only[Sem.bind,aX,ih]
 |halt h=>intro F;simp only[Sem.bind,aX]
theorem Has.push {F:aa}{w:World}(h:Has F w)(o:Obj):Has (F.push w.heap.size o) {w with heap:=w.heap.push o}:=by
 have f:∀b o,(b,o)∈F.own->b<w.heap.size:=fun b o hb=>by
  have:=h.own b o hb;rcases Nat.lt_or_ge b w.heap.size with x|x
  .exact x
  .simp[Array.getElem?_eq_none x] at this
 have i:w.heap.size∉keys F.own:=fun hm=>by
  obtain ⟨⟨b,x⟩,j,e⟩:=List.mem_map.1 hm;have:=f b x j;simp at e;omega
 refine ⟨fun a v d=>?_,fun b x hb=>?_,?_,fun a v d hm=>?_⟩
 .have:=h.ro a v d;unfold World.cell? at this ⊢;split at this
  .rename_i c t fr g;have k:a.block<w.heap.size:=by
    rcases Nat.lt_or_ge a.block w.heap.size with x|x
    .exact x
    .simp[Array.getElem?_eq_none x] at g
   rw[show (w.heap.push o)[a.block]?=w.heap[a.block]? from by rw[Array.getElem?_push,if_neg (by omega)],g];exact this
  .cases this
 .simp only[aa.push,List.mem_cons] at hb;rcases hb with hb|hb
  .cases hb;simp
  .have:=f b x hb;show (w.heap.push o)[b]?=some x;rw[Array.getElem?_push,if_neg (by omega)];exact h.own b x hb
 .simp only[aa.push,keys,List.map_cons,List.nodup_cons];exact ⟨i,h.nodup⟩
 .simp only[aa.push,keys,List.map_cons,List.mem_cons] at hm;rcases hm with hm|hm
  .have:=h.ro a v d;unfold World.cell? at this;rw[hm] at this;simp at this
  .exact h.apart a v d hm
theorem Has.fresh {F:aa}{w:World}(h:Has F w):eg F w.heap.size:=by
 refine ⟨fun off sp=>?_,Au fun x b e=>?_⟩
 .cases c:F.ro ⟨w.heap.size,off,sp⟩ with
  |none=>rfl
  |some v=>have:=h.ig (a:=⟨w.heap.size,off,sp⟩) (by simp[c]);simp at this
 .have:=h.lt b;omega
theorem Has.set {F:aa}{w w':World}(h:Has F w){b:Nat}{o:Obj}(hm:b∈keys F.own)(hb:w'.heap[b]?=some o)(aG:∀c,c≠b->w'.heap[c]?=w.heap[c]?):Has (F.put b o) w':=by
 refine ⟨fun a v d=>?_,fun c y g=>?_,?_,fun a v d=>?_⟩
 .have f:a.block≠b:=fun e=>h.apart a v d (e▸hm);have:=h.ro a v d;unfold World.cell? at this ⊢;rw[aG _ f];exact this
 .rcases Ar h.nodup g with ⟨rfl,rfl⟩|⟨f,hm⟩
  .exact hb
  .rw[aG _ f];exact h.own _ _ hm
 .simp only[aa.put,sG];exact h.nodup
 .simp only[aa.put,sG];exact h.apart a v d
theorem ef.put {F:aa}{w w':World}{b:Nat}{o:Obj}(hm:b∈keys F.own)(a:w'.os=w.os)(ht:w'.tape=w.tape)(d:w'.output=w.output)(hs:w'.heap.size=w.heap.size)(aG:∀c,c≠b->w'.heap[c]?=w.heap[c]?):ef F (F.put b o) w w' where
 os:=a
 tape:=ht
 output:=d
 size:=by omega
 frame c _ f:=aG c (fun e=>f (e▸hm))
 ro _ h:=.inl h
 own c g:=.inl (by simpa [aa.put,sG] using g)
theorem ef.push {F:aa}{w:World}(o:Obj):ef F (F.push w.heap.size o) w {w with heap:=w.heap.push o} where
 os:=rfl
 tape:=rfl
 output:=rfl
 size:=by simp
 frame b hb _:=by show (w.heap.push o)[b]?=_;rw[Array.getElem?_push,if_neg (by omega)]
 ro _ h:=.inl h
 own c a:=by
  simp only[aa.push,keys,List.map_cons,List.mem_cons] at a
  rcases a with rfl|a
  .exact .inr (Nat.le_refl _)
  .exact .inl a
structure mK {α:Type}(P:Program)(s:Sem α)(Q:α->aa->Prop)(F:aa)(w:World)(cX:Array Event)(a:α)(w':World)(F':aa)(es:Array Event):Prop where
 run:s.runT P w cX=(.ok a w',cX++es)
 upd:ef F F' w w'
 has:Has F' w'
 iO:∀e∈es,jv F.ro (ie F w.heap.size w'.heap.size) e
 post:Q a F'
theorem mK.cons {α:Type}{P:Program}{s s':Sem α}{Q:α->aa->Prop}{F c F':aa}{w w1 w':World}{cX es:Array Event}{e:Event}{a:α}
  (h:mK P s' Q c w1 (cX.push e) a w' F' es) (g:s.runT P w cX=s'.runT P w1 (cX.push e)) (hu:ef F c w w1) (hb:Has c w1) (he:jv F.ro (· ∈keys F.own) e) (i:c.ro=F.ro):mK P s Q F w cX a w' F' (#[e]++es) where
 run:=by rw[g,h.run];simp
 upd:=hu.trans h.upd
 has:=h.has
 iO x d:=by
  simp only[Array.mem_append,List.mem_toArray,List.mem_singleton] at d
  rcases d with rfl|d
  .exact he.mono (fun _ h=>h) (fun _ h=>.inl h)
  .exact (h.iO x d).mono (fun a j=>by rw[<-i];exact j) (fun b f=>by
    rcases f with f|⟨h1,h2⟩
    .exact (hu.own b f).imp id (fun y=>⟨y,Nat.lt_of_lt_of_le (hb.lt f) h.upd.size⟩)
    .exact .inr ⟨Nat.le_trans hu.size h1,h2⟩)
 post:=h.post
theorem mK.skip {α:Type}{P:Program}{s s':Sem α}{Q:α->aa->Prop}{F c F':aa}{w w1 w':World}{cX es:Array Event}{a:α}
  (h:mK P s' Q c w1 cX a w' F' es) (e:s.runT P w cX=s'.runT P w1 cX) (hu:ef F c w w1) (hb:Has c w1) (f:c.ro=F.ro):mK P s Q F w cX a w' F' es where
 run:=by rw[e,h.run]
 upd:=hu.trans h.upd
 has:=h.has
 iO x g:=(h.iO x g).mono (fun a i=>by rw[<-f];exact i) (fun b d=>by
    rcases d with d|⟨h1,h2⟩
    .exact (hu.own b d).imp id (fun y=>⟨y,Nat.lt_of_lt_of_le (hb.lt d) h.upd.size⟩)
    .exact .inr ⟨Nat.le_trans hu.size h1,h2⟩)
 post:=h.post
theorem Has.drawn {F:aa}{w:World}(h:Has F w)(n:Nat):Has F {w with drawn:=n}:=⟨h.ro,h.own,h.nodup,h.apart⟩
theorem ef.drawn (F:aa)(w:World)(n:Nat):ef F F w {w with drawn:=n}:=⟨rfl,rfl,rfl,Nat.le_refl _,fun _ _ _=>rfl,fun _ h=>.inl h,fun _ h=>.inl h⟩
theorem lP {α:Type}{P:Program}{Q:α->aa->Prop}:∀(s:Sem α) (F:aa) (w:World) (cX:Array Event),aX P s Q F->Has F w->
  ∃a w' F' es,mK P s Q F w cX a w' F' es:=by
 intro s
 induction s with
 |pure a=>exact fun F w cX h hw=>⟨a,w,F,#[],by simp[Sem.runT],.refl _ _,hw,by simp,h⟩
 |load m a k ih=>
  rintro F w cX ⟨rfl,v,C,h⟩ hw
  obtain ⟨x,w',F',es,H⟩:=ih v F w (cX.push ⟨.cell a,false,false⟩) h hw
  refine ⟨x,w',F',_,H.cons ?_ (.refl _ _) hw (.inl ⟨a,false,rfl,(As C).imp id fun y=>⟨rfl,y⟩⟩) rfl⟩
  have:=hw.reads C
  simp only[Sem.runT,this]
  rfl
 |store m a v k ih=>
  rintro F w cX ⟨rfl,L,j,h⟩ hw
  unfold aa.mJ at j
  split at j
  case h_2=>cases j
  rename_i c t fr l
  split at j
  case isFalse=>cases j
  rename_i i
  obtain ⟨E,D,G,I⟩:=i
  cases j
  have d:=ia l
  have hb:=hw.own _ _ d
  have z:(w.setCell a v).heap[a.block]?=some (.cells (c.setIfInBounds a.off v) t fr):=by
   simp[World.setCell,Array.getElem?_modify,hb,D]
  have aG:∀b,b≠a.block->(w.setCell a v).heap[b]?=w.heap[b]?:=by
   intro b aG
   simp only[World.setCell]
   rw[Array.getElem?_modify,if_neg (fun e=>aG e.symm)]
  have p:=hw.set (o:=.cells (c.setIfInBounds a.off v) t fr) (e6 d) z aG
  obtain ⟨x,w',F',es,H⟩:=ih _ (w.setCell a v) (cX.push ⟨.cell a,true,false⟩) h p
  refine ⟨x,w',F',_,H.cons ?_ (ef.put (e6 d) rfl rfl rfl (by simp[World.setCell]) aG) p (.inl ⟨a,true,rfl,.inl (e6 d)⟩) rfl⟩
  have i:w.cell? a=some c[a.off]:=by simp[World.cell?,hb,D,G]
  have J:w.frozen? a=false:=by
   have:w.frozen? a=frozenAt (.cells c t fr) a.off:=by
    obtain ⟨lo,hi⟩:=fr
    simp[World.frozen?,hb,frozenAt]
   rw[this,I]
  cases v<;>simp[bJ] at E<;>simp only[Sem.runT,i,J]<;>rfl
 |new o k ih=>
  intro F w cX h hw
  obtain ⟨x,w',F',es,H⟩:=ih w.heap.size (F.push w.heap.size o) {w with heap:=w.heap.push o} cX (h.2 _ hw.fresh) (hw.push o)
  exact ⟨x,w',F',es,H.skip (by simp only[Sem.runT]) (ef.push o) (hw.push o) rfl⟩
 |shape r k ih=>
  intro F w cX h hw
  have:aX P (k (w.shape? r)) Q F:=by
   unfold aX at h
   split at h
   .rename_i o f
    have e:w.shape? r=shapeOf o:=by
     have:=hw.own _ _ (ia f)
     cases o<;>simp[World.shape?,this,shapeOf]
    rw[e];exact h
   .exact h _
  obtain ⟨x,w',F',es,H⟩:=ih _ F w cX this hw
  exact ⟨x,w',F',es,H.skip (by simp only[Sem.runT]) (.refl _ _) hw rfl⟩
 |freeze a n k ih=>exact fun F w cX h hw=>h.elim
 |frozen a k ih=>
  intro F w cX h hw
  have:aX P (k (w.frozen? a)) Q F:=by
   unfold aX at h
   split at h
   .rename_i o f
    have e:w.frozen? a=frozenAt o a.off:=by
     have:=hw.own _ _ (ia f)
     cases o<;>simp[World.frozen?,this,frozenAt]
    rw[e];exact h
   .exact h _
  obtain ⟨x,w',F',es,H⟩:=ih _ F w cX this hw
  exact ⟨x,w',F',es,H.skip (by simp only[Sem.runT]) (.refl _ _) hw rfl⟩
 |getObj r k ih=>
  rintro F w cX ⟨o,f,h⟩ hw
  unfold aa.fj at f
  split at f
  case h_2=>cases f
  rename_i o' l
  split at f
  case isFalse=>cases f
  rename_i A
  cases f
  obtain ⟨x,w',F',es,H⟩:=ih _ F w (cX.push ⟨.obj r,false,false⟩) h hw
  refine ⟨x,w',F',_,H.cons ?_ (.refl _ _) hw (.inr (.inl ⟨r,false,rfl,e6 (ia l)⟩)) rfl⟩
  have:=hw.own _ _ (ia l)
  obtain ⟨i,B⟩:=A
  cases o<;>simp[Obj.qn] at i<;>simp only[Sem.runT,this,B]<;>rfl
 |setObj r o k ih=>
  rintro F w cX ⟨B,g,h⟩ hw
  obtain ⟨x,g⟩:=Option.isSome_iff_exists.1 g
  unfold aa.fj at g
  split at g
  case h_2=>cases g
  rename_i M l
  split at g
  case isFalse=>cases g
  rename_i A
  cases g
  have d:=ia l
  have hb:=hw.own _ _ d
  have K:r<w.heap.size:=hw.lt (e6 d)
  have z:({w with heap:=w.heap.setIfInBounds r o}:World).heap[r]?=some o:=by simp[K]
  have aG:∀b,b≠r->({w with heap:=w.heap.setIfInBounds r o}:World).heap[b]?=w.heap[b]?:=fun b aG=>by
   simp[Array.getElem?_setIfInBounds,Ne.symm aG]
  have p:=hw.set (w':={w with heap:=w.heap.setIfInBounds r o}) (o:=o) (e6 d) z aG
  obtain ⟨y,w',F',es,H⟩:=ih (F.put r o) {w with heap:=w.heap.setIfInBounds r o} (cX.push ⟨.obj r,true,false⟩) h p
  refine ⟨y,w',F',_,H.cons ?_ (ef.put (e6 d) rfl rfl rfl (by simp) aG) p (.inr (.inl ⟨r,true,rfl,e6 d⟩)) rfl⟩
  obtain ⟨i,_⟩:=A
  cases x<;>simp[Obj.qn] at i<;>simp only[Sem.runT,hb,B]
 |choose q k ih=>
  intro F w cX h hw
  unfold aX at h
  by_cases u:q.forced=true
  .rw[if_pos u] at h
   obtain ⟨x,w',F',es,H⟩:=ih _ F w cX h hw
   exact ⟨x,w',F',es,H.skip (by simp only[Sem.runT,u,if_true]) (.refl _ _) hw rfl⟩
  .rw[if_neg u] at h
   obtain ⟨x,w',F',es,H⟩:=ih (q.cut (w.tape w.drawn q)) F {w with drawn:=w.drawn+1} cX (h _) (hw.drawn _)
   exact ⟨x,w',F',es,H.skip (by simp only[Sem.runT,if_neg u]) (.drawn _ _ _) (hw.drawn _) rfl⟩
 |sys c k ih=>exact fun F w cX h hw=>h.elim
 |program k ih=>
  intro F w cX h hw
  obtain ⟨x,w',F',es,H⟩:=ih P F w cX h hw
  exact ⟨x,w',F',es,H.skip (by simp only[Sem.runT]) (.refl _ _) hw rfl⟩
 |mark m k ih=>
  rintro F w cX ⟨hm,h⟩ hw
  obtain ⟨x,w',F',es,H⟩:=ih F w (cX.push ⟨.mark m,false,true⟩) h hw
  exact ⟨x,w',F',_,H.cons (by simp only[Sem.runT]) (.refl _ _) hw (.inr (.inr ⟨m,rfl,hm⟩)) rfl⟩
 |halt h=>exact fun F w cX h hw=>h.elim
def on (b:Frame)(a:Act)(todo:List Item):Frame:={b with tmps:=a.tmps,todo:=todo,defers:=a.defers,mode:=.run}
structure Le (F F':aa):Prop where
 has:∀w,Has F' w->Has F w
 own:∀b,b∈keys F.own->b∈keys F'.own
 ro:∀a,(F.ro a).isSome=true->(F'.ro a).isSome=true\/a.block∈keys F'.own
theorem Le.refl (F:aa):Le F F:=⟨fun _ h=>h,fun _ h=>h,fun _ h=>.inl h⟩
theorem Le.trans {F G H:aa}(h:Le F G)(k:Le G H):Le F H:=
 ⟨fun w x=>h.has w (k.has w x),fun b x=>k.own b (h.own b x),fun a x=>(h.ro a x).elim (k.ro a) (fun y=>.inr (k.own _ y))⟩
def Fu (P:Program)(main:Bool)(J:Goroutine->aa->Prop)(g:Goroutine)(F:aa)(w:World):Prop:=
 ∃g' w' es F',stepG P main g w= .go g' w' es/\ef F F' w w'/\Has F' w'/\(∀e∈es,jv F.ro (ie F w.heap.size w'.heap.size) e)/\J g' F'
structure Closed (P:Program)(main:Bool)(J:Goroutine->aa->Prop):Prop where
 mono:∀{g F F'},Le F F'->J g F->J g F'
 step:∀{fr cs F},(∀w,Has F w->Fu P main J (G fr cs) F w)->J (G fr cs) F
def cY (P:Program)(J:Goroutine->aa->Prop)(f:FuncId)(args:Array Value)(F:aa)(R:Value->aa->Prop):Prop:=
 ∀(c:Frame) (cs:List Frame),(∀v F',R v F'->J (G (c.finish v) cs) F')->J (G (Frame.enter P f args .normal) (c::cs)) F
def aF (P:Program)(f:FuncId)(args:Array Value)(F:aa)(R:Value->aa->Prop):Prop:=
 ∀(main:Bool) (J:Goroutine->aa->Prop),Closed P main J->cY P J f args F R
section
variable {P:Program}{main:Bool}{J:Goroutine->aa->Prop}
theorem cY.mono {f:FuncId}{args:Array Value}{F:aa}{R a:Value->aa->Prop}(h:cY P J f args F R)(b:∀v F',R v F'->a v F'):cY P J f args F a:=
 fun c cs k=>h c cs fun v F' r=>k v F' (b v F' r)
theorem aF.mono {f:FuncId}{args:Array Value}{F:aa}{R a:Value->aa->Prop}(h:aF P f args F R)(b:∀v F',R v F'->a v F'):aF P f args F a:=
 fun m J hJ=>(h m J hJ).mono b
theorem Closed.move (hJ:Closed P main J){fr fr':Frame}{cs cs':List Frame}{F:aa}(hs:∀w,stepG P main (G fr cs) w= .go (G fr' cs') w #[])(h:J (G fr' cs') F):J (G fr cs) F:=
 hJ.step fun w hw=>⟨_,w,#[],F,hs w,.refl _ _,hw,by simp,h⟩
variable {b:Frame}{a:Act}{k:List Item}{cs:List Frame}{F:aa}
theorem Aw {w:World}:stepG P main (G (on b a (.code .skip::k)) cs) w= .go (G (on b a k) cs) w #[]:=by simp[G,stepG,stepG.exec,on]
theorem Fv {l:Nat}{w:World}:stepG P main (G (on b a (.code (.label l)::k)) cs) w= .go (G (on b a k) cs) w #[]:=by simp[G,stepG,stepG.exec,on]
theorem Ax {id:Nat}{w:World}:stepG P main (G (on b a (.inBlock id::k)) cs) w= .go (G (on b a k) cs) w #[]:=by simp[G,stepG,stepG.exec,on]
theorem Fw {c:Code}{w:World}:stepG P main (G (on b a (.inScope c::k)) cs) w= .go (G (on b a k) cs) w #[]:=by simp[G,stepG,stepG.exec,on]
theorem Ay {x y:Code}{w:World}:stepG P main (G (on b a (.code (.seq x y)::k)) cs) w= .go (G (on b a (.code x:: .code y::k)) cs) w #[]:=by simp[G,stepG,stepG.exec,on]
theorem v9 (b:Frame)(a:Act)(todo:List Item)(x:Operand):(on b a todo).eval x=a.eval x:=by cases x<;>rfl
theorem Az {c:Operand}{x y:Code}{t:Bool}{w:World}(h:a.eval c= .bool t):stepG P main (G (on b a (.code (.cond c x y)::k)) cs) w= .go (G (on b a (.code (if t then x else y)::k)) cs) w #[]:=by
 have d:(on b a (.code (.cond c x y)::k)).eval c= .bool t:=by rw[v9];exact h
 simp only[on] at d;simp[G,stepG,stepG.exec,on,d]
theorem AA {id:Nat}{c:Code}{w:World}:stepG P main (G (on b a (.code (.block id c)::k)) cs) w= .go (G (on b a (.code c:: .inBlock id::k)) cs) w #[]:=by simp[G,stepG,stepG.exec,on]
theorem AB {c:Code}{w:World}:stepG P main (G (on b a (.code (.loop c)::k)) cs) w= .go (G (on b a (.code c:: .inLoop c::k)) cs) w #[]:=by simp[G,stepG,stepG.exec,on]
theorem AD {c:Code}{w:World}:stepG P main (G (on b a (.inLoop c::k)) cs) w= .go (G (on b a (.code c:: .inLoop c::k)) cs) w #[]:=by simp[G,stepG,stepG.exec,on]
theorem Fx {c:Code}{w:World}:stepG P main (G (on b a (.code (.scope c)::k)) cs) w= .go (G (on b a (.code c:: .inScope c::k)) cs) w #[]:=by simp[G,stepG,stepG.exec,on]
theorem AE {id:Nat}{c:List Item}{w:World}(h:exitTo id k=some c):stepG P main (G (on b a (.code (.exit id)::k)) cs) w= .go (G (on b a c) cs) w #[]:=by simp[G,stepG,stepG.exec,on,h]
theorem AF {id:Nat}{ops:Array Oper}{w:World}:stepG P main (G (on b a (.code (.region id ops false)::k)) cs) w= .go (G (on b a (.inRegion ops (List.range ops.size)::k)) cs) w #[]:=by simp[G,stepG,stepG.exec,on]
theorem AG {id:Nat}{ops:Array Oper}{w:World}:stepG P main (G (on b a (.code (.region id ops true)::k)) cs) w=
  .go (G (on b a (.inRegion ops (Region.schedule (P.follows .mixedOrders) ops (w.tape w.drawn (.order b.fn id)))::k)) cs) {w with drawn:=w.drawn+1} #[]:=by
 simp[G,stepG,stepG.exec,on,choose,Sem.run,Question.forced,Question.cut]
theorem AH {ops:Array Oper}{w:World}:stepG P main (G (on b a (.inRegion ops []::k)) cs) w= .go (G (on b a k) cs) w #[]:=by simp[G,stepG,stepG.exec,on]
theorem stepG_ret' {w:World}(c:b.roundOf=none):stepG P main (G (on b a (.code .ret::k)) cs) w= .go (G {on b a (.code .ret::k) with mode:=.returning} cs) w #[]:=by simp[G,stepG,stepG.exec,on,c]
theorem mL {w:World}(c:b.roundOf=none):stepG P main (G (on b a []) cs) w= .go (G {on b a [] with mode:=.returning} cs) w #[]:=by simp[G,stepG,stepG.exec,on,c]
theorem we (b:Frame)(a:Act)(ops:Array Oper)(i:Nat)(rest:List Nat)(k:List Item)(v:Value):
  (on b a (.inRegion ops (i::rest)::k)).finish v=on b (a.put ((ops[i]?).bind (·.dst)) v) (.inRegion ops rest::k):=by
 cases h:(ops[i]?).bind (·.dst)<;>simp[Frame.finish,on,Act.put,h]
theorem wh {ops:Array Oper}{i:Nat}{rest:List Nat}{w:World}(h:((ops[i]?).map (Region.wanted · (yielded ops a.tmps))).getD false=false):
  stepG P main (G (on b a (.inRegion ops (i::rest)::k)) cs) w= .go (G (on b (a.put ((ops[i]?).bind (·.dst)) undef) (.inRegion ops rest::k)) cs) w #[]:=by
 rw[<-we]
 have c:=h
 simp only[on] at*
 simp[G,stepG,stepG.exec,c]
theorem Fy {ops:Array Oper}{i:Nat}{rest:List Nat}{o:Oper}{w:World}(d:b.roundOf=none\/∀c,o.op≠ .defer c)(e:ops[i]?=some o)(hw:Region.wanted o (yielded ops a.tmps)=true):
  stepG P main (G (on b a (.inRegion ops (i::rest)::k)) cs) w=stepG.apply P true (on b a (.inRegion ops (i::rest)::k)) cs none (execOp a.eval o) w:=by
 have he:(on b a (.inRegion ops (i::rest)::k)).eval=a.eval:=funext (v9 b a _)
 simp only[on] at he
 rcases d with d|d
 .rw[d] at he
  simp[G,stepG,stepG.exec,stepG.oper,Frame.oper?,on,e,hw,he,d]
 .have:∀l,(match (some l:Option Nat),o.op with
   |some l,.defer c=>stepG.apply P true (on b a (.inRegion ops (i::rest)::k)) cs none (do Instr.deferInRound l (<-resolve (on b a (.inRegion ops (i::rest)::k)).eval c o.type);pure .skip) w
   |_,_=>stepG.apply P true (on b a (.inRegion ops (i::rest)::k)) cs none (execOp a.eval o) w)=stepG.apply P true (on b a (.inRegion ops (i::rest)::k)) cs none (execOp a.eval o) w:=by
   intro l
   cases f:o.op<;>first|rfl|exact absurd f (d _)
  cases hb:b.roundOf with
  |none=>
   rw[hb] at he
   simp[G,stepG,stepG.exec,stepG.oper,Frame.oper?,on,e,hw,he,hb]
  |some l=>
   have t:=this l
   simp only[on,he] at t
   simp only[hb] at t
   simp[G,stepG,stepG.exec,stepG.oper,Frame.oper?,on,e,hw,he,hb]
   exact t
def j4 (J:Goroutine->aa->Prop)(l:Nat)(f:FuncId)(tmps:Array Value)(assign body:Code)(F:aa)(R:Value->aa->Prop):Prop:=
 ∀(c:Frame) (cs:List Frame),(∀v F',R v F'->J (G (c.finish v) cs) F')->J (G (Frame.round l f tmps assign body .normal) (c::cs)) F
theorem j4.mono {l:Nat}{f:FuncId}{tmps:Array Value}{assign body:Code}{F:aa}{R a:Value->aa->Prop}(h:j4 J l f tmps assign body F R)(b:∀v F',R v F'->a v F'):j4 J l f tmps assign body F a:=
 fun c cs k=>h c cs fun v F' r=>k v F' (b v F' r)
def fO (P:Program)(J:Goroutine->aa->Prop)(R:Value->aa->Prop)(D:Deferred->aa->Prop):Next->aa->Prop
 | .value v,F=>R v F
 | .skip,F=>R undef F
 | .defer d,F=>D d F
 | .enter f args,F=>cY P J f args F R
 | .round l f tmps assign body,F=>j4 J l f tmps assign body F R
 |_,_=>False
theorem AI {R b:Value->aa->Prop}{D c:Deferred->aa->Prop}(a:∀v F,R v F->b v F)(e:∀d F,D d F->c d F):∀n F,fO P J R D n F->fO P J b c n F
 | .value v,F,h=>a _ _ h
 | .skip,F,h=>a _ _ h
 | .defer d,F,h=>e _ _ h
 | .enter f args,F,h=>cY.mono h a
 | .round l f tmps assign body,F,h=>j4.mono h a
 | .stack ..,_,h| .callThen ..,_,h| .row ..,_,h| .comm ..,_,h| .spawn ..,_,h| .recover,_,h| .numGoroutine,_,h| .collect,_,h| .watch ..,_,h| .newcoro ..,_,h| .coroswitch ..,_,h| .sleep ..,_,h| .timer ..,_,h| .alone ..,_,h=>h.elim
def kQ (P:Program)(J:Goroutine->aa->Prop)(R:Value->aa->Prop)(D:Deferred->aa->Prop)(n:Next)(F:aa):Prop:=fO P J (fun v F=>∃F0,Le F0 F/\R v F0) D n F
theorem Fz {R:Value->aa->Prop}{D:Deferred->aa->Prop}:∀n F,fO P J R D n F->kQ P J R D n F:=AI (fun _ F h=>⟨F,Le.refl F,h⟩) (fun _ _ h=>h)
theorem qo {R a:Value->aa->Prop}{D b:Deferred->aa->Prop}(c:∀v F,R v F->a v F)(e:∀d F,D d F->b d F):∀n F,kQ P J R D n F->kQ P J a b n F:=
 AI (fun _ _ ⟨F0,hle,h⟩=>⟨F0,hle,c _ _ h⟩) e
def AJ (P:Program)(J:Goroutine->aa->Prop)(o:Oper)(K:Act->aa->Prop)(a:Act)(F:aa):Prop:=
 aX P (execOp a.eval o) (kQ P J (fun v F'=>K (a.put o.dst v) F') (fun d F'=>K ({a with defers:=d::a.defers}.put o.dst undef) F')) F
def dQ (P:Program)(J:Goroutine->aa->Prop)(ops:Array Oper)(i:Nat)(K:Act->aa->Prop)(a:Act)(F:aa):Prop:=
 match ops[i]? with
 |none=>K a F
 |some o=>if Region.wanted o (yielded ops a.tmps) then AJ P J o K a F else K (a.put o.dst undef) F
def gd (P:Program)(J:Goroutine->aa->Prop)(ops:Array Oper)(K:Act->aa->Prop):List Nat->Act->aa->Prop
 |[],a,F=>K a F
 |i::rest,a,F=>dQ P J ops i (gd P J ops K rest) a F
structure wj (ops:Array Oper)(b:Frame):Prop where
 kind:b.kind≠ .early
 round:b.roundOf=none\/∀o∈ops,∀c,o.op≠ .defer c
theorem AK (hJ:Closed P main J){ops:Array Oper}{i:Nat}{rest:List Nat}{K:Act->aa->Prop}(hb:wj ops b)(h:dQ P J ops i K a F)
  (p:∀t F',K t F'->J (G (on b t (.inRegion ops rest::k)) cs) F'):J (G (on b a (.inRegion ops (i::rest)::k)) cs) F:=by
 unfold dQ at h
 cases g:ops[i]? with
 |none=>
  rw[g] at h
  refine hJ.move (fun w=>wh (by simp[g])) ?_
  simp only[g,Option.bind_none,Act.put]
  exact p _ _ h
 |some o=>
  rw[g] at h
  simp only at h
  by_cases hw:Region.wanted o (yielded ops a.tmps)=true
  .rw[if_pos hw] at h
   refine hJ.step fun w y=>?_
   obtain ⟨n,w',F',es,H⟩:=lP _ F w #[] h y
   have u:=H.run
   rw[Array.empty_append] at u
   have z:b.roundOf=none\/∀c,o.op≠ .defer c:=hb.round.imp id fun x=>x o (Array.mem_of_getElem? g)
   have j:=Fy (P:=P) (main:=main) (b:=b) (a:=a) (k:=k) (cs:=cs) (w:=w) (rest:=rest) z g hw
   have A:((on b a (.inRegion ops (i::rest)::k)).kind==CallKind.early)=false:=by simpa [on] using hb.kind
   have s:∀v,(on b a (.inRegion ops (i::rest)::k)).finish v=on b (a.put o.dst v) (.inRegion ops rest::k):=by
    intro v;rw[we,g];rfl
   have r:∀e∈seen P (on b a (.inRegion ops (i::rest)::k)).fn es,jv F.ro (ie F w.heap.size w'.heap.size) e:=fun e he=>H.iO e (mem_seen he)
   have m:=H.post
   unfold stepG.apply at j
   simp only[if_true,u,A,Bool.false_eq_true,if_false] at j
   cases n<;>simp only[kQ,fO] at m
   case value v=>
    simp only[s,GStep.after,Array.append_empty] at j
    obtain ⟨F0,hle,m⟩:=m
    exact ⟨_,w',_,F',j,H.upd,H.has,r,hJ.mono hle (p _ _ m)⟩
   case skip=>
    simp only[s,GStep.after,Array.append_empty] at j
    obtain ⟨F0,hle,m⟩:=m
    exact ⟨_,w',_,F',j,H.upd,H.has,r,hJ.mono hle (p _ _ m)⟩
   case defer d=>
    have B:({on b a (.inRegion ops (i::rest)::k) with defers:=d::(on b a (.inRegion ops (i::rest)::k)).defers}:Frame).finish undef=
      on b ({a with defers:=d::a.defers}.put o.dst undef) (.inRegion ops rest::k):=by
     have:=we b {a with defers:=d::a.defers} ops i rest k undef
     rw[g] at this;exact this
    simp only[B,GStep.after,Array.append_empty] at j
    exact ⟨_,w',_,F',j,H.upd,H.has,r,p _ _ m⟩
   case round l f tmps cB bd=>
    refine ⟨_,w',_,F',j,H.upd,H.has,?_,m _ _ fun v C q=>by obtain ⟨F0,hle,q⟩:=q;rw[s];exact hJ.mono hle (p _ _ q)⟩
    simpa [GStep.after] using r
   case enter f args=>
    refine ⟨_,w',_,F',j,H.upd,H.has,?_,m _ _ fun v C q=>by obtain ⟨F0,hle,q⟩:=q;rw[s];exact hJ.mono hle (p _ _ q)⟩
    simpa [GStep.after] using r
  .rw[if_neg hw] at h
   refine hJ.move (fun w=>wh (by simp[g];simpa using hw)) ?_
   simp only[g,Option.bind_some]
   exact p _ _ h
theorem qp {ops:Array Oper}{i:Nat}{K e:Act->aa->Prop}{a:Act}{F:aa}(h:∀a F,K a F->e a F)(b:dQ P J ops i K a F):dQ P J ops i e a F:=by
 unfold dQ at*;split
 .rename_i c;rw[c] at b;exact h _ _ b
 .rename_i o c;rw[c] at b;simp only at b;split
  .rename_i hw;rw[if_pos hw] at b;exact ij (qo (fun v F=>h _ _) (fun d F=>h _ _)) _ _ b
  .rename_i hw;rw[if_neg hw] at b;exact h _ _ b
theorem sH (hJ:Closed P main J){ops:Array Oper}{K:Act->aa->Prop}(hb:wj ops b)(d:∀c F',K c F'->J (G (on b c k) cs) F'):
  ∀(l:List Nat) (a:Act) (F:aa),gd P J ops K l a F->J (G (on b a (.inRegion ops l::k)) cs) F
 |[],a,F,h=>hJ.move (fun _=>AH) (d _ _ h)
 |i::rest,a,F,h=>AK hJ hb h fun c F' e=>sH hJ hb d rest c F' e
section draw
variable {ops:Array Oper}{Q:Act->aa->Prop}{S:aa->Prop}
def dU (P:Program)(J:Goroutine->aa->Prop)(ops:Array Oper)(Q:Act->aa->Prop)(S:aa->Prop):Nat->Array Bool->Act->aa->Prop
 |0,listed,a,F=>Region.ready .any ops listed=[]/\Q a F
 |fuel+1,listed,a,F=>(Region.ready .any ops listed=[]->Q a F)/\
  ∀i∈Region.ready .any ops listed,dQ P J ops i (fun b F'=>S F'/\dU P J ops Q S fuel (listed.setIfInBounds i true) b F') a F
theorem FA:∀(fuel t:Nat) (listed:Array Bool) (a:Act) (F:aa),dU P J ops Q S fuel listed a F->
  gd P J ops Q (Region.linearise.go .any ops fuel t listed []) a F:=by
 intro fuel
 induction fuel with
 |zero=>intro t listed a F h;simpa [Region.linearise.go,gd] using h.2
 |succ fuel ih=>
  intro t listed a F h
  obtain ⟨b,c⟩:=h
  simp only[Region.linearise.go]
  change gd P J ops Q (match (Region.ready .any ops listed)[t % (Region.ready .any ops listed).length]? with
   |some i=>Region.linearise.go .any ops fuel (t/(Region.ready .any ops listed).length) (listed.setIfInBounds i true) [i]
   |none=>[].reverse) a F
  cases hi:(Region.ready .any ops listed)[t % (Region.ready .any ops listed).length]? with
  |none=>
   have d:Region.ready .any ops listed=[]:=by
    cases e:Region.ready .any ops listed with
    |nil=>rfl
    |cons x xs=>
     rw[e] at hi
     have f:t % (x::xs).length<(x::xs).length:=Nat.mod_lt _ (by simp)
     simp at hi
     simp at f
     omega
   simpa [gd] using b d
  |some i=>
   simp only[]
   rw[linearise_go_acc,List.reverse_singleton,List.singleton_append]
   exact qp (fun a F h=>ih _ _ a F h.2) (c i (List.mem_of_getElem? hi))
def fR (P:Program)(J:Goroutine->aa->Prop)(ops:Array Oper)(S:aa->Prop)(o:Oper)(v:Value)(a:Act):Prop:=
 (Region.wanted o (yielded ops a.tmps)=true/\∀F (R:Value->aa->Prop),S F->R v F->aX P (execOp a.eval o) (kQ P J R (fun _ _=>False)) F)\/
 (Region.wanted o (yielded ops a.tmps)=false/\v=undef)
theorem fR.ov {i:Nat}{o:Oper}{v:Value}{a:Act}{F:aa}(hi:ops[i]?=some o)(b:fR P J ops S o v a)
  {K:Act->aa->Prop} (c:S F) (h:K (a.put o.dst v) F):dQ P J ops i K a F:=by
 unfold dQ
 simp only[hi]
 rcases b with ⟨hw,d⟩|⟨hw,rfl⟩
 .rw[if_pos hw]
  exact ij (qo (fun _ _ x=>x) (fun _ _ x=>x.elim)) _ _ (d F (fun v F'=>K (a.put o.dst v) F') c h)
 .rw[if_neg (by simp[hw])];exact h
theorem fR.of_same {o:Oper}{v:Value}{a b:Act}(c:fR P J ops S o v a)(he:execOp b.eval o=execOp a.eval o)
  (hw:Region.wanted o (yielded ops b.tmps)=Region.wanted o (yielded ops a.tmps)):fR P J ops S o v b:=by
 unfold fR at*
 rw[he,hw]
 exact c
theorem wm {j:Nat}{c e:Oper}{v:Value}(i:ops[j]?=some e)(k:c.apart ops e=true)
  (l:∀cs b,c.op≠ .select cs b) (m:∀cs b,e.op≠ .select cs b) {K:Act->aa->Prop} {a:Act} {F:aa}
  (f:fR P J ops S c v a) (h:dQ P J ops j K (a.put c.dst v) F):
  dQ P J ops j (fun g F'=>fR P J ops S c v g/\K (g.put c.dst v) F') a F:=by
 obtain ⟨h1,h2,h3⟩:=Oper.apart_spec k
 have keep:∀(a:Act),fR P J ops S c v a->∀u,fR P J ops S c v (a.put e.dst u):=fun a f u=>
  f.of_same (execOp_put c l a e.dst u h3) (wanted_put c a e.dst u h3)
 have n:∀d,fR P J ops S c v {a with defers:=d::a.defers}:=fun d=>f.of_same rfl rfl
 unfold dQ at*
 simp only[i] at*
 rw[wanted_put e a c.dst v h1] at h
 split
 .rename_i hw
  rw[if_pos hw] at h
  unfold AJ at*
  rw[execOp_put e m a c.dst v h1] at h
  refine ij (qo (fun u F' x=>⟨keep a f u,?_⟩) (fun d F' x=>⟨keep _ (n d) _,?_⟩)) _ _ h
  .rw[<-Act.put_comm a v u h2];exact x
  .rw[<-Act.put_comm _ v undef h2,<-Act.put_defers];exact x
 .rename_i hw
  rw[if_neg hw] at h
  exact ⟨keep a f _,by rw[<-Act.put_comm a v undef h2];exact h⟩
theorem FB {i:Nat}{g:Oper}{v:Value}(hi:ops[i]?=some g)(r:∀(j:Nat) (o:Oper) cs b,ops[j]?=some o->o.op≠ .select cs b):
  ∀(fuel:Nat) (listed:Array Bool) (a:Act) (F:aa),
   (∀j d,ops[j]?=some d->j≠i->listed.getD j true=false->(∀e∈d.after,Region.binds .any e=true->e.on≠i)->g.apart ops d=true)->
   i∈Region.ready .any ops listed->fR P J ops S g v a->S F->
   dU P J ops Q S fuel (listed.setIfInBounds i true) (a.put g.dst v) F->dU P J ops Q S (fuel+1) listed a F:=by
 intro fuel
 induction fuel with
 |zero=>
  intro listed a F _ f m l H
  refine ⟨fun h=>(by rw[h] at f;cases f),fun j n=>?_⟩
  by_cases c:j=i
  .subst c;exact m.ov hi l ⟨l,H⟩
  .have:=ready_mono n c
   rw[H.1] at this
   cases this
 |succ fuel ih=>
  intro listed a F s f m l H
  refine ⟨fun h=>(by rw[h] at f;cases f),fun j n=>?_⟩
  by_cases c:j=i
  .subst c;exact m.ov hi l ⟨l,H⟩
  .have h1:=H.2 j (ready_mono n c)
   obtain ⟨t,d,p,x⟩:=mem_ready.1 n
   have y:∀e∈d.after,Region.binds .any e=true->e.on≠i:=fun e he hb heq=>by
    have h1:=x e he hb
    have h0:=(mem_ready.1 f).1
    rw[heq] at h1
    rcases Nat.lt_or_ge i listed.size with q|q
    .simp[q] at h0 h1;rw[h0] at h1;cases h1
    .simp[Array.getElem?_eq_none q] at h1
   have h2:=wm p (s j d p c t y) (fun cs b=>r i g cs b hi) (fun cs b=>r j d cs b p) m h1
   have z:∀k ok,ops[k]?=some ok->k≠i->(listed.setIfInBounds j true).getD k true=false->
     (∀e∈ok.after,Region.binds .any e=true->e.on≠i)->g.apart ops ok=true:=fun k ok A B u C=>by
    refine s k ok A B ?_ C
    by_cases w:j=k
    .subst w;exact t
    .rw[getD_set_ne true w] at u;exact u
   refine qp (fun D F' h3=>⟨h3.2.1,ih (listed.setIfInBounds j true) D F' z (ready_mono f (Ne.symm c)) h3.1 h3.2.1 ?_⟩) h2
   rw[Array.setIfInBounds_comm _ _ c]
   exact h3.2.2
theorem AL (i:Nat){c:Oper}(v:Value){fuel:Nat}{listed:Array Bool}{a:Act}{F:aa}(hi:ops[i]?=some c)
  (b:(Region.noSelect ops&&Region.free .any ops listed i&&(Region.ready .any ops listed).contains i)=true)
  (d:fR P J ops S c v a) (e:S F)
  (h:dU P J ops Q S fuel (listed.setIfInBounds i true) (a.put c.dst v) F):dU P J ops Q S (fuel+1) listed a F:=by
 simp only[Bool.and_eq_true] at b
 exact FB hi (Region.noSelect_spec b.1.1) fuel listed a F (Region.free_spec hi b.1.2) (by simpa using b.2) d e h
theorem FC {rs:List Nat}{fuel:Nat}{listed:Array Bool}{a:Act}{F:aa}(b:Region.ready .any ops listed=rs)(aG:rs≠[])
  (h:∀i∈rs,dQ P J ops i (fun c F'=>S F'/\dU P J ops Q S fuel (listed.setIfInBounds i true) c F') a F):dU P J ops Q S (fuel+1) listed a F:=
 ⟨fun h0=>absurd (b▸h0) aG,b▸h⟩
theorem FD (i:Nat){fuel:Nat}{listed:Array Bool}{a:Act}{F:aa}(b:Region.ready .any ops listed=[i])
  (h:dQ P J ops i (fun c F'=>S F'/\dU P J ops Q S fuel (listed.setIfInBounds i true) c F') a F):dU P J ops Q S (fuel+1) listed a F:=
 FC b (by simp) (by simpa using h)
theorem AM {listed:Array Bool}{a:Act}{F:aa}(b:Region.ready .any ops listed=[])(h:Q a F):∀fuel,dU P J ops Q S fuel listed a F
 |0=>⟨b,h⟩
 |_+1=>⟨fun _=>h,by rw[b];simp⟩
end draw
end
inductive Ex where
 |normal
 |exit (id:Nat)
 |ret
 deriving DecidableEq
def fT:Code->Bool
 | .region _ ops _=>ops.all fun o=>match o.op with| .defer _=>false|_=>true
 | .seq a b=>fT a&&fT b
 | .cond _ a b=>fT a&&fT b
 | .block _ c=>fT c
 | .loop c=>fT c
 | .scope c=>fT c
 | .rangeFunc ..=>false
 |_=>true
structure AN (c:Code)(b:Frame):Prop where
 kind:b.kind≠ .early
 round:b.roundOf=none\/fT c=true
section
variable {P:Program}{main:Bool}{J:Goroutine->aa->Prop}
def AO (J:Goroutine->aa->Prop)(b:Frame)(k:List Item)(cs:List Frame):Ex->Act->aa->Prop
 | .normal,a,F=>J (G (on b a k) cs) F
 | .exit id,a,F=>∀c,exitTo id c=exitTo id k->J (G (on b a (.code (.exit id)::c)) cs) F
 | .ret,a,F=>∀c,J (G (on b a (.code .ret::c)) cs) F
def Wp (J:Goroutine->aa->Prop)(c:Code)(Q:Ex->Act->aa->Prop)(a:Act)(F:aa):Prop:=
 ∀(b:Frame) (k:List Item) (cs:List Frame),AN c b->(∀e d F',Q e d F'->AO J b k cs e d F')->J (G (on b a (.code c::k)) cs) F
theorem Wp.mono {c:Code}{Q d:Ex->Act->aa->Prop}{a:Act}{F:aa}(h:Wp J c Q a F)(f:∀e a F,Q e a F->d e a F):Wp J c d a F:=
 fun b k cs hb g=>h b k cs hb fun e i F' x=>g e i F' (f _ _ _ x)
theorem Wp.le {hJ:Closed P main J}{c:Code}{Q:Ex->Act->aa->Prop}{a:Act}{F F':aa}(h:Wp J c Q a F)(hle:Le F F'):Wp J c Q a F':=
 fun b k cs hb d=>hJ.mono hle (h b k cs hb d)
variable {Q:Ex->Act->aa->Prop}{a:Act}{F:aa}
theorem aI (hJ:Closed P main J)(h:Q .normal a F):Wp J .skip Q a F:=fun b k cs _ c=>hJ.move (fun _=>Aw) (c _ _ _ h)
theorem FE (hJ:Closed P main J){l:Nat}(h:Q .normal a F):Wp J (.label l) Q a F:=fun b k cs _ c=>hJ.move (fun _=>Fv) (c _ _ _ h)
theorem bR {id:Nat}(h:Q (.exit id) a F):Wp J (.exit id) Q a F:=fun b k cs _ c=>c _ _ _ h k rfl
theorem aE (h:Q .ret a F):Wp J .ret Q a F:=fun b k cs _ c=>c _ _ _ h k
def wo (J:Goroutine->aa->Prop)(y:Code)(Q:Ex->Act->aa->Prop):Ex->Act->aa->Prop
 | .normal,a,F=>Wp J y Q a F
 |e,a,F=>Q e a F
theorem ag (hJ:Closed P main J){x y:Code}(h:Wp J x (wo J y Q) a F):Wp J (.seq x y) Q a F:=fun b k cs hb c=>by
 refine hJ.move (fun _=>Ay) (h b (.code y::k) cs ⟨hb.kind,hb.round.imp id fun z=>?_⟩ fun e i F' d=>?_)
 .simp only[fT,Bool.and_eq_true] at z;exact z.1
 .cases e with
  |normal=>exact d b k cs ⟨hb.kind,hb.round.imp id fun z=>by simp only[fT,Bool.and_eq_true] at z;exact z.2⟩ c
  |exit id=>exact fun f g=>c _ _ _ d f (by rw[g];rfl)
  |ret=>exact c _ _ _ d
theorem wq (hJ:Closed P main J){c:Operand}{x y:Code}(t:Bool)(d:a.eval c= .bool t)(h:Wp J (if t then x else y) Q a F):Wp J (.cond c x y) Q a F:=fun b k cs hb e=>by
 refine hJ.move (fun _=>Az d) (h b k cs ⟨hb.kind,hb.round.imp id fun z=>?_⟩ e)
 simp only[fT,Bool.and_eq_true] at z
 cases t
 .exact z.2
 .exact z.1
def wu (id:Nat)(Q:Ex->Act->aa->Prop):Ex->Act->aa->Prop
 | .normal,a,F=>Q .normal a F
 | .exit i,a,F=>if i=id then Q .normal a F else Q (.exit i) a F
 | .ret,a,F=>Q .ret a F
theorem aT (hJ:Closed P main J){id:Nat}{c:Code}(h:Wp J c (wu id Q) a F):Wp J (.block id c) Q a F:=fun b k cs hb f=>by
 refine hJ.move (fun _=>AA) (h b (.inBlock id::k) cs ⟨hb.kind,hb.round⟩ fun e l F' d=>?_)
 cases e with
 |normal=>exact hJ.move (fun _=>Ax) (f _ _ _ d)
 |exit i=>
  intro g j
  simp only[wu] at d
  by_cases hi:i=id
  .rw[if_pos hi] at d
   subst hi
   have:exitTo i g=some k:=by rw[j];simp[exitTo]
   exact hJ.move (fun _=>AE this) (f _ _ _ d)
  .rw[if_neg hi] at d
   refine f _ _ _ d g ?_
   rw[j]
   simp[exitTo,Ne.symm hi]
 |ret=>exact f _ _ _ d
theorem FF (hJ:Closed P main J){c:Code}(h:Wp J c Q a F):Wp J (.scope c) Q a F:=fun b k cs hb d=>by
 refine hJ.move (fun _=>Fx) (h b (.inScope c::k) cs ⟨hb.kind,hb.round⟩ fun e l F' f=>?_)
 cases e with
 |normal=>exact hJ.move (fun _=>Fw) (d _ _ _ f)
 |exit i=>exact fun g j=>d _ _ _ f g (by rw[j];rfl)
 |ret=>exact d _ _ _ f
def sJ (I:Nat->Act->aa->Prop)(n:Nat)(Q:Ex->Act->aa->Prop):Ex->Act->aa->Prop
 | .normal,a,F=>∃m,m<n/\I m a F
 |e,a,F=>Q e a F
theorem AP (hJ:Closed P main J){c:Code}(I:Nat->Act->aa->Prop)(n:Nat)(h0:I n a F)(hs:∀n a F,I n a F->Wp J c (sJ I n Q) a F):Wp J (.loop c) Q a F:=by
 intro b k cs hb f;have key:∀n a F,I n a F->J (G (on b a (.code c:: .inLoop c::k)) cs) F:=by
  intro n
  induction n using Nat.strongRecOn with
  |_ n ih=>
   intro a F g;refine hs n a F g b (.inLoop c::k) cs ⟨hb.kind,hb.round⟩ fun e h F' d=>?_;cases e with
   |normal=>
    obtain ⟨m,hm,j⟩:=d;exact hJ.move (fun _=>AD) (ih m hm h F' j)
   |exit i=>exact fun l o=>f _ _ _ d l (by rw[o];rfl)
   |ret=>exact f _ _ _ d
 exact hJ.move (fun _=>AB) (key n a F h0)
theorem wv {id:Nat}{ops:Array Oper}{d:Bool}{b:Frame}(hb:AN (.region id ops d) b):wj ops b:=
 ⟨hb.kind,hb.round.imp a fun z o e c f=>by
  simp only[fT] at z
  have:=(Array.all_eq_true_iff_forall_mem.1 z) o e
  rw[f] at this
  cases this⟩
where a {p:Prop} (h:p):p:=h
theorem FG (hJ:Closed P main J){id:Nat}{ops:Array Oper}(h:gd P J ops (Q .normal) (List.range ops.size) a F):Wp J (.region id ops false) Q a F:=fun b k cs hb c=>
 hJ.move (fun _=>AF) (sH hJ (wv hb) (fun d F' e=>c .normal d F' e) _ _ _ h)
theorem wz (hJ:Closed P main J)(S:aa->Prop)(hm:P.follows .mixedOrders=true){id:Nat}{ops:Array Oper}(h:dU P J ops (Q .normal) S ops.size (Array.replicate ops.size false) a F):Wp J (.region id ops true) Q a F:=fun b k cs hb c=>
 hJ.step fun w hw=>by
  refine ⟨_,_,_,F,AG,.drawn _ _ _,hw.drawn _,by simp,?_⟩
  refine sH (K:=Q .normal) hJ (wv hb) (fun d F' e=>c .normal d F' e) _ _ _ ?_
  simp only[Region.schedule,hm,Bool.true_or,if_true]
  exact FA ops.size _ _ a F h
def iP (P:Program):List Deferred->(aa->Prop)->aa->Prop
 |[],K,F=>K F
 |d::a,K,F=>∃r,d.target= .collected r/\aX P (Instr.takeDeferred r) (fun calls F'=>calls=[]/\iP P a K F') F
def sK (P:Program)(fn:Func)(R:Value->aa->Prop):Ex->Act->aa->Prop
 | .exit _,_,_=>False
 |_,a,F=>iP P a.defers (fun F=>aX P (results fn a.tmps) R F) F
theorem wA (hJ:Closed P main J){f:FuncId}{fn:Func}(j:P.funcs[f]?=some fn){R:Value->aa->Prop}{c:Frame}{cs:List Frame}(k:∀v F',R v F'->J (G (c.finish v) cs) F')(tmps:Array Value):
  ∀(a:List Deferred) (fr:Frame) (F:aa),fr.fn=f->fr.kind= .normal->fr.mode= .returning->fr.defers=a->fr.tmps=tmps->iP P a (fun F=>aX P (results fn tmps) R F) F->J (G fr (c::cs)) F
 |[],fr,F,h1,h2,h3,g,i,h=>by
  refine hJ.step fun w hw=>?_
  obtain ⟨v,w',F',es,H⟩:=lP _ F w #[] h hw
  have b:=H.run
  rw[Array.empty_append] at b
  refine ⟨G (c.finish v) cs,w',seen P fr.fn es,F',?_,H.upd,H.has,fun e he=>H.iO e (mem_seen he),k v F' H.post⟩
  simp only[G,stepG,unwind,h3,g,i,h1,j,b]
  simp[doReturn,h2,GStep.after]
 |d::a,fr,F,h1,h2,h3,g,i,h=>by
  obtain ⟨r,l,m⟩:=h
  refine hJ.step fun w hw=>?_
  obtain ⟨v,w',F',es,H⟩:=lP _ F w #[] m hw
  have b:=H.run
  rw[Array.empty_append] at b
  obtain ⟨n,o⟩:=H.post
  subst n
  obtain ⟨t,args⟩:=d
  simp only at l
  subst l
  refine ⟨G {fr with defers:=a} (c::cs),w',seen P fr.fn es,F',?_,H.upd,H.has,fun e he=>H.iO e (mem_seen he),?_⟩
  .simp only[G,stepG,unwind,h3,g,b]
   simp[GStep.after]
  .exact wA hJ j k tmps a {fr with defers:=a} F' h1 h2 h3 rfl i o
theorem cY.of_wp (hJ:Closed P main J){f:FuncId}{fn:Func}{c:Code}{args:Array Value}{R:Value->aa->Prop}(d:P.funcs[f]?=some fn)(hb:fn.body=some c)
  (h:Wp J c (sK P fn R) {tmps:=args++Array.replicate (fn.ntmps - args.size) undef,defers:=[]} F):cY P J f args F R:=by
 intro k cs j
 let b:Frame:={(default:Frame) with fn:=f,kind:=.normal}
 have l:Frame.enter P f args .normal=on b {tmps:=args++Array.replicate (fn.ntmps - args.size) undef,defers:=[]} [.code c]:=by
  simp[Frame.enter,on,d,hb,b]
  rfl
 rw[l]
 refine h b [] (k::cs) ⟨by simp[b],.inl rfl⟩ fun e a F' g=>?_
 cases e with
 |normal=>exact hJ.move (fun _=>mL rfl) (wA hJ d j a.tmps a.defers _ F' rfl rfl rfl rfl rfl g)
 |exit i=>exact g.elim
 |ret=>exact fun m=>hJ.move (fun _=>stepG_ret' rfl) (wA hJ d j a.tmps a.defers _ F' rfl rfl rfl rfl rfl g)
theorem aF.of_wp {f:FuncId}{fn:Func}{c:Code}{args:Array Value}{F:aa}{R:Value->aa->Prop}(a:P.funcs[f]?=some fn)(hb:fn.body=some c)
  (h:∀main J,Closed P main J->Wp J c (sK P fn R) {tmps:=args++Array.replicate (fn.ntmps - args.size) undef,defers:=[]} F):aF P f args F R:=
 fun main J hJ=>cY.of_wp hJ a hb (h main J hJ)
end
end Go.Sep
end
section
namespace Go.Sep
open Go Go.Conc Go.ConcM
open Go.ConcN (sumTo upd sumTo_upd upd_ne upd_same)
def aa.gW (F:aa):Loc->Prop
 | .cell a=>a.block∈keys F.own\/(F.ro a).isSome=true
 | .obj r=>r∈keys F.own
 |_=>False
structure j5 (P:Program)(bD:Loc->Prop)(g:Goroutine)(F:aa)(gs:Array Goroutine)(w:World)(t:Trace)(q:Nat->Nat):Prop where
 g0:gs[0]?=some g
 lv:Leavers P t gs q
 fV:Past bD w.heap.size t
 has:Has F w
 apart:∀l,bD l->¬F.gW l
 low:∀l,bD l->l.low w.heap.size
structure fB (F F':aa)(w w':World):Prop where
 os:OsLater w.os w'.os
 tape:w'.tape=w.tape
 output:w'.output=w.output
 size:w.heap.size<=w'.heap.size
 frame:∀b,b<w.heap.size->b∉keys F.own->w'.heap[b]?=w.heap[b]?
 ro:∀a,(F'.ro a).isSome=true->(F.ro a).isSome=true\/a.block∈keys F.own\/w.heap.size<=a.block
 own:∀b,b∈keys F'.own->b∈keys F.own\/w.heap.size<=b
theorem fB.qq {F F':aa}{w w':World}(h:ef F F' w w'):fB F F' w w':=⟨by rw[h.os];exact .refl _,h.tape,h.output,h.size,h.frame,h.ro,h.own⟩
theorem fB.refl (F:aa)(w:World):fB F F w w:=.qq (.refl _ _)
theorem fB.trans {F G H:aa}{u v w:World}(h:fB F G u v)(k:fB G H v w):fB F H u w where
 os:=h.os.trans k.os
 tape:=k.tape.trans h.tape
 output:=k.output.trans h.output
 size:=Nat.le_trans h.size k.size
 frame b hb c:=by
  rw[k.frame b (Nat.lt_of_lt_of_le hb h.size) (fun d=>(h.own b d).elim c (fun e=>absurd hb (by omega)))]
  exact h.frame b hb c
 ro a x:=by
  rcases k.ro a x with y|y|y
  .exact h.ro a y
  .exact .inr (h.own _ y)
  .exact .inr (.inr (Nat.le_trans h.size y))
 own b hb:=by
  rcases k.own b hb with x|x
  .exact h.own b x
  .exact .inr (Nat.le_trans h.size x)
theorem j6 {P:Program}{a b:Nat}{m c:Machine}{t d:Trace}(h:runNT P a m t=(.next c,d)):runNT P (a+b) m t=runNT P b c d:=by
 rw[runNT_add,h]
theorem Has.at {F:aa}{w:World}(h:Has F w)(d:Nat):Has F (w.at d):=⟨h.ro,h.own,h.nodup,h.apart⟩
theorem sL {P:Program}{bD:Loc->Prop}{B:Nat}{a:Goroutine}(m:a.status= .running):∀(M:Nat) (gs:Array Goroutine) (w:World) (sl:Option (Nat×Nat)) (t:Trace) (q:Nat->Nat),
  sumTo gs.size q<=M->gs[0]?=some a->Leavers P t gs q->Past bD B t->
  ∃(N:Nat) (bW:Array Goroutine) (d G:Nat) (c H:Option (Nat×Nat)) (n:Trace) (z:Nat->Nat),
   runNT P N (crowd gs w sl) t=(.next (crowd bW (w.at d) c),n)/\bW.size=gs.size/\bW[0]?=some a/\Leavers P n bW z/\Past bD B n/\
   stepT P (crowd bW (w.at d) c)=runT P (crowd bW (w.at G) H) 0:=by
 intro M
 induction M with
 |zero=>
  intro gs w sl t q I h0 b o
  have A:∀g∈gs,awake g:=by
   intro g hg
   obtain ⟨i,hi,rfl⟩:=Array.mem_iff_getElem.1 hg
   rcases Nat.eq_zero_or_pos i with rfl|h
   .have:gs[0]=a:=by simpa [Array.getElem?_eq_getElem hi] using h0
    rw[this];exact awake_of (.inl m)
   .exact awake_of ((b.old i _ h (Array.getElem?_eq_getElem hi)).status.elim .inl fun x=>.inr (.inr x))
  obtain ⟨i,g,d,c,hi,hg,p⟩:=crowd_pick (P:=P) (w:=w) (sl:=sl) A ⟨0,a,h0,m⟩
  rcases Nat.eq_zero_or_pos i with rfl|h
  .exact ⟨0,gs,w.drawn,d,sl,c,t,q,rfl,rfl,h0,b,o,p⟩
  .have l:=b.old i g h hi
   have r:i<gs.size:=(Array.getElem?_eq_some_iff.1 hi).1
   have J:q i=0:=by have:=Go.ConcN.le_sumTo (f:=q) r;omega
   rw[J] at l;rw[l.1] at hg;cases hg
 |succ M ih=>
  intro gs w sl t q I h0 b o
  have A:∀g∈gs,awake g:=by
   intro g hg
   obtain ⟨i,hi,rfl⟩:=Array.mem_iff_getElem.1 hg
   rcases Nat.eq_zero_or_pos i with rfl|h
   .have:gs[0]=a:=by simpa [Array.getElem?_eq_getElem hi] using h0
    rw[this];exact awake_of (.inl m)
   .exact awake_of ((b.old i _ h (Array.getElem?_eq_getElem hi)).status.elim .inl fun x=>.inr (.inr x))
  obtain ⟨i,g,d,c,hi,hg,p⟩:=crowd_pick (P:=P) (w:=w) (sl:=sl) A ⟨0,a,h0,m⟩
  rcases Nat.eq_zero_or_pos i with rfl|h
  .exact ⟨0,gs,w.drawn,d,sl,c,t,q,rfl,rfl,h0,b,o,p⟩
  .have l:=b.old i g h hi
   have K:(i==0)=false:=by simp;omega
   have r:i<gs.size:=(Array.getElem?_eq_some_iff.1 hi).1
   cases C:q i with
   |zero=>rw[C] at l;rw[l.1] at hg;cases hg
   |succ k=>
    rw[C] at l
    rcases l with ⟨L,_⟩|⟨_,g',es,hm,O,Q⟩
    .rw[L] at hg;cases hg
    have R:=runT_crowd_go (P:=P) (sl:=c) (i:=i) hi (by rw[K];exact O (w.at d))
    have E:((gs.map (woken P g g' (w.at d))).setIfInBounds i g').size=gs.size:=by simp
    have ad:sumTo gs.size (upd q i k)+(k+1)=sumTo gs.size q+k:=by
     have:=sumTo_upd q k id r
     simpa [C] using this
    obtain ⟨N,bW,d1,d2,S,T,n,z,U,V,W,X,Y,Z⟩:=ih ((gs.map (woken P g g' (w.at d))).setIfInBounds i g') (w.at d) c (t++MemOp.ofEvents i g.frame.fn g.frame.place es) (upd q i k) (by rw[E];omega)
     (by
      have aG:i≠0:=by omega
      rw[Array.getElem?_setIfInBounds_ne aG,Array.getElem?_map,h0]
      simp[woken_run m])
     ⟨fun j x s u=>by
      by_cases v:i=j
      .subst v
       rw[Array.getElem?_setIfInBounds_self_of_lt (by simpa using r)] at u
       obtain rfl:=Option.some.inj u
       rw[upd_same,Deaf_own]
       exact Q
      .rw[Array.getElem?_setIfInBounds_ne v,Array.getElem?_map] at u
       obtain ⟨y,ab,rfl⟩:=Option.map_eq_some_iff.1 u
       have F:=b.old j y s ab
       rw[woken_quitsD F,upd_ne q k (Ne.symm v),Deaf_other t v _ (fun op D=>by obtain ⟨e,_,rfl⟩:=Go.Conc.mem_ofEvents D;rfl)]
       exact F,fun j s=>by
      rw[Deaf_other t (g':=i) (by simp at s;omega) _ (fun op D=>by obtain ⟨e,_,rfl⟩:=Go.Conc.mem_ofEvents D;rfl)]
      exact b.above j (by simpa using s)⟩
     (o.mute (by omega) hm)
    exact ⟨N+1,bW,d1,d2,S,T,n,z,by simp only[runNT,p,R];exact U,V.trans E,W,X,Y,Z⟩
theorem AQ {bD:Loc->Prop}{F:aa}{w w':World}(g:Has F w)(hu:w.heap.size<=w'.heap.size)(f:∀l,bD l->¬F.gW l)(i:∀l,bD l->l.low w.heap.size){e:Event}
  (h:jv F.ro (ie F w.heap.size w'.heap.size) e):EvL bD w'.heap.size e:=by
 have hm:∀b,ie F w.heap.size w'.heap.size b->b<w'.heap.size:=fun b hb=>hb.elim (fun x=>Nat.lt_of_lt_of_le (g.lt x) hu) (fun x=>x.2)
 rcases h with ⟨a,wr,rfl,c⟩|⟨r,wr,rfl,c⟩|⟨m,rfl,j⟩
 .refine ⟨fun x d hs=>?_,by simp,by simp,?_⟩
  .exfalso
   have e1:x.loc= .cell a:=by cases wr<;>simp[MemAct.ofEvent,MemAct.touch?] at d<;>rw[<-d]
   rw[e1] at hs
   rcases c with (c|c)|⟨_,c⟩
   .exact f _ hs (.inl c)
   .exact absurd (i _ hs) (by show ¬a.block<_;omega)
   .exact f _ hs (.inr c)
  .show a.block<_
   rcases c with c|⟨_,c⟩
   .exact hm _ c
   .exact Nat.lt_of_lt_of_le (g.ig c) hu
 .refine ⟨fun x d hs=>?_,by simp,by simp,?_⟩
  .exfalso
   have e1:x.loc= .obj r:=by cases wr<;>simp[MemAct.ofEvent,MemAct.touch?] at d<;>rw[<-d]
   rw[e1] at hs
   rcases c with c|c
   .exact f _ hs c
   .exact absurd (i _ hs) (by show ¬r<_;omega)
  .have:=hm _ c
   cases wr<;>exact this
 .cases m<;>simp[qm] at j<;>exact ⟨fun x d=>by simp[MemAct.ofEvent,MemAct.touch?] at d,by simp,by simp,trivial⟩
theorem j5.next {P:Program}{bD:Loc->Prop}{F F':aa}{w w':World}(d:∀l,bD l->¬F.gW l)(c:∀l,bD l->l.low w.heap.size)(hu:ef F F' w w'):
  (∀l,bD l->¬F'.gW l)/\(∀l,bD l->l.low w'.heap.size):=by
 refine ⟨fun l hs b=>?_,fun l hs=>Loc.low_mono hu.size (c l hs)⟩
 cases l with
 |cell a=>
  have h1:=c _ hs
  have h2:=d _ hs
  rcases b with b|b
  .rcases hu.own _ b with x|x
   .exact h2 (.inl x)
   .exact absurd h1 (by show ¬a.block<_;omega)
  .rcases hu.ro _ b with x|x|x
   .exact h2 (.inr x)
   .exact h2 (.inl x)
   .exact absurd h1 (by show ¬a.block<_;omega)
 |obj r=>
  have h1:=c _ hs
  rcases hu.own _ b with x|x
  .exact d _ hs x
  .exact absurd h1 (by show ¬r<_;omega)
 |_=>exact b
theorem Le.gW {F F':aa}(h:Le F F'){l:Loc}(b:F.gW l):F'.gW l:=by
 cases l with
 |cell a=>exact b.elim (fun x=>.inl (h.own _ x)) (fun x=>(h.ro _ x).elim .inr .inl)
 |obj r=>exact h.own _ b
 |_=>exact b
theorem fB.le {F G H:aa}{w w':World}(h:Le F G)(u:fB F H w w'):fB G H w w' where
 os:=u.os
 tape:=u.tape
 output:=u.output
 size:=u.size
 frame b hb c:=u.frame b hb (fun x=>c (h.own b x))
 ro a x:=by
  rcases u.ro a x with y|y|y
  .exact (h.ro a y).imp id .inl
  .exact .inr (.inl (h.own _ y))
  .exact .inr (.inr y)
 own b hb:=(u.own b hb).imp (h.own b) id
end Go.Sep
end
section
namespace Go.Sep
open Go Go.Conc
def aa.cx (F:aa):aa:={ro:=F.get,own:=[]}
theorem Has.cx {F:aa}{w:World}(h:Has F w):Has F.cx w:=
 ⟨fun a v c=>h.reads c,fun b o hb=>(by cases hb),List.nodup_nil,fun a v c hm=>(by cases hm)⟩
def aa.star (G F:aa):aa:=
 {ro:=fun a=>match F.ro a with
   |some v=>some v
   |none=>if a.block∈keys F.own then none else G.ro a
  own:=G.own++F.own}
structure Fits (F G:aa):Prop where
 wB:∃w,Has G w/\Has F w
 own:∀b,b∈keys G.own->b∉keys F.own
 ro:∀a,(F.ro a).isSome=true->a.block∉keys G.own
theorem cr (l l':List (Nat×Obj)):keys (l++l')=keys l++keys l':=List.map_append
theorem Fits.left {F G:aa}(h:Fits F G){w:World}(hw:Has (G.star F) w):Has F w where
 ro a v c:=hw.ro a v (by simp[aa.star,c])
 own b o hb:=hw.own b o (List.mem_append_right _ hb)
 nodup:=by
  have:=hw.nodup
  simp only[aa.star,cr] at this
  exact (List.nodup_append.1 this).2.1
 apart a v c hm:=by
  have:=hw.apart a v (by simp[aa.star,c])
  simp only[aa.star,cr,List.mem_append,not_or] at this
  exact this.2 hm
theorem Fits.right {F G:aa}(h:Fits F G){w:World}(hw:Has (G.star F) w):Has G w:=by
 obtain ⟨j,c,g⟩:=h.wB;refine ⟨fun a v i=>?_,fun b o hb=>hw.own b o (List.mem_append_left _ hb),c.nodup,c.apart⟩;have h0:=c.ro a v i;cases d:F.ro a with
 |some f=>
  have e:f=v:=by have:=g.ro a f d;rw[h0] at this;exact (Option.some.inj this).symm
  exact e▸hw.ro a f (by simp[aa.star,d])
 |none=>
  by_cases hb:a.block∈keys F.own
  .obtain ⟨⟨b,o⟩,hm,e⟩:=List.mem_map.1 hb;simp only at e;subst e;have h1:=g.own _ o hm;have h2:=hw.own _ o (List.mem_append_right _ hm);unfold World.cell? at h0 ⊢;rw[h2];rw[h1] at h0;exact h0
  .exact hw.ro a v (by simp[aa.star,d,hb,i])
theorem Fits.both {F G:aa}(h:Fits F G){w:World}(d:Has G w)(f:Has F w):Has (G.star F) w where
 ro a v c:=by
  simp only[aa.star] at c
  split at c
  .rename_i x g;cases c;exact f.ro _ _ g
  .split at c
   .cases c
   .exact d.ro _ _ c
 own b o hb:=(List.mem_append.1 hb).elim (d.own b o) (f.own b o)
 nodup:=by
  simp only[aa.star,cr]
  exact List.nodup_append.2 ⟨d.nodup,f.nodup,fun a i b hb e=>h.own a i (e▸hb)⟩
 apart a v c hm:=by
  simp only[aa.star,cr,List.mem_append] at hm
  simp only[aa.star] at c
  split at c
  .rename_i x g
   rcases hm with hm|hm
   .exact h.ro a (by simp[g]) hm
   .exact f.apart a x g hm
  .split at c
   .cases c
   .rename_i j
    rcases hm with hm|hm
    .exact d.apart a v c hm
    .exact j hm
theorem Fits.le {F G c:aa}(hle:Le G c)(h:Fits F c):Fits F G where
 wB:=let ⟨w,h1,h2⟩:=h.wB;⟨w,hle.has w h1,h2⟩
 own b hb:=h.own b (hle.own b hb)
 ro a d hm:=h.ro a d (hle.own _ hm)
def AR (J:Goroutine->aa->Prop)(F:aa)(g:Goroutine)(G:aa):Prop:=Fits F G->J g (G.star F)
theorem kR {F G:aa}{a:Addr}(h:((G.star F).ro a).isSome=true):(F.ro a).isSome=true\/(G.ro a).isSome=true:=by
 simp only[aa.star] at h;split at h
 .rename_i x b;exact .inl (by simp[b])
 .split at h
  .cases h
  .exact .inr h
theorem gX {F G:aa}{a:Addr}(h:(F.ro a).isSome=true\/(G.ro a).isSome=true):((G.star F).ro a).isSome=true\/a.block∈keys F.own:=by
 by_cases hb:a.block∈keys F.own
 .exact .inr hb
 .left;simp only[aa.star];split
  .rfl
  .rename_i b;rw[if_neg hb];rcases h with h|h
   .simp[b] at h
   .exact h
theorem FH {P:Program}{main:Bool}{J:Goroutine->aa->Prop}(hJ:Closed P main J)(F:aa):Closed P main (AR J F) where
 mono {g G E} hle h c:=by
  have k:=c.le hle
  refine hJ.mono ⟨fun w hw=>k.both (hle.has w (c.right hw)) (c.left hw),fun b hb=>?_,fun a f=>?_⟩ (h k)
  .simp only[aa.star,cr,List.mem_append] at hb ⊢
   exact hb.imp (hle.own b) id
  .rcases kR f with x|x
   .exact (gX (.inl x)).imp id (fun y=>by simp only[aa.star,cr,List.mem_append];exact .inr y)
   .rcases hle.ro a x with y|y
    .exact (gX (.inr y)).imp id (fun z=>by simp only[aa.star,cr,List.mem_append];exact .inr z)
    .exact .inr (by simp only[aa.star,cr,List.mem_append];exact .inl y)
 step {fr cs G} h c:=by
  refine hJ.step fun w hw=>?_
  have t:=c.right hw
  have d:=c.left hw
  obtain ⟨g',w',es,l,hgo,hu,n,u,A⟩:=h w t
  have p:Has F w':=by
   refine ⟨fun a v j=>?_,fun b o hb=>?_,d.nodup,d.apart⟩
   .have h0:=d.ro a v j
    have B:=d.ig (a:=a) (by simp[j])
    unfold World.cell? at h0 ⊢
    rw[hu.frame _ B (c.ro a (by simp[j]))]
    exact h0
   .rw[hu.frame b (d.lt (e6 hb)) (fun hm=>c.own b hm (e6 hb))]
    exact d.own b o hb
  have q:Fits F l:=by
   refine ⟨⟨w',n,p⟩,fun b hb hm=>?_,fun a f hm=>?_⟩
   .rcases hu.own b hb with x|x
    .exact c.own b x hm
    .have:=d.lt hm;omega
   .rcases hu.own _ hm with x|x
    .exact c.ro a f x
    .have:=d.ig f;omega
  refine ⟨g',w',es,l.star F,hgo,⟨hu.os,hu.tape,hu.output,hu.size,fun b hb C=>hu.frame b hb fun hm=>C ?_,fun a f=>?_,fun b hb=>?_⟩,q.both n p,fun e he=>?_,A q⟩
  .simp only[aa.star,cr,List.mem_append];exact .inl hm
  .rcases kR f with x|x
   .exact (gX (.inl x)).imp id (fun y=>.inl (by simp only[aa.star,cr,List.mem_append];exact .inr y))
   .rcases hu.ro a x with y|y|y
    .exact (gX (.inr y)).imp id (fun z=>.inl (by simp only[aa.star,cr,List.mem_append];exact .inr z))
    .exact .inr (.inl (by simp only[aa.star,cr,List.mem_append];exact .inl y))
    .exact .inr (.inr y)
  .simp only[aa.star,cr,List.mem_append] at hb ⊢
   rcases hb with hb|hb
   .exact (hu.own b hb).imp .inl id
   .exact .inl (.inr hb)
  .have s:∀b,ie G w.heap.size w'.heap.size b->ie (G.star F) w.heap.size w'.heap.size b:=fun b hb=>hb.imp (fun x=>by simp only[aa.star,cr,List.mem_append];exact .inl x) id
   rcases u e he with ⟨a,wr,rfl,i|⟨D,i⟩⟩|⟨r,wr,rfl,i⟩|⟨m,rfl,hm⟩
   .exact .inl ⟨a,wr,rfl,.inl (s _ i)⟩
   .rcases gX (F:=F) (.inr i) with y|y
    .exact .inl ⟨a,wr,rfl,.inr ⟨D,y⟩⟩
    .exact .inl ⟨a,wr,rfl,.inl (.inl (by simp only[aa.star,cr,List.mem_append];exact .inr y))⟩
   .exact .inr (.inl ⟨r,wr,rfl,s _ i⟩)
   .exact .inr (.inr ⟨m,rfl,hm⟩)
theorem FI {P:Program}{f:FuncId}{args:Array Value}{F:aa}{R:Value->List (Nat×Obj)->Prop}(h:aF P f args F.cx (fun v G=>R v G.own)):
  aF P f args F (fun v G=>∃l,R v l/\G={ro:=F.ro,own:=l++F.own}):=by
 intro main J hJ c cs k
 by_cases hw:∃w,Has F w
 .obtain ⟨m,i⟩:=hw
  have j:Fits F F.cx:=⟨⟨m,i.cx,i⟩,fun b hb=>(by cases hb),fun a e hm=>(by cases hm)⟩
  have n:AR J F (G (Frame.enter P f args .normal) (c::cs)) F.cx:=by
   refine h main _ (FH hJ F) c cs fun v G o t=>?_
   have g:∀(a:Addr) (v:Value),F.ro a=some v->(G.star F).ro a=some v:=fun a v d=>by simp[aa.star,d]
   refine hJ.mono (F:={ro:=F.ro,own:=G.own++F.own}) ⟨fun w hw=>⟨fun a v d=>hw.ro a v (g a v d),hw.own,hw.nodup,fun a v d=>hw.apart a v (g a v d)⟩,fun b hb=>hb,fun a e=>?_⟩ (k v {ro:=F.ro,own:=G.own++F.own} ⟨G.own,o,rfl⟩)
   obtain ⟨p,q⟩:=Option.isSome_iff_exists.1 e
   exact .inl (by rw[g a p q];rfl)
  refine hJ.mono ⟨fun w hw=>j.both hw.cx hw,fun b hb=>?_,fun a e=>?_⟩ (n j)
  .simpa [aa.star,aa.cx] using hb
  .rcases kR e with x|x
   .exact .inl x
   .obtain ⟨v,r⟩:=Option.isSome_iff_exists.1 x
    exact (As r).symm
 .exact hJ.step fun w s=>absurd ⟨w,s⟩ hw
theorem wC {P:Program}{f:FuncId}{args:Array Value}{F:aa}{R:Value->Prop}(h:aF P f args F.cx (fun v _=>R v)):aF P f args F (fun v G=>R v/\G=F):=by
 intro main J hJ c cs d;refine FI (R:=fun v _=>R v) h main J hJ c cs fun v G e=>?_;obtain ⟨l,g,rfl⟩:=e;refine hJ.mono (F:=F) ⟨fun w hw=>⟨hw.ro,fun b o hb=>hw.own b o (List.mem_append_right _ hb),?_,fun a v i hm=>hw.apart a v i ?_⟩,fun b hb=>?_,fun a j=>.inl j⟩ (d v F ⟨g,rfl⟩)
 .have:=hw.nodup;simp only[cr] at this;exact (List.nodup_append.1 this).2.1
 .simp only[cr,List.mem_append];exact .inr hm
 .simp only[cr,List.mem_append];exact .inr hb
end Go.Sep
end
section
namespace Go.Sep
inductive Rk:Type 1
 |mk (ι:Type) (f:ι->Rk)
namespace Rk
def kids:Rk->Rk->Prop
 | .mk ι f,r=>∃i,r=f i
theorem wf:WellFounded (fun a b:Rk=>kids b a):=⟨fun r=>by
 induction r with
 |mk ι f ih=>exact ⟨_,fun b h=>by obtain ⟨i,rfl⟩:=h;exact ih i⟩⟩
def nat:Nat->Rk
 |0=>.mk Empty fun x=>x.elim
 |n+1=>.mk Unit fun _=>nat n
theorem AS (n:Nat):kids (nat (n+1)) (nat n):=⟨(),rfl⟩
end Rk
def sM (n:Nat)(ρ' ρ:Nat->Rk):Prop:=∃i,i<n/\(ρ i).kids (ρ' i)/\∀j,j≠i->ρ' j=ρ j
theorem AT:∀n,WellFounded (sM n)
 |0=>⟨fun ρ=>⟨_,fun _ ⟨i,hi,_⟩=>absurd hi (Nat.not_lt_zero i)⟩⟩
 |n+1=>by
  refine ⟨fun ρ=>?_⟩
  have key:∀(a:Rk) (ρ:Nat->Rk),ρ n=a->Acc (sM (n+1)) ρ:=by
   intro a
   induction Rk.wf.apply a with
   |intro a _ f=>
    intro ρ
    induction (AT n).apply ρ with
    |intro ρ _ g=>
     intro b
     refine ⟨_,fun ρ' ⟨i,hi,c,d⟩=>?_⟩
     by_cases h:i=n
     .subst h
      exact f (ρ' i) (by rw[<-b];exact c) ρ' rfl
     .refine g ρ' ⟨i,by omega,c,d⟩ ?_
      rw[d n (fun e=>h e.symm)];exact b
  exact key _ ρ rfl
def AU (n:Nat)(a x:(Nat->Rk)×Nat):Prop:=sM n a.1 x.1\/(a.1=x.1/\a.2<x.2)
theorem AV (n:Nat):WellFounded (AU n):=by
 refine ⟨fun ⟨ρ,m⟩=>?_⟩
 induction (AT n).apply ρ generalizing m with
 |intro ρ _ b=>
  induction m using Nat.strongRecOn with
  |_ m c=>
   refine ⟨_,fun ⟨ρ',a⟩ h=>?_⟩;rcases h with h|⟨rfl,h⟩
   .exact b ρ' h a
   .exact c a h
end Go.Sep
end

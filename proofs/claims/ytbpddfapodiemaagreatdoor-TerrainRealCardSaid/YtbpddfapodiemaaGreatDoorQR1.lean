/- A part of the proof: QR1. -/
import Derived.Attr
import Derived.KernelRfl
import Derived.Conc.Own
import Derived.Conc.Events
import Derived.Conc.Beside
import Derived.Conc.Listed
import Derived.Orders
import Derived.Conc.MuSpec
set_option linter.all false
section
namespace Go
theorem aa {Q:Prop}(e:Q:=by omega):Q:=e
theorem aj {Q:Prop}(e:Q:=by kernel_rfl):Q:=e
theorem aB {Q:Prop}(e:Q:=by decide):Q:=e
theorem au {Q:Prop}(e:Q:=by simp):Q:=e
theorem aN {Q:Prop}(e:Q:=by simp only[*,go_sem]):Q:=e
theorem ay {Q:Prop}(e:Q:=by simp only[*,go_sem,-hM,-hJ]):Q:=e
theorem cE {Q:Prop}(e:Q:=by first|(simp only[*,go_sem,-hK,-hM,-hJ];done)|rfl):Q:=e
theorem ej {Q:Prop}(e:Q:=by first|(simp only[*,go_sem,-hK,-hM,-hJ];done)|(simp only[*,go_sem,-hK,-hM,-hJ];rfl)):Q:=e
theorem ep {Q:Prop}(e:Q:=by simp only[*,go_sem,-hK,-hM,-hJ]):Q:=e
theorem dI {Q:Prop}(e:Q:=by simp only[*,go_sem,-h]):Q:=e
theorem cW {Q:Prop}(e:Q:=by simp (maxSteps:=9^9) only[*,go_sem]):Q:=e
theorem ag {Q P:Prop}(h:P)(e:Q=P:=by conv=>lhs;simp only[*,go_sem]):Q:=e▸h
theorem bY {Q P:Prop}(h:P)(e:Q=P:=by conv=>lhs;simp only[*,go_sem,-h]):Q:=e▸h
theorem aT {Q P:Prop}(h:P)(e:Q=P:=by conv=>lhs;simp (maxSteps:=9^9) only[*,go_sem]):Q:=e▸h
theorem b9 {Q P:Prop}(h:P)(e:Q=P:=by conv=>lhs;simp only[*,go_sem,-hK,-hM,-hJ]):Q:=e▸h
end Go
end
section
namespace Go.Sep
open Go Go.Conc
theorem bw {α:Type}:(∀l:List α,l++[]=l)/\(∀(a:α) l m,(a::l)++m=a::(l++m))/\(∀l:List α,[]++l=l)/\(∀l m n:List α,l++m++n=l++(m++n)):=⟨List.append_nil,fun _ _ _=>rfl,fun _=>rfl,List.append_assoc⟩
structure af where
 ro:Addr->Option Value
 own:List (Nat×Obj)
def keys (l:List (Nat×Obj)):List Nat:=l.map (·.1)
def cellOf:Obj->Nat->Option Value
 | .cells c _ _,off=>c[off]?
 |_,_=>none
def lk:List (Nat×Obj)->Nat->Option Obj
 |[],_=>none
 |(c,o)::l,b=>if c=b then some o else lk l b
def jw:List (Nat×Obj)->Nat->Obj->List (Nat×Obj)
 |[],_,_=>[]
 |(c,o)::l,b,x=>if c=b then (c,x)::l else (c,o)::jw l b x
theorem iz:∀{l:List (Nat×Obj)} {b:Nat} {o:Obj},lk l b=some o->(b,o)∈l
 |[],_,_,h=>by cases h
 |(c,x)::l,b,o,h=>by
  unfold lk at h
  split at h
  .rename_i e;cases h;exact e▸List.mem_cons_self
  .exact List.mem_cons_of_mem _ (iz h)
theorem sM:∀(l:List (Nat×Obj)) (b:Nat) (x:Obj),keys (jw l b x)=keys l
 |[],_,_=>rfl
 |(c,o)::l,b,x=>by
  unfold jw
  split
  .rfl
  .simp only[keys,List.map_cons];exact congrArg _ (sM l b x)
theorem Ac:∀{l:List (Nat×Obj)} {b:Nat} {x:Obj},(keys l).Nodup->∀{c:Nat} {y:Obj},(c,y)∈jw l b x->(c=b/\y=x)\/(c≠b/\(c,y)∈l)
 |[],_,_,_,_,_,h=>by cases h
 |(d,o)::l,b,x,a,c,y,h=>by
  simp only[keys,List.map_cons,List.nodup_cons] at a
  unfold jw at h
  split at h
  .rename_i e
   rcases List.mem_cons.1 h with h|h
   .cases h;exact .inl ⟨e,rfl⟩
   .refine .inr ⟨fun f=>a.1 ?_,List.mem_cons_of_mem _ h⟩
    rw[e,<-f]
    exact List.mem_map.2 ⟨_,h,rfl⟩
  .rename_i e
   rcases List.mem_cons.1 h with h|h
   .cases h;exact .inr ⟨e,List.mem_cons_self⟩
   .exact (Ac a.2 h).imp id (fun z=>⟨z.1,List.mem_cons_of_mem _ z.2⟩)
def af.get (F:af)(a:Addr):Option Value:=
 match F.ro a with
 |some v=>some v
 |none=>if a.spot=none then (lk F.own a.block).bind (cellOf · a.off) else none
structure Has (F:af)(w:World):Prop where
 ro:∀a v,F.ro a=some v->w.cell? a=some v
 own:∀b o,(b,o)∈F.own->w.heap[b]?=some o
 nodup:(keys F.own).Nodup
 apart:∀a v,F.ro a=some v->a.block∉keys F.own
theorem Has.reads {F:af}{w:World}(h:Has F w){a:Addr}{v:Value}(r:F.get a=some v):w.cell? a=some v:=by
 unfold af.get at r;split at r
 .rename_i x b;cases r;exact h.ro _ _ b
 .split at r
  .rename_i hs;obtain ⟨o,c,hc⟩:=Option.bind_eq_some_iff.1 r;have:=h.own _ _ (iz c);cases o<;>simp[cellOf] at hc;simp[World.cell?,this,hs,hc]
  .cases r
theorem Ad {F:af}{a:Addr}{v:Value}(r:F.get a=some v):a.block∈keys F.own\/(F.ro a).isSome=true:=by
 unfold af.get at r;split at r
 .rename_i x b;exact .inr (by simp[b])
 .split at r
  .obtain ⟨o,c,_⟩:=Option.bind_eq_some_iff.1 r;exact .inl (List.mem_map.2 ⟨_,iz c,rfl⟩)
  .cases r
structure eA (F F':af)(w w':World):Prop where
 os:w'.os=w.os
 tape:w'.tape=w.tape
 output:w'.output=w.output
 size:w.heap.size<=w'.heap.size
 frame:∀b,b<w.heap.size->b∉keys F.own->w'.heap[b]?=w.heap[b]?
 ro:∀a,(F'.ro a).isSome=true->(F.ro a).isSome=true\/a.block∈keys F.own\/w.heap.size<=a.block
 own:∀b,b∈keys F'.own->b∈keys F.own\/w.heap.size<=b
theorem eA.refl (F:af)(w:World):eA F F w w:=⟨rfl,rfl,rfl,Nat.le_refl _,fun _ _ _=>rfl,fun _ h=>.inl h,fun _ h=>.inl h⟩
theorem eA.trans {F G H:af}{u v w:World}(h:eA F G u v)(k:eA G H v w):eA F H u w where
 os:=k.os.trans h.os
 tape:=k.tape.trans h.tape
 output:=k.output.trans h.output
 size:=Nat.le_trans h.size k.size
 frame b hb c:=by
  rw[k.frame b (Nat.lt_of_lt_of_le hb h.size) (fun d=>(h.own b d).elim c (fun e=>absurd hb aa))]
  exact h.frame b hb c
 ro a x:=by
  rcases k.ro a x with y|y|y
  .exact h.ro a y
  .exact .inr (h.own _ y)
  .exact .inr (.inr (Nat.le_trans h.size y))
 own b hb:=by
  rcases k.own b hb with x|x
  .exact h.own b x
  .exact .inr (Nat.le_trans h.size x)
def qo:Mark->Bool
 | .extern _| .noRoom=>true
 |_=>false
def jx (ro:Addr->Option Value)(ks:Nat->Prop)(e:Event):Prop:=
 (∃a wr,e=⟨.cell a,wr,false⟩/\(ks a.block\/(wr=false/\(ro a).isSome=true)))\/
 (∃r wr,e=⟨.obj r,wr,false⟩/\ks r)\/
 (∃m,e=⟨.mark m,false,true⟩/\qo m=true)
theorem jx.mono {ro aW:Addr->Option Value}{ks c:Nat->Prop}{e:Event}(h:jx ro ks e)(f:∀a,(ro a).isSome=true->(aW a).isSome=true)(d:∀b,ks b->c b):jx aW c e:=by
 rcases h with ⟨a,wr,rfl,h⟩|⟨r,wr,rfl,h⟩|⟨m,rfl,hm⟩
 .exact .inl ⟨a,wr,rfl,h.imp (d _) (fun ⟨x,y⟩=>⟨x,f _ y⟩)⟩
 .exact .inr (.inl ⟨r,wr,rfl,d _ h⟩)
 .exact .inr (.inr ⟨m,rfl,hm⟩)
def iA (F:af)(n m:Nat)(b:Nat):Prop:=b∈keys F.own\/(n<=b/\b<m)
theorem fD {l:List (Nat×Obj)}{b:Nat}{o:Obj}(h:(b,o)∈l):b∈keys l:=List.mem_map.2 ⟨_,h,rfl⟩
theorem Has.lt {F:af}{w:World}(h:Has F w){b:Nat}(hb:b∈keys F.own):b<w.heap.size:=by
 obtain ⟨⟨c,o⟩,hm,rfl⟩:=List.mem_map.1 hb;have:=h.own c o hm;rcases Nat.lt_or_ge c w.heap.size with x|x
 .exact x
 .simp[Array.getElem?_eq_none x] at this
theorem Has.iB {F:af}{w:World}(h:Has F w){a:Addr}(b:(F.ro a).isSome=true):a.block<w.heap.size:=by
 obtain ⟨v,c⟩:=Option.isSome_iff_exists.1 b;have:=h.ro a v c;unfold World.cell? at this;rcases Nat.lt_or_ge a.block w.heap.size with x|x
 .exact x
 .simp[Array.getElem?_eq_none x] at this
def af.push (F:af)(b:Nat)(o:Obj):af:={F with own:=(b,o)::F.own}
def af.put (F:af)(b:Nat)(o:Obj):af:={F with own:=jw F.own b o}
def shapeOf:Obj->Option (TypeId×Nat)
 | .cells c elem _=>some (elem,c.size)
 |_=>none
def frozenAt:Obj->Nat->Bool
 | .cells _ _ (lo,hi),off=>lo<=off&&off<hi
 |_,_=>false
def Obj.qp:Obj->Bool
 | .cells ..=>true
 |_=>false
def bP:Value->Bool
 | .agg _| .tuple _=>false
 |_=>true
def af.mS (F:af)(a:Addr)(v:Value):Option af:=
 match lk F.own a.block with
 |some (.cells c t fr)=>if bP v=true/\a.spot=none/\a.off<c.size/\frozenAt (.cells c t fr) a.off=false then some (F.put a.block (.cells (c.setIfInBounds a.off v) t fr)) else none
 |_=>none
def af.fL (F:af)(r:Nat):Option Obj:=
 match lk F.own r with
 |some o=>if Obj.qp o=false/\o.isChan=false then some o else none
 |none=>none
def av:List (Nat×Obj)->Nat->Prop
 |[],_=>True
 |(c,_)::l,b=>¬b=c/\av l b
theorem Ae:∀{l:List (Nat×Obj)} {b:Nat},(∀x∈keys l,¬b=x)->av l b
 |[],_,_=>trivial
 |(c,_)::l,b,h=>⟨h c (by simp[keys]),Ae fun x a=>h x (by simp only[keys,List.map_cons,List.mem_cons];exact .inr a)⟩
structure eB (F:af)(b:Nat):Prop where
 ro:∀off sp,F.ro ⟨b,off,sp⟩=none
 own:av F.own b
def bu {α:Type}(P:Program):Sem α->(α->af->Prop)->af->Prop
 | .pure a,Q,F=>Q a F
 | .load m a k,Q,F=>m= .plain/\∃v,F.get a=some v/\bu P (k v) Q F
 | .store m a v k,Q,F=>m= .plain/\∃F',F.mS a v=some F'/\bu P k Q F'
 | .new o k,Q,F=>o.isChan=false/\∀b,eB F b->bu P (k b) Q (F.push b o)
 | .shape r k,Q,F=>match lk F.own r with
  |some o=>bu P (k (shapeOf o)) Q F
  |none=>∀s,bu P (k s) Q F
 | .freeze _ _ _,_,_=>False
 | .frozen a k,Q,F=>match lk F.own a.block with
  |some o=>bu P (k (frozenAt o a.off)) Q F
  |none=>∀s,bu P (k s) Q F
 | .getObj r k,Q,F=>∃o,F.fL r=some o/\bu P (k o) Q F
 | .setObj r o k,Q,F=>o.isChan=false/\(F.fL r).isSome=true/\bu P k Q (F.put r o)
 | .choose q k,Q,F=>if q.forced then bu P (k 0) Q F else ∀t,bu P (k (q.cut t)) Q F
 | .sys _ _,_,_=>False
 | .program k,Q,F=>bu P (k P) Q F
 | .mark m k,Q,F=>qo m=true/\bu P k Q F
 | .halt _,_,_=>False
theorem iC {α:Type}{P:Program}{Q f:α->af->Prop}(h:∀a F,Q a F->f a F):∀(s:Sem α) (F:af),bu P s Q F->bu P s f F:=by
 intro s
 induction s with
 |pure a=>exact fun F x=>h _ _ x
 |load m a k ih=>exact fun F ⟨x,v,y,z⟩=>⟨x,v,y,ih _ _ z⟩
 |store m a v k ih=>exact fun F ⟨x,F',y,z⟩=>⟨x,F',y,ih _ z⟩
 |new o k ih=>exact fun F x=>⟨x.1,fun b hb=>ih _ _ (x.2 b hb)⟩
 |shape r k ih=>intro F x;unfold bu at x ⊢;split<;>rename_i d<;>rw[d] at x;exact ih _ _ x;exact fun s=>ih _ _ (x s)
 |freeze a n k ih=>exact fun F x=>x
 |frozen a k ih=>intro F x;unfold bu at x ⊢;split<;>rename_i d<;>rw[d] at x;exact ih _ _ x;exact fun s=>ih _ _ (x s)
 |getObj r k ih=>exact fun F ⟨o,x,z⟩=>⟨o,x,ih _ _ z⟩
 |setObj r o k ih=>exact fun F ⟨x,y,z⟩=>⟨x,y,ih _ z⟩
 |choose q k ih=>
  intro F x;unfold bu at x ⊢;split
  .rename_i e;rw[if_pos e] at x;exact ih _ _ x
  .rename_i e;rw[if_neg e] at x;exact fun t=>ih _ _ (x t)
 |sys c k ih=>exact fun F x=>x
 |program k ih=>exact fun F x=>ih _ _ x
 |mark m k ih=>exact fun F ⟨x,y⟩=>⟨x,ih _ y⟩
 |halt h=>exact fun F x=>x
theorem Af {α β:Type}{P:Program}{Q:β->af->Prop}{f:α->Sem β}:∀(s:Sem α) (F:af),bu P (s.bind f) Q F↔bu P s (fun a G=>bu P (f a) Q G) F:=by
 intro s
 induction s with
 |pure a=>exact fun F=>Iff.rfl
 |load m a k ih=>intro F;simp only[Sem.bind,bu,ih]
 |store m a v k ih=>intro F;simp only[Sem.bind,bu,ih]
 |new o k ih=>intro F;simp only[Sem.bind,bu,ih]
 |shape r k ih=>intro F;simp only[Sem.bind,bu,ih]
 |freeze a n k ih=>intro F;simp only[Sem.bind,bu]
 |frozen a k ih=>intro F;simp only[Sem.bind,bu,ih]
 |getObj r k ih=>intro F;simp only[Sem.bind,bu,ih]
 |setObj r o k ih=>intro F;simp only[Sem.bind,bu,ih]
 |choose q k ih=>intro F;simp only[Sem.bind,bu,ih]
 |sys c k ih=>intro F;simp only[Sem.bind,bu]
 |program k ih=>intro F;simp only[Sem.bind,bu,ih]
 |mark m k ih=>intro F;simp only[Sem.bind,bu,ih]
 |halt h=>intro F;simp only[Sem.bind,bu]
theorem Has.push {F:af}{w:World}(h:Has F w)(o:Obj):Has (F.push w.heap.size o) {w with heap:=w.heap.push o}:=by
 have f:∀b o,(b,o)∈F.own->b<w.heap.size:=fun b o hb=>by
  have:=h.own b o hb;rcases Nat.lt_or_ge b w.heap.size with x|x
  .exact x
  .simp[Array.getElem?_eq_none x] at this
 have g:w.heap.size∉keys F.own:=fun hm=>by
  obtain ⟨⟨b,x⟩,i,e⟩:=List.mem_map.1 hm;have:=f b x i;simp at e;omega
 refine ⟨fun a v d=>?_,fun b x hb=>?_,?_,fun a v d hm=>?_⟩
 .have:=h.ro a v d;unfold World.cell? at this ⊢;split at this
  .rename_i c t fr hc;have j:a.block<w.heap.size:=by
    rcases Nat.lt_or_ge a.block w.heap.size with x|x
    .exact x
    .simp[Array.getElem?_eq_none x] at hc
   rw[show (w.heap.push o)[a.block]?=w.heap[a.block]? from by rw[Array.getElem?_push,if_neg aa],hc];exact this
  .cases this
 .simp only[af.push,List.mem_cons] at hb;rcases hb with hb|hb
  .cases hb;simp
  .have:=f b x hb;show (w.heap.push o)[b]?=some x;rw[Array.getElem?_push,if_neg aa];exact h.own b x hb
 .simp only[af.push,keys,List.map_cons,List.nodup_cons];exact ⟨g,h.nodup⟩
 .simp only[af.push,keys,List.map_cons,List.mem_cons] at hm;rcases hm with hm|hm
  .have:=h.ro a v d;unfold World.cell? at this;rw[hm] at this;simp at this
  .exact h.apart a v d hm
theorem Has.fresh {F:af}{w:World}(h:Has F w):eB F w.heap.size:=by
 refine ⟨fun off sp=>?_,Ae fun x b e=>?_⟩
 .cases c:F.ro ⟨w.heap.size,off,sp⟩ with
  |none=>rfl
  |some v=>have:=h.iB (a:=⟨w.heap.size,off,sp⟩) (by simp[c]);simp at this
 .have:=h.lt b;omega
theorem Has.set {F:af}{w w':World}(h:Has F w){b:Nat}{o:Obj}(hm:b∈keys F.own)(hb:w'.heap[b]?=some o)(aL:∀c,c≠b->w'.heap[c]?=w.heap[c]?):Has (F.put b o) w':=by
 refine ⟨fun a v d=>?_,fun c y hc=>?_,?_,fun a v d=>?_⟩
 .have f:a.block≠b:=fun e=>h.apart a v d (e▸hm);have:=h.ro a v d;unfold World.cell? at this ⊢;rw[aL _ f];exact this
 .rcases Ac h.nodup hc with ⟨rfl,rfl⟩|⟨f,hm⟩
  .exact hb
  .rw[aL _ f];exact h.own _ _ hm
 .simp only[af.put,sM];exact h.nodup
 .simp only[af.put,sM];exact h.apart a v d
theorem eA.put {F:af}{w w':World}{b:Nat}{o:Obj}(hm:b∈keys F.own)(a:w'.os=w.os)(ht:w'.tape=w.tape)(d:w'.output=w.output)(hs:w'.heap.size=w.heap.size)(aL:∀c,c≠b->w'.heap[c]?=w.heap[c]?):eA F (F.put b o) w w' where
 os:=a
 tape:=ht
 output:=d
 size:=aa
 frame c _ f:=aL c (fun e=>f (e▸hm))
 ro _ h:=.inl h
 own c hc:=.inl (by simpa [af.put,sM] using hc)
theorem eA.push {F:af}{w:World}(o:Obj):eA F (F.push w.heap.size o) w {w with heap:=w.heap.push o} where
 os:=rfl
 tape:=rfl
 output:=rfl
 size:=au
 frame b hb _:=by show (w.heap.push o)[b]?=_;rw[Array.getElem?_push,if_neg aa]
 ro _ h:=.inl h
 own c hc:=by
  simp only[af.push,keys,List.map_cons,List.mem_cons] at hc
  rcases hc with rfl|hc
  .exact .inr (Nat.le_refl _)
  .exact .inl hc
structure mT {α:Type}(P:Program)(s:Sem α)(Q:α->af->Prop)(F:af)(w:World)(dm:Array Event)(a:α)(w':World)(F':af)(es:Array Event):Prop where
 run:s.runT P w dm=(.ok a w',dm++es)
 upd:eA F F' w w'
 has:Has F' w'
 iW:∀e∈es,jx F.ro (iA F w.heap.size w'.heap.size) e
 post:Q a F'
theorem mT.cons {α:Type}{P:Program}{s s':Sem α}{Q:α->af->Prop}{F c F':af}{w w1 w':World}{dm es:Array Event}{e:Event}{a:α}
  (h:mT P s' Q c w1 (dm.push e) a w' F' es) (g:s.runT P w dm=s'.runT P w1 (dm.push e)) (hu:eA F c w w1) (hb:Has c w1) (he:jx F.ro (· ∈keys F.own) e) (i:c.ro=F.ro):mT P s Q F w dm a w' F' (#[e]++es) where
 run:=by rw[g,h.run];simp
 upd:=hu.trans h.upd
 has:=h.has
 iW x d:=by
  simp only[Array.mem_append,List.mem_toArray,List.mem_singleton] at d
  rcases d with rfl|d
  .exact he.mono (fun _ h=>h) (fun _ h=>.inl h)
  .exact (h.iW x d).mono (fun a j=>by rw[<-i];exact j) (fun b f=>by
    rcases f with f|⟨k,l⟩
    .exact (hu.own b f).imp id (fun y=>⟨y,Nat.lt_of_lt_of_le (hb.lt f) h.upd.size⟩)
    .exact .inr ⟨Nat.le_trans hu.size k,l⟩)
 post:=h.post
theorem mT.skip {α:Type}{P:Program}{s s':Sem α}{Q:α->af->Prop}{F c F':af}{w w1 w':World}{dm es:Array Event}{a:α}
  (h:mT P s' Q c w1 dm a w' F' es) (e:s.runT P w dm=s'.runT P w1 dm) (hu:eA F c w w1) (hb:Has c w1) (f:c.ro=F.ro):mT P s Q F w dm a w' F' es where
 run:=by rw[e,h.run]
 upd:=hu.trans h.upd
 has:=h.has
 iW x g:=(h.iW x g).mono (fun a i=>by rw[<-f];exact i) (fun b d=>by
    rcases d with d|⟨j,k⟩
    .exact (hu.own b d).imp id (fun y=>⟨y,Nat.lt_of_lt_of_le (hb.lt d) h.upd.size⟩)
    .exact .inr ⟨Nat.le_trans hu.size j,k⟩)
 post:=h.post
theorem Has.drawn {F:af}{w:World}(h:Has F w)(n:Nat):Has F {w with drawn:=n}:=⟨h.ro,h.own,h.nodup,h.apart⟩
theorem eA.drawn (F:af)(w:World)(n:Nat):eA F F w {w with drawn:=n}:=⟨rfl,rfl,rfl,Nat.le_refl _,fun _ _ _=>rfl,fun _ h=>.inl h,fun _ h=>.inl h⟩
theorem lV {α:Type}{P:Program}{Q:α->af->Prop}:∀(s:Sem α) (F:af) (w:World) (dm:Array Event),bu P s Q F->Has F w->
  ∃a w' F' es,mT P s Q F w dm a w' F' es:=by
 intro s
 induction s with
 |pure a=>exact fun F w dm h hw=>⟨a,w,F,#[],by simp[Sem.runT],.refl _ _,hw,au,h⟩
 |load m a k ih=>
  rintro F w dm ⟨rfl,v,B,h⟩ hw
  obtain ⟨x,w',F',es,H⟩:=ih v F w (dm.push ⟨.cell a,false,false⟩) h hw
  refine ⟨x,w',F',_,H.cons ?_ (.refl _ _) hw (.inl ⟨a,false,rfl,(Ad B).imp id fun y=>⟨rfl,y⟩⟩) rfl⟩
  have:=hw.reads B
  simp only[Sem.runT,this]
  rfl
 |store m a v k ih=>
  rintro F w dm ⟨rfl,K,i,h⟩ hw
  unfold af.mS at i
  split at i
  case h_2=>cases i
  rename_i c t fr j
  split at i
  case isFalse=>cases i
  rename_i hc
  obtain ⟨D,C,E,G⟩:=hc
  cases i
  have d:=iz j
  have hb:=hw.own _ _ d
  have u:(w.setCell a v).heap[a.block]?=some (.cells (c.setIfInBounds a.off v) t fr):=by
   simp[World.setCell,Array.getElem?_modify,hb,C]
  have aL:∀b,b≠a.block->(w.setCell a v).heap[b]?=w.heap[b]?:=by
   intro b aL
   simp only[World.setCell]
   rw[Array.getElem?_modify,if_neg (fun e=>aL e.symm)]
  have l:=hw.set (o:=.cells (c.setIfInBounds a.off v) t fr) (fD d) u aL
  obtain ⟨x,w',F',es,H⟩:=ih _ (w.setCell a v) (dm.push ⟨.cell a,true,false⟩) h l
  refine ⟨x,w',F',_,H.cons ?_ (eA.put (fD d) rfl rfl rfl (by simp[World.setCell]) aL) l (.inl ⟨a,true,rfl,.inl (fD d)⟩) rfl⟩
  have hc:w.cell? a=some c[a.off]:=by simp[World.cell?,hb,C,E]
  have I:w.frozen? a=false:=by
   have:w.frozen? a=frozenAt (.cells c t fr) a.off:=by
    obtain ⟨lo,hi⟩:=fr
    simp[World.frozen?,hb,frozenAt]
   rw[this,G]
  cases v<;>simp[bP] at D<;>simp only[Sem.runT,hc,I]<;>rfl
 |new o k ih=>
  intro F w dm h hw
  obtain ⟨x,w',F',es,H⟩:=ih w.heap.size (F.push w.heap.size o) {w with heap:=w.heap.push o} dm (h.2 _ hw.fresh) (hw.push o)
  exact ⟨x,w',F',es,H.skip (by simp only[Sem.runT]) (eA.push o) (hw.push o) rfl⟩
 |shape r k ih=>
  intro F w dm h hw
  have:bu P (k (w.shape? r)) Q F:=by
   unfold bu at h
   split at h
   .rename_i o f
    have e:w.shape? r=shapeOf o:=by
     have:=hw.own _ _ (iz f)
     cases o<;>simp[World.shape?,this,shapeOf]
    rw[e];exact h
   .exact h _
  obtain ⟨x,w',F',es,H⟩:=ih _ F w dm this hw
  exact ⟨x,w',F',es,H.skip (by simp only[Sem.runT]) (.refl _ _) hw rfl⟩
 |freeze a n k ih=>exact fun F w dm h hw=>h.elim
 |frozen a k ih=>
  intro F w dm h hw
  have:bu P (k (w.frozen? a)) Q F:=by
   unfold bu at h
   split at h
   .rename_i o f
    have e:w.frozen? a=frozenAt o a.off:=by
     have:=hw.own _ _ (iz f)
     cases o<;>simp[World.frozen?,this,frozenAt]
    rw[e];exact h
   .exact h _
  obtain ⟨x,w',F',es,H⟩:=ih _ F w dm this hw
  exact ⟨x,w',F',es,H.skip (by simp only[Sem.runT]) (.refl _ _) hw rfl⟩
 |getObj r k ih=>
  rintro F w dm ⟨o,f,h⟩ hw
  unfold af.fL at f
  split at f
  case h_2=>cases f
  rename_i o' j
  split at f
  case isFalse=>cases f
  rename_i z
  cases f
  obtain ⟨x,w',F',es,H⟩:=ih _ F w (dm.push ⟨.obj r,false,false⟩) h hw
  refine ⟨x,w',F',_,H.cons ?_ (.refl _ _) hw (.inr (.inl ⟨r,false,rfl,fD (iz j)⟩)) rfl⟩
  have:=hw.own _ _ (iz j)
  obtain ⟨hc,A⟩:=z
  cases o<;>simp[Obj.qp] at hc<;>simp only[Sem.runT,this,A]<;>rfl
 |setObj r o k ih=>
  rintro F w dm ⟨A,g,h⟩ hw
  obtain ⟨x,g⟩:=Option.isSome_iff_exists.1 g
  unfold af.fL at g
  split at g
  case h_2=>cases g
  rename_i L j
  split at g
  case isFalse=>cases g
  rename_i z
  cases g
  have d:=iz j
  have hb:=hw.own _ _ d
  have J:r<w.heap.size:=hw.lt (fD d)
  have u:({w with heap:=w.heap.setIfInBounds r o}:World).heap[r]?=some o:=by simp[J]
  have aL:∀b,b≠r->({w with heap:=w.heap.setIfInBounds r o}:World).heap[b]?=w.heap[b]?:=fun b aL=>by
   simp[Array.getElem?_setIfInBounds,Ne.symm aL]
  have l:=hw.set (w':={w with heap:=w.heap.setIfInBounds r o}) (o:=o) (fD d) u aL
  obtain ⟨y,w',F',es,H⟩:=ih (F.put r o) {w with heap:=w.heap.setIfInBounds r o} (dm.push ⟨.obj r,true,false⟩) h l
  refine ⟨y,w',F',_,H.cons ?_ (eA.put (fD d) rfl rfl rfl au aL) l (.inr (.inl ⟨r,true,rfl,fD d⟩)) rfl⟩
  obtain ⟨hc,_⟩:=z
  cases x<;>simp[Obj.qp] at hc<;>simp only[Sem.runT,hb,A]
 |choose q k ih=>
  intro F w dm h hw
  unfold bu at h
  by_cases p:q.forced=true
  .rw[if_pos p] at h
   obtain ⟨x,w',F',es,H⟩:=ih _ F w dm h hw
   exact ⟨x,w',F',es,H.skip (by simp only[Sem.runT,p,if_true]) (.refl _ _) hw rfl⟩
  .rw[if_neg p] at h
   obtain ⟨x,w',F',es,H⟩:=ih (q.cut (w.tape w.drawn q)) F {w with drawn:=w.drawn+1} dm (h _) (hw.drawn _)
   exact ⟨x,w',F',es,H.skip (by simp only[Sem.runT,if_neg p]) (.drawn _ _ _) (hw.drawn _) rfl⟩
 |sys c k ih=>exact fun F w dm h hw=>h.elim
 |program k ih=>
  intro F w dm h hw
  obtain ⟨x,w',F',es,H⟩:=ih P F w dm h hw
  exact ⟨x,w',F',es,H.skip (by simp only[Sem.runT]) (.refl _ _) hw rfl⟩
 |mark m k ih=>
  rintro F w dm ⟨hm,h⟩ hw
  obtain ⟨x,w',F',es,H⟩:=ih F w (dm.push ⟨.mark m,false,true⟩) h hw
  exact ⟨x,w',F',_,H.cons (by simp only[Sem.runT]) (.refl _ _) hw (.inr (.inr ⟨m,rfl,hm⟩)) rfl⟩
 |halt h=>exact fun F w dm h hw=>h.elim
def on (b:Frame)(a:Act)(todo:List Item):Frame:={b with tmps:=a.tmps,todo:=todo,defers:=a.defers,mode:=.run}
structure Le (F F':af):Prop where
 has:∀w,Has F' w->Has F w
 own:∀b,b∈keys F.own->b∈keys F'.own
 ro:∀a,(F.ro a).isSome=true->(F'.ro a).isSome=true\/a.block∈keys F'.own
theorem Le.refl (F:af):Le F F:=⟨fun _ h=>h,fun _ h=>h,fun _ h=>.inl h⟩
theorem Le.trans {F G H:af}(h:Le F G)(k:Le G H):Le F H:=
 ⟨fun w x=>h.has w (k.has w x),fun b x=>k.own b (h.own b x),fun a x=>(h.ro a x).elim (k.ro a) (fun y=>.inr (k.own _ y))⟩
def E0 (P:Program)(main:Bool)(J:Goroutine->af->Prop)(g:Goroutine)(F:af)(w:World):Prop:=
 ∃g' w' es F',stepG P main g w= .go g' w' es/\eA F F' w w'/\Has F' w'/\(∀e∈es,jx F.ro (iA F w.heap.size w'.heap.size) e)/\J g' F'
structure Closed (P:Program)(main:Bool)(J:Goroutine->af->Prop):Prop where
 mono:∀{g F F'},Le F F'->J g F->J g F'
 step:∀{fr cs F},(∀w,Has F w->E0 P main J (G fr cs) F w)->J (G fr cs) F
def dn (P:Program)(J:Goroutine->af->Prop)(f:FuncId)(args:Array Value)(F:af)(R:Value->af->Prop):Prop:=
 ∀(c:Frame) (cs:List Frame),(∀v F',R v F'->J (G (c.finish v) cs) F')->J (G (Frame.enter P f args .normal) (c::cs)) F
def aD (P:Program)(f:FuncId)(args:Array Value)(F:af)(R:Value->af->Prop):Prop:=
 ∀(main:Bool) (J:Goroutine->af->Prop),Closed P main J->dn P J f args F R
section
variable {P:Program}{main:Bool}{J:Goroutine->af->Prop}
theorem dn.mono {f:FuncId}{args:Array Value}{F:af}{R a:Value->af->Prop}(h:dn P J f args F R)(b:∀v F',R v F'->a v F'):dn P J f args F a:=
 fun c cs k=>h c cs fun v F' r=>k v F' (b v F' r)
theorem aD.mono {f:FuncId}{args:Array Value}{F:af}{R a:Value->af->Prop}(h:aD P f args F R)(b:∀v F',R v F'->a v F'):aD P f args F a:=
 fun m J hJ=>(h m J hJ).mono b
theorem Closed.move (hJ:Closed P main J){fr fr':Frame}{cs cs':List Frame}{F:af}(hs:∀w,stepG P main (G fr cs) w= .go (G fr' cs') w #[])(h:J (G fr' cs') F):J (G fr cs) F:=
 hJ.step fun w hw=>⟨_,w,#[],F,hs w,.refl _ _,hw,au,h⟩
variable {b:Frame}{a:Act}{k:List Item}{cs:List Frame}{F:af}
theorem Ah {w:World}:stepG P main (G (on b a (.code .skip::k)) cs) w= .go (G (on b a k) cs) w #[]:=by simp[G,stepG,stepG.exec,on]
theorem E1 {l:Nat}{w:World}:stepG P main (G (on b a (.code (.label l)::k)) cs) w= .go (G (on b a k) cs) w #[]:=by simp[G,stepG,stepG.exec,on]
theorem Ai {id:Nat}{w:World}:stepG P main (G (on b a (.inBlock id::k)) cs) w= .go (G (on b a k) cs) w #[]:=by simp[G,stepG,stepG.exec,on]
theorem E2 {c:Code}{w:World}:stepG P main (G (on b a (.inScope c::k)) cs) w= .go (G (on b a k) cs) w #[]:=by simp[G,stepG,stepG.exec,on]
theorem Aj {x y:Code}{w:World}:stepG P main (G (on b a (.code (.seq x y)::k)) cs) w= .go (G (on b a (.code x:: .code y::k)) cs) w #[]:=by simp[G,stepG,stepG.exec,on]
theorem vR (b:Frame)(a:Act)(todo:List Item)(x:Operand):(on b a todo).eval x=a.eval x:=by cases x<;>rfl
theorem Ak {c:Operand}{x y:Code}{t:Bool}{w:World}(h:a.eval c= .bool t):stepG P main (G (on b a (.code (.cond c x y)::k)) cs) w= .go (G (on b a (.code (if t then x else y)::k)) cs) w #[]:=by
 have d:(on b a (.code (.cond c x y)::k)).eval c= .bool t:=by rw[vR];exact h
 simp only[on] at d;simp[G,stepG,stepG.exec,on,d]
theorem Al {id:Nat}{c:Code}{w:World}:stepG P main (G (on b a (.code (.block id c)::k)) cs) w= .go (G (on b a (.code c:: .inBlock id::k)) cs) w #[]:=by simp[G,stepG,stepG.exec,on]
theorem Am {c:Code}{w:World}:stepG P main (G (on b a (.code (.loop c)::k)) cs) w= .go (G (on b a (.code c:: .inLoop c::k)) cs) w #[]:=by simp[G,stepG,stepG.exec,on]
theorem An {c:Code}{w:World}:stepG P main (G (on b a (.inLoop c::k)) cs) w= .go (G (on b a (.code c:: .inLoop c::k)) cs) w #[]:=by simp[G,stepG,stepG.exec,on]
theorem E3 {c:Code}{w:World}:stepG P main (G (on b a (.code (.scope c)::k)) cs) w= .go (G (on b a (.code c:: .inScope c::k)) cs) w #[]:=by simp[G,stepG,stepG.exec,on]
theorem Ao {id:Nat}{c:List Item}{w:World}(h:exitTo id k=some c):stepG P main (G (on b a (.code (.exit id)::k)) cs) w= .go (G (on b a c) cs) w #[]:=by simp[G,stepG,stepG.exec,on,h]
theorem Ap {id:Nat}{ops:Array Oper}{w:World}:stepG P main (G (on b a (.code (.region id ops false)::k)) cs) w= .go (G (on b a (.inRegion ops (List.range ops.size)::k)) cs) w #[]:=by simp[G,stepG,stepG.exec,on]
theorem Aq {id:Nat}{ops:Array Oper}{w:World}:stepG P main (G (on b a (.code (.region id ops true)::k)) cs) w=
  .go (G (on b a (.inRegion ops (Region.schedule (P.follows .mixedOrders) ops (w.tape w.drawn (.order b.fn id)))::k)) cs) {w with drawn:=w.drawn+1} #[]:=by
 simp[G,stepG,stepG.exec,on,choose,Sem.run,Question.forced,Question.cut]
theorem Ar {ops:Array Oper}{w:World}:stepG P main (G (on b a (.inRegion ops []::k)) cs) w= .go (G (on b a k) cs) w #[]:=by simp[G,stepG,stepG.exec,on]
theorem stepG_ret' {w:World}(c:b.roundOf=none):stepG P main (G (on b a (.code .ret::k)) cs) w= .go (G {on b a (.code .ret::k) with mode:=.returning} cs) w #[]:=by simp[G,stepG,stepG.exec,on,c]
theorem mU {w:World}(c:b.roundOf=none):stepG P main (G (on b a []) cs) w= .go (G {on b a [] with mode:=.returning} cs) w #[]:=by simp[G,stepG,stepG.exec,on,c]
theorem vS (b:Frame)(a:Act)(ops:Array Oper)(i:Nat)(rest:List Nat)(k:List Item)(v:Value):
  (on b a (.inRegion ops (i::rest)::k)).finish v=on b (a.put ((ops[i]?).bind (·.dst)) v) (.inRegion ops rest::k):=by
 cases h:(ops[i]?).bind (·.dst)<;>simp[Frame.finish,on,Act.put,h]
theorem vT {ops:Array Oper}{i:Nat}{rest:List Nat}{w:World}(h:((ops[i]?).map (Region.wanted · (yielded ops a.tmps))).getD false=false):
  stepG P main (G (on b a (.inRegion ops (i::rest)::k)) cs) w= .go (G (on b (a.put ((ops[i]?).bind (·.dst)) undef) (.inRegion ops rest::k)) cs) w #[]:=by
 rw[<-vS]
 have c:=h
 simp only[on] at*
 simp[G,stepG,stepG.exec,c]
theorem E4 {ops:Array Oper}{i:Nat}{rest:List Nat}{o:Oper}{w:World}(d:b.roundOf=none\/∀c,o.op≠ .defer c)(e:ops[i]?=some o)(hw:Region.wanted o (yielded ops a.tmps)=true):
  stepG P main (G (on b a (.inRegion ops (i::rest)::k)) cs) w=stepG.apply P true (on b a (.inRegion ops (i::rest)::k)) cs none (execOp a.eval o) w:=by
 have he:(on b a (.inRegion ops (i::rest)::k)).eval=a.eval:=funext (vR b a _)
 simp only[on] at he
 rcases d with d|d
 .rw[d] at he
  simp[G,stepG,stepG.exec,stepG.oper,Frame.oper?,on,e,hw,he,d]
 .have:∀l,(match (some l:Option Nat),o.op with
   |some l,.defer c=>stepG.apply P true (on b a (.inRegion ops (i::rest)::k)) cs none (do Instr.deferInRound l (<-resolve (on b a (.inRegion ops (i::rest)::k)).eval c o.type);pure .skip) w
   |_,_=>stepG.apply P true (on b a (.inRegion ops (i::rest)::k)) cs none (execOp a.eval o) w)=stepG.apply P true (on b a (.inRegion ops (i::rest)::k)) cs none (execOp a.eval o) w:=by
   intro l
   cases f:o.op<;>first|rfl|exact absurd f (d _)
  cases hb:b.roundOf with
  |none=>
   rw[hb] at he
   simp[G,stepG,stepG.exec,stepG.oper,Frame.oper?,on,e,hw,he,hb]
  |some l=>
   have t:=this l
   simp only[on,he] at t
   simp only[hb] at t
   simp[G,stepG,stepG.exec,stepG.oper,Frame.oper?,on,e,hw,he,hb]
   exact t
def j0 (J:Goroutine->af->Prop)(l:Nat)(f:FuncId)(tmps:Array Value)(assign body:Code)(F:af)(R:Value->af->Prop):Prop:=
 ∀(c:Frame) (cs:List Frame),(∀v F',R v F'->J (G (c.finish v) cs) F')->J (G (Frame.round l f tmps assign body .normal) (c::cs)) F
theorem j0.mono {l:Nat}{f:FuncId}{tmps:Array Value}{assign body:Code}{F:af}{R a:Value->af->Prop}(h:j0 J l f tmps assign body F R)(b:∀v F',R v F'->a v F'):j0 J l f tmps assign body F a:=
 fun c cs k=>h c cs fun v F' r=>k v F' (b v F' r)
def gj (P:Program)(J:Goroutine->af->Prop)(R:Value->af->Prop)(D:Deferred->af->Prop):Next->af->Prop
 | .value v,F=>R v F
 | .skip,F=>R undef F
 | .defer d,F=>D d F
 | .enter f args,F=>dn P J f args F R
 | .round l f tmps assign body,F=>j0 J l f tmps assign body F R
 |_,_=>False
theorem As {R b:Value->af->Prop}{D c:Deferred->af->Prop}(a:∀v F,R v F->b v F)(e:∀d F,D d F->c d F):∀n F,gj P J R D n F->gj P J b c n F
 | .value v,F,h=>a _ _ h
 | .skip,F,h=>a _ _ h
 | .defer d,F,h=>e _ _ h
 | .enter f args,F,h=>dn.mono h a
 | .round l f tmps assign body,F,h=>j0.mono h a
 | .stack ..,_,h| .callThen ..,_,h| .row ..,_,h| .comm ..,_,h| .spawn ..,_,h| .recover,_,h| .numGoroutine,_,h| .collect,_,h| .watch ..,_,h| .newcoro ..,_,h| .coroswitch ..,_,h| .sleep ..,_,h| .timer ..,_,h| .alone ..,_,h=>h.elim
def kP (P:Program)(J:Goroutine->af->Prop)(R:Value->af->Prop)(D:Deferred->af->Prop)(n:Next)(F:af):Prop:=gj P J (fun v F=>∃F0,Le F0 F/\R v F0) D n F
theorem E5 {R:Value->af->Prop}{D:Deferred->af->Prop}:∀n F,gj P J R D n F->kP P J R D n F:=As (fun _ F h=>⟨F,Le.refl F,h⟩) (fun _ _ h=>h)
theorem qq {R a:Value->af->Prop}{D b:Deferred->af->Prop}(c:∀v F,R v F->a v F)(e:∀d F,D d F->b d F):∀n F,kP P J R D n F->kP P J a b n F:=
 As (fun _ _ ⟨F0,hle,h⟩=>⟨F0,hle,c _ _ h⟩) e
def Au (P:Program)(J:Goroutine->af->Prop)(o:Oper)(K:Act->af->Prop)(a:Act)(F:af):Prop:=
 bu P (execOp a.eval o) (kP P J (fun v F'=>K (a.put o.dst v) F') (fun d F'=>K ({a with defers:=d::a.defers}.put o.dst undef) F')) F
def ek (P:Program)(J:Goroutine->af->Prop)(ops:Array Oper)(i:Nat)(K:Act->af->Prop)(a:Act)(F:af):Prop:=
 match ops[i]? with
 |none=>K a F
 |some o=>if Region.wanted o (yielded ops a.tmps) then Au P J o K a F else K (a.put o.dst undef) F
def gx (P:Program)(J:Goroutine->af->Prop)(ops:Array Oper)(K:Act->af->Prop):List Nat->Act->af->Prop
 |[],a,F=>K a F
 |i::rest,a,F=>ek P J ops i (gx P J ops K rest) a F
structure vU (ops:Array Oper)(b:Frame):Prop where
 kind:b.kind≠ .early
 round:b.roundOf=none\/∀o∈ops,∀c,o.op≠ .defer c
theorem Av (hJ:Closed P main J){ops:Array Oper}{i:Nat}{rest:List Nat}{K:Act->af->Prop}(hb:vU ops b)(h:ek P J ops i K a F)
  (hK:∀s F',K s F'->J (G (on b s (.inRegion ops rest::k)) cs) F'):J (G (on b a (.inRegion ops (i::rest)::k)) cs) F:=by
 unfold ek at h
 cases g:ops[i]? with
 |none=>
  rw[g] at h
  refine hJ.move (fun w=>vT (by simp[g])) ?_
  simp only[g,Option.bind_none,Act.put]
  exact hK _ _ h
 |some o=>
  rw[g] at h
  simp only at h
  by_cases hw:Region.wanted o (yielded ops a.tmps)=true
  .rw[if_pos hw] at h
   refine hJ.step fun w u=>?_
   obtain ⟨n,w',F',es,H⟩:=lV _ F w #[] h u
   have t:=H.run
   rw[Array.empty_append] at t
   have y:b.roundOf=none\/∀c,o.op≠ .defer c:=hb.round.imp id fun x=>x o (Array.mem_of_getElem? g)
   have j:=E4 (P:=P) (main:=main) (b:=b) (a:=a) (k:=k) (cs:=cs) (w:=w) (rest:=rest) y g hw
   have z:((on b a (.inRegion ops (i::rest)::k)).kind==CallKind.early)=false:=by simpa [on] using hb.kind
   have r:∀v,(on b a (.inRegion ops (i::rest)::k)).finish v=on b (a.put o.dst v) (.inRegion ops rest::k):=by
    intro v;rw[vS,g];rfl
   have q:∀e∈seen P (on b a (.inRegion ops (i::rest)::k)).fn es,jx F.ro (iA F w.heap.size w'.heap.size) e:=fun e he=>H.iW e (mem_seen he)
   have m:=H.post
   unfold stepG.apply at j
   simp only[if_true,t,z,Bool.false_eq_true,if_false] at j
   cases n<;>simp only[kP,gj] at m
   case value v=>
    simp only[r,GStep.after,Array.append_empty] at j
    obtain ⟨F0,hle,m⟩:=m
    exact ⟨_,w',_,F',j,H.upd,H.has,q,hJ.mono hle (hK _ _ m)⟩
   case skip=>
    simp only[r,GStep.after,Array.append_empty] at j
    obtain ⟨F0,hle,m⟩:=m
    exact ⟨_,w',_,F',j,H.upd,H.has,q,hJ.mono hle (hK _ _ m)⟩
   case defer d=>
    have A:({on b a (.inRegion ops (i::rest)::k) with defers:=d::(on b a (.inRegion ops (i::rest)::k)).defers}:Frame).finish undef=
      on b ({a with defers:=d::a.defers}.put o.dst undef) (.inRegion ops rest::k):=by
     have:=vS b {a with defers:=d::a.defers} ops i rest k undef
     rw[g] at this;exact this
    simp only[A,GStep.after,Array.append_empty] at j
    exact ⟨_,w',_,F',j,H.upd,H.has,q,hK _ _ m⟩
   case round l f tmps cR bd=>
    refine ⟨_,w',_,F',j,H.upd,H.has,?_,m _ _ fun v B p=>by obtain ⟨F0,hle,p⟩:=p;rw[r];exact hJ.mono hle (hK _ _ p)⟩
    simpa [GStep.after] using q
   case enter f args=>
    refine ⟨_,w',_,F',j,H.upd,H.has,?_,m _ _ fun v B p=>by obtain ⟨F0,hle,p⟩:=p;rw[r];exact hJ.mono hle (hK _ _ p)⟩
    simpa [GStep.after] using q
  .rw[if_neg hw] at h
   refine hJ.move (fun w=>vT (by simp[g];simpa using hw)) ?_
   simp only[g,Option.bind_some]
   exact hK _ _ h
theorem qs {ops:Array Oper}{i:Nat}{K e:Act->af->Prop}{a:Act}{F:af}(h:∀a F,K a F->e a F)(b:ek P J ops i K a F):ek P J ops i e a F:=by
 unfold ek at*;split
 .rename_i c;rw[c] at b;exact h _ _ b
 .rename_i o c;rw[c] at b;simp only at b;split
  .rename_i hw;rw[if_pos hw] at b;exact iC (qq (fun v F=>h _ _) (fun d F=>h _ _)) _ _ b
  .rename_i hw;rw[if_neg hw] at b;exact h _ _ b
theorem sN (hJ:Closed P main J){ops:Array Oper}{K:Act->af->Prop}(hb:vU ops b)(hK:∀c F',K c F'->J (G (on b c k) cs) F'):
  ∀(l:List Nat) (a:Act) (F:af),gx P J ops K l a F->J (G (on b a (.inRegion ops l::k)) cs) F
 |[],a,F,h=>hJ.move (fun _=>Ar) (hK _ _ h)
 |i::rest,a,F,h=>Av hJ hb h fun c F' d=>sN hJ hb hK rest c F' d
section draw
variable {ops:Array Oper}{Q:Act->af->Prop}{S:af->Prop}
def er (P:Program)(J:Goroutine->af->Prop)(ops:Array Oper)(Q:Act->af->Prop)(S:af->Prop):Nat->Array Bool->Act->af->Prop
 |0,listed,a,F=>Region.ready .any ops listed=[]/\Q a F
 |fuel+1,listed,a,F=>(Region.ready .any ops listed=[]->Q a F)/\
  ∀i∈Region.ready .any ops listed,ek P J ops i (fun b F'=>S F'/\er P J ops Q S fuel (listed.setIfInBounds i true) b F') a F
theorem E6:∀(fuel t:Nat) (listed:Array Bool) (a:Act) (F:af),er P J ops Q S fuel listed a F->
  gx P J ops Q (Region.linearise.go .any ops fuel t listed []) a F:=by
 intro fuel
 induction fuel with
 |zero=>intro t listed a F h;simpa [Region.linearise.go,gx] using h.2
 |succ fuel ih=>
  intro t listed a F h
  obtain ⟨b,c⟩:=h
  simp only[Region.linearise.go]
  change gx P J ops Q (match (Region.ready .any ops listed)[t % (Region.ready .any ops listed).length]? with
   |some i=>Region.linearise.go .any ops fuel (t/(Region.ready .any ops listed).length) (listed.setIfInBounds i true) [i]
   |none=>[].reverse) a F
  cases hi:(Region.ready .any ops listed)[t % (Region.ready .any ops listed).length]? with
  |none=>
   have d:Region.ready .any ops listed=[]:=by
    cases e:Region.ready .any ops listed with
    |nil=>rfl
    |cons x xs=>
     rw[e] at hi
     have f:t % (x::xs).length<(x::xs).length:=Nat.mod_lt _ au
     simp at hi
     simp at f
     omega
   simpa [gx] using b d
  |some i=>
   simp only[]
   rw[linearise_go_acc,List.reverse_singleton,List.singleton_append]
   exact qs (fun a F h=>ih _ _ a F h.2) (c i (List.mem_of_getElem? hi))
def gk (P:Program)(J:Goroutine->af->Prop)(ops:Array Oper)(S:af->Prop)(o:Oper)(v:Value)(a:Act):Prop:=
 (Region.wanted o (yielded ops a.tmps)=true/\∀F (R:Value->af->Prop),S F->R v F->bu P (execOp a.eval o) (kP P J R (fun _ _=>False)) F)\/
 (Region.wanted o (yielded ops a.tmps)=false/\v=undef)
theorem gk.oC {i:Nat}{o:Oper}{v:Value}{a:Act}{F:af}(hi:ops[i]?=some o)(b:gk P J ops S o v a)
  {K:Act->af->Prop} (c:S F) (h:K (a.put o.dst v) F):ek P J ops i K a F:=by
 unfold ek
 simp only[hi]
 rcases b with ⟨hw,d⟩|⟨hw,rfl⟩
 .rw[if_pos hw]
  exact iC (qq (fun _ _ x=>x) (fun _ _ x=>x.elim)) _ _ (d F (fun v F'=>K (a.put o.dst v) F') c h)
 .rw[if_neg (by simp[hw])];exact h
theorem gk.of_same {o:Oper}{v:Value}{a b:Act}(c:gk P J ops S o v a)(he:execOp b.eval o=execOp a.eval o)
  (hw:Region.wanted o (yielded ops b.tmps)=Region.wanted o (yielded ops a.tmps)):gk P J ops S o v b:=by
 unfold gk at*
 rw[he,hw]
 exact c
theorem vV {j:Nat}{c e:Oper}{v:Value}(m:ops[j]?=some e)(n:c.apart ops e=true)
  (o:∀cs b,c.op≠ .select cs b) (p:∀cs b,e.op≠ .select cs b) {K:Act->af->Prop} {a:Act} {F:af}
  (f:gk P J ops S c v a) (h:ek P J ops j K (a.put c.dst v) F):
  ek P J ops j (fun i F'=>gk P J ops S c v i/\K (i.put c.dst v) F') a F:=by
 obtain ⟨k,g,l⟩:=Oper.apart_spec n
 have keep:∀(a:Act),gk P J ops S c v a->∀u,gk P J ops S c v (a.put e.dst u):=fun a f u=>
  f.of_same (execOp_put c o a e.dst u l) (wanted_put c a e.dst u l)
 have q:∀d,gk P J ops S c v {a with defers:=d::a.defers}:=fun d=>f.of_same rfl rfl
 unfold ek at*
 simp only[m] at*
 rw[wanted_put e a c.dst v k] at h
 split
 .rename_i hw
  rw[if_pos hw] at h
  unfold Au at*
  rw[execOp_put e p a c.dst v k] at h
  refine iC (qq (fun u F' x=>⟨keep a f u,?_⟩) (fun d F' x=>⟨keep _ (q d) _,?_⟩)) _ _ h
  .rw[<-Act.put_comm a v u g];exact x
  .rw[<-Act.put_comm _ v undef g,<-Act.put_defers];exact x
 .rename_i hw
  rw[if_neg hw] at h
  exact ⟨keep a f _,by rw[<-Act.put_comm a v undef g];exact h⟩
theorem E7 {i:Nat}{l:Oper}{v:Value}(hi:ops[i]?=some l)(t:∀(j:Nat) (o:Oper) cs b,ops[j]?=some o->o.op≠ .select cs b):
  ∀(fuel:Nat) (listed:Array Bool) (a:Act) (F:af),
   (∀j d,ops[j]?=some d->j≠i->listed.getD j true=false->(∀e∈d.after,Region.binds .any e=true->e.on≠i)->l.apart ops d=true)->
   i∈Region.ready .any ops listed->gk P J ops S l v a->S F->
   er P J ops Q S fuel (listed.setIfInBounds i true) (a.put l.dst v) F->er P J ops Q S (fuel+1) listed a F:=by
 intro fuel
 induction fuel with
 |zero=>
  intro listed a F _ f n m H
  refine ⟨fun h=>(by rw[h] at f;cases f),fun j p=>?_⟩
  by_cases c:j=i
  .subst c;exact n.oC hi m ⟨m,H⟩
  .have:=ready_mono p c
   rw[H.1] at this
   cases this
 |succ fuel ih=>
  intro listed a F u f n m H
  refine ⟨fun h=>(by rw[h] at f;cases f),fun j p=>?_⟩
  by_cases c:j=i
  .subst c;exact n.oC hi m ⟨m,H⟩
  .have g:=H.2 j (ready_mono p c)
   obtain ⟨w,d,r,A⟩:=mem_ready.1 p
   have B:∀e∈d.after,Region.binds .any e=true->e.on≠i:=fun e he hb heq=>by
    have g:=A e he hb
    have x:=(mem_ready.1 f).1
    rw[heq] at g
    rcases Nat.lt_or_ge i listed.size with s|s
    .simp[s] at x g;rw[x] at g;cases g
    .simp[Array.getElem?_eq_none s] at g
   have C:=vV r (u j d r c w B) (fun cs b=>t i l cs b hi) (fun cs b=>t j d cs b r) n g
   have D:∀k ok,ops[k]?=some ok->k≠i->(listed.setIfInBounds j true).getD k true=false->
     (∀e∈ok.after,Region.binds .any e=true->e.on≠i)->l.apart ops ok=true:=fun k ok E G y I=>by
    refine u k ok E G ?_ I
    by_cases z:j=k
    .subst z;exact w
    .rw[getD_set_ne true z] at y;exact y
   refine qs (fun K F' q=>⟨q.2.1,ih (listed.setIfInBounds j true) K F' D (ready_mono f (Ne.symm c)) q.1 q.2.1 ?_⟩) C
   rw[Array.setIfInBounds_comm _ _ c]
   exact q.2.2
theorem Aw (i:Nat){c:Oper}(v:Value){fuel:Nat}{listed:Array Bool}{a:Act}{F:af}(hi:ops[i]?=some c)
  (b:(Region.noSelect ops&&Region.free .any ops listed i&&(Region.ready .any ops listed).contains i)=true)
  (d:gk P J ops S c v a) (e:S F)
  (h:er P J ops Q S fuel (listed.setIfInBounds i true) (a.put c.dst v) F):er P J ops Q S (fuel+1) listed a F:=by
 simp only[Bool.and_eq_true] at b
 exact E7 hi (Region.noSelect_spec b.1.1) fuel listed a F (Region.free_spec hi b.1.2) (by simpa using b.2) d e h
theorem E8 {rs:List Nat}{fuel:Nat}{listed:Array Bool}{a:Act}{F:af}(b:Region.ready .any ops listed=rs)(aL:rs≠[])
  (h:∀i∈rs,ek P J ops i (fun c F'=>S F'/\er P J ops Q S fuel (listed.setIfInBounds i true) c F') a F):er P J ops Q S (fuel+1) listed a F:=
 ⟨fun d=>absurd (b▸d) aL,b▸h⟩
theorem E9 (i:Nat){fuel:Nat}{listed:Array Bool}{a:Act}{F:af}(b:Region.ready .any ops listed=[i])
  (h:ek P J ops i (fun c F'=>S F'/\er P J ops Q S fuel (listed.setIfInBounds i true) c F') a F):er P J ops Q S (fuel+1) listed a F:=
 E8 b au (by simpa using h)
theorem Ax {listed:Array Bool}{a:Act}{F:af}(b:Region.ready .any ops listed=[])(h:Q a F):∀fuel,er P J ops Q S fuel listed a F
 |0=>⟨b,h⟩
 |_+1=>⟨fun _=>h,by rw[b];simp⟩
end draw
end
inductive Ex where
 |normal
 |exit (id:Nat)
 |ret
 deriving DecidableEq
def gm:Code->Bool
 | .region _ ops _=>ops.all fun o=>match o.op with| .defer _=>false|_=>true
 | .seq a b=>gm a&&gm b
 | .cond _ a b=>gm a&&gm b
 | .block _ c=>gm c
 | .loop c=>gm c
 | .scope c=>gm c
 | .rangeFunc ..=>false
 |_=>true
structure Ay (c:Code)(b:Frame):Prop where
 kind:b.kind≠ .early
 round:b.roundOf=none\/gm c=true
section
variable {P:Program}{main:Bool}{J:Goroutine->af->Prop}
def Az (J:Goroutine->af->Prop)(b:Frame)(k:List Item)(cs:List Frame):Ex->Act->af->Prop
 | .normal,a,F=>J (G (on b a k) cs) F
 | .exit id,a,F=>∀c,exitTo id c=exitTo id k->J (G (on b a (.code (.exit id)::c)) cs) F
 | .ret,a,F=>∀c,J (G (on b a (.code .ret::c)) cs) F
def Wp (J:Goroutine->af->Prop)(c:Code)(Q:Ex->Act->af->Prop)(a:Act)(F:af):Prop:=
 ∀(b:Frame) (k:List Item) (cs:List Frame),Ay c b->(∀e d F',Q e d F'->Az J b k cs e d F')->J (G (on b a (.code c::k)) cs) F
theorem Wp.mono {c:Code}{Q d:Ex->Act->af->Prop}{a:Act}{F:af}(h:Wp J c Q a F)(f:∀e a F,Q e a F->d e a F):Wp J c d a F:=
 fun b k cs hb g=>h b k cs hb fun e i F' x=>g e i F' (f _ _ _ x)
theorem Wp.le {hJ:Closed P main J}{c:Code}{Q:Ex->Act->af->Prop}{a:Act}{F F':af}(h:Wp J c Q a F)(hle:Le F F'):Wp J c Q a F':=
 fun b k cs hb d=>hJ.mono hle (h b k cs hb d)
variable {Q:Ex->Act->af->Prop}{a:Act}{F:af}
theorem aP (hJ:Closed P main J)(h:Q .normal a F):Wp J .skip Q a F:=fun b k cs _ c=>hJ.move (fun _=>Ah) (c _ _ _ h)
theorem Fa (hJ:Closed P main J){l:Nat}(h:Q .normal a F):Wp J (.label l) Q a F:=fun b k cs _ c=>hJ.move (fun _=>E1) (c _ _ _ h)
theorem b6 {id:Nat}(h:Q (.exit id) a F):Wp J (.exit id) Q a F:=fun b k cs _ c=>c _ _ _ h k rfl
theorem aQ (h:Q .ret a F):Wp J .ret Q a F:=fun b k cs _ c=>c _ _ _ h k
def sO (J:Goroutine->af->Prop)(y:Code)(Q:Ex->Act->af->Prop):Ex->Act->af->Prop
 | .normal,a,F=>Wp J y Q a F
 |e,a,F=>Q e a F
theorem ah (hJ:Closed P main J){x y:Code}(h:Wp J x (sO J y Q) a F):Wp J (.seq x y) Q a F:=fun b k cs hb c=>by
 refine hJ.move (fun _=>Aj) (h b (.code y::k) cs ⟨hb.kind,hb.round.imp id fun z=>?_⟩ fun e i F' d=>?_)
 .simp only[gm,Bool.and_eq_true] at z;exact z.1
 .cases e with
  |normal=>exact d b k cs ⟨hb.kind,hb.round.imp id fun z=>by simp only[gm,Bool.and_eq_true] at z;exact z.2⟩ c
  |exit id=>exact fun f g=>c _ _ _ d f (by rw[g];rfl)
  |ret=>exact c _ _ _ d
theorem vW (hJ:Closed P main J){c:Operand}{x y:Code}(t:Bool)(hc:a.eval c= .bool t)(h:Wp J (if t then x else y) Q a F):Wp J (.cond c x y) Q a F:=fun b k cs hb d=>by
 refine hJ.move (fun _=>Ak hc) (h b k cs ⟨hb.kind,hb.round.imp id fun z=>?_⟩ d)
 simp only[gm,Bool.and_eq_true] at z
 cases t
 .exact z.2
 .exact z.1
def vX (id:Nat)(Q:Ex->Act->af->Prop):Ex->Act->af->Prop
 | .normal,a,F=>Q .normal a F
 | .exit i,a,F=>if i=id then Q .normal a F else Q (.exit i) a F
 | .ret,a,F=>Q .ret a F
theorem aX (hJ:Closed P main J){id:Nat}{c:Code}(h:Wp J c (vX id Q) a F):Wp J (.block id c) Q a F:=fun b k cs hb f=>by
 refine hJ.move (fun _=>Al) (h b (.inBlock id::k) cs ⟨hb.kind,hb.round⟩ fun e l F' d=>?_)
 cases e with
 |normal=>exact hJ.move (fun _=>Ai) (f _ _ _ d)
 |exit i=>
  intro g j
  simp only[vX] at d
  by_cases hi:i=id
  .rw[if_pos hi] at d
   subst hi
   have:exitTo i g=some k:=by rw[j];simp[exitTo]
   exact hJ.move (fun _=>Ao this) (f _ _ _ d)
  .rw[if_neg hi] at d
   refine f _ _ _ d g ?_
   rw[j]
   simp[exitTo,Ne.symm hi]
 |ret=>exact f _ _ _ d
theorem Fb (hJ:Closed P main J){c:Code}(h:Wp J c Q a F):Wp J (.scope c) Q a F:=fun b k cs hb d=>by
 refine hJ.move (fun _=>E3) (h b (.inScope c::k) cs ⟨hb.kind,hb.round⟩ fun e l F' f=>?_)
 cases e with
 |normal=>exact hJ.move (fun _=>E2) (d _ _ _ f)
 |exit i=>exact fun g j=>d _ _ _ f g (by rw[j];rfl)
 |ret=>exact d _ _ _ f
def sP (I:Nat->Act->af->Prop)(n:Nat)(Q:Ex->Act->af->Prop):Ex->Act->af->Prop
 | .normal,a,F=>∃m,m<n/\I m a F
 |e,a,F=>Q e a F
theorem AA (hJ:Closed P main J){c:Code}(I:Nat->Act->af->Prop)(n:Nat)(g:I n a F)(hs:∀n a F,I n a F->Wp J c (sP I n Q) a F):Wp J (.loop c) Q a F:=by
 intro b k cs hb f;have key:∀n a F,I n a F->J (G (on b a (.code c:: .inLoop c::k)) cs) F:=by
  intro n
  induction n using Nat.strongRecOn with
  |_ n ih=>
   intro a F h;refine hs n a F h b (.inLoop c::k) cs ⟨hb.kind,hb.round⟩ fun e j F' d=>?_;cases e with
   |normal=>
    obtain ⟨m,hm,l⟩:=d;exact hJ.move (fun _=>An) (ih m hm j F' l)
   |exit i=>exact fun o p=>f _ _ _ d o (by rw[p];rfl)
   |ret=>exact f _ _ _ d
 exact hJ.move (fun _=>Am) (key n a F g)
theorem vY {id:Nat}{ops:Array Oper}{d:Bool}{b:Frame}(hb:Ay (.region id ops d) b):vU ops b:=
 ⟨hb.kind,hb.round.imp a fun z o e c hc=>by
  simp only[gm] at z
  have:=(Array.all_eq_true_iff_forall_mem.1 z) o e
  rw[hc] at this
  cases this⟩
where a {p:Prop} (h:p):p:=h
theorem Fc (hJ:Closed P main J){id:Nat}{ops:Array Oper}(h:gx P J ops (Q .normal) (List.range ops.size) a F):Wp J (.region id ops false) Q a F:=fun b k cs hb c=>
 hJ.move (fun _=>Ap) (sN hJ (vY hb) (fun d F' e=>c .normal d F' e) _ _ _ h)
theorem vZ (hJ:Closed P main J)(S:af->Prop)(hm:P.follows .mixedOrders=true){id:Nat}{ops:Array Oper}(h:er P J ops (Q .normal) S ops.size (Array.replicate ops.size false) a F):Wp J (.region id ops true) Q a F:=fun b k cs hb c=>
 hJ.step fun w hw=>by
  refine ⟨_,_,_,F,Aq,.drawn _ _ _,hw.drawn _,au,?_⟩
  refine sN (K:=Q .normal) hJ (vY hb) (fun d F' e=>c .normal d F' e) _ _ _ ?_
  simp only[Region.schedule,hm,Bool.true_or,if_true]
  exact E6 ops.size _ _ a F h
def iX (P:Program):List Deferred->(af->Prop)->af->Prop
 |[],K,F=>K F
 |d::a,K,F=>∃r,d.target= .collected r/\bu P (Instr.takeDeferred r) (fun calls F'=>calls=[]/\iX P a K F') F
def sQ (P:Program)(fn:Func)(R:Value->af->Prop):Ex->Act->af->Prop
 | .exit _,_,_=>False
 |_,a,F=>iX P a.defers (fun F=>bu P (results fn a.tmps) R F) F
theorem v5 (hJ:Closed P main J){f:FuncId}{fn:Func}(m:P.funcs[f]?=some fn){R:Value->af->Prop}{c:Frame}{cs:List Frame}(n:∀v F',R v F'->J (G (c.finish v) cs) F')(tmps:Array Value):
  ∀(a:List Deferred) (fr:Frame) (F:af),fr.fn=f->fr.kind= .normal->fr.mode= .returning->fr.defers=a->fr.tmps=tmps->iX P a (fun F=>bu P (results fn tmps) R F) F->J (G fr (c::cs)) F
 |[],fr,F,i,j,g,k,l,h=>by
  refine hJ.step fun w hw=>?_
  obtain ⟨v,w',F',es,H⟩:=lV _ F w #[] h hw
  have b:=H.run
  rw[Array.empty_append] at b
  refine ⟨G (c.finish v) cs,w',seen P fr.fn es,F',?_,H.upd,H.has,fun e he=>H.iW e (mem_seen he),n v F' H.post⟩
  simp only[G,stepG,unwind,g,k,l,i,m,b]
  simp[doReturn,j,GStep.after]
 |d::a,fr,F,i,j,g,k,l,h=>by
  obtain ⟨r,o,p⟩:=h
  refine hJ.step fun w hw=>?_
  obtain ⟨v,w',F',es,H⟩:=lV _ F w #[] p hw
  have b:=H.run
  rw[Array.empty_append] at b
  obtain ⟨q,s⟩:=H.post
  subst q
  obtain ⟨t,args⟩:=d
  simp only at o
  subst o
  refine ⟨G {fr with defers:=a} (c::cs),w',seen P fr.fn es,F',?_,H.upd,H.has,fun e he=>H.iW e (mem_seen he),?_⟩
  .simp only[G,stepG,unwind,g,k,b]
   simp[GStep.after]
  .exact v5 hJ m n tmps a {fr with defers:=a} F' i j g rfl l s
theorem dn.of_wp (hJ:Closed P main J){f:FuncId}{fn:Func}{c:Code}{args:Array Value}{R:Value->af->Prop}(d:P.funcs[f]?=some fn)(hb:fn.body=some c)
  (h:Wp J c (sQ P fn R) {tmps:=args++Array.replicate (fn.ntmps - args.size) undef,defers:=[]} F):dn P J f args F R:=by
 intro k cs j
 let b:Frame:={(default:Frame) with fn:=f,kind:=.normal}
 have l:Frame.enter P f args .normal=on b {tmps:=args++Array.replicate (fn.ntmps - args.size) undef,defers:=[]} [.code c]:=by
  simp[Frame.enter,on,d,hb,b]
  rfl
 rw[l]
 refine h b [] (k::cs) ⟨by simp[b],.inl rfl⟩ fun e a F' g=>?_
 cases e with
 |normal=>exact hJ.move (fun _=>mU rfl) (v5 hJ d j a.tmps a.defers _ F' rfl rfl rfl rfl rfl g)
 |exit i=>exact g.elim
 |ret=>exact fun m=>hJ.move (fun _=>stepG_ret' rfl) (v5 hJ d j a.tmps a.defers _ F' rfl rfl rfl rfl rfl g)
theorem aD.of_wp {f:FuncId}{fn:Func}{c:Code}{args:Array Value}{F:af}{R:Value->af->Prop}(a:P.funcs[f]?=some fn)(hb:fn.body=some c)
  (h:∀main J,Closed P main J->Wp J c (sQ P fn R) {tmps:=args++Array.replicate (fn.ntmps - args.size) undef,defers:=[]} F):aD P f args F R:=
 fun main J hJ=>dn.of_wp hJ a hb (h main J hJ)
end
end Go.Sep
end
section
namespace Go.Sep
open Go Go.Conc Go.ConcM
open Go.ConcN (sumTo upd sumTo_upd upd_ne upd_same)
def af.g8 (F:af):Loc->Prop
 | .cell a=>a.block∈keys F.own\/(F.ro a).isSome=true
 | .obj r=>r∈keys F.own
 |_=>False
structure j3 (P:Program)(bJ:Loc->Prop)(g:Goroutine)(F:af)(gs:Array Goroutine)(w:World)(t:Trace)(q:Nat->Nat):Prop where
 g0:gs[0]?=some g
 lv:Leavers P t gs q
 gq:Past bJ w.heap.size t
 has:Has F w
 apart:∀l,bJ l->¬F.g8 l
 low:∀l,bJ l->l.low w.heap.size
structure fT (F F':af)(w w':World):Prop where
 os:OsLater w.os w'.os
 tape:w'.tape=w.tape
 output:w'.output=w.output
 size:w.heap.size<=w'.heap.size
 frame:∀b,b<w.heap.size->b∉keys F.own->w'.heap[b]?=w.heap[b]?
 ro:∀a,(F'.ro a).isSome=true->(F.ro a).isSome=true\/a.block∈keys F.own\/w.heap.size<=a.block
 own:∀b,b∈keys F'.own->b∈keys F.own\/w.heap.size<=b
theorem fT.qt {F F':af}{w w':World}(h:eA F F' w w'):fT F F' w w':=⟨by rw[h.os];exact .refl _,h.tape,h.output,h.size,h.frame,h.ro,h.own⟩
theorem fT.refl (F:af)(w:World):fT F F w w:=.qt (.refl _ _)
theorem fT.trans {F G H:af}{u v w:World}(h:fT F G u v)(k:fT G H v w):fT F H u w where
 os:=h.os.trans k.os
 tape:=k.tape.trans h.tape
 output:=k.output.trans h.output
 size:=Nat.le_trans h.size k.size
 frame b hb c:=by
  rw[k.frame b (Nat.lt_of_lt_of_le hb h.size) (fun d=>(h.own b d).elim c (fun e=>absurd hb aa))]
  exact h.frame b hb c
 ro a x:=by
  rcases k.ro a x with y|y|y
  .exact h.ro a y
  .exact .inr (h.own _ y)
  .exact .inr (.inr (Nat.le_trans h.size y))
 own b hb:=by
  rcases k.own b hb with x|x
  .exact h.own b x
  .exact .inr (Nat.le_trans h.size x)
theorem j4 {P:Program}{a b:Nat}{m c:Machine}{t d:Trace}(h:runNT P a m t=(.next c,d)):runNT P (a+b) m t=runNT P b c d:=by
 rw[runNT_add,h]
theorem Has.at {F:af}{w:World}(h:Has F w)(d:Nat):Has F (w.at d):=⟨h.ro,h.own,h.nodup,h.apart⟩
theorem sR {P:Program}{bJ:Loc->Prop}{B:Nat}{a:Goroutine}(n:a.status= .running):∀(M:Nat) (gs:Array Goroutine) (w:World) (sl:Option (Nat×Nat)) (t:Trace) (q:Nat->Nat),
  sumTo gs.size q<=M->gs[0]?=some a->Leavers P t gs q->Past bJ B t->
  ∃(N:Nat) (ck:Array Goroutine) (d H:Nat) (c I:Option (Nat×Nat)) (o:Trace) (A:Nat->Nat),
   runNT P N (crowd gs w sl) t=(.next (crowd ck (w.at d) c),o)/\ck.size=gs.size/\ck[0]?=some a/\Leavers P o ck A/\Past bJ B o/\
   stepT P (crowd ck (w.at d) c)=runT P (crowd ck (w.at H) I) 0:=by
 intro M
 induction M with
 |zero=>
  intro gs w sl t q hM h b p
  have C:∀g∈gs,awake g:=by
   intro g hg
   obtain ⟨i,hi,rfl⟩:=Array.mem_iff_getElem.1 hg
   rcases Nat.eq_zero_or_pos i with rfl|l
   .have:gs[0]=a:=by simpa [Array.getElem?_eq_getElem hi] using h
    rw[this];exact awake_of (.inl n)
   .exact awake_of ((b.old i _ l (Array.getElem?_eq_getElem hi)).status.elim .inl fun x=>.inr (.inr x))
  obtain ⟨i,g,d,c,hi,hg,r⟩:=crowd_pick (P:=P) (w:=w) (sl:=sl) C ⟨0,a,h,n⟩
  rcases Nat.eq_zero_or_pos i with rfl|l
  .exact ⟨0,gs,w.drawn,d,sl,c,t,q,rfl,rfl,h,b,p,r⟩
  .have m:=b.old i g l hi
   have s:i<gs.size:=(Array.getElem?_eq_some_iff.1 hi).1
   have J:q i=0:=by have:=Go.ConcN.le_sumTo (f:=q) s;omega
   rw[J] at m;rw[m.1] at hg;cases hg
 |succ M ih=>
  intro gs w sl t q hM h b p
  have C:∀g∈gs,awake g:=by
   intro g hg
   obtain ⟨i,hi,rfl⟩:=Array.mem_iff_getElem.1 hg
   rcases Nat.eq_zero_or_pos i with rfl|l
   .have:gs[0]=a:=by simpa [Array.getElem?_eq_getElem hi] using h
    rw[this];exact awake_of (.inl n)
   .exact awake_of ((b.old i _ l (Array.getElem?_eq_getElem hi)).status.elim .inl fun x=>.inr (.inr x))
  obtain ⟨i,g,d,c,hi,hg,r⟩:=crowd_pick (P:=P) (w:=w) (sl:=sl) C ⟨0,a,h,n⟩
  rcases Nat.eq_zero_or_pos i with rfl|l
  .exact ⟨0,gs,w.drawn,d,sl,c,t,q,rfl,rfl,h,b,p,r⟩
  .have m:=b.old i g l hi
   have K:(i==0)=false:=by simp;omega
   have s:i<gs.size:=(Array.getElem?_eq_some_iff.1 hi).1
   cases D:q i with
   |zero=>rw[D] at m;rw[m.1] at hg;cases hg
   |succ k=>
    rw[D] at m
    rcases m with ⟨L,_⟩|⟨_,g',es,hm,O,Q⟩
    .rw[L] at hg;cases hg
    have R:=runT_crowd_go (P:=P) (sl:=c) (i:=i) hi (by rw[K];exact O (w.at d))
    have F:((gs.map (woken P g g' (w.at d))).setIfInBounds i g').size=gs.size:=au
    have ad:sumTo gs.size (upd q i k)+(k+1)=sumTo gs.size q+k:=by
     have:=sumTo_upd q k id s
     simpa [D] using this
    obtain ⟨N,ck,d1,d2,S,T,o,A,U,V,W,X,Y,Z⟩:=ih ((gs.map (woken P g g' (w.at d))).setIfInBounds i g') (w.at d) c (t++MemOp.ofEvents i g.frame.fn g.frame.place es) (upd q i k) (by rw[F];omega)
     (by
      have aL:i≠0:=aa
      rw[Array.getElem?_setIfInBounds_ne aL,Array.getElem?_map,h]
      simp[woken_run n])
     ⟨fun j x u v=>by
      by_cases z:i=j
      .subst z
       rw[Array.getElem?_setIfInBounds_self_of_lt (by simpa using s)] at v
       obtain rfl:=Option.some.inj v
       rw[upd_same,Deaf_own]
       exact Q
      .rw[Array.getElem?_setIfInBounds_ne z,Array.getElem?_map] at v
       obtain ⟨y,ab,rfl⟩:=Option.map_eq_some_iff.1 v
       have G:=b.old j y u ab
       rw[woken_quitsD G,upd_ne q k (Ne.symm z),Deaf_other t z _ (fun op E=>by obtain ⟨e,_,rfl⟩:=Go.Conc.mem_ofEvents E;rfl)]
       exact G,fun j u=>by
      rw[Deaf_other t (g':=i) (by simp at u;omega) _ (fun op E=>by obtain ⟨e,_,rfl⟩:=Go.Conc.mem_ofEvents E;rfl)]
      exact b.above j (by simpa using u)⟩
     (p.mute aa hm)
    exact ⟨N+1,ck,d1,d2,S,T,o,A,by simp only[runNT,r,R];exact U,V.trans F,W,X,Y,Z⟩
theorem AB {bJ:Loc->Prop}{F:af}{w w':World}(g:Has F w)(hu:w.heap.size<=w'.heap.size)(f:∀l,bJ l->¬F.g8 l)(i:∀l,bJ l->l.low w.heap.size){e:Event}
  (h:jx F.ro (iA F w.heap.size w'.heap.size) e):EvL bJ w'.heap.size e:=by
 have hm:∀b,iA F w.heap.size w'.heap.size b->b<w'.heap.size:=fun b hb=>hb.elim (fun x=>Nat.lt_of_lt_of_le (g.lt x) hu) (fun x=>x.2)
 rcases h with ⟨a,wr,rfl,c⟩|⟨r,wr,rfl,c⟩|⟨m,rfl,j⟩
 .refine ⟨fun x d hs=>?_,au,au,?_⟩
  .exfalso
   have e1:x.loc= .cell a:=by cases wr<;>simp[MemAct.ofEvent,MemAct.touch?] at d<;>rw[<-d]
   rw[e1] at hs
   rcases c with (c|c)|⟨_,c⟩
   .exact f _ hs (.inl c)
   .exact absurd (i _ hs) (by show ¬a.block<_;omega)
   .exact f _ hs (.inr c)
  .show a.block<_
   rcases c with c|⟨_,c⟩
   .exact hm _ c
   .exact Nat.lt_of_lt_of_le (g.iB c) hu
 .refine ⟨fun x d hs=>?_,au,au,?_⟩
  .exfalso
   have e1:x.loc= .obj r:=by cases wr<;>simp[MemAct.ofEvent,MemAct.touch?] at d<;>rw[<-d]
   rw[e1] at hs
   rcases c with c|c
   .exact f _ hs c
   .exact absurd (i _ hs) (by show ¬r<_;omega)
  .have:=hm _ c
   cases wr<;>exact this
 .cases m<;>simp[qo] at j<;>exact ⟨fun x d=>by simp[MemAct.ofEvent,MemAct.touch?] at d,au,au,trivial⟩
theorem j3.next {P:Program}{bJ:Loc->Prop}{F F':af}{w w':World}(f:∀l,bJ l->¬F.g8 l)(d:∀l,bJ l->l.low w.heap.size)(hu:eA F F' w w'):
  (∀l,bJ l->¬F'.g8 l)/\(∀l,bJ l->l.low w'.heap.size):=by
 refine ⟨fun l hs b=>?_,fun l hs=>Loc.low_mono hu.size (d l hs)⟩
 cases l with
 |cell a=>
  have c:=d _ hs
  have e:=f _ hs
  rcases b with b|b
  .rcases hu.own _ b with x|x
   .exact e (.inl x)
   .exact absurd c (by show ¬a.block<_;omega)
  .rcases hu.ro _ b with x|x|x
   .exact e (.inr x)
   .exact e (.inl x)
   .exact absurd c (by show ¬a.block<_;omega)
 |obj r=>
  have c:=d _ hs
  rcases hu.own _ b with x|x
  .exact f _ hs x
  .exact absurd c (by show ¬r<_;omega)
 |_=>exact b
theorem Le.g8 {F F':af}(h:Le F F'){l:Loc}(b:F.g8 l):F'.g8 l:=by
 cases l with
 |cell a=>exact b.elim (fun x=>.inl (h.own _ x)) (fun x=>(h.ro _ x).elim .inr .inl)
 |obj r=>exact h.own _ b
 |_=>exact b
theorem fT.le {F G H:af}{w w':World}(h:Le F G)(u:fT F H w w'):fT G H w w' where
 os:=u.os
 tape:=u.tape
 output:=u.output
 size:=u.size
 frame b hb c:=u.frame b hb (fun x=>c (h.own b x))
 ro a x:=by
  rcases u.ro a x with y|y|y
  .exact (h.ro a y).imp id .inl
  .exact .inr (.inl (h.own _ y))
  .exact .inr (.inr y)
 own b hb:=(u.own b hb).imp (h.own b) id
end Go.Sep
end
section
namespace Go.Sep
open Go Go.Conc
def af.cN (F:af):af:={ro:=F.get,own:=[]}
theorem Has.cN {F:af}{w:World}(h:Has F w):Has F.cN w:=
 ⟨fun a v c=>h.reads c,fun b o hb=>(by cases hb),List.nodup_nil,fun a v c hm=>(by cases hm)⟩
def af.star (G F:af):af:=
 {ro:=fun a=>match F.ro a with
   |some v=>some v
   |none=>if a.block∈keys F.own then none else G.ro a
  own:=G.own++F.own}
structure Fits (F G:af):Prop where
 v7:∃w,Has G w/\Has F w
 own:∀b,b∈keys G.own->b∉keys F.own
 ro:∀a,(F.ro a).isSome=true->a.block∉keys G.own
theorem cH (l l':List (Nat×Obj)):keys (l++l')=keys l++keys l':=List.map_append
theorem Fits.left {F G:af}(h:Fits F G){w:World}(hw:Has (G.star F) w):Has F w where
 ro a v c:=hw.ro a v (by simp[af.star,c])
 own b o hb:=hw.own b o (List.mem_append_right _ hb)
 nodup:=by
  have:=hw.nodup
  simp only[af.star,cH] at this
  exact (List.nodup_append.1 this).2.1
 apart a v c hm:=by
  have:=hw.apart a v (by simp[af.star,c])
  simp only[af.star,cH,List.mem_append,not_or] at this
  exact this.2 hm
theorem Fits.right {F G:af}(h:Fits F G){w:World}(hw:Has (G.star F) w):Has G w:=by
 obtain ⟨m,d,i⟩:=h.v7;refine ⟨fun a v j=>?_,fun b o hb=>hw.own b o (List.mem_append_left _ hb),d.nodup,d.apart⟩;have c:=d.ro a v j;cases f:F.ro a with
 |some g=>
  have e:g=v:=by have:=i.ro a g f;rw[c] at this;exact (Option.some.inj this).symm
  exact e▸hw.ro a g (by simp[af.star,f])
 |none=>
  by_cases hb:a.block∈keys F.own
  .obtain ⟨⟨b,o⟩,hm,e⟩:=List.mem_map.1 hb;simp only at e;subst e;have k:=i.own _ o hm;have l:=hw.own _ o (List.mem_append_right _ hm);unfold World.cell? at c ⊢;rw[l];rw[k] at c;exact c
  .exact hw.ro a v (by simp[af.star,f,hb,j])
theorem Fits.both {F G:af}(h:Fits F G){w:World}(d:Has G w)(f:Has F w):Has (G.star F) w where
 ro a v c:=by
  simp only[af.star] at c
  split at c
  .rename_i x g;cases c;exact f.ro _ _ g
  .split at c
   .cases c
   .exact d.ro _ _ c
 own b o hb:=(List.mem_append.1 hb).elim (d.own b o) (f.own b o)
 nodup:=by
  simp only[af.star,cH]
  exact List.nodup_append.2 ⟨d.nodup,f.nodup,fun a i b hb e=>h.own a i (e▸hb)⟩
 apart a v c hm:=by
  simp only[af.star,cH,List.mem_append] at hm
  simp only[af.star] at c
  split at c
  .rename_i x g
   rcases hm with hm|hm
   .exact h.ro a (by simp[g]) hm
   .exact f.apart a x g hm
  .split at c
   .cases c
   .rename_i j
    rcases hm with hm|hm
    .exact d.apart a v c hm
    .exact j hm
theorem Fits.le {F G c:af}(hle:Le G c)(h:Fits F c):Fits F G where
 v7:=let ⟨w,d,e⟩:=h.v7;⟨w,hle.has w d,e⟩
 own b hb:=h.own b (hle.own b hb)
 ro a f hm:=h.ro a f (hle.own _ hm)
def AD (J:Goroutine->af->Prop)(F:af)(g:Goroutine)(G:af):Prop:=Fits F G->J g (G.star F)
theorem kQ {F G:af}{a:Addr}(h:((G.star F).ro a).isSome=true):(F.ro a).isSome=true\/(G.ro a).isSome=true:=by
 simp only[af.star] at h;split at h
 .rename_i x b;exact .inl (by simp[b])
 .split at h
  .cases h
  .exact .inr h
theorem g9 {F G:af}{a:Addr}(h:(F.ro a).isSome=true\/(G.ro a).isSome=true):((G.star F).ro a).isSome=true\/a.block∈keys F.own:=by
 by_cases hb:a.block∈keys F.own
 .exact .inr hb
 .left;simp only[af.star];split
  .rfl
  .rename_i b;rw[if_neg hb];rcases h with h|h
   .simp[b] at h
   .exact h
theorem Fe {P:Program}{main:Bool}{J:Goroutine->af->Prop}(hJ:Closed P main J)(F:af):Closed P main (AD J F) where
 mono {g G H} hle h c:=by
  have k:=c.le hle
  refine hJ.mono ⟨fun w hw=>k.both (hle.has w (c.right hw)) (c.left hw),fun b hb=>?_,fun a f=>?_⟩ (h k)
  .simp only[af.star,cH,List.mem_append] at hb ⊢
   exact hb.imp (hle.own b) id
  .rcases kQ f with x|x
   .exact (g9 (.inl x)).imp id (fun y=>by simp only[af.star,cH,List.mem_append];exact .inr y)
   .rcases hle.ro a x with y|y
    .exact (g9 (.inr y)).imp id (fun z=>by simp only[af.star,cH,List.mem_append];exact .inr z)
    .exact .inr (by simp only[af.star,cH,List.mem_append];exact .inl y)
 step {fr cs G} h c:=by
  refine hJ.step fun w hw=>?_
  have u:=c.right hw
  have d:=c.left hw
  obtain ⟨g',w',es,l,hgo,hu,n,A,B⟩:=h w u
  have p:Has F w':=by
   refine ⟨fun a v j=>?_,fun b o hb=>?_,d.nodup,d.apart⟩
   .have q:=d.ro a v j
    have C:=d.iB (a:=a) (by simp[j])
    unfold World.cell? at q ⊢
    rw[hu.frame _ C (c.ro a (by simp[j]))]
    exact q
   .rw[hu.frame b (d.lt (fD hb)) (fun hm=>c.own b hm (fD hb))]
    exact d.own b o hb
  have s:Fits F l:=by
   refine ⟨⟨w',n,p⟩,fun b hb hm=>?_,fun a f hm=>?_⟩
   .rcases hu.own b hb with x|x
    .exact c.own b x hm
    .have:=d.lt hm;omega
   .rcases hu.own _ hm with x|x
    .exact c.ro a f x
    .have:=d.iB f;omega
  refine ⟨g',w',es,l.star F,hgo,⟨hu.os,hu.tape,hu.output,hu.size,fun b hb D=>hu.frame b hb fun hm=>D ?_,fun a f=>?_,fun b hb=>?_⟩,s.both n p,fun e he=>?_,B s⟩
  .simp only[af.star,cH,List.mem_append];exact .inl hm
  .rcases kQ f with x|x
   .exact (g9 (.inl x)).imp id (fun y=>.inl (by simp only[af.star,cH,List.mem_append];exact .inr y))
   .rcases hu.ro a x with y|y|y
    .exact (g9 (.inr y)).imp id (fun z=>.inl (by simp only[af.star,cH,List.mem_append];exact .inr z))
    .exact .inr (.inl (by simp only[af.star,cH,List.mem_append];exact .inl y))
    .exact .inr (.inr y)
  .simp only[af.star,cH,List.mem_append] at hb ⊢
   rcases hb with hb|hb
   .exact (hu.own b hb).imp .inl id
   .exact .inl (.inr hb)
  .have t:∀b,iA G w.heap.size w'.heap.size b->iA (G.star F) w.heap.size w'.heap.size b:=fun b hb=>hb.imp (fun x=>by simp only[af.star,cH,List.mem_append];exact .inl x) id
   rcases A e he with ⟨a,wr,rfl,i|⟨E,i⟩⟩|⟨r,wr,rfl,i⟩|⟨m,rfl,hm⟩
   .exact .inl ⟨a,wr,rfl,.inl (t _ i)⟩
   .rcases g9 (F:=F) (.inr i) with y|y
    .exact .inl ⟨a,wr,rfl,.inr ⟨E,y⟩⟩
    .exact .inl ⟨a,wr,rfl,.inl (.inl (by simp only[af.star,cH,List.mem_append];exact .inr y))⟩
   .exact .inr (.inl ⟨r,wr,rfl,t _ i⟩)
   .exact .inr (.inr ⟨m,rfl,hm⟩)
theorem Ff {P:Program}{f:FuncId}{args:Array Value}{F:af}{R:Value->List (Nat×Obj)->Prop}(h:aD P f args F.cN (fun v G=>R v G.own)):
  aD P f args F (fun v G=>∃l,R v l/\G={ro:=F.ro,own:=l++F.own}):=by
 intro main J hJ c cs hK
 by_cases hw:∃w,Has F w
 .obtain ⟨k,i⟩:=hw
  have j:Fits F F.cN:=⟨⟨k,i.cN,i⟩,fun b hb=>(by cases hb),fun a e hm=>(by cases hm)⟩
  have m:AD J F (G (Frame.enter P f args .normal) (c::cs)) F.cN:=by
   refine h main _ (Fe hJ F) c cs fun v G n s=>?_
   have g:∀(a:Addr) (v:Value),F.ro a=some v->(G.star F).ro a=some v:=fun a v d=>by simp[af.star,d]
   refine hJ.mono (F:={ro:=F.ro,own:=G.own++F.own}) ⟨fun w hw=>⟨fun a v d=>hw.ro a v (g a v d),hw.own,hw.nodup,fun a v d=>hw.apart a v (g a v d)⟩,fun b hb=>hb,fun a e=>?_⟩ (hK v {ro:=F.ro,own:=G.own++F.own} ⟨G.own,n,rfl⟩)
   obtain ⟨o,p⟩:=Option.isSome_iff_exists.1 e
   exact .inl (by rw[g a o p];rfl)
  refine hJ.mono ⟨fun w hw=>j.both hw.cN hw,fun b hb=>?_,fun a e=>?_⟩ (m j)
  .simpa [af.star,af.cN] using hb
  .rcases kQ e with x|x
   .exact .inl x
   .obtain ⟨v,q⟩:=Option.isSome_iff_exists.1 x
    exact (Ad q).symm
 .exact hJ.step fun w r=>absurd ⟨w,r⟩ hw
theorem v8 {P:Program}{f:FuncId}{args:Array Value}{F:af}{R:Value->Prop}(h:aD P f args F.cN (fun v _=>R v)):aD P f args F (fun v G=>R v/\G=F):=by
 intro main J hJ c cs hK;refine Ff (R:=fun v _=>R v) h main J hJ c cs fun v G d=>?_;obtain ⟨l,e,rfl⟩:=d;refine hJ.mono (F:=F) ⟨fun w hw=>⟨hw.ro,fun b o hb=>hw.own b o (List.mem_append_right _ hb),?_,fun a v g hm=>hw.apart a v g ?_⟩,fun b hb=>?_,fun a i=>.inl i⟩ (hK v F ⟨e,rfl⟩)
 .have:=hw.nodup;simp only[cH] at this;exact (List.nodup_append.1 this).2.1
 .simp only[cH,List.mem_append];exact .inr hm
 .simp only[cH,List.mem_append];exact .inr hb
end Go.Sep
end
section
namespace Go.Sep
inductive Rk:Type 1
 |mk (ι:Type) (f:ι->Rk)
namespace Rk
def kids:Rk->Rk->Prop
 | .mk ι f,r=>∃i,r=f i
theorem wf:WellFounded (fun a b:Rk=>kids b a):=⟨fun r=>by
 induction r with
 |mk ι f ih=>exact ⟨_,fun b h=>by obtain ⟨i,rfl⟩:=h;exact ih i⟩⟩
def nat:Nat->Rk
 |0=>.mk Empty fun x=>x.elim
 |n+1=>.mk Unit fun _=>nat n
theorem AE (n:Nat):kids (nat (n+1)) (nat n):=⟨(),rfl⟩
end Rk
def sS (n:Nat)(ρ' ρ:Nat->Rk):Prop:=∃i,i<n/\(ρ i).kids (ρ' i)/\∀j,j≠i->ρ' j=ρ j
theorem AF:∀n,WellFounded (sS n)
 |0=>⟨fun ρ=>⟨_,fun _ ⟨i,hi,_⟩=>absurd hi (Nat.not_lt_zero i)⟩⟩
 |n+1=>by
  refine ⟨fun ρ=>?_⟩
  have key:∀(a:Rk) (ρ:Nat->Rk),ρ n=a->Acc (sS (n+1)) ρ:=by
   intro a
   induction Rk.wf.apply a with
   |intro a _ f=>
    intro ρ
    induction (AF n).apply ρ with
    |intro ρ _ g=>
     intro b
     refine ⟨_,fun ρ' ⟨i,hi,c,d⟩=>?_⟩
     by_cases h:i=n
     .subst h
      exact f (ρ' i) (by rw[<-b];exact c) ρ' rfl
     .refine g ρ' ⟨i,aa,c,d⟩ ?_
      rw[d n (fun e=>h e.symm)];exact b
  exact key _ ρ rfl
def AG (n:Nat)(a x:(Nat->Rk)×Nat):Prop:=sS n a.1 x.1\/(a.1=x.1/\a.2<x.2)
theorem AH (n:Nat):WellFounded (AG n):=by
 refine ⟨fun ⟨ρ,m⟩=>?_⟩
 induction (AF n).apply ρ generalizing m with
 |intro ρ _ b=>
  induction m using Nat.strongRecOn with
  |_ m c=>
   refine ⟨_,fun ⟨ρ',a⟩ h=>?_⟩;rcases h with h|⟨rfl,h⟩
   .exact b ρ' h a
   .exact c a h
end Go.Sep
end

/- A part of the proof of a row and its tied card: QM3. -/
import Derived.Test.YtghbphimkgamkaaGreatDoorQM2
set_option linter.all false
section
namespace Go.Sep
open Go Go.Conc
theorem sx:∀{pre bp:List (Nat×Obj)} {b:Nat} {o:Obj},au pre b->lk (pre++((b,o)::bp)) b=some o
 |[],bp,b,o,_=>by simp[lk]
 |(c,x)::pre,bp,b,o,h=>by
  have a:¬c=b:=fun e=>h.1 e.symm
  simp[lk,a,sx h.2]
theorem A2:∀{pre bp:List (Nat×Obj)} {b:Nat} {o x:Obj},au pre b->iX (pre++((b,o)::bp)) b x=pre++((b,x)::bp)
 |[],bp,b,o,x,_=>by simp[iX]
 |(c,y)::pre,bp,b,o,x,h=>by
  have a:¬c=b:=fun e=>h.1 e.symm
  simp[iX,a,A2 h.2]
theorem vY {ro:Addr->Option Value}{pre bp:List (Nat×Obj)}{b:Nat}{e:TypeId}(c:au pre b)(o:Nat):∀(a:List Value) (arr:Array Value) (i:Nat),(∀v∈a,bC v=true)->o+i+a.length<=arr.size->
  aa.jI ⟨ro,pre++((b,.cells arr e)::bp)⟩ ⟨b,o,none⟩ i a=some ⟨ro,pre++((b,.cells (cK arr (o+i) a) e)::bp)⟩
 |[],arr,i,_,_=>rfl
 |v::a,arr,i,d,h=>by
  simp only[List.length_cons] at h
  have f:(⟨b,o,none⟩:Addr).add i=⟨b,o+i,none⟩:=by
   unfold Addr.add
   split
   .rename_i hi;subst hi;rfl
   .rfl
  unfold aa.jI
  have:aa.l8 ⟨ro,pre++((b,.cells arr e)::bp)⟩ ((⟨b,o,none⟩:Addr).add i) v=some ⟨ro,pre++((b,.cells (arr.setIfInBounds (o+i) v) e)::bp)⟩:=by
   have g:o+i<arr.size:=by omega
   simp[aa.l8,f,sx c,d v (by simp),g,frozenAt,aa.put,A2 c]
  rw[this]
  simp only
  rw[vY c o a _ (i+1) (fun x j=>d x (by simp[j])) (by simp;omega)]
  rw[cK]
  congr 1
theorem A3 {ro:Addr->Option Value}{pre bp:List (Nat×Obj)}{b:Nat}{e:TypeId}{arr:Array Value}(a:au pre b)(c:∀off sp,ro ⟨b,off,sp⟩=none):∀(n i:Nat),i+n<=arr.size->
  aa.dn ⟨ro,pre++((b,.cells arr e)::bp)⟩ ⟨b,0,none⟩ i n=some ((arr.toList.drop i).take n)
 |0,i,_=>by simp[aa.dn]
 |n+1,i,h=>by
  have f:(⟨b,0,none⟩:Addr).add i=⟨b,i,none⟩:=by
   unfold Addr.add
   split
   .rename_i hi;subst hi;rfl
   .simp
  have d:i<arr.size:=by omega
  unfold aa.dn
  have ih:=A3 (e:=e) (arr:=arr) (bp:=bp) a c n (i+1) (by omega)
  simp only[aa.get,f,c,if_true,sx a,Option.bind_some,cellOf,Array.getElem?_eq_getElem d,ih]
  have g:i<arr.toList.length:=by simpa using d
  rw[List.drop_eq_getElem_cons g,List.take_succ_cons]
  simp
theorem Gr.F8 {ro:Addr->Option Value}{e:TypeId}{size:Nat}{v:Value}{l:List (List Value)}{aX pre bp:List (Nat×Obj)}(h:Gr ro e size v l aX)(a:∀k∈keys aX,au pre k):
  Go.Sep.gk ⟨ro,pre++(aX++bp)⟩ size v=some l.flatten:=by
 rcases h with ⟨rfl,rfl,rfl⟩|⟨b,arr,cap,rfl,rfl,hs,c,ht,f,d⟩
 .rfl
 .simp only[Go.Sep.gk,List.cons_append,List.nil_append]
  have hle:l.length*size<=arr.size:=by rw[hs];exact Nat.mul_le_mul_right _ c
  rw[A3 (a b (by simp[keys])) d _ _ (by omega)]
  simp[ht]
theorem Le.ps {ro:Addr->Option Value}{l m l':List (Nat×Obj)}(e:l.Perm m)(hs:m.Sublist l'):Le ⟨ro,l⟩ ⟨ro,l'⟩:=by
 have c:(keys m).Sublist (keys l'):=hs.map _;have d:(keys l).Perm (keys m):=e.map _;exact ⟨fun w hw=>⟨hw.ro,fun b o hb=>hw.own b o (hs.subset (e.subset hb)),d.nodup_iff.2 (c.nodup hw.nodup),fun a v f hm=>hw.apart a v f (c.subset (d.subset hm))⟩,fun b hb=>c.subset (d.subset hb),fun a g=>.inl g⟩
structure aQ (ks:List Nat):Prop where
 nd:ks.Nodup
abbrev Nd (l:List (Nat×Obj)):Prop:=(keys l).Nodup
theorem Nd.fresh {pre aX bp:List (Nat×Obj)}(h:Nd (pre++(aX++bp))):∀k∈keys aX,au pre k:=fun k a=>by
 refine mE fun hm=>?_
 simp only[Nd,cq] at h
 exact (List.nodup_append.1 h).2.2 k hm k (List.mem_append_left _ a) rfl
theorem Nd.push {l:List (Nat×Obj)}{b:Nat}{o:Obj}(h:Nd l)(hb:au l b):Nd ((b,o)::l):=by
 simp only[Nd,keys,List.map_cons,List.nodup_cons];exact ⟨lf hb,h⟩
theorem Nd.drop {pre aX bp:List (Nat×Obj)}(h:Nd (pre++(aX++bp))):Nd (pre++bp):=
 ((List.Sublist.append_left (List.sublist_append_right aX bp) pre).map _).nodup h
theorem Nd.ins {pre aX bp:List (Nat×Obj)}{b:Nat}{o:Obj}(h:Nd (pre++(aX++bp)))(hb:au (pre++(aX++bp)) b):Nd (pre++([(b,o)]++bp)):=by
 have a:Nd ((b,o)::(pre++bp)):=h.drop.push (mE fun hm=>lf hb (((List.Sublist.append_left (List.sublist_append_right aX bp) pre).map _).subset hm));have:(pre++([(b,o)]++bp)).Perm ((b,o)::(pre++bp)):=List.perm_middle;exact (this.map _).nodup_iff.2 a
section
variable {P : Program}
theorem A4 {ro:Addr->Option Value}{pre aX bp:List (Nat×Obj)}{R:Value->aa->Prop}{argTypes:Array TypeId}{ty B C e Q:TypeId}{size p n c:Nat}{D:Option Addr}{s z:Value}{l xs:List (List Value)}
  (E:argTypes[0]?=some B) (G:argTypes[1]?=some C) (he:c9 P B=some e) (d:c9 P C=some Q) (hs:b7 P e=some size) (H:zeroOf P e=some z) (S:z.cells.size=size) (hb:bytesOf P e=some p)
  (I:0<p) (J:p<=10000) (hg:Gr ro e size s l aX) (j:Nd (pre++(aX++bp))) (T:n=xs.length) (K:∀x∈xs,x.length=size/\∀v∈x,bC v=true) (L:gk ⟨ro,pre++(aX++bp)⟩ size (.slice D n c)=some xs.flatten)
  (M:l.length+xs.length<=1000000)
  (q:∀v r,Gr ro e size v (l++xs) r->Nd (pre++(r++bp))->∃F0,Le F0 ⟨ro,pre++(r++bp)⟩/\R v F0):
  aY P (Builtin.append_ argTypes ty #[s,.slice D n c]) (fun v F=>∃F0,Le F0 F/\R v F0) ⟨ro,pre++(aX++bp)⟩:=by
 subst T
 have N:=j.fresh
 have hold:=hg.F8 (bp:=bp) N
 have t:∀x∈xs,x.length=size:=fun x h=>(K x h).1
 have a:=iz t
 have out:∀(k b:Nat) (old:List Value),old=l.flatten->(∀x∈l,x.length=size)->l.length+xs.length<=k->dS ⟨ro,pre++(aX++bp)⟩ b->
   ∃F0,Le F0 (aa.push ⟨ro,pre++(aX++bp)⟩ b (.cells (old.toArray++xs.flatten.toArray++Builtin.zeroCells z.cells (k - (l.length+xs.length))) e))/\R (.slice (some ⟨b,0,none⟩) (l.length+xs.length) k) F0:=by
  intro k b old U u i f
  subst U
  have w:=iz u
  have y:=q (.slice (some ⟨b,0,none⟩) (l.length+xs.length) k) [(b,.cells (l.flatten.toArray++xs.flatten.toArray++Builtin.zeroCells z.cells (k - (l.length+xs.length))) e)] (.inr ⟨b,_,k,by simp,rfl,?_,by simpa using i,?_,?_,f.ro⟩) (j.ins f.own)
  .obtain ⟨F0,hle,y⟩:=y
   refine ⟨F0,hle.trans ?_,y⟩
   exact Le.ps (m:=(b,.cells (l.flatten.toArray++xs.flatten.toArray++Builtin.zeroCells z.cells (k - (l.length+xs.length))) e)::(pre++bp)) List.perm_middle (.cons₂ _ (List.Sublist.append_left (List.sublist_append_right aX bp) pre))
  .simp only[Array.size_append,List.size_toArray,Builtin.zeroCells,Array.size_map,Array.size_range,w,a,S]
   rw[<-Nat.add_mul,<-Nat.add_mul]
   congr 1;omega
  .simp only[Array.toList_append,List.length_append,List.flatten_append]
   rw[List.take_append_of_le_length (by simp[w,a,Nat.add_mul])]
   rw[List.take_of_length_le (by simp[w,a,Nat.add_mul])]
  .intro x d
   rcases List.mem_append.1 d with h|h
   .exact u x h
   .exact t x h
 rcases id hg with ⟨rfl,rfl,rfl⟩|⟨b,arr,cap,rfl,rfl,A,u,ht,o,V⟩
 .refine vD E G he d hs H hb I J (by simpa using M) hold L (fun g=>.inr ⟨rfl,?_⟩) (fun g k b i f=>?_)
  .have:xs=[]:=List.eq_nil_of_length_eq_zero (by omega)
   subst this
   exact q _ _ (.inl ⟨rfl,rfl,rfl⟩) j
  .have:=out k b [] rfl (by simp) (by simpa using i) f
   simpa using this
 .refine vD E G he d hs H hb I J M hold L (fun g=>.inl ⟨_,⟨ro,pre++([(b,.cells (cK arr (l.length*size) xs.flatten) e)]++bp)⟩,rfl,?_,?_⟩) (fun g k W i f=>out k W _ rfl o i f)
  .have X:(⟨b,0,none⟩:Addr).add (l.length*size)=⟨b,l.length*size,none⟩:=by
    unfold Addr.add
    split
    .rename_i hi;rw[hi]
    .simp
   rw[X]
   have O:l.length*size+xs.length*size<=arr.size:=by rw[A,<-Nat.add_mul];exact Nat.mul_le_mul_right _ g
   have:=vY (ro:=ro) (e:=e) (bp:=bp) (N b (by simp[keys])) (l.length*size) xs.flatten arr 0 (fun v Y=>by
    obtain ⟨x,Z,ab⟩:=List.mem_flatten.1 Y
    exact (K x Z).2 v ab) (by rw[a];omega)
   simpa using this
  .refine q _ _ (.inr ⟨b,_,cap,by simp,rfl,by rw[rX];exact A,by simpa using g,?_,?_,V⟩) (by simpa [Nd,keys] using j)
   .have O:l.length*size+xs.length*size<=arr.size:=by rw[A,<-Nat.add_mul];exact Nat.mul_le_mul_right _ g
    rw[rY _ _ _ (by rw[a];exact O),ht,List.length_append,List.flatten_append,a]
    rw[List.take_append_of_le_length (by simp[iz o,a,Nat.add_mul])]
    rw[List.take_of_length_le (by simp[iz o,a,Nat.add_mul])]
   .intro x d
    rcases List.mem_append.1 d with h|h
    .exact o x h
    .exact t x h
theorem A5:∀{pre own:List (Nat×Obj)} {b:Nat} {o:Obj},lk pre b=some o->lk (pre++own) b=some o
 |(c,x)::pre,own,b,o,h=>by
  simp only[List.cons_append,lk] at h ⊢
  split
  .rename_i a;rw[if_pos a] at h;exact h
  .rename_i a;rw[if_neg a] at h;exact A5 h
theorem A6 {ro:Addr->Option Value}{own:List (Nat×Obj)}{b:Nat}{cs:Array Value}{e:TypeId}(a:lk own b=some (.cells cs e))(c:∀off sp,ro ⟨b,off,sp⟩=none):∀n i,i+n<=cs.toList.length->aa.dn ⟨ro,own⟩ ⟨b,0,none⟩ i n=some ((cs.toList.drop i).take n)
 |0,i,_=>by simp[aa.dn]
 |n+1,i,hi=>by
  have d:i<cs.toList.length:=by omega
  unfold aa.dn
  have f:(⟨b,0,none⟩:Addr).add i=⟨b,i,none⟩:=by
   unfold Addr.add
   split
   .rename_i hi;subst hi;rfl
   .simp
  have g:i<cs.size:=by simpa using d
  simp only[aa.get,f,c,if_true,a,Option.bind_some,cellOf,Array.getElem?_eq_getElem g,A6 a c n (i+1) (by omega)]
  rw[List.drop_eq_getElem_cons d,List.take_succ_cons]
  simp
theorem aP.more {T:Type}{r:cc T}{ro:Addr->Option Value}{e:TypeId}{l xs:List T}{ls ys:List (List Value)}{v:Value}{a:List (Nat×Obj)}(hg:Gr ro e r.n v (ls++ys) a)(b:ls.length=l.length)(c:ys.length=xs.length)
  (d:∀(i:Nat) (x:T),l[i]?=some x->∃cs:List Value,ls[i]?=some cs/\r.rel ro x cs) (f:∀(i:Nat) (x:T),xs[i]?=some x->∃cs:List Value,ys[i]?=some cs/\r.rel ro x cs) (g:l.length+xs.length<=1000000):aP r ro e v (l++xs) a:=by
 refine ⟨_,hg,by simp[b,c],by simpa using g,fun i y hi=>?_⟩
 rcases Nat.lt_or_ge i l.length with h|h
 .rw[List.getElem?_append_left h] at hi
  rw[List.getElem?_append_left (by omega)]
  exact d i y hi
 .rw[List.getElem?_append_right h] at hi
  rw[List.getElem?_append_right (by omega),b]
  exact f _ y hi
theorem A7 {T:Type}{r:cc T}{ro:Addr->Option Value}{aX:List (Nat×Obj)}{R:Value->aa->Prop}{argTypes:Array TypeId}{g h e p e2:TypeId}{b c:Nat}{s z:Value}{l:List T}{x:T}{cs:Array Value}{own:List (Nat×Obj)}(pre bp:List (Nat×Obj))(q:own=pre++(aX++bp))
  (hg:aP r ro e s l aX) (t:aQ (keys own)) (j:l.length+[x].length<=1000000) (d:r.rel ro x cs.toList) (u:lk pre c=some (.cells cs e2)) (w:∀off sp,ro ⟨c,off,sp⟩=none)
  (A:argTypes[0]?=some g) (B:argTypes[1]?=some h) (he:c9 P g=some e) (C:c9 P h=some p) (hs:b7 P e=some r.n) (D:zeroOf P e=some z) (E:z.cells.size=r.n) (hb:bytesOf P e=some b)
  (F:0<b) (G:b<=10000)
  (H:∀v a,aP r ro e v (l++[x]) a->∀f,f=pre++(a++bp)->aQ (keys f)->∃F0,Le F0 ⟨ro,f⟩/\R v F0):mw P argTypes s (.slice (some ⟨c,0,none⟩) 1 1) R ⟨ro,own⟩:=by
 subst q
 obtain ⟨ls,I,k,hm,J⟩:=hg
 have K:=t.nd
 intro ty
 have hlen:cs.toList.length=r.n:=r.len d
 refine A4 (xs:=[cs.toList]) (e:=e) (size:=r.n) (z:=z) (l:=ls) A B he C hs D E hb F G I K rfl (fun y o=>?_) ?_ (by simpa [k] using j) (fun v a L M=>H v a (aP.more L k rfl J (fun i y hi=>?_) j) _ rfl ⟨M⟩)
 .simp only[List.mem_singleton] at o;subst o;exact ⟨hlen,r.one d⟩
 .simp only[gk,Nat.one_mul]
  rw[A6 (A5 u) w _ _ (by omega)]
  rw[List.drop_zero,List.take_of_length_le (by omega)]
  simp
 .cases i with
  |zero=>simp at hi;subst hi;exact ⟨cs.toList,rfl,d⟩
  |succ m=>simp at hi
theorem F9 {T:Type}{r:cc T}{ro:Addr->Option Value}{aX:List (Nat×Obj)}{R:Value->aa->Prop}{argTypes:Array TypeId}{g i e m:TypeId}{d c:Nat}{ad:Option Addr}{s z:Value}{l xs:List T}{own:List (Nat×Obj)}(pre bp:List (Nat×Obj))(o:own=pre++(aX++bp))
  (hg:aP r ro e s l aX) (p:aQ (keys own)) (j:l.length+xs.length<=1000000) (q:aA r ro (.slice ad xs.length c) xs)
  (t:argTypes[0]?=some g) (u:argTypes[1]?=some i) (he:c9 P g=some e) (w:c9 P i=some m) (hs:b7 P e=some r.n) (x:zeroOf P e=some z) (y:z.cells.size=r.n) (hb:bytesOf P e=some d)
  (A:0<d) (B:d<=10000)
  (C:∀v b,aP r ro e v (l++xs) b->∀f,f=pre++(b++bp)->aQ (keys f)->∃F0,Le F0 ⟨ro,f⟩/\R v F0):mw P argTypes s (.slice ad xs.length c) R ⟨ro,own⟩:=by
 subst o
 obtain ⟨ls,D,k,hm,E⟩:=hg
 have F:=p.nd
 intro ty
 obtain ⟨G,k1,H,I,J⟩:=q.cells ⟨ro,pre++(aX++bp)⟩ (fun a v h=>by simp[aa.get,h])
 exact A4 (xs:=G) (e:=e) (size:=r.n) (z:=z) (l:=ls) t u he w hs x y hb A B D F k1.symm H J (by rw[k,k1];exact j) (fun v b K L=>C v b (aP.more K k k1 E I j) _ rfl ⟨L⟩)
theorem aP.lB {T:Type}{r:cc T}{ro:Addr->Option Value}{e:TypeId}{v:Value}{l:List T}{aX:List (Nat×Obj)}(h:aP r ro e v l aX){own:List (Nat×Obj)}(a pre bp:List (Nat×Obj))(f:own=pre++(aX++bp))(g:a=pre++bp)(i:aQ (keys own))(j:aE ro a):
  ∃aM,Ext ro aM/\aE aM a/\aA r aM v l/\Le ⟨aM,a⟩ ⟨ro,own⟩:=by
 subst f g
 have c:Nd (pre++(aX++bp)):=i.nd
 have m:Apart (keys (pre++bp)) aX:=fun k d hm=>by
  simp only[Nd,cq] at c
  have b:=List.nodup_append.1 c
  simp only[cq,List.mem_append] at hm
  rcases hm with hm|hm
  .exact b.2.2 k hm k (List.mem_append_left _ d) rfl
  .exact (List.nodup_append.1 b.2.1).2.2 k d k hm rfl
 obtain ⟨aM,n,b,o,p⟩:=h.AD (pre++bp) m rfl j
 refine ⟨aM,n,b,o,p.trans ?_⟩
 have q:((pre++bp)++aX).Perm (pre++(aX++bp)):=by
  rw[List.append_assoc]
  exact List.Perm.append_left pre List.perm_append_comm
 exact Le.ps q (List.Sublist.refl _)
theorem aP.setAt {T:Type}{r:cc T}{ro:Addr->Option Value}{e:TypeId}{l:List T}{b n cap:Nat}{arr:Array Value}(h:aP r ro e (.slice (some ⟨b,0,none⟩) n cap) l [(b,.cells arr e)]){i:Nat}{x y:T}(hi:l[i]?=some x){cs:List Value}(m:r.rel ro y cs):
  aP r ro e (.slice (some ⟨b,0,none⟩) n cap) (l.set i y) [(b,.cells (cK arr (i*r.n) cs) e)]:=by
 obtain ⟨ls,hg,o,hm,p⟩:=h
 have D:i<l.length:=(List.getElem?_eq_some_iff.1 hi).1
 have a:=r.len m
 rcases hg with ⟨k,_,_⟩|⟨E,F,q,k,s,hs,hle,ht,c,t⟩
 .cases k
 .cases s
  obtain ⟨rfl,rfl⟩:n=ls.length/\cap=q:=by cases k;exact ⟨rfl,rfl⟩
  have u:i*r.n+cs.length<=arr.size:=by
   rw[hs,a,<-Nat.succ_mul]
   exact Nat.mul_le_mul_right _ (by omega)
  refine ⟨ls.set i cs,.inr ⟨b,_,cap,by simp,rfl,by rw[rX];exact hs,by simpa using hle,?_,?_,t⟩,by simp[o],by simpa using hm,fun j z d=>?_⟩
  .rw[rY _ _ _ u]
   have G:=iz c
   have f:i<ls.length:=by omega
   have e1:(ls.set i cs).flatten=(ls.take i).flatten++cs++(ls.drop (i+1)).flatten:=by
    rw[List.set_eq_take_append_cons_drop,if_pos f]
    simp
   have e2:ls.flatten=(ls.take i).flatten++(ls.drop i).flatten:=by rw[<-List.flatten_append,List.take_append_drop]
   have t1:((ls.take i).flatten).length=i*r.n:=by rw[iz (fun x h=>c x (List.mem_of_mem_take h)),List.length_take,Nat.min_eq_left (by omega)]
   have v:(ls.drop i).flatten=ls[i]++(ls.drop (i+1)).flatten:=by rw[List.drop_eq_getElem_cons f,List.flatten_cons]
   have t2:ls[i].length=r.n:=c _ (List.getElem_mem f)
   have a1:arr.toList.take (i*r.n)=(ls.take i).flatten:=by
    have:=congrArg (List.take (i*r.n)) ht
    rw[List.take_take,Nat.min_eq_left (Nat.mul_le_mul_right _ (by omega)),e2,List.take_append_of_le_length (Nat.le_of_eq t1.symm),List.take_of_length_le (Nat.le_of_eq t1)] at this
    exact this
   have a2:(arr.toList.take (ls.length*r.n)).drop (i*r.n+cs.length)=(ls.drop (i+1)).flatten:=by
    have t3:((ls.take i).flatten++ls[i]).length=i*r.n+cs.length:=by rw[List.length_append,t1,t2,a]
    rw[ht,e2,v,<-List.append_assoc,List.drop_append_of_le_length (Nat.le_of_eq t3.symm),List.drop_eq_nil_of_le (Nat.le_of_eq t3),List.nil_append]
   rw[a1,e1]
   simp only[List.length_set]
   have w:ls.length*r.n=(i*r.n+cs.length)+(ls.length*r.n - (i*r.n+cs.length)):=by
    have:i*r.n+cs.length<=ls.length*r.n:=by rw[a,<-Nat.succ_mul];exact Nat.mul_le_mul_right _ f
    omega
   rw[w,List.take_append]
   rw[List.take_of_length_le (by rw[List.length_append,t1];omega)]
   congr 1
   have:i*r.n+cs.length+(ls.length*r.n - (i*r.n+cs.length)) - ((ls.take i).flatten++cs).length=ls.length*r.n - (i*r.n+cs.length):=by simp only[List.length_append,t1];omega
   rw[this,<-a2,List.drop_take]
  .intro z A
   rcases List.mem_or_eq_of_mem_set A with h|h
   .exact c z h
   .rw[h];exact a
  .rcases Nat.decEq i j with g|g
   .rw[List.getElem?_set_ne g] at d
    obtain ⟨cs',B,C⟩:=p j z d
    exact ⟨cs',by rw[List.getElem?_set_ne g];exact B,C⟩
   .subst g
    rw[List.getElem?_set_self (by omega)] at d
    obtain rfl:=Option.some.inj d
    exact ⟨cs,List.getElem?_set_self (by omega),m⟩
end
section
variable {P : Program} {main : Bool} {J : Goroutine → aa → Prop}
theorem aC (hJ:Closed P main J){c:Code}{Q:Ex->Act->aa->Prop}{a:Act}{F:aa}(h:aQ (keys F.own)->Wp J c Q a F):Wp J c Q a F:=by
 intro b k cs hb d;by_cases hw:∃w,Has F w
 .obtain ⟨w,hw⟩:=hw;exact h ⟨hw.nodup⟩ b k cs hb d
 .exact hJ.step fun w e=>absurd ⟨w,e⟩ hw
end
theorem aQ.cons {l:List (Nat×Obj)}{b:Nat}(hb:au l b)(h:aQ (keys l)):aQ (b::keys l):=⟨List.nodup_cons.2 ⟨lf hb,h.nd⟩⟩
theorem aE.nil (ro:Addr->Option Value):aE ro []:=fun b h=>by cases h
theorem aE.cons {ro:Addr->Option Value}{b:Nat}{o:Obj}{l:List (Nat×Obj)}(hb:∀off sp,ro ⟨b,off,sp⟩=none)(h:aE ro l):aE ro ((b,o)::l):=fun c a=>by
 simp only[keys,List.map_cons,List.mem_cons] at a
 rcases a with rfl|a
 .exact hb
 .exact h c a
theorem aE.app {ro:Addr->Option Value}{l l':List (Nat×Obj)}(h:aE ro l)(b:aE ro l'):aE ro (l++l'):=fun c a=>by
 rw[cq] at a
 exact (List.mem_append.1 a).elim (h c) (b c)
theorem aE.hd {ro:Addr->Option Value}{b:Nat}{o:Obj}{l:List (Nat×Obj)}(h:aE ro ((b,o)::l)):∀off sp,ro ⟨b,off,sp⟩=none:=h b (by simp[keys])
theorem aE.tl {ro:Addr->Option Value}{x:Nat×Obj}{l:List (Nat×Obj)}(h:aE ro (x::l)):aE ro l:=fun c a=>h c (by simp only[keys,List.map_cons,List.mem_cons];exact .inr a)
theorem aE.l {ro:Addr->Option Value}{l l':List (Nat×Obj)}(h:aE ro (l++l')):aE ro l:=fun c a=>h c (by rw[cq];exact List.mem_append_left _ a)
theorem aE.r {ro:Addr->Option Value}{l l':List (Nat×Obj)}(h:aE ro (l++l')):aE ro l':=fun c a=>h c (by rw[cq];exact List.mem_append_right _ a)
theorem aP.jK {T:Type}{r:cc T}{ro:Addr->Option Value}{e:TypeId}{v:Value}{l:List T}{aX:List (Nat×Obj)}(h:aP r ro e v l aX):aE ro aX:=by
 obtain ⟨ls,hg,-⟩:=h;rcases hg with ⟨_,_,rfl⟩|⟨b,arr,cap,_,rfl,_,_,_,_,a⟩
 .exact aE.nil _
 .exact aE.cons a (aE.nil _)
theorem Le.back {ro:Addr->Option Value}{l l':List (Nat×Obj)}(A B O S:List (Nat×Obj))(a:l=A++(B++(O++S)))(b:l'=A++(O++(B++S))):Le ⟨ro,l⟩ ⟨ro,l'⟩:=by
 subst a b;refine Le.ps (m:=A++(O++(B++S))) (List.Perm.append_left A ?_) (List.Sublist.refl _);rw[<-List.append_assoc,<-List.append_assoc];exact List.Perm.append_right S List.perm_append_comm
section
variable {P : Program} {main : Bool} {J : Goroutine → aa → Prop}
def sA (J:Goroutine->aa->Prop)(jL:Frame)(F:aa)(R:Value->aa->Prop):Prop:=
 ∀(c:Frame) (cs:List Frame),(∀v F',R v F'->J (G (c.finish v) cs) F')->J (G jL (c::cs)) F
theorem A8 (hJ:Closed P main J){jL:Frame}{ro:Addr->Option Value}{aX:List (Nat×Obj)}{K:Value->aa->Prop}{own:List (Nat×Obj)}(pre bp:List (Nat×Obj))(q:own=pre++(aX++bp))(R:Value->List (Nat×Obj)->Prop)(h:∀(main:Bool) (J:Goroutine->aa->Prop),Closed P main J->sA J jL ⟨ro,aX⟩ (fun v G=>∃d,R v d/\Le ⟨ro,d⟩ G))
  (M:∀v d,R v d->∀r,r=pre++(d++bp)->aQ (keys r)->∃F0,Le F0 ⟨ro,r⟩/\K v F0):sA J jL ⟨ro,own⟩ K:=by
 subst q
 intro c cs N
 by_cases hw:∃w,Has ⟨ro,pre++(aX++bp)⟩ w
 .obtain ⟨s,k⟩:=hw
  let F:aa:=⟨fun _=>none,pre++bp⟩
  have t:(pre++bp).Sublist (pre++(aX++bp)):=List.Sublist.append_left (List.sublist_append_right aX bp) pre
  have u:aX.Sublist (pre++(aX++bp)):=(List.sublist_append_left aX bp).trans (List.sublist_append_right pre _)
  have B:∀w,Has ⟨ro,pre++(aX++bp)⟩ w->Has F w:=fun w hw=>⟨fun a v h=>(by cases h),fun b o hb=>hw.own b o (t.subset hb),(t.map _).nodup hw.nodup,fun a v h=>(by cases h)⟩
  have C:∀w,Has ⟨ro,pre++(aX++bp)⟩ w->Has ⟨ro,aX⟩ w:=fun w hw=>⟨hw.ro,fun b o hb=>hw.own b o (u.subset hb),(u.map _).nodup hw.nodup,fun a v i hm=>hw.apart a v i ((u.map _).subset hm)⟩
  have hd:∀b,b∈keys aX->b∉keys (pre++bp):=fun b hb hm=>by
   have l:=k.nodup
   simp only[cq] at l
   have D:=List.nodup_append.1 l
   simp only[cq,List.mem_append] at hm
   rcases hm with hm|hm
   .exact D.2.2 b hm b (List.mem_append_left _ hb) rfl
   .exact (List.nodup_append.1 D.2.1).2.2 b hb b hm rfl
  have E:Fits F ⟨ro,aX⟩:=⟨⟨s,C s k,B s k⟩,hd,fun a f hm=>(by cases f)⟩
  have O:mD F ⟨ro,aX⟩:=fun a f hm=>by
   obtain ⟨v,Q⟩:=Option.isSome_iff_exists.1 f
   exact k.apart a v Q ((t.map _).subset hm)
  have q:vM J F (G jL (c::cs)) ⟨ro,aX⟩:=by
   refine h main _ (AA hJ F) c cs fun v H A m l=>?_
   obtain ⟨d,A,hle⟩:=A
   have I:Le ⟨ro,pre++(d++bp)⟩ (H.star F):=by
    refine ⟨fun w hw=>?_,fun b hb=>?_,fun a f=>?_⟩
    .have n:=hle.has w (m.right hw)
     have g:=m.left hw
     have S:∀b,b∈keys d->b∉keys (pre++bp):=fun b hb=>m.own b (hle.own b hb)
     have j:(pre++(d++bp)).Perm (d++(pre++bp)):=by
      rw[<-List.append_assoc,<-List.append_assoc]
      exact List.Perm.append_right bp List.perm_append_comm
     refine ⟨n.ro,fun b o hb=>?_,?_,fun a v i hm=>?_⟩
     .rcases List.mem_append.1 (j.subset hb) with x|x
      .exact n.own b o x
      .exact g.own b o x
     .refine (j.map _).nodup_iff.2 ?_
      rw[List.map_append]
      exact List.nodup_append.2 ⟨n.nodup,g.nodup,fun a f b hb e=>S a f (e▸hb)⟩
     .have L:=(j.map (·.1)).subset hm
      rw[List.map_append] at L
      rcases List.mem_append.1 L with x|x
      .exact n.apart a v i x
      .rcases hle.ro a (by simp only at i;simp[i]) with y|y
       .exact l a y x
       .exact m.own _ y x
    .simp only[aa.star,cq,List.mem_append] at hb ⊢
     rcases hb with x|x|x
     .exact .inr (show b∈keys (pre++bp) by rw[cq];exact List.mem_append_left _ x)
     .exact .inl (hle.own b x)
     .exact .inr (show b∈keys (pre++bp) by rw[cq];exact List.mem_append_right _ x)
    .rcases hle.ro a f with x|x
     .exact (gI (.inr x)).imp id (fun z=>by simp only[aa.star,cq,List.mem_append];exact .inr z)
     .exact .inr (by simp only[aa.star,cq,List.mem_append];exact .inl x)
   have T:∃fr cs',G (c.finish v) cs=G fr cs':=⟨_,_,rfl⟩
   obtain ⟨fr,cs',U⟩:=T
   by_cases p:∃w,Has (H.star F) w
   .obtain ⟨w1,p⟩:=p
    obtain ⟨F0,V,W⟩:=M v d A _ rfl ⟨(I.has w1 p).nodup⟩
    exact hJ.mono (V.trans I) (N v F0 W)
   .rw[U]
    exact hJ.step fun w g=>absurd ⟨w,g⟩ p
  refine hJ.mono ⟨fun w hw=>E.both (C w hw) (B w hw),fun b hb=>?_,fun a f=>?_⟩ (q E O)
  .have j:(aX++(pre++bp)).Perm (pre++(aX++bp)):=by
    rw[<-List.append_assoc,<-List.append_assoc]
    exact List.Perm.append_right bp List.perm_append_comm
   exact (j.map _).subset hb
  .rcases ki f with x|x
   .cases x
   .exact .inl x
 .exact hJ.step fun w g=>absurd ⟨w,g⟩ hw
theorem Ga (hJ:Closed P main J){f:FuncId}{args:Array Value}{ro:Addr->Option Value}{aX:List (Nat×Obj)}{K:Value->aa->Prop}{own:List (Nat×Obj)}(pre bp:List (Nat×Obj))(c:own=pre++(aX++bp))(R:Value->List (Nat×Obj)->Prop)(h:aD P f args ⟨ro,aX⟩ (fun v G=>∃a,R v a/\Le ⟨ro,a⟩ G))
  (d:∀v a,R v a->∀b,b=pre++(a++bp)->aQ (keys b)->∃F0,Le F0 ⟨ro,b⟩/\K v F0):cW P J f args ⟨ro,own⟩ K:=
 A8 hJ (jL:=Frame.enter P f args .normal) pre bp c R h d
end
attribute [go_sem] Array.size_setIfInBounds
theorem aA.op {T:Type}{r:cc T}{ro:Addr->Option Value}{ad:Option Addr}{n cap:Nat}{l:List T}(h:aA r ro (.slice ad n cap) l):
  l.length<=cap/\l.length<=1000000000000000/\∀i x,l[i]?=some x->∃p cs,ad=some p/\r.rel ro x cs/\∀j v,cs[j]?=some v->ro ((p.add (i*r.n)).add j)=some v:=by
 obtain ⟨d,f,e,a,b,c⟩:=h
 cases e
 exact ⟨a,b,c⟩
theorem aQ.sub {l l':List (Nat×Obj)}(A O S:List (Nat×Obj))(a:l=A++S)(b:l'=A++(O++S))(h:aQ (keys l')):aQ (keys l):=by
 subst a b;exact
 ⟨((List.Sublist.append_left (List.sublist_append_right O S) A).map _).nodup h.nd⟩
theorem aQ.back {l l':List (Nat×Obj)}(A B O S:List (Nat×Obj))(a:l=A++(B++(O++S)))(b:l'=A++(O++(B++S)))(h:aQ (keys l')):aQ (keys l):=by
 subst a b;refine ⟨(List.Perm.map _ (List.Perm.append_left A ?_)).nodup_iff.2 h.nd⟩;rw[<-List.append_assoc,<-List.append_assoc];exact List.Perm.append_right S List.perm_append_comm
theorem fS {ro:Addr->Option Value}{b:Nat}{o:Obj}(pre bp:List (Nat×Obj))(f:aQ (keys (pre++((b,o)::bp))))(_hr:∀off sp,ro ⟨b,off,sp⟩=none)(g:aE ro (pre++bp)):
  Ext ro (bV ro b o)/\aE (bV ro b o) (pre++bp)/\Le ⟨bV ro b o,pre++bp⟩ ⟨ro,pre++((b,o)::bp)⟩:=by
 have a:(pre++((b,o)::bp)).Perm ((b,o)::(pre++bp)):=List.perm_middle
 have h:Nd ((b,o)::(pre++bp)):=(a.map _).nodup_iff.1 f.nd
 have hb:b∉keys (pre++bp):=(List.nodup_cons.1 h).1
 refine ⟨gq _ _ _,fun c d off sp=>?_,?_⟩
 .have aG:¬c=b:=fun e=>hb (e▸d)
  simp[bV,g c d,aG]
 .have i:Le ⟨bV ro b o,pre++bp⟩ ⟨ro,(b,o)::(pre++bp)⟩:=ku (by simp[lk]) (.cons _ (List.Sublist.refl _)) (mE hb)
  exact i.trans (Le.ps a.symm (List.Sublist.refl _))
section
variable {P : Program} {main : Bool} {J : Goroutine → aa → Prop}
theorem fT (hJ:Closed P main J){c:Code}{Q:Ex->Act->aa->Prop}{a:Act}{F:aa}(h:aQ (keys F.own)->aE F.ro F.own->Wp J c Q a F):Wp J c Q a F:=by
 intro b k cs hb d;by_cases hw:∃w,Has F w
 .obtain ⟨w,hw⟩:=hw;refine h ⟨hw.nodup⟩ (fun b hb off sp=>?_) b k cs hb d;cases e:F.ro ⟨b,off,sp⟩ with
  |none=>rfl
  |some v=>exact absurd hb (hw.apart _ v e)
 .exact hJ.step fun w f=>absurd ⟨w,f⟩ hw
end
theorem vZ:∀(a:List Value) (arr:Array Value) (k:Nat),k+a.length<=arr.size->∀q,(cK arr k a)[q]?=if k<=q/\q<k+a.length then a[q - k]? else arr[q]?
 |[],arr,k,h,q=>by
  have:¬(k<=q/\q<k+([]:List Value).length):=by simp
  rw[if_neg this];rfl
 |v::a,arr,k,h,q=>by
  simp only[List.length_cons] at h
  rw[cK,vZ a _ (k+1) (by simp;omega)]
  simp only[List.length_cons]
  by_cases b:k=q
  .subst b
   rw[if_neg (by omega),if_pos (by omega),Array.getElem?_setIfInBounds_self_of_lt (by omega)]
   simp
  .by_cases c:k+1<=q/\q<k+1+a.length
   .rw[if_pos c,if_pos (by omega)]
    rw[show q - k=(q - (k+1))+1 by omega]
    simp
   .rw[if_neg c,if_neg (by omega),Array.getElem?_setIfInBounds_ne b]
theorem aP.part {T:Type}{r:cc T}{ro:Addr->Option Value}{e:TypeId}{l:List T}{b n cap:Nat}{arr:Array Value}(h:aP r ro e (.slice (some ⟨b,0,none⟩) n cap) l [(b,.cells arr e)]){i:Nat}{x y:T}(hi:l[i]?=some x)(o:Nat)(a cs cs':List Value)
  (hm:∀j v,cs[j]?=some v->arr[i*r.n+j]?=some v) (hlen:cs.length=r.n) (g:cs'=cs.take o++a++cs.drop (o+a.length)) (z:o+a.length<=cs.length) (k:r.rel ro y cs'):
  aP r ro e (.slice (some ⟨b,0,none⟩) n cap) (l.set i y) [(b,.cells (cK arr (i*r.n+o) a) e)]:=by
 have m:=h.setAt hi k
 have d:=r.len k
 have t:i*r.n+r.n<=arr.size:=by
  rcases Nat.eq_zero_or_pos r.n with u|A
  .rw[u];omega
  .have c:r.n - 1<cs.length:=by omega
   have:=hm (r.n - 1) cs[r.n - 1] (List.getElem?_eq_getElem c)
   have:=(Array.getElem?_eq_some_iff.1 this).1
   omega
 have e1:cK arr (i*r.n) cs'=cK arr (i*r.n+o) a:=by
  apply Array.ext_getElem?
  intro q
  rw[vZ cs' arr _ (by rw[d];exact t),vZ a arr _ (by omega)]
  by_cases p:i*r.n+o<=q/\q<i*r.n+o+a.length
  .rw[if_pos p,if_pos (by rw[d];omega),g]
   rw[List.append_assoc,List.getElem?_append_right (by simp;omega),List.getElem?_append_left (by simp;omega)]
   congr 1
   simp;omega
  .rw[if_neg p]
   by_cases f:i*r.n<=q/\q<i*r.n+cs'.length
   .rw[if_pos f]
    rw[d] at f
    have w:arr[q]?=cs[q - i*r.n]?:=by
     have c:q - i*r.n<cs.length:=by omega
     have:=hm (q - i*r.n) _ (List.getElem?_eq_getElem c)
     rw[show i*r.n+(q - i*r.n)=q by omega] at this
     rw[this,List.getElem?_eq_getElem c]
    rw[w,g]
    rcases Nat.lt_or_ge (q - i*r.n) o with s|s
    .rw[List.append_assoc,List.getElem?_append_left (by simp;omega),List.getElem?_take_of_lt s]
    .have B:o+a.length<=q - i*r.n:=by omega
     rw[List.getElem?_append_right (by simp;omega),List.getElem?_drop]
     congr 1
     simp;omega
   .rw[if_neg f]
 rw[e1] at m
 exact m
theorem aP.elemAt {T:Type}{r:cc T}{ro:Addr->Option Value}{e:TypeId}{b n cap:Nat}{l:List T}{aX:List (Nat×Obj)}(h:aP r ro e (.slice (some ⟨b,0,none⟩) n cap) l aX){i:Nat}{x:T}(hi:l[i]?=some x):
  ∃arr cs,aX=[(b,.cells arr e)]/\(∀off sp,ro ⟨b,off,sp⟩=none)/\r.rel ro x cs/\∀j v,cs[j]?=some v->arr[i*r.n+j]?=some v:=by
 obtain ⟨g,arr,k,cs,a,c,d,f,hm⟩:=h.elem hi
 cases a
 exact ⟨arr,cs,c,d,f,hm⟩
theorem aP.v5 {T:Type}{r:cc T}{ro:Addr->Option Value}{e:TypeId}{ad:Option Addr}{n cap:Nat}{l:List T}{aX:List (Nat×Obj)}(h:aP r ro e (.slice ad n cap) l aX){i:Nat}{x:T}(hi:l[i]?=some x):
  ∃b arr cs,ad=some ⟨b,0,none⟩/\aX=[(b,.cells arr e)]/\(∀off sp,ro ⟨b,off,sp⟩=none)/\r.rel ro x cs/\∀j v,cs[j]?=some v->arr[i*r.n+j]?=some v:=by
 obtain ⟨a,arr,m,cs,c,d,f,g,hm⟩:=h.elem hi
 injection c with k o p
 exact ⟨a,arr,cs,k,d,f,g,hm⟩
theorem aP.jg {T:Type}{r:cc T}{ro:Addr->Option Value}{e:TypeId}{b n cap:Nat}{l:List T}{arr:Array Value}(h:aP r ro e (.slice (some ⟨b,0,none⟩) n cap) l [(b,.cells arr e)]){i:Nat}{x:T}(hi:l[i]?=some x):
  ∃cs,r.rel ro x cs/\∀j v,cs[j]?=some v->arr[i*r.n+j]?=some v:=by
 obtain ⟨d,cs,a,f,c,hm⟩:=h.elemAt hi
 simp only[List.cons.injEq,Prod.mk.injEq,Obj.cells.injEq,true_and,and_true] at a
 subst a
 exact ⟨cs,c,hm⟩
theorem aP.sB {T:Type}{r:cc T}{ro:Addr->Option Value}{e:TypeId}{l:List T}{b n cap:Nat}{arr:Array Value}(h:aP r ro e (.slice (some ⟨b,0,none⟩) n cap) l [(b,.cells arr e)]){i:Nat}{y:T}(hi:i<l.length){cs:List Value}(a:r.rel ro y cs):
  aP r ro e (.slice (some ⟨b,0,none⟩) n cap) (l.set i y) [(b,.cells (cK arr (i*r.n) cs) e)]:=h.setAt (List.getElem?_eq_getElem hi) a
theorem aP.iH {T:Type}{r:cc T}{ro:Addr->Option Value}{e:TypeId}{ad:Option Addr}{n cap:Nat}{l:List T}{aX:List (Nat×Obj)}(h:aP r ro e (.slice ad n cap) l aX)(a:l.isEmpty=false):
  ∃b arr,ad=some ⟨b,0,none⟩/\aX=[(b,.cells arr e)]/\(∀off sp,ro ⟨b,off,sp⟩=none):=by
 cases l with
 |nil=>cases a
 |cons x l=>
  obtain ⟨b,arr,cs,c,d,f,_⟩:=h.v5 (i:=0) rfl
  exact ⟨b,arr,c,d,f⟩
theorem aP.gL {T:Type}{r:cc T}{ro:Addr->Option Value}{e:TypeId}{b n cap:Nat}{l:List T}{aX:List (Nat×Obj)}(h:aP r ro e (.slice (some ⟨b,0,none⟩) n cap) l aX):∃arr,aX=[(b,.cells arr e)]:=by
 obtain ⟨ls,hg,-⟩:=h;rcases hg with ⟨a,_,_⟩|⟨d,arr,f,a,c,_⟩
 .cases a
 .cases a;exact ⟨arr,c⟩
theorem aP.count {T:Type}{r:cc T}{ro:Addr->Option Value}{e:TypeId}{ad:Option Addr}{n cap:Nat}{l:List T}{aX:List (Nat×Obj)}(h:aP r ro e (.slice ad n cap) l aX):l.length=n:=by
 obtain ⟨b,c,a,_⟩:=h.len;cases a;rfl
def qd (ops:Array Oper)(bZ:List Nat)(i:Nat):Bool:=bZ.all fun j=>match ops[j]? with
 |some o=>o.after.any fun e=>Region.binds .any e&&e.on==i
 |none=>true
section
variable {P : Program} {main : Bool} {J : Goroutine → aa → Prop} {ops : Array Oper} {Q : Act → aa → Prop} {S : aa → Prop} {bZ : List Nat}
def ee (P:Program)(J:Goroutine->aa->Prop)(ops:Array Oper)(Q:Act->aa->Prop)(S:aa->Prop)(bZ:List Nat):Nat->Array Bool->Act->aa->Prop
 |0,listed,a,F=>Region.ready .any ops listed=[]/\Q a F
 |fuel+1,listed,a,F=>(Region.ready .any ops listed=[]->Q a F)/\
  ∀i∈Region.ready .any ops listed,dJ P J ops i (fun b F'=>(¬i∈bZ->S F->S F')/\ee P J ops Q S bZ fuel (listed.setIfInBounds i true) b F') a F
theorem Gb:∀(fuel t:Nat) (listed:Array Bool) (a:Act) (F:aa),ee P J ops Q S bZ fuel listed a F->
  fO P J ops Q (Region.linearise.go .any ops fuel t listed []) a F:=by
 intro fuel
 induction fuel with
 |zero=>intro t listed a F h;simpa [Region.linearise.go,fO] using h.2
 |succ fuel ih=>
  intro t listed a F h
  obtain ⟨b,c⟩:=h
  simp only[Region.linearise.go]
  change fO P J ops Q (match (Region.ready .any ops listed)[t % (Region.ready .any ops listed).length]? with
   |some i=>Region.linearise.go .any ops fuel (t/(Region.ready .any ops listed).length) (listed.setIfInBounds i true) [i]
   |none=>[].reverse) a F
  cases hi:(Region.ready .any ops listed)[t % (Region.ready .any ops listed).length]? with
  |none=>
   have d:Region.ready .any ops listed=[]:=by
    cases e:Region.ready .any ops listed with
    |nil=>rfl
    |cons x xs=>
     rw[e] at hi
     have f:t % (x::xs).length<(x::xs).length:=Nat.mod_lt _ (by simp)
     simp at hi
     simp at f
     omega
   simpa [fO] using b d
  |some i=>
   simp only[]
   rw[linearise_go_acc,List.reverse_singleton,List.singleton_append]
   exact pH (fun a F h=>ih _ _ a F h.2) (c i (List.mem_of_getElem? hi))
theorem Gc {i:Nat}{l:Oper}{v:Value}(hi:ops[i]?=some l)(m:qd ops bZ i=true)(w:∀(j:Nat) (o:Oper) cs b,ops[j]?=some o->o.op≠ .select cs b):
  ∀(fuel:Nat) (listed:Array Bool) (a:Act) (F:aa),
   (∀j f,ops[j]?=some f->j≠i->listed.getD j true=false->(∀e∈f.after,Region.binds .any e=true->e.on≠i)->l.apart ops f=true)->
   i∈Region.ready .any ops listed->fF P J ops S l v a->S F->
   ee P J ops Q S bZ fuel (listed.setIfInBounds i true) (a.put l.dst v) F->ee P J ops Q S bZ (fuel+1) listed a F:=by
 intro fuel
 induction fuel with
 |zero=>
  intro listed a F _ g n p H
  refine ⟨fun h=>(by rw[h] at g;cases g),fun j q=>?_⟩
  by_cases d:j=i
  .subst d;exact n.nG hi p ⟨fun _ h=>h,H⟩
  .have:=ready_mono q d
   rw[H.1] at this
   cases this
 |succ fuel ih=>
  intro listed a F y g n p H
  refine ⟨fun h=>(by rw[h] at g;cases g),fun j q=>?_⟩
  by_cases d:j=i
  .subst d;exact n.nG hi p ⟨fun _ h=>h,H⟩
  .have c:=H.2 j (ready_mono q d)
   obtain ⟨z,f,r,E⟩:=mem_ready.1 q
   have A:∀e∈f.after,Region.binds .any e=true->e.on≠i:=fun e he hb heq=>by
    have c:=E e he hb
    have B:=(mem_ready.1 g).1
    rw[heq] at c
    rcases Nat.lt_or_ge i listed.size with t|t
    .simp[t] at B c;rw[B] at c;cases c
    .simp[Array.getElem?_eq_none t] at c
   have G:¬j∈bZ:=fun e=>by
    have m:=List.all_eq_true.1 m j e
    simp only[r,Array.any_eq_true,Bool.and_eq_true,beq_iff_eq] at m
    obtain ⟨x,I,c,u⟩:=m
    exact A _ (Array.getElem_mem I) c u
   have u:=vc r (y j f r d z A) (fun cs b=>w i l cs b hi) (fun cs b=>w j f cs b r) n c
   have K:∀k ok,ops[k]?=some ok->k≠i->(listed.setIfInBounds j true).getD k true=false->
     (∀e∈ok.after,Region.binds .any e=true->e.on≠i)->l.apart ops ok=true:=fun k ok L M C N=>by
    refine y k ok L M ?_ N
    by_cases D:j=k
    .subst D;exact z
    .rw[getD_set_ne true D] at C;exact C
   refine pH (fun O F' s=>⟨s.2.1,ih (listed.setIfInBounds j true) O F' K (ready_mono g (Ne.symm d)) s.1 (s.2.1 G p) ?_⟩) u
   rw[Array.setIfInBounds_comm _ _ d]
   exact s.2.2
theorem Gd {i:Nat}{l:Oper}{v:Value}(hi:ops[i]?=some l)(s:∀(j:Nat) (o:Oper) cs b,ops[j]?=some o->o.op≠ .select cs b):
  ∀(fuel:Nat) (listed:Array Bool) (a:Act) (F:aa),
   (∀j d,ops[j]?=some d->j≠i->listed.getD j true=false->(∀e∈d.after,Region.binds .any e=true->e.on≠i)->l.apart ops d=true)->
   i∈Region.ready .any ops listed->fF P J ops (fun _=>True) l v a->
   ee P J ops Q S bZ fuel (listed.setIfInBounds i true) (a.put l.dst v) F->ee P J ops Q S bZ (fuel+1) listed a F:=by
 intro fuel
 induction fuel with
 |zero=>
  intro listed a F _ f m H
  refine ⟨fun h=>(by rw[h] at f;cases f),fun j n=>?_⟩
  by_cases c:j=i
  .subst c;exact m.nG hi trivial ⟨fun _ h=>h,H⟩
  .have:=ready_mono n c
   rw[H.1] at this
   cases this
 |succ fuel ih=>
  intro listed a F t f m H
  refine ⟨fun h=>(by rw[h] at f;cases f),fun j n=>?_⟩
  by_cases c:j=i
  .subst c;exact m.nG hi trivial ⟨fun _ h=>h,H⟩
  .have g:=H.2 j (ready_mono n c)
   obtain ⟨u,d,p,z⟩:=mem_ready.1 n
   have A:∀e∈d.after,Region.binds .any e=true->e.on≠i:=fun e he hb heq=>by
    have g:=z e he hb
    have w:=(mem_ready.1 f).1
    rw[heq] at g
    rcases Nat.lt_or_ge i listed.size with q|q
    .simp[q] at w g;rw[w] at g;cases g
    .simp[Array.getElem?_eq_none q] at g
   have B:=vc p (t j d p c u A) (fun cs b=>s i l cs b hi) (fun cs b=>s j d cs b p) m g
   have C:∀k ok,ops[k]?=some ok->k≠i->(listed.setIfInBounds j true).getD k true=false->
     (∀e∈ok.after,Region.binds .any e=true->e.on≠i)->l.apart ops ok=true:=fun k ok D E x G=>by
    refine t k ok D E ?_ G
    by_cases y:j=k
    .subst y;exact u
    .rw[getD_set_ne true y] at x;exact x
   refine pH (fun I F' r=>⟨r.2.1,ih (listed.setIfInBounds j true) I F' C (ready_mono f (Ne.symm c)) r.1 ?_⟩) B
   rw[Array.setIfInBounds_comm _ _ c]
   exact r.2.2
theorem A9 (i:Nat){c:Oper}(v:Value){fuel:Nat}{listed:Array Bool}{a:Act}{F:aa}(hi:ops[i]?=some c)
  (b:(Region.noSelect ops&&Region.free .any ops listed i&&(Region.ready .any ops listed).contains i)=true)
  (d:qd ops bZ i=true) (e:fF P J ops S c v a) (f:S F)
  (h:ee P J ops Q S bZ fuel (listed.setIfInBounds i true) (a.put c.dst v) F):ee P J ops Q S bZ (fuel+1) listed a F:=by
 simp only[Bool.and_eq_true] at b
 exact Gc hi d (Region.noSelect_spec b.1.1) fuel listed a F (Region.free_spec hi b.1.2) (by simpa using b.2) e f h
theorem v7 {rs:List Nat}{fuel:Nat}{listed:Array Bool}{a:Act}{F:aa}(b:Region.ready .any ops listed=rs)(aG:rs≠[])
  (h:∀i∈rs,dJ P J ops i (fun c F'=>(¬i∈bZ->S F->S F')/\ee P J ops Q S bZ fuel (listed.setIfInBounds i true) c F') a F):ee P J ops Q S bZ (fuel+1) listed a F:=
 ⟨fun d=>absurd (b▸d) aG,b▸h⟩
theorem Ba (i:Nat){fuel:Nat}{listed:Array Bool}{a:Act}{F:aa}(b:Region.ready .any ops listed=[i])
  (h:dJ P J ops i (fun c F'=>(¬i∈bZ->S F->S F')/\ee P J ops Q S bZ fuel (listed.setIfInBounds i true) c F') a F):ee P J ops Q S bZ (fuel+1) listed a F:=
 v7 b (by simp) (by simpa using h)
theorem Bb {listed:Array Bool}{a:Act}{F:aa}(b:Region.ready .any ops listed=[])(h:Q a F):∀fuel,ee P J ops Q S bZ fuel listed a F
 |0=>⟨b,h⟩
 |_+1=>⟨fun _=>h,by rw[b];simp⟩
end
theorem v8 {P:Program}{J:Goroutine->aa->Prop}{ops:Array Oper}{Q:Act->aa->Prop}{S:aa->Prop}{bZ:List Nat}(i:Nat){b:Oper}(v:Value){fuel:Nat}{listed:Array Bool}{a:Act}{F:aa}(hi:ops[i]?=some b)
  (d:(Region.noSelect ops&&Region.free .any ops listed i&&(Region.ready .any ops listed).contains i)=true)
  (e:qd ops bZ i=true) (hg:cF ops b a=some true) (f:∀F R,S F->R v F->cN P J b R a F) (c:S F)
  (h:ee P J ops Q S bZ fuel (listed.setIfInBounds i true) (bg a b.dst v) F):ee P J ops Q S bZ (fuel+1) listed a F:=
 A9 i v hi d e (.inl ⟨ck hg,fun F R c g=>k7 (f F R c g)⟩) c h
theorem Ge {P:Program}{J:Goroutine->aa->Prop}{ops:Array Oper}{Q:Act->aa->Prop}{S:aa->Prop}{bZ:List Nat}(i:Nat){b:Oper}{fuel:Nat}{listed:Array Bool}{a:Act}{F:aa}(hi:ops[i]?=some b)
  (c:(Region.noSelect ops&&Region.free .any ops listed i&&(Region.ready .any ops listed).contains i)=true)
  (d:qd ops bZ i=true) (hg:cF ops b a=some false) (e:S F)
  (h:ee P J ops Q S bZ fuel (listed.setIfInBounds i true) (bg a b.dst undef) F):ee P J ops Q S bZ (fuel+1) listed a F:=
 A9 i undef hi c d (.inr ⟨ck hg,rfl⟩) e h
theorem Bc {P:Program}{J:Goroutine->aa->Prop}{ops:Array Oper}{Q:Act->aa->Prop}{S:aa->Prop}{bZ:List Nat}(i:Nat){c:Oper}(v:Value){fuel:Nat}{listed:Array Bool}{a:Act}{F:aa}(hi:ops[i]?=some c)
  (b:(Region.noSelect ops&&Region.free .any ops listed i&&(Region.ready .any ops listed).contains i)=true)
  (d:fF P J ops (fun _=>True) c v a)
  (h:ee P J ops Q S bZ fuel (listed.setIfInBounds i true) (bg a c.dst v) F):ee P J ops Q S bZ (fuel+1) listed a F:=by
 simp only[Bool.and_eq_true] at b
 exact Gd hi (Region.noSelect_spec b.1.1) fuel listed a F (Region.free_spec hi b.1.2) (by simpa using b.2) d h
inductive cm where
 |done
 |rd (i:Nat) (p:cm)
 |one (i:Nat) (p:cm)
 |two (i:Nat) (p:cm) (j:Nat) (q:cm)
 |three (i:Nat) (p:cm) (j:Nat) (q:cm) (k:Nat) (r:cm)
 |last (i:Nat) (p:cm)
 |pure (i:Nat) (p:cm)
inductive fL where
 |done
 |rd (o:Oper) (p:fL)
 |one (o:Oper) (p:fL)
 |two (o:Oper) (p:fL) (o':Oper) (q:fL)
 |three (o:Oper) (p:fL) (o':Oper) (q:fL) (jM:Oper) (r:fL)
 |last (o:Oper) (p:fL)
 |pure (o:Oper) (p:fL)
 |bad
def cm.opers (ops:Array Oper):cm->fL
 | .done=>.done
 | .rd i p=>match ops[i]? with
  |some o=>.rd o (p.opers ops)
  |none=>.bad
 | .one i p=>match ops[i]? with
  |some o=>.one o (p.opers ops)
  |none=>.bad
 | .two i p j q=>match ops[i]?,ops[j]? with
  |some o,some o'=>.two o (p.opers ops) o' (q.opers ops)
  |_,_=>.bad
 | .three i p j q k r=>match ops[i]?,ops[j]?,ops[k]? with
  |some o,some o',some jM=>.three o (p.opers ops) o' (q.opers ops) jM (r.opers ops)
  |_,_,_=>.bad
 | .last i p=>match ops[i]? with
  |some o=>.last o (p.opers ops)
  |none=>.bad
 | .pure i p=>match ops[i]? with
  |some o=>.pure o (p.opers ops)
  |none=>.bad
def cm.tl:cm->Bool
 | .done=>true
 | .last _ p=>p.tl
 | .pure _ p=>p.tl
 |_=>false
def cm.ok (ops:Array Oper)(bZ:List Nat):cm->Array Bool->Bool
 | .done,L=>decide (Region.ready .any ops L=[])
 | .rd i p,L=>Region.free .any ops L i&&(Region.ready .any ops L).contains i&&(ops[i]?).isSome&&qd ops bZ i&&p.ok ops bZ (L.setIfInBounds i true)
 | .one i p,L=>decide (Region.ready .any ops L=[i])&&(ops[i]?).isSome&&p.ok ops bZ (L.setIfInBounds i true)
 | .two i p j q,L=>decide (Region.ready .any ops L=[i,j])&&(ops[i]?).isSome&&(ops[j]?).isSome&&p.ok ops bZ (L.setIfInBounds i true)&&q.ok ops bZ (L.setIfInBounds j true)
 | .three i p j q k r,L=>decide (Region.ready .any ops L=[i,j,k])&&(ops[i]?).isSome&&(ops[j]?).isSome&&(ops[k]?).isSome&&p.ok ops bZ (L.setIfInBounds i true)&&q.ok ops bZ (L.setIfInBounds j true)&&r.ok ops bZ (L.setIfInBounds k true)
 | .pure i p,L=>Region.free .any ops L i&&(Region.ready .any ops L).contains i&&(ops[i]?).isSome&&p.ok ops bZ (L.setIfInBounds i true)
 | .last i p,L=>bZ.contains i&&decide (Region.ready .any ops L=[i])&&p.tl&&(ops[i]?).isSome&&p.ok ops bZ (L.setIfInBounds i true)
def cm.len:cm->Nat
 | .done=>0
 | .rd _ p=>p.len+1
 | .one _ p=>p.len+1
 | .two _ p _ q=>max p.len q.len+1
 | .three _ p _ q _ r=>max p.len (max q.len r.len)+1
 | .last _ p=>p.len+1
 | .pure _ p=>p.len+1
def cg (P:Program)(J:Goroutine->aa->Prop)(ops:Array Oper)(F0:aa)(Q:Act->aa->Prop):fL->Bool->Act->aa->Prop
 | .done,_,a,F=>Q a F
 | .bad,_,_,_=>False
 | .rd o p,_,a,F=>match cF ops o a with
  |some false=>cg P J ops F0 Q p true (bg a o.dst undef) F
  |some true=>match o.op with
   | .load t x=>match ev a x with
    | .pointer (some ad)=>match fh P F0 t ad with
     |some v=>cg P J ops F0 Q p true (bg a o.dst v) F
     |none=>False
    |_=>False
   | .call {callee:=.value x,args, ..}=>match ev a x with
    | .func (.func fn) first captured=>aH P fn=true/\∃v,Plain P J F0 fn (first++args.map (ev a)++captured) v/\cg P J ops F0 Q p false (bg a o.dst v) F
    |_=>False
   |_=>match jc P o a with
    |some v=>cg P J ops F0 Q p true (bg a o.dst v) F
    |none=>False
  |none=>False
 | .one o p,_,a,F=>match cF ops o a with
  |some true=>cN P J o (fun v F'=>Knows F0 F'/\cg P J ops F0 Q p (!Oper.calls o) (bg a o.dst v) F') a F
  |some false=>cg P J ops F0 Q p true (bg a o.dst undef) F
  |none=>False
 | .two o p o' q,_,a,F=>(match cF ops o a with
  |some true=>cN P J o (fun v F'=>Knows F0 F'/\cg P J ops F0 Q p (!Oper.calls o) (bg a o.dst v) F') a F
  |some false=>cg P J ops F0 Q p true (bg a o.dst undef) F
  |none=>False)/\(match cF ops o' a with
  |some true=>cN P J o' (fun v F'=>Knows F0 F'/\cg P J ops F0 Q q (!Oper.calls o') (bg a o'.dst v) F') a F
  |some false=>cg P J ops F0 Q q true (bg a o'.dst undef) F
  |none=>False)
 | .three o p o' q jM r,_,a,F=>(match cF ops o a with
  |some true=>cN P J o (fun v F'=>Knows F0 F'/\cg P J ops F0 Q p (!Oper.calls o) (bg a o.dst v) F') a F
  |some false=>cg P J ops F0 Q p true (bg a o.dst undef) F
  |none=>False)/\(match cF ops o' a with
  |some true=>cN P J o' (fun v F'=>Knows F0 F'/\cg P J ops F0 Q q (!Oper.calls o') (bg a o'.dst v) F') a F
  |some false=>cg P J ops F0 Q q true (bg a o'.dst undef) F
  |none=>False)/\(match cF ops jM a with
  |some true=>cN P J jM (fun v F'=>Knows F0 F'/\cg P J ops F0 Q r (!Oper.calls jM) (bg a jM.dst v) F') a F
  |some false=>cg P J ops F0 Q r true (bg a jM.dst undef) F
  |none=>False)
 | .pure o p,_,a,F=>match cF ops o a with
  |some false=>cg P J ops F0 Q p true (bg a o.dst undef) F
  |some true=>match jc P o a with
   |some v=>cg P J ops F0 Q p true (bg a o.dst v) F
   |none=>False
  |none=>False
 | .last o p,_,a,F=>match cF ops o a with
  |some true=>cN P J o (fun v F'=>cg P J ops F0 Q p (!Oper.calls o) (bg a o.dst v) F') a F
  |_=>False
section
variable {P : Program} {main : Bool} {J : Goroutine → aa → Prop} {ops : Array Oper} {Q : Act → aa → Prop} {F0 : aa} {bZ : List Nat}
theorem nW {p:cm}{i:Nat}{o:Oper}{fuel:Nat}{L:Array Bool}{a:Act}{F:aa}(b:ops[i]?=some o)(d:Knows F0 F)
  (ih:∀go a F,Knows F0 F->cg P J ops F0 Q (p.opers ops) go a F->ee P J ops Q (Knows F0) bZ fuel (L.setIfInBounds i true) a F)
  (h:match cF ops o a with
   |some true=>cN P J o (fun v F'=>Knows F0 F'/\cg P J ops F0 Q (p.opers ops) (!Oper.calls o) (bg a o.dst v) F') a F
   |some false=>cg P J ops F0 Q (p.opers ops) true (bg a o.dst undef) F
   |none=>False):dJ P J ops i (fun e F'=>(¬i∈bZ->Knows F0 F->Knows F0 F')/\ee P J ops Q (Knows F0) bZ fuel (L.setIfInBounds i true) e F') a F:=by
 split at h
 .rename_i hg
  unfold dJ
  simp only[b]
  rw[if_pos (ck hg)]
  refine k7 (mC.sd ?_ h)
  rintro v F' ⟨c,f⟩
  exact ⟨fun _ _=>c,ih _ _ F' c f⟩
 .rename_i hg
  unfold dJ
  simp only[b]
  rw[if_neg (by rw[ck hg];exact Bool.false_ne_true)]
  exact ⟨fun _ g=>g,ih _ _ F d h⟩
 .exact h.elim
theorem Be {p:cm}{i:Nat}{fuel:Nat}{L:Array Bool}{go:Bool}{a:Act}{F:aa}(e:Region.noSelect ops=true)(c:(cm.pure i p).ok ops bZ L=true)
  (ih:∀go v a,p.ok ops bZ (L.setIfInBounds i true)=true->cg P J ops F0 Q (p.opers ops) go (bg a ((ops[i]?).bind (·.dst)) v) F->ee P J ops Q (Knows F0) bZ fuel (L.setIfInBounds i true) (bg a ((ops[i]?).bind (·.dst)) v) F)
  (h:cg P J ops F0 Q ((cm.pure i p).opers ops) go a F):ee P J ops Q (Knows F0) bZ (fuel+1) L a F:=by
 simp only[cm.ok,Bool.and_eq_true] at c
 obtain ⟨⟨⟨c1,c2⟩,c3⟩,c4⟩:=c
 obtain ⟨o,b⟩:=Option.isSome_iff_exists.1 c3
 have d:(Region.noSelect ops&&Region.free .any ops L i&&(Region.ready .any ops L).contains i)=true:=by rw[e,c1,c2];rfl
 have f:cm.opers ops (.pure i p)= .pure o (p.opers ops):=by simp only[cm.opers,b]
 rw[f] at h
 have hd:(ops[i]?).bind (·.dst)=o.dst:=by rw[b];rfl
 rw[hd] at ih
 unfold cg at h
 split at h
 .rename_i hg
  exact Bc i undef b d (.inr ⟨ck hg,rfl⟩) (ih _ _ _ c4 h)
 .rename_i hg
  split at h
  .rename_i v g
   exact Bc i v b d (.inl ⟨ck hg,fun F R _ j=>k7 (r7 g j)⟩) (ih _ _ _ c4 h)
  .exact h.elim
 .exact h.elim
theorem v9 (d:Region.noSelect ops=true):∀(p:cm) (fuel:Nat) (L:Array Bool) (go:Bool) (a:Act) (F:aa),p.tl=true->p.len<=fuel->p.ok ops bZ L=true->cg P J ops F0 Q (p.opers ops) go a F->ee P J ops Q (Knows F0) bZ fuel L a F
 | .done,fuel,L,go,a,F,_,c,b,h=>by
  simp only[cm.ok,decide_eq_true_eq] at b
  unfold cm.opers cg at h
  exact Bb b h _
 | .last i p,fuel,L,go,a,F,ht,c,b,h=>by
  simp only[cm.ok,Bool.and_eq_true,decide_eq_true_eq] at b
  obtain ⟨⟨⟨⟨c1,c2⟩,c3⟩,c4⟩,g⟩:=b
  obtain ⟨o,e⟩:=Option.isSome_iff_exists.1 c4
  have j:cm.opers ops (.last i p)= .last o (p.opers ops):=by simp only[cm.opers,e]
  rw[j] at h
  simp only[cm.len] at c
  obtain ⟨fuel,rfl⟩:∃f,fuel=f+1:=⟨fuel - 1,by omega⟩
  unfold cg at h
  refine Ba i c2 ?_
  split at h
  .rename_i hg
   unfold dJ
   simp only[e]
   rw[if_pos (ck hg)]
   refine k7 (mC.sd ?_ h)
   exact fun v F' k=>⟨fun aG _=>absurd (by simpa using c1) aG,v9 d p fuel _ _ _ F' c3 (by omega) g k⟩
  .exact h.elim
 | .pure i p,fuel,L,go,a,F,ht,c,b,h=>by
  simp only[cm.len] at c
  obtain ⟨fuel,rfl⟩:∃f,fuel=f+1:=⟨fuel - 1,by omega⟩
  exact Be d b (fun go v a c4 l=>v9 d p fuel _ go _ F ht (by omega) c4 l) h
 | .rd _ _,_,_,_,_,_,ht,_,_,_=>by cases ht
 | .one _ _,_,_,_,_,_,ht,_,_,_=>by cases ht
 | .two ..,_,_,_,_,_,ht,_,_,_=>by cases ht
 | .three ..,_,_,_,_,_,ht,_,_,_=>by cases ht
theorem kD (g:Region.noSelect ops=true):∀(p:cm) (fuel:Nat) (L:Array Bool) (go:Bool) (a:Act) (F:aa),Knows F0 F->p.len<=fuel->p.ok ops bZ L=true->cg P J ops F0 Q (p.opers ops) go a F->ee P J ops Q (Knows F0) bZ fuel L a F
 | .done,fuel,L,go,a,F,b,e,c,h=>by
  simp only[cm.ok,decide_eq_true_eq] at c
  unfold cm.opers cg at h
  exact Bb c h _
 | .rd i p,fuel,L,go,a,F,b,e,c,h=>by
  simp only[cm.ok,Bool.and_eq_true] at c
  obtain ⟨⟨⟨⟨c1,c2⟩,c3⟩,l⟩,c4⟩:=c
  obtain ⟨o,d⟩:=Option.isSome_iff_exists.1 c3
  have y:(Region.noSelect ops&&Region.free .any ops L i&&(Region.ready .any ops L).contains i)=true:=by rw[g,c1,c2];rfl
  have m:cm.opers ops (.rd i p)= .rd o (p.opers ops):=by simp only[cm.opers,d]
  rw[m] at h
  simp only[cm.len] at e
  obtain ⟨fuel,rfl⟩:∃f,fuel=f+1:=⟨fuel - 1,by omega⟩
  have next:∀go v,cg P J ops F0 Q (p.opers ops) go (bg a o.dst v) F->ee P J ops Q (Knows F0) bZ fuel (L.setIfInBounds i true) (bg a o.dst v) F:=fun go v n=>
   kD g p fuel _ go _ F b (by omega) c4 n
  unfold cg at h
  split at h
  .rename_i hg
   exact Ge i d y l hg b (next true undef h)
  .rename_i hg
   split at h
   .rename_i t x A
    split at h
    case h_2=>exact h.elim
    rename_i ad C
    split at h
    case h_2=>exact h.elim
    rename_i v n
    refine v8 i v d y l hg (fun F R z u=>?_) b (next _ v h)
    unfold cN
    simp only[A,C,z.fh n]
    exact u
   .rename_i x args argTypes A
    split at h
    case h_2=>exact h.elim
    rename_i fn first captured s
    obtain ⟨D,v,E,h⟩:=h
    refine v8 i v d y l hg (fun F R z u=>?_) b (next _ v h)
    unfold cN
    simp only[A,s]
    exact ⟨D,(E F z).mono fun K F' G=>by obtain ⟨rfl,rfl⟩:=G;exact u⟩
   .split at h
    case h_2=>exact h.elim
    rename_i v n
    exact v8 i v d y l hg (fun F R z u=>r7 n u) b (next _ v h)
  .exact h.elim
 | .one i p,fuel,L,go,a,F,b,e,c,h=>by
  simp only[cm.ok,Bool.and_eq_true,decide_eq_true_eq] at c
  obtain ⟨⟨c1,c3⟩,c4⟩:=c
  obtain ⟨o,d⟩:=Option.isSome_iff_exists.1 c3
  have m:cm.opers ops (.one i p)= .one o (p.opers ops):=by simp only[cm.opers,d]
  rw[m] at h
  simp only[cm.len] at e
  obtain ⟨fuel,rfl⟩:∃f,fuel=f+1:=⟨fuel - 1,by omega⟩
  unfold cg at h
  exact Ba i c1 (nW d b (fun go a F b h=>kD g p fuel _ go a F b (by omega) c4 h) h)
 | .two i p j q,fuel,L,go,a,F,b,e,c,h=>by
  simp only[cm.ok,Bool.and_eq_true,decide_eq_true_eq] at c
  obtain ⟨⟨⟨⟨c1,c2⟩,c3⟩,c4⟩,l⟩:=c
  obtain ⟨o,d⟩:=Option.isSome_iff_exists.1 c2
  obtain ⟨o',w⟩:=Option.isSome_iff_exists.1 c3
  have m:cm.opers ops (.two i p j q)= .two o (p.opers ops) o' (q.opers ops):=by simp only[cm.opers,d,w]
  rw[m] at h
  simp only[cm.len] at e
  obtain ⟨fuel,rfl⟩:∃f,fuel=f+1:=⟨fuel - 1,by omega⟩
  unfold cg at h
  refine v7 c1 (by simp) fun x s=>?_
  simp only[List.mem_cons,List.not_mem_nil,or_false] at s
  rcases s with rfl|rfl
  .exact nW d b (fun go a F b h=>kD g p fuel _ go a F b (by omega) c4 h) h.1
  .exact nW w b (fun go a F b h=>kD g q fuel _ go a F b (by omega) l h) h.2
 | .three i p j q k r,fuel,L,go,a,F,b,e,c,h=>by
  simp only[cm.ok,Bool.and_eq_true,decide_eq_true_eq] at c
  obtain ⟨⟨⟨⟨⟨⟨c1,c2⟩,c3⟩,c4⟩,l⟩,H⟩,I⟩:=c
  obtain ⟨o,d⟩:=Option.isSome_iff_exists.1 c2
  obtain ⟨o',w⟩:=Option.isSome_iff_exists.1 c3
  obtain ⟨jM,B⟩:=Option.isSome_iff_exists.1 c4
  have m:cm.opers ops (.three i p j q k r)= .three o (p.opers ops) o' (q.opers ops) jM (r.opers ops):=by simp only[cm.opers,d,w,B]
  rw[m] at h
  simp only[cm.len] at e
  obtain ⟨fuel,rfl⟩:∃f,fuel=f+1:=⟨fuel - 1,by omega⟩
  unfold cg at h
  refine v7 c1 (by simp) fun x s=>?_
  simp only[List.mem_cons,List.not_mem_nil,or_false] at s
  rcases s with rfl|rfl|rfl
  .exact nW d b (fun go a F b h=>kD g p fuel _ go a F b (by omega) l h) h.1
  .exact nW w b (fun go a F b h=>kD g q fuel _ go a F b (by omega) H h) h.2.1
  .exact nW B b (fun go a F b h=>kD g r fuel _ go a F b (by omega) I h) h.2.2
 | .last i p,fuel,L,go,a,F,b,e,c,h=>v9 g (.last i p) fuel L go a F (by simp only[cm.ok,Bool.and_eq_true] at c;exact c.1.1.2) e c h
 | .pure i p,fuel,L,go,a,F,b,e,c,h=>by
  simp only[cm.len] at e
  obtain ⟨fuel,rfl⟩:∃f,fuel=f+1:=⟨fuel - 1,by omega⟩
  exact Be g c (fun go v a c4 n=>kD g p fuel _ go _ F b (by omega) c4 n) h
theorem eE {Q:Ex->Act->aa->Prop}(hJ:Closed P main J)(d:P.follows .mixedOrders=true)(bZ:List Nat)(p:cm){id:Nat}{a:Act}{F:aa}(F0:aa)(e:Knows F0 F)
  (c:(Region.noSelect ops&&decide (p.len<=ops.size)&&p.ok ops bZ (Array.replicate ops.size false))=true)
  (h:cg P J ops F0 (Q .normal) (p.opers ops) true a F):Wp J (.region id ops true) Q a F:=by
 simp only[Bool.and_eq_true,decide_eq_true_eq] at c
 obtain ⟨⟨f,g⟩,i⟩:=c
 intro b k cs hb j
 refine hJ.step fun w hw=>?_
 refine ⟨_,_,_,F,zT,.drawn _ _ _,hw.drawn _,by simp,?_⟩
 refine rJ (K:=Q .normal) hJ (vh hb) (fun l F' m=>j .normal l F' m) _ _ _ ?_
 simp only[Region.schedule,d,Bool.true_or,if_true]
 exact Gb ops.size _ _ a F (kD (bZ:=bZ) f p ops.size _ true a F e g i h)
end
theorem Gf {P:Program}{J:Goroutine->aa->Prop}{ops:Array Oper}{F0:aa}{Q:Act->aa->Prop}{go:Bool}{a:Act}{F:aa}:cg P J ops F0 Q .done go a F=Q a F:=rfl
theorem Gg {P:Program}{J:Goroutine->aa->Prop}{ops:Array Oper}{F0:aa}{Q:Act->aa->Prop}{o:Oper}{p:fL}{a:Act}{F:aa}:cg P J ops F0 Q (.rd o p) true a F=match cF ops o a with
  |some false=>cg P J ops F0 Q p true (bg a o.dst undef) F
  |some true=>match o.op with
   | .load t x=>match ev a x with
    | .pointer (some ad)=>match fh P F0 t ad with
     |some v=>cg P J ops F0 Q p true (bg a o.dst v) F
     |none=>False
    |_=>False
   | .call {callee:=.value x,args, ..}=>match ev a x with
    | .func (.func fn) first captured=>aH P fn=true/\∃v,Plain P J F0 fn (first++args.map (ev a)++captured) v/\cg P J ops F0 Q p false (bg a o.dst v) F
    |_=>False
   |_=>match jc P o a with
    |some v=>cg P J ops F0 Q p true (bg a o.dst v) F
    |none=>False
  |none=>False:=(Eq.refl _).trans (Eq.refl _)
theorem Bf {P:Program}{J:Goroutine->aa->Prop}{ops:Array Oper}{F0:aa}{Q:Act->aa->Prop}{o:Oper}{p:fL}{a:Act}{F:aa}:cg P J ops F0 Q (.one o p) true a F=match cF ops o a with
  |some true=>cN P J o (fun v F'=>Knows F0 F'/\cg P J ops F0 Q p (!Oper.calls o) (bg a o.dst v) F') a F
  |some false=>cg P J ops F0 Q p true (bg a o.dst undef) F
  |none=>False:=(Eq.refl _).trans (Eq.refl _)
theorem kE {P:Program}{J:Goroutine->aa->Prop}{ops:Array Oper}{F0:aa}{Q:Act->aa->Prop}{o o':Oper}{p q:fL}{go:Bool}{a:Act}{F:aa}(b:cg P J ops F0 Q (.one o p) true a F)(c:cg P J ops F0 Q (.one o' q) true a F):cg P J ops F0 Q (.two o p o' q) go a F:=by
 rw[Bf] at b c;unfold cg;exact ⟨b,c⟩
theorem Gh {P:Program}{J:Goroutine->aa->Prop}{ops:Array Oper}{F0:aa}{Q:Act->aa->Prop}{o:Oper}{p:fL}{a:Act}{F:aa}:cg P J ops F0 Q (.last o p) true a F=match cF ops o a with
  |some true=>cN P J o (fun v F'=>cg P J ops F0 Q p (!Oper.calls o) (bg a o.dst v) F') a F
  |_=>False:=(Eq.refl _).trans (Eq.refl _)
theorem Gi {P:Program}{J:Goroutine->aa->Prop}{ops:Array Oper}{F0:aa}{Q:Act->aa->Prop}{o:Oper}{p:fL}{a:Act}{F:aa}:cg P J ops F0 Q (.pure o p) true a F=match cF ops o a with
  |some false=>cg P J ops F0 Q p true (bg a o.dst undef) F
  |some true=>match jc P o a with
   |some v=>cg P J ops F0 Q p true (bg a o.dst v) F
   |none=>False
  |none=>False:=(Eq.refl _).trans (Eq.refl _)
theorem bR {P:Program}{J:Goroutine->aa->Prop}{ops:Array Oper}{F0:aa}{Q:Act->aa->Prop}:∀{p:fL} {go:Bool} {a:Act} {F:aa},cg P J ops F0 Q p true a F->cg P J ops F0 Q p go a F
 | .done,_,_,_,h=>h
 | .bad,_,_,_,h=>h
 | .rd ..,_,_,_,h=>h
 | .one ..,_,_,_,h=>h
 | .two ..,_,_,_,h=>h
 | .three ..,_,_,_,h=>h
 | .last ..,_,_,_,h=>h
 | .pure ..,_,_,_,h=>h
attribute [irreducible] cg
attribute [go_sem] Gf Gg Bf Gh Gi cm.opers
theorem eN {ro aM:Addr->Option Value}{l:List (Nat×Obj)}(a:Ext ro aM)(b:aE aM l)(own:List (Nat×Obj)):Knows ⟨ro,l⟩ ⟨aM,own⟩=jb l own:=
 propext ⟨fun h=>h.2.2,Fo a b⟩
section
variable {P : Program} {main : Bool} {J : Goroutine → aa → Prop} {a : Act} {F : aa}
def mG (l:Nat)(R:Value->aa->Prop)(st:LoopState)(jump:Option Code)(F:aa):Prop:=
 ∃lo,F.e6 l=some (.loop lo)/\R (.bool jump.isNone) (F.put l (.loop {lo with state:=st,pending:=jump}))
def sC (l:Nat)(R:Value->aa->Prop):Ex->Act->aa->Prop
 | .normal,_,F=>mG l R .ready none F
 | .exit id,_,F=>mG l R .done (some (.exit id)) F
 | .ret,_,F=>mG l R .done (some .ret) F
def qf (J:Goroutine->aa->Prop)(l:Nat)(body:Code)(R:Value->aa->Prop):Ex->Act->aa->Prop
 | .normal,a,F=>∃lo,F.e6 l=some (.loop lo)/\lo.state= .ready/\Wp J body (sC l R) a (F.put l (.loop {lo with state:=.busy}))
 |_,_,_=>False
theorem we {l:Nat}{R:Value->aa->Prop}{st:LoopState}{jump:Option Code}(c:st=if jump.isNone then .ready else .done)(h:mG l R st jump F):aY P (Instr.endRound l jump) R F:=by
 obtain ⟨lo,a,b⟩:=h;simp only[Instr.endRound,Instr.getLoop,bw,nJ];refine ⟨_,a,?_⟩;simp only[bI,bw,me,a,Option.isSome_some,Obj.isChan,true_and];rw[c] at b;exact b
theorem wh (hJ:Closed P main J){l:Nat}{b:Frame}{a:Act}{todo:List Item}{jump:Option Code}{c:Frame}{cs:List Frame}(f:b.kind= .normal)
  (hs:∀w,stepG P main (G (on b a todo) (c::cs)) w=GStep.after (seen P b.fn ((Instr.endRound l jump).runT P w #[]).2) (match ((Instr.endRound l jump).runT P w #[]).1 with
    | .ok v w=>doReturn P main (on b a todo) (c::cs) none v w
    | .halt _ w=>.ended (.stuck "range over a function: no such loop" ((on b a todo).pos P)) w))
  (h:aY P (Instr.endRound l jump) (fun v F'=>J (G (c.finish v) cs) F') F):J (G (on b a todo) (c::cs)) F:=by
 refine hJ.step fun w hw=>?_
 obtain ⟨v,w',F',es,H⟩:=k5 _ F w #[] h hw
 have d:=H.run
 rw[Array.empty_append] at d
 refine ⟨G (c.finish v) cs,w',seen P b.fn es,F',?_,H.upd,H.has,fun e he=>H.iw e (mem_seen he),H.post⟩
 rw[hs w,d]
 have g:(on b a todo).kind= .normal:=f
 simp only[doReturn,g,GStep.after,G]
 simp
theorem jF.of_wp (hJ:Closed P main J){l:Nat}{f:FuncId}{tmps:Array Value}{assign body:Code}{R:Value->aa->Prop}(hd:fG assign=true)(q:fG body=true)
  (h:Wp J assign (qf J l body R) {tmps:=tmps,defers:=[]} F):jF J l f tmps assign body F R:=by
 intro c cs j
 let b:Frame:={(default:Frame) with fn:=f,kind:=.normal,roundOf:=some l}
 have he:Frame.round l f tmps assign body .normal=on b {tmps:=tmps,defers:=[]} (.code assign::[.beginRound,.code body]):=rfl
 rw[he]
 refine h b [.beginRound,.code body] (c::cs) ⟨by simp[b],.inr hd⟩ fun e m F' d=>?_
 cases e with
 |exit i=>exact d.elim
 |ret=>exact d.elim
 |normal=>
  obtain ⟨lo,a,g,r⟩:=d
  show J (G (on b m [.beginRound,.code body]) (c::cs)) F'
  have s:aY P (do Instr.beginRound l;pure Next.skip:Sem Next) (fun n k=>n= .skip/\k=F'.put l (.loop {lo with state:=.busy})) F':=by
   simp only[Instr.beginRound,Instr.getLoop,bw,nJ]
   refine ⟨_,a,?_⟩
   simp only[bI,bw,me,a,Option.isSome_some,Obj.isChan,true_and,g]
   all_goals first|trivial|exact ⟨rfl,rfl⟩
  refine hJ.step fun w hw=>?_
  obtain ⟨n,w',k,es,H⟩:=k5 _ F' w #[] s hw
  have o:=H.run
  rw[Array.empty_append] at o
  obtain ⟨rfl,rfl⟩:=H.post
  refine ⟨G (on b m [.code body]) (c::cs),w',seen P b.fn es,_,?_,H.upd,H.has,fun e he=>H.iw e (mem_seen he),?_⟩
  .have t:b.roundOf=some l:=rfl
   simp only[G,stepG,stepG.exec,on,t,Option.elim,stepG.apply,if_true]
   have u:(b.kind==CallKind.early)=false:=rfl
   simp only[o,u,Bool.false_eq_true,if_false,GStep.after]
   simp[Frame.finish,undef]
  .refine r b [] (c::cs) ⟨by simp[b],.inr q⟩ fun e a2 k d=>?_
   cases e with
   |normal=>
    refine wh hJ (l:=l) (jump:=none) rfl (fun w=>?_) (we rfl (R:=fun v F'=>J (G (c.finish v) cs) F') ?_)
    .simp only[G,stepG,stepG.exec,on]
     rfl
    .obtain ⟨lo,a,g⟩:=d
     exact ⟨lo,a,j _ _ g⟩
   |exit i=>
    intro p x
    refine wh hJ (l:=l) (jump:=some (.exit i)) rfl (fun w=>?_) (we rfl (R:=fun v F'=>J (G (c.finish v) cs) F') ?_)
    .have y:exitTo i p=none:=x
     simp only[G,stepG,stepG.exec,on,y,Option.elim]
     rfl
    .obtain ⟨lo,a,g⟩:=d
     exact ⟨lo,a,j _ _ g⟩
   |ret=>
    intro p
    refine wh hJ (l:=l) (jump:=some .ret) rfl (fun w=>?_) (we rfl (R:=fun v F'=>J (G (c.finish v) cs) F') ?_)
    .simp only[G,stepG,stepG.exec,on]
     rfl
    .obtain ⟨lo,a,g⟩:=d
     exact ⟨lo,a,j _ _ g⟩
def sD (Q:Ex->Act->aa->Prop)(a:Act)(F:aa):Option Code->Prop
 |none=>Q .normal a F
 |some (.exit id)=>Q (.exit id) a F
 |some .ret=>Q .ret a F
 |_=>False
def nZ (b:FuncId)(a:Act)(params:Array Tmp)(assign body:Code)(d:Nat):Loop:={state:=.ready,pending:=none,fn:=b,tmps:=a.tmps,params:=params,assign:=assign,body:=body,defers:=d}
theorem Gj (hJ:Closed P main J){x:Operand}{params:Array Tmp}{assign body:Code}{Q:Ex->Act->aa->Prop}{fn:FuncId}{first captured:Array Value}
  (E:ev a x= .func (.func fn) first captured) (I:aH P fn=true)
  (L:∀M d l,dS F d->dS (F.push d (.deferred (some []))) l->
   cW P J fn (first++#[.func (.yield l) #[] #[]]++captured) ((F.push d (.deferred (some []))).push l (.loop (nZ M a params assign body d)))
    (fun _ F'=>∃lo,F'.e6 l=some (.loop lo)/\lo.state≠ .busy/\sD Q {a with defers:=⟨.collected d,#[]⟩::a.defers} (F'.put l (.loop {lo with state:=.exhausted})) lo.pending)):
  Wp J (.rangeFunc x params assign body) Q a F:=by
 intro b k cs hb p
 have t:b.roundOf=none:=hb.round.elim id fun h=>by simp[fG] at h
 obtain ⟨u,N,O,R,S,q,a4⟩:=b
 simp only at t
 subst t
 let b:Frame:=⟨u,N,O,R,S,q,none⟩
 have T:a.eval x= .func (.func fn) first captured:=E
 have i:=I
 unfold aH at i
 split at i
 case h_2=>cases i
 rename_i a5 U
 simp only[Bool.not_eq_true',Bool.or_eq_false_iff] at i
 let K:Nat×List Deferred->aa->Prop:=fun r F'=>∃d l,r=(l,[⟨.collected d,#[]⟩])/\dS F d/\dS (F.push d (.deferred (some []))) l/\F'=(F.push d (.deferred (some []))).push l (.loop (nZ b.fn a params assign body d))
 have V:aY P (Instr.enterLoop b.fn a.tmps params assign body none) K F:=by
  simp only[Instr.enterLoop,bw,pJ,bI]
  exact ⟨rfl,fun d hd=>⟨rfl,fun l s=>⟨d,l,rfl,hd,s,rfl⟩⟩⟩
 refine hJ.step fun w hw=>?_
 obtain ⟨r,w1,a6,z,H1⟩:=k5 _ F w #[] V hw
 have A:=H1.run
 rw[Array.empty_append] at A
 obtain ⟨d,l,rfl,hd,s,rfl⟩:=H1.post
 let fr':Frame:={on b a (.inRangeFunc l::k) with defers:=[⟨.collected d,#[]⟩]++a.defers}
 have W:fr'=on b {a with defers:=⟨.collected d,#[]⟩::a.defers} (.inRangeFunc l::k):=rfl
 have X:fr'.eval x= .func (.func fn) first captured:=by rw[W,u6];exact T
 have Y:aY P (do let m<-resolve fr'.eval {callee:=.value x,args:=#[.const (.func (.yield l) #[] #[])],argTypes:=#[]} 0;invoke m.target m.args:Sem Next)
   (fun n o=>n= .enter fn (first++#[.func (.yield l) #[] #[]]++captured)/\o=(F.push d (.deferred (some []))).push l (.loop (nZ b.fn a params assign body d))) ((F.push d (.deferred (some []))).push l (.loop (nZ b.fn a params assign body d))):=by
  have Z:fr'.eval (.const (.func (.yield l) #[] #[]))= .func (.yield l) #[] #[]:=rfl
  simp only[resolve,X,Deferred.ofValue,bw,bI,invoke,callFunc,ko,U,i.1,i.2,Bool.false_eq_true,if_false,List.map_toArray,List.map_cons,List.map_nil,Z]
  simp
 obtain ⟨n,w2,o,ab,g⟩:=k5 _ _ w1 #[] Y H1.has
 have B:=g.run
 rw[Array.empty_append] at B
 obtain ⟨rfl,rfl⟩:=g.post
 refine ⟨G (Frame.enter P fn (first++#[.func (.yield l) #[] #[]]++captured) .normal) (fr'::cs),w2,seen P b.fn z++seen P b.fn ab,_,?_,H1.upd.trans g.upd,g.has,fun e he=>?_,?_⟩
 .have ad:(q==CallKind.early)=false:=by have:=hb.kind;cases q<;>simp_all
  have hs:∀e:Array Event,stepG P main (G (on b a (.code (.rangeFunc x params assign body)::k)) cs) w=GStep.after (seen P u z) (stepG.apply P true fr' cs none (do let m<-resolve fr'.eval {callee:=.value x,args:=#[.const (.func (.yield l) #[] #[])],argTypes:=#[]} 0;invoke m.target m.args) w1):=fun _=>by
   simp only[G,stepG,stepG.exec,on,b]
   rw[A]
   rfl
  show stepG P main (G (on b a (.code (.rangeFunc x params assign body)::k)) cs) w=_
  rw[hs #[]]
  unfold stepG.apply
  simp only[if_true,B]
  have ae:(fr'.kind==CallKind.early)=false:=ad
  simp only[ae,Bool.false_eq_true,if_false,GStep.after]
  rfl
 .rcases Array.mem_append.1 he with h|h
  .refine (H1.iw e (mem_seen h)).mono (fun _ x=>x) fun b hb=>hb.imp id fun y=>⟨y.1,Nat.lt_of_lt_of_le y.2 g.upd.size⟩
  .refine (g.iw e (mem_seen h)).mono (fun a al=>al) fun b hb=>?_
   rcases hb with hb|hb
   .rcases H1.upd.own b hb with x|x
    .exact .inl x
    .exact .inr ⟨x,Nat.lt_of_lt_of_le (H1.has.lt hb) g.upd.size⟩
   .exact .inr ⟨Nat.le_trans H1.upd.size hb.1,hb.2⟩
 .refine L b.fn d l hd s fr' cs fun v F' ao=>?_
  obtain ⟨lo,C,ar,f⟩:=ao
  have a0:fr'.finish v=on b {a with defers:=⟨.collected d,#[]⟩::a.defers} (.endRangeFunc l::k):=rfl
  rw[a0]
  have a2:aY P (Instr.endLoop l) (fun j o=>j=lo.pending/\o=F'.put l (.loop {lo with state:=.exhausted})) F':=by
   simp only[Instr.endLoop,Instr.getLoop,bw,nJ]
   refine ⟨_,C,?_⟩
   have a3:¬(lo.state== .busy)=true:=by simpa using ar
   simp only[bI,bw,me,C,Option.isSome_some,Obj.isChan,true_and,dm,a3]
   all_goals first|trivial|exact ⟨rfl,rfl⟩
  refine hJ.step fun w hw=>?_
  obtain ⟨j,w',a7,es,H⟩:=k5 _ F' w #[] a2 hw
  have D:=H.run
  rw[Array.empty_append] at D
  obtain ⟨rfl,rfl⟩:=H.post
  refine ⟨G (on b {a with defers:=⟨.collected d,#[]⟩::a.defers} ((lo.pending.map Item.code).toList++k)) cs,w',seen P b.fn es,_,?_,H.upd,H.has,fun e he=>H.iw e (mem_seen he),?_⟩
  .simp only[G,stepG,stepG.exec,on,D,GStep.after]
   simp
  .revert f
   cases lo.pending with
   |none=>exact fun f=>p .normal _ _ f
   |some c=>
    intro f
    cases c<;>simp only[sD] at f<;>first
     |exact f.elim
     |exact p (.exit _) _ _ f k rfl
     |exact p .ret _ _ f k
end
def e7 {H σ:Type}(step:σ->H->Option (Bool×σ)):List (Option H)->σ->Option (Bool×σ)
 |[],s=>some (true,s)
 |none::_,_=>none
 |some x::l,s=>match step s x with
  |some (true,s')=>e7 step l s'
  |some (false,s')=>some (false,s')
  |none=>none
theorem Bg {H σ:Type}(step:σ->H->Option (Bool×σ)):∀(l l':List (Option H)) (s:σ),e7 step (l++l') s=match e7 step l s with
  |some (true,s')=>e7 step l' s'
  |some (false,s')=>some (false,s')
  |none=>none
 |[],l',s=>rfl
 |none::l,l',s=>rfl
 |some x::l,l',s=>by
  simp only[List.cons_append,e7]
  split<;>first|rfl|exact Bg step l l' _
def gr {H σ ρ:Type}(f:H->σ->Option (Fl σ ρ)):List (Option H)->σ->Option (Fl σ ρ)
 |[],s=>some (.nx s)
 |none::_,_=>none
 |some x::l,s=>ag (f x s) fun o=>match o with
  | .nx s'=>gr f l s'
  | .bk s'=>some (.nx s')
  | .br k s'=>some (.br k s')
  | .rt _=>none
def wj {H σ:Type}(P:Program)(y:Value)(enc:H->Value)(step:σ->H->Option (Bool×σ))(ro:Addr->Option Value)(I:σ->List (Nat×Obj)->Prop):Prop:=
 ∀s x b s',step s x=some (b,s')->∀(main:Bool) (J:Goroutine->aa->Prop),Closed P main J->∀own,I s own->
  gK P J y #[enc x] ⟨ro,own⟩ (fun v F'=>∃a,Le ⟨ro,a⟩ F'/\v= .bool b/\I s' a)
def mH {H:Type}(P:Program)(f:FuncId)(first cap:Array Value)(enc:H->Value)(L:List (Option H))(ro:Addr->Option Value):Prop:=
 aH P f=true/\∀(aM:Addr->Option Value),Ext ro aM->∀(σ:Type) (step:σ->H->Option (Bool×σ)) (I:σ->List (Nat×Obj)->Prop) (a:Fn) (c d:Array Value),wj P (.func a c d) enc step aM I->
  ∀s b s',e7 step L s=some (b,s')->∀(main:Bool) (J:Goroutine->aa->Prop),Closed P main J->∀own,I s own->
   cW P J f (first++#[.func a c d]++cap) ⟨aM,own⟩ (fun _ F'=>∃e,Le ⟨aM,e⟩ F'/\I s' e)
theorem mH.mono {H:Type}{P:Program}{f:FuncId}{first cap:Array Value}{enc:H->Value}{L:List (Option H)}{ro a:Addr->Option Value}(h:mH P f first cap enc L ro)(b:Ext ro a):mH P f first cap enc L a:=
 ⟨h.1,fun aM c=>h.2 aM (b.trans c)⟩
def sE:Nat:=1000000000
def mI (k:Nat):Code:=if k=sE then .ret else .exit k
def wm (Q:Ex->Act->aa->Prop)(k:Nat):Act->aa->Prop:=if k=sE then Q .ret else Q (.exit k)
def Bh {σ ρ:Type}(c:Nat)(ro:Addr->Option Value)(l d:Nat)(S:σ->List (Nat×Obj)->Prop)(lo:Loop)(b:Fl σ ρ)(v:Value)(F:aa):Prop:=
 ∃a,Le ⟨ro,(l,.loop {lo with state:=(match b with| .nx _=>.ready|_=>.done),pending:=(match b with| .nx _=>none| .bk _=>some (mI c)| .br k _=>some (mI k)| .rt _=>none)})::(d,.deferred (some []))::a⟩ F/\
  match b with
  | .nx s'=>v= .bool true/\S s' a
  | .bk s'=>v= .bool false/\S s' a
  | .br _ s'=>v= .bool false/\S s' a
  | .rt _=>False
section
variable {P : Program} {main : Bool} {J : Goroutine → aa → Prop} {a : Act}
theorem Bi {H σ ρ:Type}{f:H->σ->Option (Fl σ ρ)}(a:Nat):∀(L:List (Option H)) (s:σ) (o:Fl σ ρ),gr f L s=some o->
  ∃b s' pend,e7 (σ:=σ×Option Nat) (fun st x=>match st with
   |(s,none)=>match f x s with
    |some (.nx s')=>some (true,(s',none))
    |some (.bk s')=>some (false,(s',some a))
    |some (.br k s')=>some (false,(s',some k))
    |_=>none
   |_=>none) L (s,none)=some (b,(s',pend))/\((o= .nx s'/\(pend=none\/pend=some a))\/∃k,o= .br k s'/\pend=some k)
 |[],s,o,h=>by
  cases h
  exact ⟨true,s,none,rfl,.inl ⟨rfl,.inl rfl⟩⟩
 |none::L,s,o,h=>by cases h
 |some x::L,s,o,h=>by
  unfold gr at h
  obtain ⟨e,d,c⟩:=fP h
  cases e with
  |nx s'=>
   obtain ⟨b,s2,pend,g,i⟩:=Bi a L s' o c
   refine ⟨b,s2,pend,?_,i⟩
   unfold e7
   simp only[d]
   exact g
  |bk s'=>
   cases c
   refine ⟨false,s',some a,?_,.inl ⟨rfl,.inr rfl⟩⟩
   unfold e7
   simp only[d]
  |br k s'=>
   cases c
   refine ⟨false,s',some k,?_,.inr ⟨k,rfl,rfl⟩⟩
   unfold e7
   simp only[d]
  |rt r=>cases c
theorem Bj {ro:Addr->Option Value}{l:Nat}{o:Obj}{own:List (Nat×Obj)}(a:Obj.pF o=false)(b:o.isChan=false):aa.e6 ⟨ro,(l,o)::own⟩ l=some o:=by
 simp[aa.e6,lk,a,b]
def qg (a:Act)(d:Nat):Act:={a with defers:=⟨.collected d,#[]⟩::a.defers}
theorem Gk (a:Act)(d i:Nat):slot (qg a d) i=slot a i:=rfl
theorem Gl (a:Act)(d:Nat):sz (qg a d)=sz a:=rfl
theorem Gm (a:Act)(d:Nat):(qg a d).defers=⟨.collected d,#[]⟩::a.defers:=rfl
def mJ (a:Act)(p:Tmp)(v:Value):Act:={tmps:=a.tmps.setIfInBounds p v,defers:=[]}
theorem n4 (a:Act)(p:Tmp)(v:Value)(i:Nat):slot (mJ a p v) i=slot (bg a (some p) v) i:=rfl
theorem wo (a:Act)(p:Tmp)(v:Value):sz (mJ a p v)=sz a:=by simp[sz,mJ]
theorem wq {H σ ρ:Type}(hJ:Closed P main J){x:Operand}{p:Tmp}{assign body:Code}{Q:Ex->Act->aa->Prop}{fn:FuncId}{first captured:Array Value}{ro:Addr->Option Value}{own:List (Nat×Obj)}{g:Nat}
  (enc:H->Value) {L:List (Option H)} (U:ev a x= .func (.func fn) first captured) (K:mH P fn first captured enc L ro)
  (V:fG assign=true) (W:fG body=true)
  (S:σ->List (Nat×Obj)->Prop) {f:H->σ->Option (Fl σ ρ)} {z:σ} {o:Fl σ ρ} (X:gr f L z=some o) (Y:S z own)
  (Z:∀(d l:Nat) (lo:Loop),lo.state= .ready->∀(s:σ) (y:H) (q:Fl σ ρ),f y s=some q->∀(main:Bool) (J:Goroutine->aa->Prop),Closed P main J->∀own,S s own->
   Wp J assign (qf J l body (Bh g ro l d S lo q)) (mJ a p (enc y)) ⟨ro,(l,.loop lo)::(d,.deferred (some []))::own⟩)
  (ab:¬g=sE)
  (ad:∀d l lo j s',S s' j->aQ (keys ((l,.loop lo)::(d,.deferred (some []))::j))->aE ro ((l,.loop lo)::(d,.deferred (some []))::j)->(o= .nx s'->Q .normal (qg a d) ⟨ro,(l,.loop lo)::(d,.deferred (some []))::j⟩)/\
   (∀k,o= .br k s'->wm Q k (qg a d) ⟨ro,(l,.loop lo)::(d,.deferred (some []))::j⟩))
  (ae:∀k s',o= .br k s'->¬k=g):Wp J (.block g (.rangeFunc x #[p] assign body)) Q a ⟨ro,own⟩:=by
 refine aO hJ (Wp.mono (Q:=fun e A F'=>match e with| .exit i=>if i=g then Q .normal A F' else Q (.exit i) A F'|e=>Q e A F') ?_ fun e a F h=>by cases e<;>exact h)
 obtain ⟨b,s',pend,al,ao⟩:=Bi g L z o X
 refine Gj hJ U K.1 fun B d l hd bc=>?_
 let lo:Loop:=nZ B a #[p] assign body d
 let n:Option Nat->Loop:=fun pend=>{lo with state:=(match pend with|none=>.ready|some _=>.done),pending:=pend.map mI}
 let I:σ×Option Nat->List (Nat×Obj)->Prop:=fun st ar=>∃aX,ar=(l,.loop (n st.2))::(d,.deferred (some []))::aX/\S st.1 aX
 have a0:wj P (.func (.yield l) #[] #[]) enc (fun (st:σ×Option Nat) x=>match st with
   |(s,none)=>match f x s with
    |some (.nx s')=>some (true,(s',none))
    |some (.bk s')=>some (false,(s',some g))
    |some (.br k s')=>some (false,(s',some k))
    |_=>none
   |_=>none) ro I:=by
  rintro ⟨s,pend⟩ y bd ⟨s1,bj⟩ m a2 M N a3 ⟨aX,rfl,a4⟩
  cases pend with
  |some k=>cases m
  |none=>
   simp only at m
   refine ⟨rfl,rfl,lo,Bj rfl rfl,rfl,?_⟩
   cases C:f y s with
   |none=>rw[C] at m;cases m
   |some q=>
    have D:=jF.of_wp N (R:=Bh g ro l d S lo q) (f:=B) V W (Z d l lo rfl s y q C a2 M N aX a4)
    rw[C] at m
    have a5:(lo.params.zip #[enc y]).foldl (fun tmps (t,a)=>tmps.setIfInBounds t a) lo.tmps=a.tmps.setIfInBounds p (enc y):=by simp[lo,nZ]
    show jF M l B ((lo.params.zip #[enc y]).foldl (fun tmps (t,a)=>tmps.setIfInBounds t a) lo.tmps) assign body _ _
    rw[a5]
    refine D.mono fun v F' E=>?_
    obtain ⟨j,hle,hm⟩:=E
    cases q with
    |nx s2=>
     simp only[Option.some.injEq,Prod.mk.injEq] at m
     obtain ⟨rfl,rfl,rfl⟩:=m
     exact ⟨_,hle,hm.1,j,rfl,hm.2⟩
    |bk s2=>
     simp only[Option.some.injEq,Prod.mk.injEq] at m
     obtain ⟨rfl,rfl,rfl⟩:=m
     exact ⟨_,hle,hm.1,j,rfl,hm.2⟩
    |br k s2=>
     simp only[Option.some.injEq,Prod.mk.injEq] at m
     obtain ⟨rfl,rfl,rfl⟩:=m
     exact ⟨_,hle,hm.1,j,rfl,hm.2⟩
    |rt r=>exact hm.elim
 have a6:=K.2 ro (Ext.refl ro) _ _ I _ _ _ a0 (z,none) b (s',pend) al main J hJ ((l,.loop lo)::(d,.deferred (some []))::own) ⟨own,rfl,Y⟩
 intro c cs a7
 refine a6 c cs fun v F' E=>?_
 obtain ⟨a3,hle,j,rfl,a8⟩:=E
 by_cases hw:∃w,Has F' w
 case neg=>exact hJ.step fun w a9=>absurd ⟨w,a9⟩ hw
 obtain ⟨w,hw⟩:=hw
 have O:=hle.has w hw
 refine hJ.mono hle (a7 v _ ⟨n pend,Bj rfl rfl,?_,?_⟩)
 .cases pend<;>simp[n]
 .obtain ⟨T,ba⟩:=ad d l {n pend with state:=.exhausted} j s' a8 ⟨O.nodup⟩ (fun b hb off sp=>by
   cases D:ro ⟨b,off,sp⟩ with
   |none=>rfl
   |some v=>exact absurd hb (O.apart _ v D))
  have bb:aa.put ⟨ro,(l,.loop (n pend))::(d,.deferred (some []))::j⟩ l (.loop {n pend with state:=.exhausted})=⟨ro,(l,.loop {n pend with state:=.exhausted})::(d,.deferred (some []))::j⟩:=by simp[aa.put,iX]
  rw[bb]
  rcases ao with ⟨rfl,rfl|rfl⟩|⟨k,rfl,rfl⟩
  .exact T rfl
  .show sD _ _ _ (some (mI g))
   have:mI g= .exit g:=if_neg ab
   rw[this]
   show (if g=g then Q .normal _ _ else Q (.exit g) _ _)
   rw[if_pos rfl]
   exact T rfl
  .have u:=ba k rfl
   show sD _ _ _ (some (mI k))
   unfold wm at u
   unfold mI
   split
   .rename_i G
    rw[if_pos G] at u
    exact u
   .rename_i G
    rw[if_neg G] at u
    show (if k=g then Q .normal _ _ else Q (.exit k) _ _)
    rw[if_neg (ae k s' rfl)]
    exact u
theorem Gn {R:List Deferred->aa->Prop}{r:Nat}{F:aa}:aY P (Instr.takeDeferred r) R F=match F.e6 r with
  |some (.deferred (some a))=>R a (F.put r (.deferred none))
  |_=>False:=by
 unfold Instr.takeDeferred
 rw[bw,nJ]
 refine propext ⟨fun ⟨o,d,b⟩=>?_,fun h=>?_⟩
 .rw[d]
  cases o<;>first|exact (show False from b).elim|skip
  rename_i a
  cases a with
  |none=>exact (show False from b).elim
  |some a=>
   simp only[bw,me,bI] at b
   exact b.2.2
 .split at h
  .rename_i a c
   refine ⟨_,c,?_⟩
   simp only[bw,me,bI]
   exact ⟨rfl,by rw[c];rfl,h⟩
  .exact h.elim
theorem Gq (hJ:Closed P main J){y:Value}{args:Array Value}{ro:Addr->Option Value}{own:List (Nat×Obj)}{R:Value->List (Nat×Obj)->Prop}(pre:List (Nat×Obj))
  (h:∀(main:Bool) (J:Goroutine->aa->Prop),Closed P main J->gK P J y args ⟨ro,own⟩ (fun v F'=>∃a,Le ⟨ro,a⟩ F'/\R v a)) (p:aQ (keys (pre++own))) {K:Value->aa->Prop}
  (s:∀v a,R v a->aQ (keys (pre++a))->K v ⟨ro,pre++a⟩):gK P J y args ⟨ro,pre++own⟩ K:=by
 have key:∀jL:Frame,(∀(main:Bool) (J:Goroutine->aa->Prop),Closed P main J->sA J jL ⟨ro,own⟩ (fun v F'=>∃a,Le ⟨ro,a⟩ F'/\R v a))->sA J jL ⟨ro,pre++own⟩ K:=fun jL d=>
  A8 hJ pre [] (by simp) R (fun m e f c cs t=>d m e f c cs fun v F' u=>t v F' (by obtain ⟨o,b,g⟩:=u;exact ⟨o,g,b⟩)) fun v w x a k i=>by
   rw[List.append_nil] at k
   subst k
   exact ⟨_,Le.refl _,s v w x i⟩
 have d:=h main J hJ
 unfold gK at d ⊢
 split at d
 .rename_i fn first captured
  refine ⟨d.1,key _ fun m e f=>?_⟩
  have:=h m e f
  unfold gK at this
  exact this.2
 .rename_i l first captured
  obtain ⟨e1,e2,r,b,g,_⟩:=d
  refine ⟨e1,e2,r,?_,g,key _ fun m e f=>?_⟩
  .have hm:l∈keys own:=by
    unfold aa.e6 at b
    split at b
    .rename_i o z;exact eV (gU z)
    .cases b
   have i:l∉keys pre:=fun A=>by
    have:=p.nd
    rw[cq] at this
    exact (List.nodup_append.1 this).2.2 l A l hm rfl
   have B:∀(pre:List (Nat×Obj)),l∉keys pre->lk (pre++own) l=lk own l:=fun pre=>by
    induction pre with
    |nil=>intro _;rfl
    |cons q pre ih=>
     intro j
     simp only[keys,List.map_cons,List.mem_cons,not_or] at j
     simp only[List.cons_append,lk,if_neg (Ne.symm j.1)]
     exact ih j.2
   unfold aa.e6 at b ⊢
   simp only at b ⊢
   rw[B pre i]
   exact b
  .have:=h m e f
   unfold gK at this
   obtain ⟨_,_,D,n,E,C⟩:=this
   rw[b] at n
   cases n
   exact C
 .exact d.elim
theorem cW.less (hJ:Closed P main J){f:FuncId}{args:Array Value}{F:aa}{R:Value->aa->Prop}(h:cW P J f args F (fun v F'=>∃F0,Le F0 F'/\R v F0)):cW P J f args F R:=
 fun c cs a=>h c cs fun v F' ⟨F0,hle,b⟩=>hJ.mono hle (a v F0 b)
def Bl (P:Program)(rs:List ResultVar)(R:Value->aa->Prop):Ex->Act->aa->Prop
 | .exit _,_,_=>False
 |_,a,F=>iy P a.defers (fun F=>match mA P F a rs with|some v=>R v F|none=>False) F
theorem Bm {K b:aa->Prop}(h:∀F,K F->b F):∀(a:List Deferred) (F:aa),iy P a K F->iy P a b F
 |[],F,x=>h F x
 |d::a,F,⟨r,e,f⟩=>⟨r,e,gY (fun calls F' c=>⟨c.1,Bm h a F' c.2⟩) _ _ f⟩
theorem aD.wu {f:FuncId}{fn:Func}{c:Code}{n:Nat}{rs:List ResultVar}{args:Array Value}{F:aa}{R:Value->aa->Prop}(g:P.funcs[f]?=some fn)(hb:fn.body=some c)(j:fn.ntmps=n)(k:fn.results=rs.toArray)(l:args.size<=n)
  (h:∀main J,Closed P main J->∀A:Act,sz A=n->A.defers=[]->(∀i,slot A i=args.getD i undef)->Wp J c (Bl P rs R) A F):aD P f args F R:=
 aD.start g hb j l fun main J hJ A m o p=>(h main J hJ A m o p).mono fun e a F b=>by
  have key:iy P a.defers (fun F=>match mA P F a rs with|some v=>R v F|none=>False) F->iy P a.defers (fun F=>aY P (results fn a.tmps) R F) F:=Bm (fun F d=>by
   split at d
   .rename_i v q;exact r6 k q d
   .exact d.elim) _ _
  cases e with
  |exit i=>exact b
  |normal=>exact key b
  |ret=>exact key b
theorem cW.go (hJ:Closed P main J){f:FuncId}{fn:Func}{c:Code}{n:Nat}{rs:List ResultVar}{args:Array Value}{F:aa}{R:Value->aa->Prop}(j:P.funcs[f]?=some fn)(hb:fn.body=some c)(d:fn.ntmps=n)(k:fn.results=rs.toArray)(m:args.size<=n)
  (h:∀A:Act,sz A=n->A.defers=[]->(∀i,slot A i=args.getD i undef)->Wp J c (iA P rs R) A F):cW P J f args F R:=by
 refine cW.of_wp hJ j hb ?_
 refine (h _ (by simp[sz,d];omega) rfl fun i=>?_).mono fun e a F g=>?_
 .simp only[slot,d,Array.getD_eq_getD_getElem?]
  rcases Nat.lt_or_ge i args.size with hi|hi
  .rw[Array.getElem?_append_left hi]
  .rw[Array.getElem?_append_right hi,Array.getElem?_replicate,Array.getElem?_eq_none hi]
   split<;>rfl
 .cases e with
  |exit i=>exact g
  |_=>
   obtain ⟨hd,b⟩:=g
   split at b
   .rename_i v l
    show iy P a.defers _ F
    rw[hd]
    exact r6 k l b
   .exact b.elim
theorem Gs {d:Nat}{X:Nat->Prop}:(∃r,Target.collected d=Target.collected r/\X r)=X d:=propext ⟨fun ⟨r,a,b⟩=>by cases a;exact b,fun h=>⟨d,rfl,h⟩⟩
attribute [go_sem] Gs Gk Gl Gm Bl Gn aa.e6 Obj.pF Obj.isChan
end
section
variable {P : Program}
theorem Bn {argTypes:Array TypeId}{t e ty:TypeId}{R:Value->aa->Prop}{F:aa}{ad:Option Addr}{n c:Nat}(ht:argTypes[0]?=some t)(hu:P.underlying t=some (.slice e))(h:R (.int .i64 c) F):eW P (Builtin.cap_ argTypes ty #[.slice ad n c]) R F:=by
 unfold eW;simp only[Builtin.cap_,ht,List.getElem?_toArray,List.getElem?_cons_zero,bw,dy,hu,bI];exact h
theorem Gt (z:Value)(n:Nat):(Builtin.zeroCells #[z] n).toList=List.replicate n z:=by
 simp only[Builtin.zeroCells,List.size_toArray,List.length_cons,List.length_nil,Nat.zero_add,Nat.mul_one,Nat.mod_one];rw[Array.toList_map,Array.toList_range];apply List.ext_getElem
 .simp
 .intro i a b;simp
theorem Gu {ro:Addr->Option Value}{pre bp:List (Nat×Obj)}{argTypes:Array TypeId}{t e ty:TypeId}{R:Value->aa->Prop}{b off n c:Nat}{arr:Array Value}{z zc:Value}(ht:argTypes[0]?=some t)(hu:P.underlying t=some (.slice e))(a:zeroOf P e=some z)(d:z.cells=#[zc])(f:bC zc=true)
  (l:0<n) (g:au pre b) (i:off+n<=arr.size)
  (h:R (.tuple #[]) ⟨ro,pre++((b,.cells (cK arr off (List.replicate n zc)) e)::bp)⟩):
  eW P (Builtin.clear_ argTypes ty #[.slice (some ⟨b,off,none⟩) n c]) R ⟨ro,pre++((b,.cells arr e)::bp)⟩:=by
 unfold eW
 have m:n≠0:=by omega
 obtain ⟨k,rfl⟩:∃k,n=k+1:=⟨n - 1,by omega⟩
 simp only[Builtin.clear_,ht,List.getElem?_toArray,List.getElem?_cons_zero,bw,dy,hu,mg,a,d]
 refine rP _ _ 0 _ ⟨ro,pre++((b,.cells (cK arr off (List.replicate (k+1) zc)) e)::bp)⟩ ?_ ?_
 .rw[Gt]
  have:=vY (ro:=ro) (bp:=bp) (e:=e) g off (List.replicate (k+1) zc) arr 0 (fun v j=>by rw[List.eq_of_mem_replicate j];exact f) (by simpa using i)
  simpa using this
 .simp only[bI]
  exact h
end
theorem aP.Bo {T:Type}{r:cc T}{ro:Addr->Option Value}{e:TypeId}{v:Value}{l:List T}{aX:List (Nat×Obj)}(h:aP r ro e v l aX){own:List (Nat×Obj)}(pre bp:List (Nat×Obj))(f:own=pre++(aX++bp))(g:aQ (keys own)):aA r (aa.cx ⟨ro,own⟩).ro v l:=by
 subst f;obtain ⟨ls,hg,c,hm,k⟩:=h;rcases hg with ⟨rfl,rfl,rfl⟩|⟨b,arr,cap,rfl,rfl,hs,hle,ht,d,m⟩
 .have:l=[]:=List.eq_nil_of_length_eq_zero (by simpa using c.symm);subst this;exact aA.nil r _
 .have o:au pre b:=Nd.fresh g.nd b (by simp[keys]);refine ⟨some ⟨b,0,none⟩,cap,by rw[c],by omega,by omega,fun i x hi=>?_⟩;obtain ⟨cs,p,q⟩:=k i x hi;refine ⟨_,cs,rfl,r.mono aN q,fun j v s=>?_⟩;have a:=p6 ls i cs d p j v s;rw[k8,k9,Nat.zero_add];have t:i*r.n+j<ls.length*r.n:=by
   have:=(List.getElem?_eq_some_iff.1 a).1;rw[iz d] at this;exact this
  rw[<-ht,List.getElem?_take_of_lt t] at a;show aa.get ⟨ro,pre++([(b,Obj.cells arr e)]++bp)⟩ ⟨b,i*r.n+j,none⟩=some v;simp only[aa.get,m,if_true,List.cons_append,List.nil_append,sx o,Option.bind_some,cellOf];simpa using a
theorem aA.two {T:Type}{r:cc T}{ro:Addr->Option Value}{own:List (Nat×Obj)}{b:Nat}{x y:T}{v u:Value}{e:TypeId}(c:∀off sp,ro ⟨b,off,sp⟩=none)(f:lk own b=some (.cells #[v,u] e))(d:r.n=1)(h:r.rel ro x [v])(k:r.rel ro y [u]):
  aA r (bV ro b (.cells #[v,u] e)) (.slice (some ⟨b,0,none⟩) 2 2) [x,y]:=by
 refine ⟨some ⟨b,0,none⟩,2,rfl,Nat.le_refl _,by simp,fun i z hi=>?_⟩
 have:(i=0/\z=x)\/(i=1/\z=y):=by
  cases i with
  |zero=>simp at hi;exact .inl ⟨rfl,hi.symm⟩
  |succ i=>cases i with
   |zero=>simp at hi;exact .inr ⟨rfl,hi.symm⟩
   |succ i=>simp at hi
 rcases this with ⟨rfl,rfl⟩|⟨rfl,rfl⟩
 .refine ⟨_,_,rfl,r.mono (gq _ _ _) h,fun j w a=>?_⟩
  cases j with
  |zero=>
   rw[Nat.zero_mul,add_zero',k9,Nat.zero_add,jd c]
   simpa [cellOf] using a
  |succ j=>simp at a
 .refine ⟨_,_,rfl,r.mono (gq _ _ _) k,fun j w a=>?_⟩
  cases j with
  |zero=>
   rw[d,k8,k9,jd c]
   simpa [cellOf] using a
  |succ j=>simp at a
theorem aP.clear {ro:Addr->Option Value}{e:TypeId}{b n cap k:Nat}{x:List Int}{arr:Array Value}(h:aP rI ro e (.slice (some ⟨b,0,none⟩) n cap) x [(b,.cells arr e)])(t:k<=x.length):
  aP rI ro e (.slice (some ⟨b,0,none⟩) k cap) (x.take k) [(b,.cells (cK arr k (List.replicate (n - k) (.int .i64 0))) e)]:=by
 obtain ⟨ls,hg,u,hm,l⟩:=h
 rcases hg with ⟨a,_,_⟩|⟨w,y,m,a,o,hs,hle,ht,f,p⟩
 .cases a
 .cases o
  obtain ⟨rfl,rfl⟩:n=ls.length/\cap=m:=by cases a;exact ⟨rfl,rfl⟩
  have d:rI.n=1:=rfl
  rw[d] at hs ht f
  simp only[Nat.mul_one] at hs ht
  have c:(ls.take k).length=k:=by rw[List.length_take];omega
  refine ⟨ls.take k,.inr ⟨b,_,cap,by rw[c],rfl,by rw[rX];rw[d,Nat.mul_one];exact hs,by rw[c];omega,?_,?_,p⟩,by rw[c,List.length_take];omega,by rw[List.length_take];omega,?_⟩
  .rw[rY _ _ _ (by simp;omega),c,d,Nat.mul_one,List.append_assoc,List.take_append_of_le_length (by rw[List.length_take,Array.length_toList];omega),List.take_take,Nat.min_self]
   have e1:arr.toList.take k=(arr.toList.take ls.length).take k:=by rw[List.take_take,Nat.min_eq_left (by omega)]
   rw[e1,ht]
   have e2:ls.flatten=(ls.take k).flatten++(ls.drop k).flatten:=by rw[<-List.flatten_append,List.take_append_drop]
   have j:(ls.take k).flatten.length=k:=by rw[iz (size:=1) (fun z g=>f z (List.mem_of_mem_take g)),c,Nat.mul_one]
   rw[e2,List.take_append_of_le_length (Nat.le_of_eq j.symm),List.take_of_length_le (Nat.le_of_eq j)]
  .intro z g
   rw[d];exact f z (List.mem_of_mem_take g)
  .intro i v a
   obtain ⟨hi,q⟩:i<k/\x[i]?=some v:=by
    rw[List.getElem?_take] at a
    split at a
    .exact ⟨‹_›,a⟩
    .cases a
   obtain ⟨cs,r,s⟩:=l i v q
   exact ⟨cs,by rw[List.getElem?_take,if_pos hi];exact r,s⟩
section
variable {P : Program}
theorem Gv {t:TypeId}{R:Value->aa->Prop}{F:aa}(h:∀b,dS F b->R (.map (some b)) (F.push b (.map #[] 0))):eW P (Instr.makeMap t none) R F:=by
 unfold eW;simp only[Instr.makeMap,bw,pJ,bI];exact ⟨rfl,h⟩
theorem Gw {argTypes:Array TypeId}{t a b ty:TypeId}{r:Nat}{es:Array MapEntry}{clock:Nat}{R:Value->aa->Prop}{F:aa}(ht:argTypes[0]?=some t)(hu:P.underlying t=some (.map a b))(c:F.e6 r=some (.map es clock))(h:R (.int .i64 (es.size:Int)) F):
  eW P (Builtin.len_ argTypes ty #[.map (some r)]) R F:=by
 unfold eW
 simp only[Builtin.len_,ht,List.getElem?_toArray,List.getElem?_cons_zero,bw,dy,hu,nJ]
 exact ⟨_,c,h⟩
theorem Bp {d:TypeId}{key:Value}{F:aa}{Q:Option (Nat×Value)->aa->Prop}:∀(l:List MapEntry) (i:Nat),
  (∀e∈l,∃b,(∀(Q:Bool->aa->Prop),Q b F->aY P (Op.equal d key e.key) Q F)/\(b=true↔e.key=key))->
  (∀j e,l[j]?=some e->e.key=key->Q (some (i+j,e.val)) F)->((∀e∈l,¬e.key=key)->Q none F)->aY P (Instr.findAsking d key l i) Q F
 |[],i,_,_,a=>a (by simp)
 |e::l,i,f,g,a=>by
  obtain ⟨b,hb,h⟩:=f e (by simp)
  simp only[Instr.findAsking,bw]
  refine hb _ ?_
  cases b with
  |true=>exact g 0 e rfl (h.1 rfl)
  |false=>
   have aG:¬e.key=key:=fun x=>by have:=h.2 x;cases this
   refine Bp l (i+1) (fun x c=>f x (by simp[c])) (fun j x c he=>?_) (fun k=>a (by simpa [aG] using k))
   have:=g (j+1) x (by simpa using c) he
   rwa [show i+1+j=i+(j+1) by omega]
theorem modify_keys {es:Array MapEntry}{i:Nat}{key val:Value}{e:MapEntry}(hi:es[i]?=some e)(he:e.key=key):(es.modify i fun e=>{e with key:=key,val:=val}).toList.map (·.key)=es.toList.map (·.key):=by
 apply List.ext_getElem?;intro j;simp only[List.getElem?_map,Array.toList_modify,List.getElem?_modify];by_cases a:i=j
 .subst a;have:es.toList[i]?=some e:=by simpa using hi
  simp[this,he]
 .simp[a]
theorem Gx {t c q f n:TypeId}{r:Nat}{es:Array MapEntry}{clock:Nat}{key val:Value}{R:Value->aa->Prop}{F:aa}(hu:P.underlying t=some (.map c q))(g:F.e6 r=some (.map es clock))
  (s:∀Q:Unit->aa->Prop,Q () F->aY P (Instr.checkKey false 10000 c key) Q F) (u:P.underlying c=some (.array n f))
  (v:∀e∈es.toList,∃b,(∀(Q:Bool->aa->Prop),Q b F->aY P (Op.equal c key e.key) Q F)/\(b=true↔e.key=key))
  (h:∀d w,((key∈es.toList.map (·.key)/\d.toList.map (·.key)=es.toList.map (·.key))\/(key∉es.toList.map (·.key)/\d.toList.map (·.key)=es.toList.map (·.key)++[key]))->R undef (F.put r (.map d w))):
  eW P (Instr.mapUpdate t (.map (some r)) key val>>= fun _=>pure undef) R F:=by
 unfold eW
 simp only[Instr.mapUpdate,bw,dy,hu,nJ]
 refine ⟨_,g,?_⟩
 simp only[bw]
 refine s _ ?_
 have k:(F.e6 r).isSome=true:=by rw[g];rfl
 have step:aY P (Instr.findAsking c key es.toList) (fun a G=>aY P (match a with
   |some (i,_)=>do
    let key<-Instr.keyThatStays (((es[i]?).map (·.key)).getD key) key
    setObj r (.map (es.modify i fun e=>{e with key,val}) clock)
   |none=>setObj r (.map (es.push {key,val,born:=clock}) (clock+1))) (fun _ G=>aY P (pure undef) R G) G) F:=by
  refine Bp _ 0 v (fun j e m he=>?_) (fun x=>?_)
  .simp only[Nat.zero_add,bw]
   have o:es[j]?=some e:=by simpa using m
   rw[o]
   simp only[Option.map_some,Option.getD_some,he]
   have fin:aY P (setObj r (.map (es.modify j fun e=>{e with key:=key,val:=val}) clock)) (fun _ G=>aY P (pure undef) R G) F:=by
    simp only[me,bI]
    refine ⟨rfl,k,h _ _ (.inl ⟨?_,modify_keys o he⟩)⟩
    rw[<-he]
    exact List.mem_map_of_mem (List.mem_of_getElem? m)
   unfold Instr.keyThatStays
   rw[dm]
   split
   .exact fin
   .simp only[bw,vm]
    split
    .simp only[bI,ite_self];exact fin
    .intro t;simp only[bI,ite_self];exact fin
  .simp only[me,bI]
   refine ⟨rfl,k,h _ _ (.inr ⟨?_,by simp⟩)⟩
   intro hm
   obtain ⟨e,he,y⟩:=List.mem_map.1 hm
   exact x e he y
 unfold Instr.findKey
 simp only[bw,dy,u]
 cases p:es.toList with
 |nil=>
  rw[p] at step
  exact step
 |cons e l=>
  have:Instr.findNow (.array n f) key (e::l) 0=none:=rfl
  rw[this]
  rw[p] at step
  exact step
end
theorem bS {α β:Type}{x:Option α}{f:α->Option β}{r:β}{G:Prop}(k:∀a,x=some a->f a=some r->G)(h:ag x f=some r):G:=by
 obtain ⟨a,b,c⟩:=fP h;exact k a b c
def bA:Code->Code
 | .seq _ b=>b
 |c=>c
theorem sI {α:Type}{x r:α}(h:some x=some r):x=r:=Option.some.inj h
theorem ay {ro:Addr->Option Value}{own:List (Nat×Obj)}{G:Nat->Prop}(h:∀b,(∀off sp,ro ⟨b,off,sp⟩=none)->au own b->G b):∀b,dS ⟨ro,own⟩ b->G b:=fun b f=>h b (eK f) (fI f)
theorem bu:(∀(ro:Addr->Option Value) (b:Nat) (o:Obj) (l:List (Nat×Obj)),aE ro ((b,o)::l)=((∀off sp,ro ⟨b,off,sp⟩=none)/\aE ro l))/\(∀l:List (Nat×Obj),[]++l=l)/\(∀l:List (Nat×Obj),l++[]=l)/\
  (∀(x:Nat×Obj) (l m:List (Nat×Obj)),x::l++m=x::(l++m))/\∀l m n:List (Nat×Obj),l++m++n=l++(m++n):=
 ⟨fun _ _ _ _=>propext ⟨fun h=>⟨h.hd,h.tl⟩,fun h=>aE.cons h.1 h.2⟩,fun _=>rfl,List.append_nil,fun _ _ _=>rfl,List.append_assoc⟩
theorem aA.el {T:Type}{r:cc T}{ro:Addr->Option Value}{ad:Option Addr}{n cap:Nat}{l:List T}(h:aA r ro (.slice ad n cap) l):
  ∀i x,l[i]?=some x->∃p cs,ad=some p/\r.rel ro x cs/\∀j v,cs[j]?=some v->ro ((p.add (i*r.n)).add j)=some v:=by
 obtain ⟨a,b,e,_,_,h⟩:=h
 cases e
 exact h
theorem aQ.tl {b:Nat}{ks:List Nat}(h:aQ (b::ks)):aQ ks:=⟨(List.nodup_cons.1 h.nd).2⟩
theorem aQ.cut {l:List (Nat×Obj)}(h:aQ (keys l))(i n:Nat):aQ (keys (l.take i++l.drop (i+n))):=
 ⟨(((List.Sublist.append_left (show (l.drop (i+n)).Sublist (l.drop i) by rw[<-List.drop_drop];exact List.drop_sublist _ _) (l.take i)).trans (by rw[List.take_append_drop];exact List.Sublist.refl _)).map _).nodup h.nd⟩
theorem aP.eX {T:Type}{r:cc T}{ro:Addr->Option Value}{e:TypeId}{v:Value}{l:List T}{aX:List (Nat×Obj)}(h:aP r ro e v l aX){own:List (Nat×Obj)}(pre bp:List (Nat×Obj))(a:aQ (keys own))(b:aE ro (pre++bp))
  (c:own=pre++(aX++bp):=by first|rfl|simp only[aS]|(simp only[aS];rfl)):
  ∃aM,Ext ro aM/\aE aM (pre++bp)/\aA r aM v l/\Le ⟨aM,pre++bp⟩ ⟨ro,own⟩:=h.lB _ pre bp c rfl a b
theorem aA.oc {T:Type}{r:cc T}{ro:Addr->Option Value}{s:Value}{l:List T}(h:aA r ro s l):bC s=true:=by
 obtain ⟨_,_,e,_⟩:=h;rw[e];rfl
theorem Gy {p:Nat->Prop}{a:Nat}{l:List Nat}:(∀i,i∈a::l->p i)=(p a/\∀i,i∈l->p i):=propext List.forall_mem_cons
theorem Gz {p:Nat->Prop}:(∀i,i∈([]:List Nat)->p i)=True:=propext ⟨fun _=>trivial,fun _ _ h=>(by cases h)⟩
section
variable {P : Program} {main : Bool} {J : Goroutine → aa → Prop} {Q : Ex → Act → aa → Prop} {a : Act} {F : aa}
theorem b9 (hJ:Closed P main J){f:FuncId}{args:Array Value}{ro:Addr->Option Value}{own:List (Nat×Obj)}{K:Value->aa->Prop}(R:Value->(Addr->Option Value)->Prop)(h:eM P f args ro R)
  (a:∀v aM,Ext ro aM->aE aM own->R v aM->K v ⟨aM,own⟩):cW P J f args ⟨ro,own⟩ K:=vN hJ R h a
theorem sF {Φ:Goroutine->aa->Prop}{f:FuncId}{args:Array Value}{ro:Addr->Option Value}{own:List (Nat×Obj)}{K:Value->aa->Prop}(R:Value->(Addr->Option Value)->Prop)(h:p9 P f args ro R)
  (a:∀v aM,Ext ro aM->aE aM own->R v aM->K v ⟨aM,own⟩):cW P (dV P Φ) f args ⟨ro,own⟩ K:=FG R h a
theorem cS {α:Type}{b:Bool}{e1 e2:Option α}{r:α}{G:Prop}(c:b=true->e1=some r->G)(d:b=false->e2=some r->G)(h:cond b e1 e2=some r):G:=by
 rcases je h with ⟨a,b⟩|⟨a,b⟩
 .exact c a b
 .exact d a b
theorem jC {α:Type}(hJ:Closed P main J){c:Operand}{x y:Code}{b:Bool}{e1 e2:Option α}{r:α}(d:ev a c= .bool b)(f:b=true->e1=some r->Wp J x Q a F)(g:b=false->e2=some r->Wp J y Q a F)(h:cond b e1 e2=some r):Wp J (.cond c x y) Q a F:=by
 refine Fu hJ b d (fun e=>f e ?_) fun e=>g e ?_
 .rw[e] at h;exact h
 .rw[e] at h;exact h
theorem b8 (hJ:Closed P main J){c:Operand}{x y:Code}(h:Wp J x Q a F)(b:ev a c= .bool true:=by simp (maxSteps:=9^9) only[*,go_sem]):Wp J (.cond c x y) Q a F:=dU hJ b h
theorem b6 (hJ:Closed P main J){c:Operand}{x y:Code}(h:Wp J y Q a F)(b:ev a c= .bool false:=by simp (maxSteps:=9^9) only[*,go_sem]):Wp J (.cond c x y) Q a F:=dM hJ b h
theorem aT {α:Type}(hJ:Closed P main J){c:Operand}{x y:Code}{b:Bool}{e1 e2:Option α}{r:α}(d:b=true->e1=some r->Wp J x Q a F)(e:b=false->e2=some r->Wp J y Q a F)(f:ev a c= .bool b:=by simp (maxSteps:=9^9) only[*,go_sem]):cond b e1 e2=some r->Wp J (.cond c x y) Q a F:=jC hJ f d e
structure wv (Q:Ex->Act->aa->Prop)(K:Act->aa->Prop):Prop where
 go:∀{a F},Q .normal a F->K a F
theorem cP (hJ:Closed P main J)(b:P.follows .mixedOrders=true)(m n:Nat){id:Nat}{ops:Array Oper}(c:Knows ⟨F.ro,F.own.take n⟩ F)(d:nS ops m=true)
  (h:ej P J ops ⟨F.ro,F.own.take n⟩ (fun e=>eL P J ops ⟨F.ro,F.own.take n⟩ (Q .normal) (ops.toList.drop m) true e F) (ops.toList.take m) true a):Wp J (.region id ops true) Q a F:=fl hJ b m _ c d h
theorem qh (hJ:Closed P main J)(b:P.follows .mixedOrders=true)(m n:Nat){id:Nat}{ops:Array Oper}(c:Knows ⟨F.ro,F.own.take n⟩ F)(d:nS ops m=true)
  (h:∀K,wv Q K->ej P J ops ⟨F.ro,F.own.take n⟩ (fun e=>eL P J ops ⟨F.ro,F.own.take n⟩ K (ops.toList.drop m) true e F) (ops.toList.take m) true a):Wp J (.region id ops true) Q a F:=fl hJ b m _ c d (h _ ⟨fun h=>h⟩)
theorem eA (hJ:Closed P main J){id:Nat}{ops:Array Oper}(h:∀K,wv Q K->fj P J ops K ops.toList true a F):Wp J (.region id ops false) Q a F:=ak hJ (h _ ⟨fun h=>h⟩)
theorem kF (hJ:Closed P main J)(b:P.follows .mixedOrders=true)(bZ:List Nat)(p:cm){id:Nat}{ops:Array Oper}(F0:aa)(c:Knows F0 F)
  (d:(Region.noSelect ops&&decide (p.len<=ops.size)&&p.ok ops bZ (Array.replicate ops.size false))=true)
  (h:∀K,wv Q K->cg P J ops F0 K (p.opers ops) true a F):Wp J (.region id ops true) Q a F:=eE hJ b bZ p F0 c d (h _ ⟨fun h=>h⟩)
theorem eY {c:Code}(L:List Nat){a:Act}(h:∀A,sz A=sz a->A.defers=a.defers->(∀i∈L,slot A i=slot a i)->Wp J c Q A F):Wp J c Q a F:=h a rfl rfl fun _ _=>rfl
theorem cM.pick {ws:List Nat}{A a:Act}(h:cM ws A a)(L:List Nat)(b:(L.all fun i=>!gZ ws i)=true):sz A=sz a/\A.defers=a.defers/\∀i∈L,slot A i=slot a i:=
 ⟨h.size,h.defers,fun i hi=>h.dZ i fun x=>by
  have c:=List.all_eq_true.1 b i hi
  have d:gZ ws i=true:=by
   unfold In at x
   exact x
  simp[d] at c⟩
theorem ek {T:Type}{r:cc T}{ro:Addr->Option Value}{aX:List (Nat×Obj)}{R:Value->aa->Prop}{argTypes:Array TypeId}{d f e h e2:TypeId}{a b:Nat}{s z:Value}{l:List T}{x:T}{cs:Array Value}{own:List (Nat×Obj)}(pre bp:List (Nat×Obj))
  (hg:aP r ro e s l aX) (i:aQ (keys own)) (j:l.length+[x].length<=1000000) (k:r.rel ro x cs.toList) (m:lk pre b=some (.cells cs e2)) (o:∀off sp,ro ⟨b,off,sp⟩=none)
  (p:argTypes[0]?=some d) (q:argTypes[1]?=some f) (he:c9 P d=some e) (t:c9 P f=some h) (hs:b7 P e=some r.n) (u:zeroOf P e=some z) (w:z.cells.size=r.n) (hb:bytesOf P e=some a)
  (y:0<a) (A:a<=10000)
  (B:∀v g,aP r ro e v (l++[x]) g->∀c,c=pre++(g++bp)->aQ (keys c)->∃F0,Le F0 ⟨ro,c⟩/\R v F0)
  (C:own=pre++(aX++bp):=by first|rfl|simp only[aS]|(simp only[aS];rfl)):mw P argTypes s (.slice (some ⟨b,0,none⟩) 1 1) R ⟨ro,own⟩:=
 A7 pre bp C hg i j k m o p q he t hs u w hb y A B
theorem n5 {T:Type}{r:cc T}{ro:Addr->Option Value}{aX:List (Nat×Obj)}{R:Value->aa->Prop}{argTypes:Array TypeId}{d f e h:TypeId}{a c:Nat}{ad:Option Addr}{s z:Value}{l xs:List T}{own:List (Nat×Obj)}(pre bp:List (Nat×Obj))
  (hg:aP r ro e s l aX) (i:aQ (keys own)) (j:l.length+xs.length<=1000000) (k:aA r ro (.slice ad xs.length c) xs)
  (m:argTypes[0]?=some d) (o:argTypes[1]?=some f) (he:c9 P d=some e) (p:c9 P f=some h) (hs:b7 P e=some r.n) (q:zeroOf P e=some z) (t:z.cells.size=r.n) (hb:bytesOf P e=some a)
  (u:0<a) (w:a<=10000)
  (x:∀v g,aP r ro e v (l++xs) g->∀b,b=pre++(g++bp)->aQ (keys b)->∃F0,Le F0 ⟨ro,b⟩/\R v F0)
  (y:own=pre++(aX++bp):=by first|rfl|simp only[aS]|(simp only[aS];rfl)):mw P argTypes s (.slice ad xs.length c) R ⟨ro,own⟩:=
 F9 pre bp y hg i j k m o he p hs q t hb u w x
theorem dN (hJ:Closed P main J){f:FuncId}{args:Array Value}{ro:Addr->Option Value}{aX:List (Nat×Obj)}{K:Value->aa->Prop}{own:List (Nat×Obj)}(pre bp:List (Nat×Obj))(R:Value->List (Nat×Obj)->Prop)(h:aD P f args ⟨ro,aX⟩ (fun v G=>∃a,R v a/\Le ⟨ro,a⟩ G))
  (c:∀v a,R v a->∀b,b=pre++(a++bp)->aQ (keys b)->∃F0,Le F0 ⟨ro,b⟩/\K v F0)
  (d:own=pre++(aX++bp):=by first|rfl|simp only[aS]|(simp only[aS];rfl)):cW P J f args ⟨ro,own⟩ K:=Ga hJ pre bp d R h c
end
end Go.Sep
end
section
namespace Go.Proofs.YtghbphimkgamkaaGreatDoor
open Go Go.Sep Go.Proofs
set_option maxRecDepth 100000
attribute [go_sem] aA.nil
theorem sG:rI.n=1:=rfl
theorem wz:rB.n=1:=rfl
theorem GA {T:Type}(r:cc T):(rL r).n=1:=rfl
attribute [go_sem] sG wz GA
structure an where
 num:Int
 den:Int
 deriving DecidableEq
def an.v (x:an):Value:=.agg #[.int .i64 x.num,.int .i64 x.den]
def an.cells (x:an):List Value:=[.int .i64 x.num,.int .i64 x.den]
def lC:cc an:=iD 2 an.cells (fun _=>rfl) (fun _ v a=>by simp only[an.cells,List.mem_cons,List.not_mem_nil,or_false] at a;rcases a with rfl|rfl<;>rfl)
theorem GB:lC.n=2:=rfl
attribute [go_sem] an.v an.cells GB
structure bT where
 aL:Int
 high:Int
 deriving DecidableEq
def bT.cells (x:bT):List Value:=[.int .i64 x.aL,.int .i64 x.high]
def e8:cc bT:=iD 2 bT.cells (fun _=>rfl) (fun _ v a=>by simp only[bT.cells,List.mem_cons,List.not_mem_nil,or_false] at a;rcases a with rfl|rfl<;>rfl)
theorem GC:e8.n=2:=rfl
attribute [go_sem] bT.cells GC
structure bX where
 place:Int
 dh:Int
 deriving DecidableEq
def bX.cells (x:bX):List Value:=[.int .i64 x.place,.int .i64 x.dh]
def eF:cc bX:=iD 2 bX.cells (fun _=>rfl) (fun _ v a=>by simp only[bX.cells,List.mem_cons,List.not_mem_nil,or_false] at a;rcases a with rfl|rfl<;>rfl)
theorem GD:eF.n=2:=rfl
attribute [go_sem] bX.cells GD
structure cj where
 low:Int
 high:Int
 deriving DecidableEq
def cj.v (x:cj):Value:=.agg #[.int .i64 x.low,.int .i64 x.high]
def cj.cells (x:cj):List Value:=[.int .i64 x.low,.int .i64 x.high]
def GF:cc cj:=iD 2 cj.cells (fun _=>rfl) (fun _ v a=>by simp only[cj.cells,List.mem_cons,List.not_mem_nil,or_false] at a;rcases a with rfl|rfl<;>rfl)
theorem GG:GF.n=2:=rfl
attribute [go_sem] cj.v cj.cells GG
structure bL where
 back:Int
 high:cj
 deriving DecidableEq
def bL.cells (x:bL):List Value:=[.int .i64 x.back,.int .i64 x.high.low,.int .i64 x.high.high]
def eG:cc bL:=iD 3 bL.cells (fun _=>rfl) (fun _ v a=>by simp only[bL.cells,List.mem_cons,List.not_mem_nil,or_false] at a;rcases a with rfl|rfl|rfl<;>rfl)
theorem GH:eG.n=3:=rfl
attribute [go_sem] bL.cells GH
structure bG where
 aR:Int
 bq:Bool
 deriving DecidableEq
def bG.v (x:bG):Value:=.agg #[.int .i64 x.aR,.bool x.bq]
def bG.cells (x:bG):List Value:=[.int .i64 x.aR,.bool x.bq]
def di:cc bG:=iD 2 bG.cells (fun _=>rfl) (fun _ v a=>by simp only[bG.cells,List.mem_cons,List.not_mem_nil,or_false] at a;rcases a with rfl|rfl<;>rfl)
theorem GI:di.n=2:=rfl
attribute [go_sem] bG.v bG.cells GI
structure aj where
 bH:Int
 bM:Int
 aV:an
 az:(List bT)
 props:(List bX)
 av:(List bL)
 told:(List bG)
 deriving DecidableEq
def aj.rel (ro:Addr->Option Value)(x:aj)(cs:List Value):Prop:=∃a b c d,cs=[.int .i64 x.bH,.int .i64 x.bM,.int .i64 x.aV.num,.int .i64 x.aV.den,a,b,c,d]/\aA e8 ro a x.az/\aA eF ro b x.props/\aA eG ro c x.av/\aA di ro d x.told
theorem aj.qi {ro:Addr->Option Value}{x:aj}{cs:List Value}(h:aj.rel ro x cs):∀v∈cs,bC v=true:=by
 obtain ⟨b,c,d,e,rfl,⟨_,_,rfl,_⟩,⟨_,_,rfl,_⟩,⟨_,_,rfl,_⟩,⟨_,_,rfl,_⟩⟩:=h;intro v a;simp only[List.mem_cons,List.not_mem_nil,or_false] at a;rcases a with rfl|rfl|rfl|rfl|rfl|rfl|rfl|rfl<;>rfl
def GJ:cc aj:=⟨8,aj.rel,fun a ⟨b,c,d,f,e,g,h,i,j⟩=>⟨b,c,d,f,e,g.mono a,h.mono a,i.mono a,j.mono a⟩,fun ⟨b,c,d,f,e,_⟩=>by rw[e];rfl,aj.qi⟩
theorem GK:GJ.n=8:=rfl
attribute [go_sem] GK
structure bn where
 back:Int
 high:Int
 deriving DecidableEq
def bn.v (x:bn):Value:=.agg #[.int .i64 x.back,.int .i64 x.high]
def bn.cells (x:bn):List Value:=[.int .i64 x.back,.int .i64 x.high]
def jh:cc bn:=iD 2 bn.cells (fun _=>rfl) (fun _ v a=>by simp only[bn.cells,List.mem_cons,List.not_mem_nil,or_false] at a;rcases a with rfl|rfl<;>rfl)
theorem GL:jh.n=2:=rfl
attribute [go_sem] bn.v bn.cells GL
structure aW where
 e0:Int
 e1:Int
 e2:Int
 deriving DecidableEq
def aW.v (x:aW):Value:=.agg #[.int .i64 x.e0,.int .i64 x.e1,.int .i64 x.e2]
def aW.cells (x:aW):List Value:=[.int .i64 x.e0,.int .i64 x.e1,.int .i64 x.e2]
def g7:cc aW:=iD 3 aW.cells (fun _=>rfl) (fun _ v a=>by simp only[aW.cells,List.mem_cons,List.not_mem_nil,or_false] at a;rcases a with rfl|rfl|rfl<;>rfl)
theorem GM:g7.n=3:=rfl
attribute [go_sem] aW.v aW.cells GM
def aW.get (x:aW)(i:Int):Option Int:=if i=0 then some x.e0 else if i=1 then some x.e1 else if i=2 then some x.e2 else none
theorem aW.get_some {x:aW}{i:Int}{y:Int}(h:aW.get x i=some y):0<=i/\i<((3:Nat):Int)/\([.int .i64 x.e0,.int .i64 x.e1,.int .i64 x.e2]:List Value)[i.toNat]?=some (.int .i64 y):=by
 unfold aW.get at h;by_cases a:i=0
 .subst a;simp at h;subst h;exact ⟨by omega,by omega,rfl⟩
 by_cases b:i=1
 .subst b;simp at h;subst h;exact ⟨by omega,by omega,rfl⟩
 by_cases c:i=2
 .subst c;simp at h;subst h;exact ⟨by omega,by omega,rfl⟩
 simp[a,b,c] at h
theorem aW.GN {ro:Addr->Option Value}{b:Nat}{x:aW}{i:Int}{y:Int}(h:aW.get x i=some y)(g0:ro ⟨b,0,none⟩=some (.int .i64 x.e0))(e:ro ⟨b,1,none⟩=some (.int .i64 x.e1))(f:ro ⟨b,2,none⟩=some (.int .i64 x.e2)):ro ⟨b,i.toNat,none⟩=some (.int .i64 y):=by
 unfold aW.get at h;by_cases a:i=0
 .subst a;simp at h;subst h;exact g0
 by_cases c:i=1
 .subst c;simp at h;subst h;exact e
 by_cases d:i=2
 .subst d;simp at h;subst h;exact f
 simp[a,c,d] at h
structure cT where
 book:aj
 all:(List aW)
 deriving DecidableEq
def cT.rel (ro:Addr->Option Value)(x:cT)(cs:List Value):Prop:=∃a b c d e,cs=[.int .i64 x.book.bH,.int .i64 x.book.bM,.int .i64 x.book.aV.num,.int .i64 x.book.aV.den,a,b,c,d,e]/\aA e8 ro a x.book.az/\aA eF ro b x.book.props/\aA eG ro c x.book.av/\aA di ro d x.book.told/\aA g7 ro e x.all
theorem cT.qi {ro:Addr->Option Value}{x:cT}{cs:List Value}(h:cT.rel ro x cs):∀v∈cs,bC v=true:=by
 obtain ⟨b,c,d,e,f,rfl,⟨_,_,rfl,_⟩,⟨_,_,rfl,_⟩,⟨_,_,rfl,_⟩,⟨_,_,rfl,_⟩,⟨_,_,rfl,_⟩⟩:=h;intro v a;simp only[List.mem_cons,List.not_mem_nil,or_false] at a;rcases a with rfl|rfl|rfl|rfl|rfl|rfl|rfl|rfl|rfl<;>rfl
def GO:cc cT:=⟨9,cT.rel,fun a ⟨b,c,d,f,g,e,h,i,j,k,l⟩=>⟨b,c,d,f,g,e,h.mono a,i.mono a,j.mono a,k.mono a,l.mono a⟩,fun ⟨b,c,d,f,g,e,_⟩=>by rw[e];rfl,cT.qi⟩
theorem GP:GO.n=9:=rfl
attribute [go_sem] GP
structure g8 where
 aL:Int
 high:an
 deriving DecidableEq
def g8.cells (x:g8):List Value:=[.int .i64 x.aL,.int .i64 x.high.num,.int .i64 x.high.den]
def GQ:cc g8:=iD 3 g8.cells (fun _=>rfl) (fun _ v a=>by simp only[g8.cells,List.mem_cons,List.not_mem_nil,or_false] at a;rcases a with rfl|rfl|rfl<;>rfl)
theorem GR:GQ.n=3:=rfl
attribute [go_sem] g8.cells GR
structure bE where
 spot:g8
 at_:Int
 high:an
 deriving DecidableEq
def bE.v (x:bE):Value:=.agg #[.int .i64 x.spot.aL,.int .i64 x.spot.high.num,.int .i64 x.spot.high.den,.int .i64 x.at_,.int .i64 x.high.num,.int .i64 x.high.den]
def bE.cells (x:bE):List Value:=[.int .i64 x.spot.aL,.int .i64 x.spot.high.num,.int .i64 x.spot.high.den,.int .i64 x.at_,.int .i64 x.high.num,.int .i64 x.high.den]
def kG:cc bE:=iD 6 bE.cells (fun _=>rfl) (fun _ v a=>by simp only[bE.cells,List.mem_cons,List.not_mem_nil,or_false] at a;rcases a with rfl|rfl|rfl|rfl|rfl|rfl<;>rfl)
theorem GU:kG.n=6:=rfl
attribute [go_sem] bE.v bE.cells GU
def c8.rel (ro:Addr->Option Value)(g:(aj->Option Int))(cs:List Value):Prop:=∃(b:FuncId) (c d:Array Value),cs=[.func (.func b) c d]/\aH Tryz.prog b=true/\∀(aM:Addr->Option Value),Ext ro aM->∀(a:aj) (e:Value) (f:Value) (h:Value) (i:Value) (z:Int),aA e8 aM e a.az->aA eF aM f a.props->aA eG aM h a.av->aA di aM i a.told->g a=some z->aD Tryz.prog b (c++#[.agg #[.int .i64 a.bH,.int .i64 a.bM,.int .i64 a.aV.num,.int .i64 a.aV.den,e,f,h,i]]++d) ⟨aM,[]⟩ (fun v _=>v= .int .i64 z)
theorem c8.GV {ro aM:Addr->Option Value}{g:(aj->Option Int)}{cs:List Value}(b:Ext ro aM)(h:c8.rel ro g cs):c8.rel aM g cs:=by
 obtain ⟨f,a,c,e,d,i⟩:=h;exact ⟨f,a,c,e,d,fun j k=>i j (b.trans k)⟩
theorem c8.GW {ro:Addr->Option Value}{g:(aj->Option Int)}{cs:List Value}(h:c8.rel ro g cs):cs.length=1:=by
 obtain ⟨f,a,c,e,_⟩:=h;rw[e];rfl
theorem c8.qi {ro:Addr->Option Value}{g:(aj->Option Int)}{cs:List Value}(h:c8.rel ro g cs):∀v∈cs,bC v=true:=by
 obtain ⟨f,a,c,e,_⟩:=h;intro v b;rw[e] at b;simp at b;subst b;rfl
def c8:cc (aj->Option Int):=⟨1,c8.rel,c8.GV,c8.GW,c8.qi⟩
theorem GX:c8.n=1:=rfl
attribute [go_sem] GX
abbrev sl {T:Type}(d:Option Addr)(l:List T)(c:Nat):Value:=.slice d l.length c
abbrev bk (x:aj)(a b c d:Value):Obj:=.cells #[.int .i64 x.bH,.int .i64 x.bM,.int .i64 x.aV.num,.int .i64 x.aV.den,a,b,c,d] 29
abbrev bl (x:aj)(a b c d:Value):Obj:=.cells #[.int .i64 x.bH,.int .i64 x.bM,.int .i64 x.aV.num,.int .i64 x.aV.den,a,b,c,d] 109
abbrev bz (t:Nat):Obj:=.cells #[.int .i64 0,.int .i64 0,.int .i64 0,.int .i64 0,.slice none 0 0,.slice none 0 0,.slice none 0 0,.slice none 0 0] t
abbrev kn (x:cT)(a b c d e:Value):Obj:=.cells #[.int .i64 x.book.bH,.int .i64 x.book.bM,.int .i64 x.book.aV.num,.int .i64 x.book.aV.den,a,b,c,d,e] 112
abbrev rt (a b:Int):Obj:=.cells #[.int .i64 a,.int .i64 b] 23
abbrev ic (a:Int):Obj:=.cells #[.int .i64 a] 3
abbrev bv (x:aj)(a b c d:Value):Value:=.agg #[.int .i64 x.bH,.int .i64 x.bM,.int .i64 x.aV.num,.int .i64 x.aV.den,a,b,c,d]
attribute [go_sem] sl bk bl bz kn rt ic bv Gy Gz List.cons_append List.nil_append List.append_nil List.append_assoc
structure bN (ro:Addr->Option Value)(u:aj)(a b c d:Value):Prop where
 e:aA e8 ro a u.az
 p:aA eF ro b u.props
 y:aA eG ro c u.av
 t:aA di ro d u.told
theorem bN.oc {ro:Addr->Option Value}{u:aj}{a b c d:Value}(h:bN ro u a b c d):bC a=true/\bC b=true/\bC c=true/\bC d=true:=⟨h.e.oc,h.p.oc,h.y.oc,h.t.oc⟩
theorem bN.mono {ro aM:Addr->Option Value}{u:aj}{a b c d:Value}(h:bN ro u a b c d)(f:Ext ro aM):bN aM u a b c d:=⟨h.e.mono f,h.p.mono f,h.y.mono f,h.t.mono f⟩
end Go.Proofs.YtghbphimkgamkaaGreatDoor
end
section
namespace Go.Proofs.YtghbphimkgamkaaGreatDoor
open Go Go.Sep Go.Proofs
set_option maxRecDepth 100000
set_option maxHeartbeats 4000000
def fM (u0:Int)(a:Int)(b:Int):Option Bool:=
 cond (decide (a<=u0)) (some (decide (u0<=b))) (some false)
theorem gN {ro:Addr->Option Value}(u0:Int)(a:Int)(b:Int){r:Bool}(h:fM u0 a b=some r):aD Tryz.prog 121 #[.int .i64 u0,.int .i64 a,.int .i64 b] ⟨ro,[]⟩ (fun v _=>v= .bool r):=by
 unfold fM at h;refine aD.go Tryz.func121 rfl Tryz.ntmps121 Tryz.results121 (by simp) fun main J hJ A d hd hs=>?_;have e:=hs 0;have k1:=hs 1;have f:=hs 2;clear hs;refine ah hJ ?_;simp only[*,go_sem];refine ah hJ ?_;revert h;refine cS (fun c h=>?_) fun c h=>?_
 .obtain rfl:=sI h;simp only[*,go_sem];refine ax ?_;simp only[*,go_sem]
 obtain rfl:=sI h;simp only[*,go_sem];refine ax ?_;simp only[*,go_sem]
def fU (u0:Int):Option an:=
 some (⟨u0,1⟩:an)
theorem jN {ro:Addr->Option Value}(u0:Int){r:an}(h:fU u0=some r):aD Tryz.prog 112 #[.int .i64 u0] ⟨ro,[]⟩ (fun v _=>v=r.v):=by
 unfold fU at h;obtain rfl:=sI h;refine aD.go Tryz.func112 rfl Tryz.ntmps112 Tryz.results112 (by simp) fun main J hJ A a hd hs=>?_;have b:=hs 0;clear hs;refine ah hJ ?_;simp only[*,go_sem];refine ay fun c r1 n1=>?_;try simp only[au] at n1
 refine ah hJ ?_;simp only[*,go_sem];refine ax ?_;simp only[*,go_sem]
def eB (u0:an)(a:an):Option Bool:=
 some (decide ((IntKind.i64.wrap (u0.num*a.den))<(IntKind.i64.wrap (a.num*u0.den))))
theorem ji {ro:Addr->Option Value}(u0:an)(a:an){r:Bool}(h:eB u0 a=some r):aD Tryz.prog 75 #[.agg #[.int .i64 u0.num,.int .i64 u0.den],.agg #[.int .i64 a.num,.int .i64 a.den]] ⟨ro,[]⟩ (fun v _=>v= .bool r):=by
 unfold eB at h;obtain rfl:=sI h;refine aD.go Tryz.func75 rfl Tryz.ntmps75 Tryz.results75 (by simp) fun main J hJ A b hd hs=>?_;have c:=hs 0;have k1:=hs 1;clear hs;refine ah hJ ?_;simp only[*,go_sem];refine ay fun d r1 n1=>?_;try simp only[au] at n1
 refine ay fun b2 r2 n2=>?_;try simp only[au] at n2
 refine ah hJ ?_;simp only[*,go_sem];refine ax ?_;simp only[*,go_sem]
def qj (u0:cj)(a:Int)(b:Int):Option Bool:=
 cond (decide (a<=u0.low)) (cond (decide (u0.low<=u0.high)) (some (decide (u0.high<=b))) (some false)) (some false)
theorem Bq {ro:Addr->Option Value}(u0:cj)(a:Int)(b:Int){r:Bool}(h:qj u0 a b=some r):aD Tryz.prog 103 #[.agg #[.int .i64 u0.low,.int .i64 u0.high],.int .i64 a,.int .i64 b] ⟨ro,[]⟩ (fun v _=>v= .bool r):=by
 unfold qj at h;refine aD.go Tryz.func103 rfl Tryz.ntmps103 Tryz.results103 (by simp) fun main J hJ A e hd hs=>?_;have f:=hs 0;have k1:=hs 1;have g:=hs 2;clear hs;refine ah hJ ?_;simp only[*,go_sem];refine ay fun i r1 n1=>?_;try simp only[au] at n1
 refine ah hJ ?_;revert h;refine cS (fun c h=>?_) fun c h=>?_
 .revert h;refine cS (fun d h=>?_) fun d h=>?_
  .obtain rfl:=sI h;simp only[*,go_sem];refine ax ?_;simp only[*,go_sem]
  obtain rfl:=sI h;simp only[*,go_sem];refine ax ?_;simp only[*,go_sem]
 obtain rfl:=sI h;simp only[*,go_sem];refine ax ?_;simp only[*,go_sem]
def jj (u0:bE)(a:bE):Option Bool:=
 ag (eB u0.high a.high) fun b=>some b
theorem sH {ro:Addr->Option Value}(u0:bE)(a:bE){r:Bool}(h:jj u0 a=some r):aD Tryz.prog 71 #[.agg #[.int .i64 u0.spot.aL,.int .i64 u0.spot.high.num,.int .i64 u0.spot.high.den,.int .i64 u0.at_,.int .i64 u0.high.num,.int .i64 u0.high.den],.agg #[.int .i64 a.spot.aL,.int .i64 a.spot.high.num,.int .i64 a.spot.high.den,.int .i64 a.at_,.int .i64 a.high.num,.int .i64 a.high.den]] ⟨ro,[]⟩ (fun v _=>v= .bool r):=by
 unfold jj at h;refine aD.go Tryz.func71 rfl Tryz.ntmps71 Tryz.results71 (by simp) fun main J hJ A c hd hs=>?_;have d:=hs 0;have k1:=hs 1;clear hs;refine ah hJ ?_;simp only[*,go_sem];refine ay fun e r1 n1=>?_;try simp only[au] at n1
 refine ay fun b2 r2 n2=>?_;try simp only[au] at n2
 refine ah hJ ?_;revert h;refine bS fun f b h=>?_;obtain rfl:=sI h;simp only[*,go_sem];refine aU hJ _ (ji u0.high a.high b) (aJ ?_);simp only[*,go_sem];refine ax ?_;simp only[*,go_sem]
def g9 (u0:Int)(b:aj):Option Int:=
 ag (fM u0 1 20) fun a=>cond (!a) (some 1) (some 0)
theorem wA {ro:Addr->Option Value}(u0:Int)(b:aj){s1 c d f:Value}(a:bN ro b s1 c d f){r:Int}(h:g9 u0 b=some r):aD Tryz.prog 82 #[.int .i64 u0,bv b s1 c d f] ⟨ro,[]⟩ (fun v _=>v= .int .i64 r):=by
 obtain ⟨d3,c4,rfl,k,l,-⟩:=id a.e;obtain ⟨d10,m,rfl,n,o,-⟩:=id a.p;obtain ⟨d17,q,rfl,s,u,-⟩:=id a.y;obtain ⟨d24,w,rfl,x,z,-⟩:=id a.t;unfold g9 at h;refine aD.go Tryz.func82 rfl Tryz.ntmps82 Tryz.results82 (by simp) fun main J hJ A B hd hs=>?_;have C:=hs 0;have k1:=hs 1;clear hs;refine ah hJ ?_;simp only[*,go_sem];refine ay fun D E g=>?_;try simp only[au] at g
 refine af hJ (ah hJ ?_);revert h;refine bS fun F i h=>?_;simp only[*,go_sem];refine aU hJ _ (gN u0 1 20 i) (aJ ?_);simp only[*,go_sem];revert h;refine aT hJ (fun j h=>?_) fun j h=>?_
 .obtain rfl:=sI h;refine ah hJ ?_;simp only[*,go_sem];refine ax ?_;simp only[*,go_sem]
 obtain rfl:=sI h;refine aI hJ (af hJ ?_);refine ak hJ ?_;simp only[*,go_sem];refine ax ?_;simp only[*,go_sem]
def fq (u0:bn)(c:aj):Option Int:=
 ag (fM u0.back 1 20) fun a=>cond (!a) (some 1) (ag (fM u0.high 0 60) fun b=>cond (!b) (some 1) (some 0))
theorem sJ {ro:Addr->Option Value}(u0:bn)(b:aj){s1 c d f:Value}(a:bN ro b s1 c d f){r:Int}(h:fq u0 b=some r):aD Tryz.prog 105 #[.agg #[.int .i64 u0.back,.int .i64 u0.high],bv b s1 c d f] ⟨ro,[]⟩ (fun v _=>v= .int .i64 r):=by
 obtain ⟨d3,c4,rfl,n,o,-⟩:=id a.e;obtain ⟨d10,q,rfl,s,u,-⟩:=id a.p;obtain ⟨d17,w,rfl,x,z,-⟩:=id a.y;obtain ⟨d24,B,rfl,C,D,-⟩:=id a.t;unfold fq at h;refine aD.go Tryz.func105 rfl Tryz.ntmps105 Tryz.results105 (by simp) fun main J hJ A E hd hs=>?_;have F:=hs 0;have k1:=hs 1;clear hs;refine ah hJ ?_;simp only[*,go_sem];refine ay fun G H g=>?_;try simp only[au] at g
 refine ay fun I K i=>?_;try simp only[au] at i
 refine af hJ (ah hJ ?_);revert h;refine bS fun L j h=>?_;simp only[*,go_sem];refine aU hJ _ (gN u0.back 1 20 j) (aJ ?_);revert h;refine cS (fun k h=>?_) fun k h=>?_
 .obtain rfl:=sI h;simp only[*,go_sem];refine b8 hJ ?_;refine ah hJ ?_;simp only[*,go_sem];refine ax ?_;simp only[*,go_sem]
 revert h;refine bS fun M l h=>?_;simp only[*,go_sem];refine aU hJ _ (gN u0.high 0 60 l) (aJ ?_);simp only[*,go_sem];revert h;refine aT hJ (fun m h=>?_) fun m h=>?_
 .obtain rfl:=sI h;refine ah hJ ?_;simp only[*,go_sem];refine ax ?_;simp only[*,go_sem]
 obtain rfl:=sI h;refine aI hJ (af hJ ?_);refine ak hJ ?_;simp only[*,go_sem];refine ax ?_;simp only[*,go_sem]
def n6 (u0:aj)(a:Int):Option Bool:=
 ag (fM a 0 (IntKind.i64.wrap ((u0.av.length:Int) - 1))) fun b=>some b
theorem Br {ro:Addr->Option Value}(u0:aj){s1 c d f:Value}(a:bN ro u0 s1 c d f)(b:Int){r:Bool}(h:n6 u0 b=some r):aD Tryz.prog 156 #[bv u0 s1 c d f,.int .i64 b] ⟨ro,[]⟩ (fun v _=>v= .bool r):=by
 obtain ⟨d3,c4,rfl,j,k,-⟩:=id a.e;obtain ⟨d10,l,rfl,m,n,-⟩:=id a.p;obtain ⟨d17,o,rfl,q,s,-⟩:=id a.y;obtain ⟨d24,u,rfl,w,x,-⟩:=id a.t;unfold n6 at h;refine aD.go Tryz.func156 rfl Tryz.ntmps156 Tryz.results156 (by simp) fun main J hJ A z hd hs=>?_;have B:=hs 0;have k1:=hs 1;clear hs;refine ah hJ ?_;simp only[*,go_sem];refine ay fun C D g=>?_;try simp only[au] at g
 refine ah hJ ?_;revert h;refine bS fun E i h=>?_;obtain rfl:=sI h;simp only[*,go_sem];refine aU hJ _ (gN b 0 (IntKind.i64.wrap ((u0.av.length:Int) - 1)) i) (aJ ?_);simp only[*,go_sem];refine ax ?_;simp only[*,go_sem]
def gu (u0:aj)(a:Int):Option Bool:=
 ag (bf u0.az 0) fun b=>ag (bf u0.az (IntKind.i64.wrap ((u0.az.length:Int) - 1))) fun c=>ag (fM a b.aL c.aL) fun d=>some d
theorem sK {ro:Addr->Option Value}(u0:aj){s1 f g i:Value}(a:bN ro u0 s1 f g i)(b:Int){r:Bool}(h:gu u0 b=some r):aD Tryz.prog 149 #[bv u0 s1 f g i,.int .i64 b] ⟨ro,[]⟩ (fun v _=>v= .bool r):=by
 obtain ⟨d3,c4,rfl,E,G,-⟩:=id a.e;unfold gu at h;refine aD.go Tryz.func149 rfl Tryz.ntmps149 Tryz.results149 (by simp) fun main J hJ A H hd hs=>?_;have I:=hs 0;have k1:=hs 1;clear hs;refine ah hJ ?_;simp only[*,go_sem];refine ay fun K L n=>?_;try simp only[au] at n
 refine af hJ ?_;refine cP hJ mixed 20 1 (by simp only[*,go_sem]) (by kernel_rfl) ?_;revert h;refine bS fun j o h=>?_;obtain ⟨M,N,k⟩:=cG o;obtain ⟨O,p,q,s,c⟩:=a.e.el _ _ k;obtain rfl:p=j.cells:=s;cases q;have t:=c 0 _ rfl;simp only[go_sem] at t;have u:=c 1 _ rfl;simp only[go_sem] at u;clear c k;revert h;refine bS fun l w h=>?_;obtain ⟨P,Q,m⟩:=cG w;obtain ⟨R,x,y,z,d⟩:=a.e.el _ _ m;obtain rfl:x=l.cells:=z;cases y;have B:=d 0 _ rfl;simp only[go_sem] at B;have C:=d 1 _ rfl;simp only[go_sem] at C;clear d m;revert h;refine bS fun S D h=>?_;obtain rfl:=sI h;simp only[*,go_sem];refine ⟨_,bD hJ fun F T=>gN b j.aL l.aL D,cn ?_⟩;simp only[*,go_sem];refine ax ?_;simp only[*,go_sem]
def eP (u0:Int)(a:aj):Option Int:=
 ag (n6 a u0) fun b=>cond (!b) (some 6) (some 0)
theorem sL {ro:Addr->Option Value}(u0:Int)(b:aj){s1 c d f:Value}(a:bN ro b s1 c d f){r:Int}(h:eP u0 b=some r):aD Tryz.prog 102 #[.int .i64 u0,bv b s1 c d f] ⟨ro,[]⟩ (fun v _=>v= .int .i64 r):=by
 obtain ⟨d3,c4,rfl,k,l,-⟩:=id a.e;obtain ⟨d10,m,rfl,n,o,-⟩:=id a.p;obtain ⟨d17,q,rfl,s,u,-⟩:=id a.y;obtain ⟨d24,w,rfl,x,z,-⟩:=id a.t;unfold eP at h;refine aD.go Tryz.func102 rfl Tryz.ntmps102 Tryz.results102 (by simp) fun main J hJ A B hd hs=>?_;have C:=hs 0;have k1:=hs 1;clear hs;refine ah hJ ?_;simp only[*,go_sem];refine ay fun D E g=>?_;try simp only[au] at g
 refine af hJ (ah hJ ?_);revert h;refine bS fun F i h=>?_;simp only[*,go_sem];refine aU hJ _ (Br b (a.mono aN) u0 i) (aJ ?_);simp only[*,go_sem];revert h;refine aT hJ (fun j h=>?_) fun j h=>?_
 .obtain rfl:=sI h;refine ah hJ ?_;simp only[*,go_sem];refine ax ?_;simp only[*,go_sem]
 obtain rfl:=sI h;refine aI hJ (af hJ ?_);refine ak hJ ?_;simp only[*,go_sem];refine ax ?_;simp only[*,go_sem]
def n7 (u0:Int)(a:aj):Option Int:=
 ag (gu a u0) fun b=>cond (!b) (some 6) (some 0)
theorem GY {ro:Addr->Option Value}(u0:Int)(b:aj){s1 c d f:Value}(a:bN ro b s1 c d f){r:Int}(h:n7 u0 b=some r):aD Tryz.prog 133 #[.int .i64 u0,bv b s1 c d f] ⟨ro,[]⟩ (fun v _=>v= .int .i64 r):=by
 obtain ⟨d3,c4,rfl,k,l,-⟩:=id a.e;obtain ⟨d10,m,rfl,n,o,-⟩:=id a.p;obtain ⟨d17,q,rfl,s,u,-⟩:=id a.y;obtain ⟨d24,w,rfl,x,z,-⟩:=id a.t;unfold n7 at h;refine aD.go Tryz.func133 rfl Tryz.ntmps133 Tryz.results133 (by simp) fun main J hJ A B hd hs=>?_;have C:=hs 0;have k1:=hs 1;clear hs;refine ah hJ ?_;simp only[*,go_sem];refine ay fun D E g=>?_;try simp only[au] at g
 refine af hJ (ah hJ ?_);revert h;refine bS fun F i h=>?_;simp only[*,go_sem];refine aU hJ _ (sK b (a.mono aN) u0 i) (aJ ?_);simp only[*,go_sem];revert h;refine aT hJ (fun j h=>?_) fun j h=>?_
 .obtain rfl:=sI h;refine ah hJ ?_;simp only[*,go_sem];refine ax ?_;simp only[*,go_sem]
 obtain rfl:=sI h;refine aI hJ (af hJ ?_);refine ak hJ ?_;simp only[*,go_sem];refine ax ?_;simp only[*,go_sem]
def ql (st:(Int×Int)):Option (Fl (Int×Int) an):=
 cond ((st.2 != 0)) (ag (iB st.1 st.2) fun a=>some (.nx (st.2,a))) (some (.bk (st.1,st.2)))
def kH (u0:Int)(a:Int):Option an:=
 ag (aZ (ql) fu ((if u0<IntKind.i64.wrap (0 - u0) then IntKind.i64.wrap (0 - u0) else u0),a)) fun o=>aF o (fun b=>ag (fJ u0 b.1) fun c=>ag (fJ a b.1) fun d=>some (⟨c,d⟩:an)) (fun _ _=>none) (fun r=>some r)
theorem qm {ro:Addr->Option Value}(u0:Int)(c:Int){r:an}(h:kH u0 c=some r):aD Tryz.prog 138 #[.int .i64 u0,.int .i64 c] ⟨ro,[]⟩ (fun v _=>v=r.v):=by
 unfold kH at h;refine aD.go Tryz.func138 rfl Tryz.ntmps138 Tryz.results138 (by simp) fun main J hJ A l hd hs=>?_;have n:=hs 0;have k1:=hs 1;clear hs;refine ah hJ ?_;simp only[*,go_sem];refine ay fun o r1 n1=>?_;try simp only[au] at n1
 refine ah hJ ?_;simp only[*,go_sem];refine af hJ (aO hJ ?_);revert h;refine bS fun o4 a p=>?_;refine bU hJ (rg 12 6 [5,6]) (fun m f F'=>∃(v2:Int) (b:Int),aZ (ql) m (v2,b)=some o4/\F'=⟨ro,(o,rt 0 0)::[]⟩/\slot f 5= .int .i64 v2/\slot f 6= .int .i64 b) fu ?_ ?_
 .refine ⟨(if u0<IntKind.i64.wrap (0 - u0) then IntKind.i64.wrap (0 - u0) else u0),c,a,rfl,?_⟩;simp only[*,go_sem]
 rintro d x F' g ⟨v2,b,a,rfl,y,z⟩;obtain ⟨q,s,t⟩:=g.pick [0,1,4] (by decide);simp only[*,go_sem] at q s t;clear g l hd n k1;obtain _|d:=d
 .exact absurd a (by simp only[aZ,reduceCtorEq,not_false_eq_true])
 revert a;refine bS fun B h e=>?_;unfold ql at h;try dsimp only at h
 refine af hJ (ah hJ ?_);simp only[*,go_sem];revert h;refine aT hJ (fun u h=>?_) fun u h=>?_
 .refine aI hJ (aO hJ ?_);refine cP hJ mixed 6 1 (by simp only[*,go_sem]) (by kernel_rfl) ?_;revert h;refine bS fun w i h=>?_;obtain rfl:=sI h;obtain ⟨C,D⟩:=pZ i;clear i;simp only[*,go_sem];refine ⟨d,Nat.lt_succ_self _,_,Le.sub (List.Sublist.refl _),b,w,e,rfl,?_⟩;simp only[*,go_sem]
 obtain rfl:=sI h;refine bO ?_;simp only[go_sem];obtain rfl:=sI e;clear e;have h:=p;dsimp only[aF] at h;refine af hJ ?_;refine cP hJ mixed 7 0 (by simp only[*,go_sem]) (by kernel_rfl) ?_;revert h;refine bS fun E j h=>?_;obtain ⟨F,G⟩:=kz j;clear j;revert h;refine bS fun H k h=>?_;obtain rfl:=sI h;obtain ⟨I,K⟩:=kz k;clear k;simp only[*,go_sem];refine ax ?_;simp only[*,go_sem]
def jO (u0:an)(a:an):Option an:=
 ag (kH (IntKind.i64.wrap ((IntKind.i64.wrap (u0.num*a.den))+(IntKind.i64.wrap (a.num*u0.den)))) (IntKind.i64.wrap (u0.den*a.den))) fun b=>some b
theorem qn {ro:Addr->Option Value}(u0:an)(a:an){r:an}(h:jO u0 a=some r):aD Tryz.prog 74 #[.agg #[.int .i64 u0.num,.int .i64 u0.den],.agg #[.int .i64 a.num,.int .i64 a.den]] ⟨ro,[]⟩ (fun v _=>v=r.v):=by
 unfold jO at h;refine aD.go Tryz.func74 rfl Tryz.ntmps74 Tryz.results74 (by simp) fun main J hJ A c hd hs=>?_;have d:=hs 0;have k1:=hs 1;clear hs;refine ah hJ ?_;simp only[*,go_sem];refine ay fun e r1 n1=>?_;try simp only[au] at n1
 refine ay fun b2 r2 n2=>?_;try simp only[au] at n2
 refine ay fun b3 r3 n3=>?_;try simp only[au] at n3
 refine ah hJ ?_;revert h;refine bS fun f b h=>?_;obtain rfl:=sI h;simp only[*,go_sem];refine aU hJ _ (qm (IntKind.i64.wrap ((IntKind.i64.wrap (u0.num*a.den))+(IntKind.i64.wrap (a.num*u0.den)))) (IntKind.i64.wrap (u0.den*a.den)) b) (aJ ?_);simp only[*,go_sem];refine ax ?_;simp only[*,go_sem]
def jP (u0:an)(a:an):Option an:=
 ag (jO u0 (⟨IntKind.i64.wrap (0 - a.num),a.den⟩:an)) fun b=>some b
theorem qo {ro:Addr->Option Value}(u0:an)(a:an){r:an}(h:jP u0 a=some r):aD Tryz.prog 73 #[.agg #[.int .i64 u0.num,.int .i64 u0.den],.agg #[.int .i64 a.num,.int .i64 a.den]] ⟨ro,[]⟩ (fun v _=>v=r.v):=by
 unfold jP at h;refine aD.go Tryz.func73 rfl Tryz.ntmps73 Tryz.results73 (by simp) fun main J hJ A c hd hs=>?_;have d:=hs 0;have k1:=hs 1;clear hs;refine ah hJ ?_;simp only[*,go_sem];refine ay fun e r1 n1=>?_;try simp only[au] at n1
 refine ay fun b2 r2 n2=>?_;try simp only[au] at n2
 refine ay fun b3 r3 n3=>?_;try simp only[au] at n3
 refine ah hJ ?_;revert h;refine bS fun f b h=>?_;obtain rfl:=sI h;simp only[*,go_sem];refine aU hJ _ (qn u0 (⟨IntKind.i64.wrap (0 - a.num),a.den⟩:an) b) (aJ ?_);simp only[*,go_sem];refine ax ?_;simp only[*,go_sem]
def kI (u0:aj)(a:bn)(e:Int)(b:g8):Option bE:=
 ag (fU a.high) fun f=>ag (jP b.high f) fun c=>ag (kH (IntKind.i64.wrap (u0.bH+a.back)) (IntKind.i64.wrap (b.aL+a.back))) fun d=>ag (fU a.high) fun g=>ag (kH (IntKind.i64.wrap (c.num*d.num)) (IntKind.i64.wrap (c.den*d.den))) fun h=>ag (jO g h) fun i=>some (⟨b,e,i⟩:bE)
theorem Bs {ro:Addr->Option Value}(u0:aj){s1 c d e:Value}(K:bN ro u0 s1 c d e)(b:bn)(j:Int)(a:g8){r:bE}(h:kI u0 b j a=some r):aD Tryz.prog 137 #[bv u0 s1 c d e,.agg #[.int .i64 b.back,.int .i64 b.high],.int .i64 j,.agg #[.int .i64 a.aL,.int .i64 a.high.num,.int .i64 a.high.den]] ⟨ro,[]⟩ (fun v _=>v=r.v):=by
 unfold kI at h;refine aD.go Tryz.func137 rfl Tryz.ntmps137 Tryz.results137 (by simp) fun main J hJ A L hd hs=>?_;have M:=hs 0;have k1:=hs 1;have N:=hs 2;have O:=hs 3;clear hs;refine ah hJ ?_;simp only[*,go_sem];refine ay fun k P n=>?_;try simp only[au] at n
 refine ay fun l Q o=>?_;try simp only[au] at o
 refine ay fun m R p=>?_;try simp only[au] at p
 refine ay fun q S s=>?_;try simp only[au] at s
 refine af hJ ?_;refine fl hJ mixed 6 ⟨ro,[(q,.cells #[.int .i64 0,.int .i64 0,.int .i64 0,.int .i64 0,.int .i64 0,.int .i64 0] 122),(m,.cells #[.int .i64 a.aL,.int .i64 a.high.num,.int .i64 a.high.den] 120),(l,.cells #[.int .i64 b.back,.int .i64 b.high] 118),(k,bl u0 s1 c d e)]⟩ (by simp only[*,go_sem]) (by kernel_rfl) ?_;revert h;refine bS fun t u h=>?_;simp only[*,go_sem];refine ⟨_,bD hJ fun F f=>jN b.high u,cn ?_⟩;revert h;refine bS fun g w h=>?_;simp only[*,go_sem];refine ⟨_,bD hJ fun F f=>qo a.high t w,?_⟩;simp only[*,go_sem];refine ay fun x T y=>?_;try simp only[au] at y
 simp only[*,go_sem];refine ah hJ ?_;revert h;refine bS fun i z h=>?_;simp only[*,go_sem];refine aU hJ _ (qm (IntKind.i64.wrap (u0.bH+b.back)) (IntKind.i64.wrap (a.aL+b.back)) z) (aJ ?_);simp only[*,go_sem];refine ay fun B U C=>?_;try simp only[au] at C
 refine af hJ ?_;refine fl hJ mixed 18 ⟨ro,[(B,rt i.num i.den),(x,rt g.num g.den),(m,.cells #[.int .i64 a.aL,.int .i64 a.high.num,.int .i64 a.high.den] 120),(l,.cells #[.int .i64 b.back,.int .i64 b.high] 118),(k,bl u0 s1 c d e)]⟩ (by simp only[*,go_sem]) (by kernel_rfl) ?_;revert h;refine bS fun D E h=>?_;simp only[*,go_sem];refine ⟨_,bD hJ fun F f=>jN b.high E,cn ?_⟩;revert h;refine bS fun G H h=>?_;simp only[*,go_sem];refine ⟨_,bD hJ fun F f=>qm (IntKind.i64.wrap (g.num*i.num)) (IntKind.i64.wrap (g.den*i.den)) H,cn ?_⟩;revert h;refine bS fun V I h=>?_;obtain rfl:=sI h;simp only[*,go_sem];refine ⟨_,bD hJ fun F f=>qn D G I,cn ?_⟩;simp only[*,go_sem];refine ax ?_;simp only[*,go_sem]
def gO (u0:aj)(a:Int)(b:Int):Option bn:=
 ag (bf u0.av a) fun c=>some (⟨c.back,b⟩:bn)
theorem mK {ro:Addr->Option Value}(u0:aj){s1 c d f:Value}(a:bN ro u0 s1 c d f)(g:Int)(i:Int){r:bn}(h:gO u0 g i=some r):aD Tryz.prog 93 #[bv u0 s1 c d f,.int .i64 g,.int .i64 i] ⟨ro,[]⟩ (fun v _=>v=r.v):=by
 obtain ⟨d3,c4,rfl,z,B,-⟩:=id a.e;obtain ⟨d10,C,rfl,D,E,-⟩:=id a.p;obtain ⟨d17,F,rfl,G,H,-⟩:=id a.y;obtain ⟨d24,I,rfl,K,L,-⟩:=id a.t;unfold gO at h;refine aD.go Tryz.func93 rfl Tryz.ntmps93 Tryz.results93 (by simp) fun main J hJ A M hd hs=>?_;have N:=hs 0;have k1:=hs 1;have O:=hs 2;clear hs;refine ah hJ ?_;simp only[*,go_sem];refine ay fun P Q k=>?_;try simp only[au] at k
 refine ay fun R S l=>?_;try simp only[au] at l
 refine ah hJ ?_;revert h;refine bS fun m n h=>?_;obtain rfl:=sI h;obtain ⟨T,U,j⟩:=cG n;obtain ⟨V,o,q,s,b⟩:=a.y.el _ _ j;obtain rfl:o=m.cells:=s;cases q;have u:=b 0 _ rfl;simp only[go_sem] at u;have w:=b 1 _ rfl;simp only[go_sem] at w;have x:=b 2 _ rfl;simp only[go_sem] at x;clear b j;simp only[*,go_sem];refine ax ?_;simp only[*,go_sem]
def qp (u0:(bE->bE->Option Bool))(i11:Nat)(a:bE)(st:bE):Option (Fl bE bE):=
 ag (u0 st a) fun b=>cond (b) (some (.nx a)) (some (.nx st))
def mL (u0:(bE->bE->Option Bool))(a:bE)(b:(List bE)):Option bE:=
 ag (bJ (qp u0) 0 b a) fun o=>aF o (fun c=>some c) (fun _ _=>none) (fun r=>some r)
theorem sM {ro:Addr->Option Value}(u0:(bE->bE->Option Bool)){dO:FuncId}{en eo:Array Value}(s:aH Tryz.prog dO=true/\∀(aM:Addr->Option Value),Ext ro aM->∀(i:bE) (j:bE) (z:Bool),u0 i j=some z->aD Tryz.prog dO (en++#[i.v,j.v]++eo) ⟨aM,[]⟩ (fun v _=>v= .bool z))(c:bE)(b:(List bE)){s1:Value}(k:aA kG ro s1 b){r:bE}(h:mL u0 c b=some r):aD Tryz.prog 70 #[.func (.func dO) en eo,.agg #[.int .i64 c.spot.aL,.int .i64 c.spot.high.num,.int .i64 c.spot.high.den,.int .i64 c.at_,.int .i64 c.high.num,.int .i64 c.high.den],s1] ⟨ro,[]⟩ (fun v _=>v=r.v):=by
 obtain ⟨d3,c4,rfl,Z,l,-⟩:=id k;unfold mL at h;refine aD.go Tryz.func70 rfl Tryz.ntmps70 Tryz.results70 (by simp) fun main J hJ A t hd hs=>?_;have u:=hs 0;have k1:=hs 1;have w:=hs 2;clear hs;refine ah hJ ?_;simp only[*,go_sem];refine ay fun y ab B=>?_;try simp only[au] at B
 refine ay fun C ad D=>?_;try simp only[au] at D
 refine af hJ (ah hJ ?_);simp only[*,go_sem];refine aO hJ ?_;revert h;refine bS fun E d F=>?_;refine bU hJ (rg 11 10 [8]) (fun m G F'=>∃(i11:Nat) (v10:bE),m=b.length - i11/\i11<=b.length/\bJ (qp u0) i11 (b.drop i11) v10=some E/\F'=⟨ro,(C,.cells #[.int .i64 0,.int .i64 0,.int .i64 0,.int .i64 0,.int .i64 0,.int .i64 0] 122)::(y,.cells #[.int .i64 v10.spot.aL,.int .i64 v10.spot.high.num,.int .i64 v10.spot.high.den,.int .i64 v10.at_,.int .i64 v10.high.num,.int .i64 v10.high.den] 122)::[]⟩/\slot G 11= .int .i64 (i11:Int)) b.length ?_ ?_
 .refine ⟨0,c,(Nat.sub_zero _).symm,Nat.zero_le _,d,rfl,?_⟩;simp only[*,go_sem]
 rintro ae al F' o ⟨i11,v10,rfl,ao,d,rfl,ar⟩;obtain ⟨H,I,K⟩:=o.pick [0,4,6,9,10] (by decide);simp only[*,go_sem] at H I K;clear o t hd u k1 w;refine ah hJ ?_;simp only[*,go_sem];refine af hJ ?_;rcases Nat.lt_or_ge i11 b.length with L|p
 .refine b8 hJ ?_;refine aI hJ ?_;obtain ⟨f,g⟩:∃x,b[i11]?=some x:=⟨_,List.getElem?_eq_getElem L⟩
  rw[dg g] at d;revert d;refine bS fun a0 h q=>?_;unfold qp at h;try dsimp only at h
  obtain ⟨a2,M,N,O,e⟩:=k.el _ _ g;obtain rfl:M=f.cells:=O;cases N;have P:=e 0 _ rfl;simp only[go_sem] at P;have Q:=e 1 _ rfl;simp only[go_sem] at Q;have R:=e 2 _ rfl;simp only[go_sem] at R;have S:=e 3 _ rfl;simp only[go_sem] at S;have T:=e 4 _ rfl;simp only[go_sem] at T;have U:=e 5 _ rfl;simp only[go_sem] at U;clear e g;refine af hJ (aO hJ (af hJ ?_));refine ak hJ ?_;simp only[*,go_sem];refine ay fun a3 a4 V=>?_;try simp only[au] at V
  refine ah hJ ?_;revert h;refine bS fun a5 W h=>?_;simp only[*,go_sem];refine aU hJ _ (s.2 _ (fun a v h=>aN a v h) v10 f _ W) ?_;revert h;refine aT hJ (fun X h=>?_) fun X h=>?_
  .obtain rfl:=sI h;refine ak hJ ?_;simp only[*,go_sem];have Y:=cv (n:=i11) (by have:=l;omega);refine ak hJ ?_;simp only[*,go_sem];refine ⟨b.length - (i11+1),by omega,_,Le.sub (List.Sublist.cons _ (List.Sublist.refl _)),i11+1,f,rfl,by omega,q,rfl,?_⟩;simp only[*,go_sem]
  obtain rfl:=sI h;refine aI hJ ?_;have Y:=cv (n:=i11) (by have:=l;omega);refine ak hJ ?_;simp only[*,go_sem];refine ⟨b.length - (i11+1),by omega,_,Le.sub (List.Sublist.cons _ (List.Sublist.refl _)),i11+1,v10,rfl,by omega,q,rfl,?_⟩;simp only[*,go_sem]
 have a6:=Nat.not_lt.2 p;refine b6 hJ ?_;rw[List.drop_eq_nil_of_le p] at d;obtain rfl:=sI d;clear d;have h:=F;dsimp only[aF] at h;obtain rfl:=sI h;refine bO ?_;simp only[go_sem];refine ah hJ ?_;simp only[*,go_sem];refine ax ?_;simp only[*,go_sem]
def kJ (u0:(an->an->Option Bool))(i11:Nat)(a:an)(st:an):Option (Fl an an):=
 ag (u0 st a) fun b=>cond (b) (some (.nx a)) (some (.nx st))
def fV (u0:(an->an->Option Bool))(a:an)(b:(List an)):Option an:=
 ag (bJ (kJ u0) 0 b a) fun o=>aF o (fun c=>some c) (fun _ _=>none) (fun r=>some r)
theorem n8 {ro:Addr->Option Value}(u0:(an->an->Option Bool)){dO:FuncId}{en eo:Array Value}(s:aH Tryz.prog dO=true/\∀(aM:Addr->Option Value),Ext ro aM->∀(i:an) (j:an) (z:Bool),u0 i j=some z->aD Tryz.prog dO (en++#[i.v,j.v]++eo) ⟨aM,[]⟩ (fun v _=>v= .bool z))(d:an)(b:(List an)){s1:Value}(k:aA lC ro s1 b){r:an}(h:fV u0 d b=some r):aD Tryz.prog 111 #[.func (.func dO) en eo,.agg #[.int .i64 d.num,.int .i64 d.den],s1] ⟨ro,[]⟩ (fun v _=>v=r.v):=by
 obtain ⟨d3,c4,rfl,V,l,-⟩:=id k;unfold fV at h;refine aD.go Tryz.func111 rfl Tryz.ntmps111 Tryz.results111 (by simp) fun main J hJ A t hd hs=>?_;have u:=hs 0;have k1:=hs 1;have w:=hs 2;clear hs;refine ah hJ ?_;simp only[*,go_sem];refine ay fun y W B=>?_;try simp only[au] at B
 refine ay fun C X D=>?_;try simp only[au] at D
 refine af hJ (ah hJ ?_);simp only[*,go_sem];refine aO hJ ?_;revert h;refine bS fun E c F=>?_;refine bU hJ (rg 11 10 [8]) (fun m G F'=>∃(i11:Nat) (v10:an),m=b.length - i11/\i11<=b.length/\bJ (kJ u0) i11 (b.drop i11) v10=some E/\F'=⟨ro,(C,rt 0 0)::(y,rt v10.num v10.den)::[]⟩/\slot G 11= .int .i64 (i11:Int)) b.length ?_ ?_
 .refine ⟨0,d,(Nat.sub_zero _).symm,Nat.zero_le _,c,rfl,?_⟩;simp only[*,go_sem]
 rintro Y Z F' o ⟨i11,v10,rfl,ab,c,rfl,ad⟩;obtain ⟨H,I,K⟩:=o.pick [0,4,6,9,10] (by decide);simp only[*,go_sem] at H I K;clear o t hd u k1 w;refine ah hJ ?_;simp only[*,go_sem];refine af hJ ?_;rcases Nat.lt_or_ge i11 b.length with L|p
 .refine b8 hJ ?_;refine aI hJ ?_;obtain ⟨e,f⟩:∃x,b[i11]?=some x:=⟨_,List.getElem?_eq_getElem L⟩
  rw[dg f] at c;revert c;refine bS fun ae h q=>?_;unfold kJ at h;try dsimp only at h
  obtain ⟨al,M,N,O,g⟩:=k.el _ _ f;obtain rfl:M=e.cells:=O;cases N;have P:=g 0 _ rfl;simp only[go_sem] at P;have Q:=g 1 _ rfl;simp only[go_sem] at Q;clear g f;refine af hJ (aO hJ (af hJ ?_));refine ak hJ ?_;simp only[*,go_sem];refine ay fun ao ar R=>?_;try simp only[au] at R
  refine ah hJ ?_;revert h;refine bS fun a0 S h=>?_;simp only[*,go_sem];refine aU hJ _ (s.2 _ (fun a v h=>aN a v h) v10 e _ S) ?_;revert h;refine aT hJ (fun T h=>?_) fun T h=>?_
  .obtain rfl:=sI h;refine ak hJ ?_;simp only[*,go_sem];have U:=cv (n:=i11) (by have:=l;omega);refine ak hJ ?_;simp only[*,go_sem];refine ⟨b.length - (i11+1),by omega,_,Le.sub (List.Sublist.cons _ (List.Sublist.refl _)),i11+1,e,rfl,by omega,q,rfl,?_⟩;simp only[*,go_sem]
  obtain rfl:=sI h;refine aI hJ ?_;have U:=cv (n:=i11) (by have:=l;omega);refine ak hJ ?_;simp only[*,go_sem];refine ⟨b.length - (i11+1),by omega,_,Le.sub (List.Sublist.cons _ (List.Sublist.refl _)),i11+1,v10,rfl,by omega,q,rfl,?_⟩;simp only[*,go_sem]
 have a2:=Nat.not_lt.2 p;refine b6 hJ ?_;rw[List.drop_eq_nil_of_le p] at c;obtain rfl:=sI c;clear c;have h:=F;dsimp only[aF] at h;obtain rfl:=sI h;refine bO ?_;simp only[go_sem];refine ah hJ ?_;simp only[*,go_sem];refine ax ?_;simp only[*,go_sem]
def sN (u0:bE)(a:bE):Option Bool:=
 ag (jj a u0) fun b=>some b
theorem GZ {ro:Addr->Option Value}(u0:bE)(a:bE){r:Bool}(h:sN u0 a=some r):aD Tryz.prog 72 #[.agg #[.int .i64 u0.spot.aL,.int .i64 u0.spot.high.num,.int .i64 u0.spot.high.den,.int .i64 u0.at_,.int .i64 u0.high.num,.int .i64 u0.high.den],.agg #[.int .i64 a.spot.aL,.int .i64 a.spot.high.num,.int .i64 a.spot.high.den,.int .i64 a.at_,.int .i64 a.high.num,.int .i64 a.high.den]] ⟨ro,[]⟩ (fun v _=>v= .bool r):=by
 unfold sN at h;refine aD.go Tryz.func72 rfl Tryz.ntmps72 Tryz.results72 (by simp) fun main J hJ A c hd hs=>?_;have d:=hs 0;have k1:=hs 1;clear hs;refine ah hJ ?_;simp only[*,go_sem];refine ay fun e r1 n1=>?_;try simp only[au] at n1
 refine ay fun b2 r2 n2=>?_;try simp only[au] at n2
 refine ah hJ ?_;revert h;refine bS fun f b h=>?_;obtain rfl:=sI h;simp only[*,go_sem];refine aU hJ _ (sH a u0 b) (aJ ?_);simp only[*,go_sem];refine ax ?_;simp only[*,go_sem]
def mM (u0:an)(a:an):Option Bool:=
 ag (eB a u0) fun b=>some b
theorem G0 {ro:Addr->Option Value}(u0:an)(a:an){r:Bool}(h:mM u0 a=some r):aD Tryz.prog 110 #[.agg #[.int .i64 u0.num,.int .i64 u0.den],.agg #[.int .i64 a.num,.int .i64 a.den]] ⟨ro,[]⟩ (fun v _=>v= .bool r):=by
 unfold mM at h;refine aD.go Tryz.func110 rfl Tryz.ntmps110 Tryz.results110 (by simp) fun main J hJ A c hd hs=>?_;have d:=hs 0;have k1:=hs 1;clear hs;refine ah hJ ?_;simp only[*,go_sem];refine ay fun e r1 n1=>?_;try simp only[au] at n1
 refine ay fun b2 r2 n2=>?_;try simp only[au] at n2
 refine ah hJ ?_;revert h;refine bS fun f b h=>?_;obtain rfl:=sI h;simp only[*,go_sem];refine aU hJ _ (ji a u0 b) (aJ ?_);simp only[*,go_sem];refine ax ?_;simp only[*,go_sem]
def sO (u0:aj)(i32:Nat)(a:bG)(st:Int):Option (Fl Int Int):=
 ag (n6 u0 a.aR) fun b=>cond (!b) (some (.rt 6)) (some (.nx st))
def mN (u0:aj):Option Int:=
 cond (decide (3<(u0.told.length:Int))) (some 2) (ag (bJ (sO u0) 0 u0.told 0) fun o=>aF o (fun a=>some 0) (fun _ _=>none) (fun r=>some r))
theorem G1 {ro:Addr->Option Value}(u0:aj){s1 c d j:Value}(e:bN ro u0 s1 c d j){r:Int}(h:mN u0=some r):aD Tryz.prog 248 #[bv u0 s1 c d j] ⟨ro,[]⟩ (fun v _=>v= .int .i64 r):=by
 obtain ⟨d24,s,rfl,R,u,-⟩:=id e.t;unfold mN at h;refine aD.go Tryz.func248 rfl Tryz.ntmps248 Tryz.results248 (by simp) fun main J hJ A w hd hs=>?_;have y:=hs 0;clear hs;refine ah hJ ?_;simp only[*,go_sem];refine ay fun z S B=>?_;try simp only[au] at B
 refine af hJ (ah hJ ?_);simp only[*,go_sem];revert h;refine aT hJ (fun C h=>?_) fun C h=>?_
 .obtain rfl:=sI h;refine ah hJ ?_;simp only[*,go_sem];refine ax ?_;simp only[*,go_sem]
 refine aI hJ (af hJ ?_);refine ah hJ ?_;simp only[*,go_sem];refine aO hJ ?_;revert h;refine bS fun D a k=>?_;refine bU hJ (rg 14 10 [2,4]) (fun m l F'=>∃(i32:Nat) (b:Int),m=u0.told.length - i32/\i32<=u0.told.length/\bJ (sO u0) i32 (u0.told.drop i32) b=some D/\F'=⟨ro,(z,bl u0 s1 c d (sl d24 u0.told s))::[]⟩/\slot l 14= .int .i64 (i32:Int)/\slot l 2= .int .i64 b) u0.told.length ?_ ?_
 .refine ⟨0,0,(Nat.sub_zero _).symm,Nat.zero_le _,a,rfl,?_⟩;simp only[*,go_sem]
 rintro T U F' o ⟨i32,b,rfl,V,a,rfl,W,X⟩;obtain ⟨E,F,G⟩:=o.pick [1,12,13] (by decide);simp only[*,go_sem] at E F G;clear o w hd y;refine ah hJ ?_;simp only[*,go_sem];refine af hJ ?_;rcases Nat.lt_or_ge i32 u0.told.length with H|p
 .refine b8 hJ ?_;refine aI hJ ?_;obtain ⟨q,f⟩:∃x,u0.told[i32]?=some x:=⟨_,List.getElem?_eq_getElem H⟩
  rw[dg f] at a;revert a;refine bS fun Y h g=>?_;unfold sO at h;try dsimp only at h
  obtain ⟨Z,I,K,L,i⟩:=e.t.el _ _ f;obtain rfl:I=q.cells:=L;cases K;have M:=i 0 _ rfl;simp only[go_sem] at M;have N:=i 1 _ rfl;simp only[go_sem] at N;clear i f;refine af hJ (aO hJ (af hJ ?_));refine ak hJ ?_;simp only[*,go_sem];refine ay fun ab ad O=>?_;try simp only[au] at O
  refine ah hJ ?_;revert h;refine bS fun ae P h=>?_;simp only[*,go_sem];refine aU hJ _ (Br u0 (e.mono aN) q.aR P) (aJ ?_);simp only[*,go_sem];revert h;refine aT hJ (fun Q h=>?_) fun Q h=>?_
  .obtain rfl:=sI h;refine ah hJ ?_;simp only[*,go_sem];obtain rfl:=sI g;clear g;have h:=k;dsimp only[aF] at h;obtain rfl:=sI h;refine ax ?_;simp only[*,go_sem]
  obtain rfl:=sI h;refine aI hJ ?_;have al:=cv (n:=i32) (by have:=u;omega);refine ak hJ ?_;simp only[*,go_sem];refine ⟨u0.told.length - (i32+1),by omega,_,Le.sub (List.Sublist.cons _ (List.Sublist.refl _)),i32+1,b,rfl,by omega,g,rfl,?_⟩;simp only[*,go_sem]
 have ao:=Nat.not_lt.2 p;refine b6 hJ ?_;rw[List.drop_eq_nil_of_le p] at a;obtain rfl:=sI a;clear a;have h:=k;dsimp only[aF] at h;obtain rfl:=sI h;refine bO ?_;simp only[go_sem];refine ah hJ ?_;simp only[*,go_sem];refine ax ?_;simp only[*,go_sem]
def sP (i34:Nat)(a:bL)(st:Int):Option (Fl Int Int):=
 ag (fM a.back 1 20) fun b=>cond (!b) (some (.rt 1)) (ag (qj a.high 0 60) fun c=>cond (!c) (some (.rt 1)) (cond (decide (3<=(IntKind.i64.wrap (a.high.high - a.high.low)))) (some (.rt 1)) (some (.nx st))))
def mO (u0:aj):Option Int:=
 ag (fM (u0.av.length:Int) 1 3) fun a=>cond (!a) (some 2) (ag (bJ (sP) 0 u0.av 0) fun o=>aF o (fun b=>some 0) (fun _ _=>none) (fun r=>some r))
theorem G2 {ro:Addr->Option Value}(u0:aj){s1 f k g:Value}(l:bN ro u0 s1 f k g){r:Int}(h:mO u0=some r):aD Tryz.prog 247 #[bv u0 s1 f k g] ⟨ro,[]⟩ (fun v _=>v= .int .i64 r):=by
 obtain ⟨d17,s,rfl,W,t,-⟩:=id l.y;unfold mO at h;refine aD.go Tryz.func247 rfl Tryz.ntmps247 Tryz.results247 (by simp) fun main J hJ A u hd hs=>?_;have w:=hs 0;clear hs;refine ah hJ ?_;simp only[*,go_sem];refine ay fun z X B=>?_;try simp only[au] at B
 refine af hJ (ah hJ ?_);revert h;refine bS fun Y C h=>?_;simp only[*,go_sem];refine aU hJ _ (gN (u0.av.length:Int) 1 3 C) (aJ ?_);simp only[*,go_sem];revert h;refine aT hJ (fun D h=>?_) fun D h=>?_
 .obtain rfl:=sI h;refine ah hJ ?_;simp only[*,go_sem];refine ax ?_;simp only[*,go_sem]
 refine aI hJ (af hJ ?_);refine ah hJ ?_;simp only[*,go_sem];refine aO hJ ?_;revert h;refine bS fun E a c=>?_;refine bU hJ (rg 15 25 [2,4]) (fun m o F'=>∃(i34:Nat) (d:Int),m=u0.av.length - i34/\i34<=u0.av.length/\bJ (sP) i34 (u0.av.drop i34) d=some E/\F'=⟨ro,(z,bl u0 s1 f (sl d17 u0.av s) g)::[]⟩/\slot o 15= .int .i64 (i34:Int)/\slot o 2= .int .i64 d) u0.av.length ?_ ?_
 .refine ⟨0,0,(Nat.sub_zero _).symm,Nat.zero_le _,a,rfl,?_⟩;simp only[*,go_sem]
 rintro Z ab F' p ⟨i34,d,rfl,ad,a,rfl,ae,al⟩;obtain ⟨F,G,H⟩:=p.pick [13,14] (by decide);simp only[*,go_sem] at F G H;clear p u hd w;refine ah hJ ?_;simp only[*,go_sem];refine af hJ ?_;rcases Nat.lt_or_ge i34 u0.av.length with I|q
 .refine b8 hJ ?_;refine aI hJ ?_;obtain ⟨i,j⟩:∃x,u0.av[i34]?=some x:=⟨_,List.getElem?_eq_getElem I⟩
  rw[dg j] at a;revert a;refine bS fun ao h b=>?_;unfold sP at h;try dsimp only at h
  obtain ⟨ar,K,L,M,e⟩:=l.y.el _ _ j;obtain rfl:K=i.cells:=M;cases L;have N:=e 0 _ rfl;simp only[go_sem] at N;have O:=e 1 _ rfl;simp only[go_sem] at O;have P:=e 2 _ rfl;simp only[go_sem] at P;clear e j;refine af hJ (aO hJ (af hJ ?_));refine ak hJ ?_;simp only[*,go_sem];refine ay fun a0 a2 Q=>?_;try simp only[au] at Q
  refine ah hJ ?_;revert h;refine bS fun a3 R h=>?_;simp only[*,go_sem];refine aU hJ _ (gN i.back 1 20 R) (aJ ?_);revert h;refine cS (fun S h=>?_) fun S h=>?_
  .obtain rfl:=sI h;simp only[*,go_sem];refine b8 hJ ?_;refine ah hJ ?_;simp only[*,go_sem];obtain rfl:=sI b;clear b;have h:=c;dsimp only[aF] at h;obtain rfl:=sI h;refine ax ?_;simp only[*,go_sem]
  revert h;refine bS fun a4 T h=>?_;simp only[*,go_sem];refine aU hJ _ (Bq i.high 0 60 T) (aJ ?_);revert h;refine cS (fun U h=>?_) fun U h=>?_
  .obtain rfl:=sI h;simp only[*,go_sem];refine b8 hJ ?_;refine ah hJ ?_;simp only[*,go_sem];obtain rfl:=sI b;clear b;have h:=c;dsimp only[aF] at h;obtain rfl:=sI h;refine ax ?_;simp only[*,go_sem]
  simp only[*,go_sem];revert h;refine aT hJ (fun V h=>?_) fun V h=>?_
  .obtain rfl:=sI h;refine ah hJ ?_;simp only[*,go_sem];obtain rfl:=sI b;clear b;have h:=c;dsimp only[aF] at h;obtain rfl:=sI h;refine ax ?_;simp only[*,go_sem]
  obtain rfl:=sI h;refine aI hJ ?_;have a5:=cv (n:=i34) (by have:=t;omega);refine ak hJ ?_;simp only[*,go_sem];refine ⟨u0.av.length - (i34+1),by omega,_,Le.sub (List.Sublist.cons _ (List.Sublist.refl _)),i34+1,d,rfl,by omega,b,rfl,?_⟩;simp only[*,go_sem]
 have a6:=Nat.not_lt.2 q;refine b6 hJ ?_;rw[List.drop_eq_nil_of_le q] at a;obtain rfl:=sI a;clear a;have h:=c;dsimp only[aF] at h;obtain rfl:=sI h;refine bO ?_;simp only[go_sem];refine ah hJ ?_;simp only[*,go_sem];refine ax ?_;simp only[*,go_sem]
def sQ (u0:aj)(i32:Nat)(a:bX)(st:Int):Option (Fl Int Int):=
 ag (gu u0 a.place) fun c=>cond (!c) (some (.rt 6)) (ag (g9 a.dh u0) fun b=>cond ((b != 0)) (some (.rt b)) (some (.nx st)))
def mP (u0:aj):Option Int:=
 cond (decide (3<(u0.props.length:Int))) (some 2) (ag (bJ (sQ u0) 0 u0.props 0) fun o=>aF o (fun a=>some 0) (fun _ _=>none) (fun r=>some r))
theorem G3 {ro:Addr->Option Value}(u0:aj){s1 l e f:Value}(c:bN ro u0 s1 l e f){r:Int}(h:mP u0=some r):aD Tryz.prog 246 #[bv u0 s1 l e f] ⟨ro,[]⟩ (fun v _=>v= .int .i64 r):=by
 obtain ⟨d10,t,rfl,T,u,-⟩:=id c.p;unfold mP at h;refine aD.go Tryz.func246 rfl Tryz.ntmps246 Tryz.results246 (by simp) fun main J hJ A w hd hs=>?_;have y:=hs 0;clear hs;refine ah hJ ?_;simp only[*,go_sem];refine ay fun z U B=>?_;try simp only[au] at B
 refine af hJ (ah hJ ?_);simp only[*,go_sem];revert h;refine aT hJ (fun C h=>?_) fun C h=>?_
 .obtain rfl:=sI h;refine ah hJ ?_;simp only[*,go_sem];refine ax ?_;simp only[*,go_sem]
 refine aI hJ (af hJ ?_);refine ah hJ ?_;simp only[*,go_sem];refine aO hJ ?_;revert h;refine bS fun D a g=>?_;refine bU hJ (rg 15 17 [2,4,5]) (fun m o F'=>∃(i32:Nat) (d:Int),m=u0.props.length - i32/\i32<=u0.props.length/\bJ (sQ u0) i32 (u0.props.drop i32) d=some D/\F'=⟨ro,(z,bl u0 s1 (sl d10 u0.props t) e f)::[]⟩/\slot o 15= .int .i64 (i32:Int)/\slot o 2= .int .i64 d) u0.props.length ?_ ?_
 .refine ⟨0,0,(Nat.sub_zero _).symm,Nat.zero_le _,a,rfl,?_⟩;simp only[*,go_sem]
 rintro V W F' q ⟨i32,d,rfl,X,a,rfl,Y,Z⟩;obtain ⟨E,F,G⟩:=q.pick [1,13,14] (by decide);simp only[*,go_sem] at E F G;clear q w hd y;refine ah hJ ?_;simp only[*,go_sem];refine af hJ ?_;rcases Nat.lt_or_ge i32 u0.props.length with H|s
 .refine b8 hJ ?_;refine aI hJ ?_;obtain ⟨i,j⟩:∃x,u0.props[i32]?=some x:=⟨_,List.getElem?_eq_getElem H⟩
  rw[dg j] at a;revert a;refine bS fun ab h b=>?_;unfold sQ at h;try dsimp only at h
  obtain ⟨ad,I,K,L,k⟩:=c.p.el _ _ j;obtain rfl:I=i.cells:=L;cases K;have M:=k 0 _ rfl;simp only[go_sem] at M;have N:=k 1 _ rfl;simp only[go_sem] at N;clear k j;refine af hJ (aO hJ (af hJ ?_));refine ak hJ ?_;simp only[*,go_sem];refine ay fun ae al O=>?_;try simp only[au] at O
  refine af hJ (ah hJ ?_);revert h;refine bS fun ao P h=>?_;simp only[*,go_sem];refine aU hJ _ (sK u0 (c.mono aN) i.place P) (aJ ?_);simp only[*,go_sem];revert h;refine aT hJ (fun Q h=>?_) fun Q h=>?_
  .obtain rfl:=sI h;refine ah hJ ?_;simp only[*,go_sem];obtain rfl:=sI b;clear b;have h:=g;dsimp only[aF] at h;obtain rfl:=sI h;refine ax ?_;simp only[*,go_sem]
  refine aI hJ (af hJ ?_);refine ak hJ ?_;revert h;refine bS fun ar R h=>?_;simp only[*,go_sem];refine aU hJ _ (wA i.dh u0 (c.mono aN) R) (aJ ?_);simp only[*,go_sem];refine ah hJ ?_;simp only[*,go_sem];revert h;refine aT hJ (fun S h=>?_) fun S h=>?_
  .obtain rfl:=sI h;refine ah hJ ?_;simp only[*,go_sem];obtain rfl:=sI b;clear b;have h:=g;dsimp only[aF] at h;obtain rfl:=sI h;refine ax ?_;simp only[*,go_sem]
  obtain rfl:=sI h;refine aI hJ ?_;have a0:=cv (n:=i32) (by have:=u;omega);refine ak hJ ?_;simp only[*,go_sem];refine ⟨u0.props.length - (i32+1),by omega,_,Le.sub (List.Sublist.cons _ (List.Sublist.refl _)),i32+1,d,rfl,by omega,b,rfl,?_⟩;simp only[*,go_sem]
 have a2:=Nat.not_lt.2 s;refine b6 hJ ?_;rw[List.drop_eq_nil_of_le s] at a;obtain rfl:=sI a;clear a;have h:=g;dsimp only[aF] at h;obtain rfl:=sI h;refine bO ?_;simp only[go_sem];refine ah hJ ?_;simp only[*,go_sem];refine ax ?_;simp only[*,go_sem]
def sR (u0:aj)(i34:Nat)(a:bT)(st:Int):Option (Fl Int Int):=
 ag (fM a.aL 0 (IntKind.i64.wrap (u0.bH - 1))) fun b=>cond (!b) (some (.rt 1)) (ag (fM a.high 0 60) fun c=>cond (!c) (some (.rt 1)) (cond (decide (0<(i34:Int))) (ag (bf u0.az (IntKind.i64.wrap ((i34:Int) - 1))) fun d=>cond (decide (a.aL<=d.aL)) (some (.rt 7)) (some (.nx st))) (some (.nx st))))
def lD (u0:aj):Option Int:=
 ag (fM (u0.az.length:Int) 2 5) fun a=>cond (!a) (some 2) (ag (bJ (sR u0) 0 u0.az 0) fun o=>aF o (fun b=>some 0) (fun _ _=>none) (fun r=>some r))
theorem G4 {ro:Addr->Option Value}(u0:aj){s1 f g i:Value}(j:bN ro u0 s1 f g i){r:Int}(h:lD u0=some r):aD Tryz.prog 245 #[bv u0 s1 f g i] ⟨ro,[]⟩ (fun v _=>v= .int .i64 r):=by
 obtain ⟨d3,c4,rfl,ar,q,-⟩:=id j.e;unfold lD at h;refine aD.go Tryz.func245 rfl Tryz.ntmps245 Tryz.results245 (by simp) fun main J hJ A y hd hs=>?_;have z:=hs 0;clear hs;refine ah hJ ?_;simp only[*,go_sem];refine ay fun B a0 C=>?_;try simp only[au] at C
 refine af hJ (ah hJ ?_);revert h;refine bS fun a2 D h=>?_;simp only[*,go_sem];refine aU hJ _ (gN (u0.az.length:Int) 2 5 D) (aJ ?_);simp only[*,go_sem];revert h;refine aT hJ (fun E h=>?_) fun E h=>?_
 .obtain rfl:=sI h;refine ah hJ ?_;simp only[*,go_sem];refine ax ?_;simp only[*,go_sem]
 refine aI hJ (af hJ ?_);refine ah hJ ?_;simp only[*,go_sem];refine aO hJ ?_;revert h;refine bS fun F b d=>?_;refine bU hJ (rg 15 35 [2,3,4]) (fun m s F'=>∃(i34:Nat) (c:Int),m=u0.az.length - i34/\i34<=u0.az.length/\bJ (sR u0) i34 (u0.az.drop i34) c=some F/\F'=⟨ro,(B,bl u0 (sl d3 u0.az c4) f g i)::[]⟩/\slot s 15= .int .i64 (i34:Int)/\slot s 2= .int .i64 c) u0.az.length ?_ ?_
 .refine ⟨0,0,(Nat.sub_zero _).symm,Nat.zero_le _,b,rfl,?_⟩;simp only[*,go_sem]
 rintro a3 a4 F' t ⟨i34,c,rfl,a5,b,rfl,a6,a7⟩;obtain ⟨G,H,I⟩:=t.pick [1,13,14] (by decide);simp only[*,go_sem] at G H I;clear t y hd z;refine ah hJ ?_;simp only[*,go_sem];refine af hJ ?_;rcases Nat.lt_or_ge i34 u0.az.length with K|u
 .refine b8 hJ ?_;refine aI hJ ?_;obtain ⟨k,l⟩:∃x,u0.az[i34]?=some x:=⟨_,List.getElem?_eq_getElem K⟩
  rw[dg l] at b;revert b;refine bS fun a8 h a=>?_;unfold sR at h;try dsimp only at h
  obtain ⟨a9,L,M,N,o⟩:=j.e.el _ _ l;obtain rfl:L=k.cells:=N;cases M;have O:=o 0 _ rfl;simp only[go_sem] at O;have P:=o 1 _ rfl;simp only[go_sem] at P;clear o l;refine af hJ (aO hJ (af hJ ?_));refine ak hJ ?_;simp only[*,go_sem];refine ay fun ba bb Q=>?_;try simp only[au] at Q
  refine aO hJ (af hJ ?_);refine ah hJ ?_;revert h;refine bS fun bc R h=>?_;simp only[*,go_sem];refine aU hJ _ (gN k.aL 0 (IntKind.i64.wrap (u0.bH - 1)) R) (aJ ?_);simp only[*,go_sem];revert h;refine aT hJ (fun S h=>?_) fun S h=>?_
  .obtain rfl:=sI h;refine aI hJ ?_;refine b8 hJ ?_;refine ah hJ ?_;simp only[*,go_sem];obtain rfl:=sI a;clear a;have h:=d;dsimp only[aF] at h;obtain rfl:=sI h;refine ax ?_;simp only[*,go_sem]
  refine ak hJ ?_;revert h;refine bS fun bd T h=>?_;simp only[*,go_sem];refine aU hJ _ (gN k.high 0 60 T) (aJ ?_);simp only[*,go_sem];revert h;refine aT hJ (fun U h=>?_) fun U h=>?_
  .obtain rfl:=sI h;refine ah hJ ?_;simp only[*,go_sem];obtain rfl:=sI a;clear a;have h:=d;dsimp only[aF] at h;obtain rfl:=sI h;refine ax ?_;simp only[*,go_sem]
  refine af hJ ?_;refine cP hJ mixed 16 2 (by simp only[*,go_sem]) (by kernel_rfl) ?_;revert h;refine cS (fun V h=>?_) fun V h=>?_
  .revert h;refine bS fun W X h=>?_;obtain ⟨bj,bk,w⟩:=cG X;obtain ⟨bm,Y,Z,ab,p⟩:=j.e.el _ _ w;obtain rfl:Y=W.cells:=ab;cases Z;have ad:=p 0 _ rfl;simp only[go_sem] at ad;have ae:=p 1 _ rfl;simp only[go_sem] at ae;clear p w;simp only[*,go_sem];revert h;refine aT hJ (fun al h=>?_) fun al h=>?_
   .obtain rfl:=sI h;refine ah hJ ?_;simp only[*,go_sem];obtain rfl:=sI a;clear a;have h:=d;dsimp only[aF] at h;obtain rfl:=sI h;refine ax ?_;simp only[*,go_sem]
   obtain rfl:=sI h;refine aI hJ ?_;have ao:=cv (n:=i34) (by have:=q;omega);refine ak hJ ?_;simp only[*,go_sem];refine ⟨u0.az.length - (i34+1),by omega,_,Le.sub (List.Sublist.cons _ (List.Sublist.refl _)),i34+1,c,rfl,by omega,a,rfl,?_⟩;simp only[*,go_sem]
  obtain rfl:=sI h;simp only[*,go_sem];refine b6 hJ ?_;refine aI hJ ?_;have ao:=cv (n:=i34) (by have:=q;omega);refine ak hJ ?_;simp only[*,go_sem];refine ⟨u0.az.length - (i34+1),by omega,_,Le.sub (List.Sublist.cons _ (List.Sublist.refl _)),i34+1,c,rfl,by omega,a,rfl,?_⟩;simp only[*,go_sem]
 have bo:=Nat.not_lt.2 u;refine b6 hJ ?_;rw[List.drop_eq_nil_of_le u] at b;obtain rfl:=sI b;clear b;have h:=d;dsimp only[aF] at h;obtain rfl:=sI h;refine bO ?_;simp only[go_sem];refine ah hJ ?_;simp only[*,go_sem];refine ax ?_;simp only[*,go_sem]
def n9 (u0:aj):Option Int:=
 ag (fM u0.bH 2 60) fun b=>cond (!b) (some 1) (ag (fM u0.bM 0 60) fun c=>cond (!c) (some 1) (ag (fM u0.aV.den 1 20) fun d=>cond (!d) (some 1) (ag (fM u0.aV.num 0 20) fun e=>cond (!e) (some 1) (ag (kH u0.aV.num u0.aV.den) fun a=>cond (!((a.num==u0.aV.num)&&(a.den==u0.aV.den))) (some 3) (some 0)))))
theorem G5 {ro:Addr->Option Value}(u0:aj){s1 a b c:Value}(z:bN ro u0 s1 a b c){r:Int}(h:n9 u0=some r):aD Tryz.prog 244 #[bv u0 s1 a b c] ⟨ro,[]⟩ (fun v _=>v= .int .i64 r):=by
 unfold n9 at h;refine aD.go Tryz.func244 rfl Tryz.ntmps244 Tryz.results244 (by simp) fun main J hJ A d hd hs=>?_;have e:=hs 0;clear hs;refine ah hJ ?_;simp only[*,go_sem];refine ay fun B C f=>?_;try simp only[au] at f
 refine af hJ (aO hJ (af hJ ?_));refine ah hJ ?_;revert h;refine bS fun D g h=>?_;simp only[*,go_sem];refine aU hJ _ (gN u0.bH 2 60 g) (aJ ?_);simp only[*,go_sem];revert h;refine aT hJ (fun i h=>?_) fun i h=>?_
 .obtain rfl:=sI h;refine aI hJ ?_;refine b8 hJ ?_;refine ah hJ ?_;simp only[*,go_sem];refine ax ?_;simp only[*,go_sem]
 refine ah hJ ?_;revert h;refine bS fun E j h=>?_;simp only[*,go_sem];refine aU hJ _ (gN u0.bM 0 60 j) (aJ ?_);simp only[*,go_sem];revert h;refine aT hJ (fun k h=>?_) fun k h=>?_
 .obtain rfl:=sI h;refine aI hJ ?_;refine b8 hJ ?_;refine ah hJ ?_;simp only[*,go_sem];refine ax ?_;simp only[*,go_sem]
 refine ah hJ ?_;revert h;refine bS fun G l h=>?_;simp only[*,go_sem];refine aU hJ _ (gN u0.aV.den 1 20 l) (aJ ?_);simp only[*,go_sem];revert h;refine aT hJ (fun m h=>?_) fun m h=>?_
 .obtain rfl:=sI h;refine aI hJ ?_;refine b8 hJ ?_;refine ah hJ ?_;simp only[*,go_sem];refine ax ?_;simp only[*,go_sem]
 refine ak hJ ?_;revert h;refine bS fun H n h=>?_;simp only[*,go_sem];refine aU hJ _ (gN u0.aV.num 0 20 n) (aJ ?_);simp only[*,go_sem];revert h;refine aT hJ (fun o h=>?_) fun o h=>?_
 .obtain rfl:=sI h;refine ah hJ ?_;simp only[*,go_sem];refine ax ?_;simp only[*,go_sem]
 refine af hJ ?_;refine cP hJ mixed 14 1 (by simp only[*,go_sem]) (by kernel_rfl) ?_;revert h;refine bS fun I p h=>?_;simp only[*,go_sem];refine ⟨_,bD hJ fun F K=>qm u0.aV.num u0.aV.den p,cn ?_⟩;simp only[*,go_sem];revert h;refine aT hJ (fun q h=>?_) fun q h=>?_
 .obtain rfl:=sI h;refine af hJ ?_;refine eY [2] fun L s t u=>?_;simp only[*,go_sem] at s t u;clear d hd e;refine ak hJ ?_;simp only[*,go_sem];refine ax ?_;simp only[*,go_sem]
 obtain rfl:=sI h;refine aI hJ (af hJ ?_);refine eY [2] fun M w x y=>?_;simp only[*,go_sem] at w x y;clear d hd e;refine ak hJ ?_;simp only[*,go_sem];refine ax ?_;simp only[*,go_sem]
def de (ro:Addr->Option Value):Prop:=
 ro ⟨0,0,none⟩=some (.func (.func 244) #[] #[])/\ro ⟨0,1,none⟩=some (.func (.func 245) #[] #[])/\ro ⟨0,2,none⟩=some (.func (.func 246) #[] #[])/\ro ⟨0,3,none⟩=some (.func (.func 247) #[] #[])/\ro ⟨0,4,none⟩=some (.func (.func 248) #[] #[])
theorem de.mono {ro aM:Addr->Option Value}(h:de ro)(a:Ext ro aM):de aM:=
 ⟨a _ _ h.1,a _ _ h.2.1,a _ _ h.2.2.1,a _ _ h.2.2.2.1,a _ _ h.2.2.2.2⟩
def oa (_:aj):Option Int:=some 0
def lE (b:aj):Option Int:=ag (mN b) fun x=>cond (x != 0) (some x) (oa b)
def lF (b:aj):Option Int:=ag (mO b) fun x=>cond (x != 0) (some x) (lE b)
def lG (b:aj):Option Int:=ag (mP b) fun x=>cond (x != 0) (some x) (lF b)
def lH (b:aj):Option Int:=ag (lD b) fun x=>cond (x != 0) (some x) (lG b)
def jk (b:aj):Option Int:=ag (n9 b) fun x=>cond (x != 0) (some x) (lH b)
def dH (b:aj):Option Int:=jk b
def sS:Nat->aj->Option Int
 |0=>jk|1=>lH|2=>lG|3=>lF|4=>lE|_=>oa
theorem Bt {ro:Addr->Option Value}(o:de ro)(u0:aj){s1:Value}(e:aA e8 ro s1 u0.az){s2:Value}(f:aA eF ro s2 u0.props){g:Value}(j:aA eG ro g u0.av){k:Value}(l:aA di ro k u0.told){r:Int}(h:dH u0=some r):
  aD Tryz.prog 95 #[.agg #[.int .i64 u0.bH,.int .i64 u0.bM,.int .i64 u0.aV.num,.int .i64 u0.aV.den,s1,s2,g,k]] ⟨ro,[]⟩ (fun v _=>v= .int .i64 r):=by
 obtain ⟨s,t,u,w,y⟩:=o
 replace h:sS 0 u0=some r:=h
 refine aD.go Tryz.func95 rfl Tryz.ntmps95 Tryz.results95 (by simp) fun main J hJ A p hd hs=>?_
 have z:=hs 0
 clear hs
 first|refine ak hJ ?_|refine ah hJ ?_|refine af hJ (ah hJ ?_)|refine af hJ (af hJ (ah hJ ?_))
 simp only[*,go_sem]
 intro d f1;have r1:=eK f1;have n1:=fI f1;simp only[au] at n1
 first|refine ak hJ ?_|refine ah hJ ?_|refine af hJ (ah hJ ?_)|refine af hJ (af hJ (ah hJ ?_))
 simp only[*,go_sem]
 first|refine aO hJ (vL hJ (fun m a F=>∃i:Nat,F=⟨ro,[(d,.cells #[.int .i64 u0.bH,.int .i64 u0.bM,.int .i64 u0.aV.num,.int .i64 u0.aV.den,s1,s2,g,k] 29)]⟩/\m=5 - i/\sz a=18/\a.defers=[]/\slot a 1= .pointer (some ⟨d,0,none⟩)/\slot a 6= .agg #[.func (.func 244) #[] #[],.func (.func 245) #[] #[],.func (.func 246) #[] #[],.func (.func 247) #[] #[],.func (.func 248) #[] #[]]/\slot a 7= .int .i64 i/\i<=5/\sS i u0=some r) (5) ?_ ?_)|refine af hJ (aO hJ (vL hJ (fun m a F=>∃i:Nat,F=⟨ro,[(d,.cells #[.int .i64 u0.bH,.int .i64 u0.bM,.int .i64 u0.aV.num,.int .i64 u0.aV.den,s1,s2,g,k] 29)]⟩/\m=5 - i/\sz a=18/\a.defers=[]/\slot a 1= .pointer (some ⟨d,0,none⟩)/\slot a 6= .agg #[.func (.func 244) #[] #[],.func (.func 245) #[] #[],.func (.func 246) #[] #[],.func (.func 247) #[] #[],.func (.func 248) #[] #[]]/\slot a 7= .int .i64 i/\i<=5/\sS i u0=some r) (5) ?_ ?_))|refine af hJ (af hJ (aO hJ (vL hJ (fun m a F=>∃i:Nat,F=⟨ro,[(d,.cells #[.int .i64 u0.bH,.int .i64 u0.bM,.int .i64 u0.aV.num,.int .i64 u0.aV.den,s1,s2,g,k] 29)]⟩/\m=5 - i/\sz a=18/\a.defers=[]/\slot a 1= .pointer (some ⟨d,0,none⟩)/\slot a 6= .agg #[.func (.func 244) #[] #[],.func (.func 245) #[] #[],.func (.func 246) #[] #[],.func (.func 247) #[] #[],.func (.func 248) #[] #[]]/\slot a 7= .int .i64 i/\i<=5/\sS i u0=some r) (5) ?_ ?_)))
 .refine ⟨0,rfl,rfl,?_⟩
  simp only[*,go_sem,-h]
  first|exact ⟨Nat.zero_le _,h⟩|exact h
 .clear h
  rintro m a F ⟨i,rfl,rfl,p,hd,B,C,D,hi,h⟩
  rcases i with _|_|_|_|_|i
  .replace h:ag (n9 u0) (fun x=>cond (x != 0) (some x) (lH u0))=some r:=h
   have b:=fP h;clear h;obtain ⟨x,q,h⟩:=b
   have n:((0:Nat):Int)=0:=rfl
   first|refine ak hJ ?_|refine ah hJ ?_|refine af hJ (ah hJ ?_)|refine af hJ (af hJ (ah hJ ?_))
   simp only[*,go_sem,-h]
   refine af hJ ?_
   refine dU hJ (by simp only[*,go_sem,-h]) ?_
   refine aI hJ ?_
   refine af hJ (aO hJ ?_)
   first|refine ak hJ ?_|refine ah hJ ?_|refine af hJ (ah hJ ?_)|refine af hJ (af hJ (ah hJ ?_))
   simp only[*,go_sem,-h]
   first|refine ak hJ ?_|refine ah hJ ?_|refine af hJ (ah hJ ?_)|refine af hJ (af hJ (ah hJ ?_))
   simp only[*,go_sem,-h]
   refine aU hJ _ (G5 u0 ⟨(e.mono aN),(f.mono aN),(j.mono aN),(l.mono aN)⟩ q) (aJ ?_)
   simp only[*,go_sem,-h]
   first|refine ak hJ ?_|refine ah hJ ?_|refine af hJ (ah hJ ?_)|refine af hJ (af hJ (ah hJ ?_))
   simp only[*,go_sem,-h]
   have b:=je h;clear h;rcases b with ⟨c,h⟩|⟨c,h⟩
   .refine dU hJ (by simp only[*,go_sem,-h]) ?_
    first|refine ak hJ ?_|refine ah hJ ?_|refine af hJ (ah hJ ?_)|refine af hJ (af hJ (ah hJ ?_))
    simp only[*,go_sem,-h]
    have b:=Option.some.inj h;clear h;subst b
    refine ax ?_
    simp only[*,go_sem]
   .refine dM hJ (by simp only[*,go_sem,-h]) ?_
    refine aI hJ ?_
    refine ak hJ ?_
    simp only[*,go_sem,-h]
    refine ⟨5 - 1,by omega,_,Le.refl _,1,rfl,rfl,?_⟩
    have hw:IntKind.i64.wrap (0+1)=((1:Nat):Int):=by decide
    simp only[*,go_sem,-h]
    first|exact ⟨by omega,h⟩|exact h
  .replace h:ag (lD u0) (fun x=>cond (x != 0) (some x) (lG u0))=some r:=h
   have b:=fP h;clear h;obtain ⟨x,q,h⟩:=b
   have n:((0+1:Nat):Int)=1:=rfl
   first|refine ak hJ ?_|refine ah hJ ?_|refine af hJ (ah hJ ?_)|refine af hJ (af hJ (ah hJ ?_))
   simp only[*,go_sem,-h]
   refine af hJ ?_
   refine dU hJ (by simp only[*,go_sem,-h]) ?_
   refine aI hJ ?_
   refine af hJ (aO hJ ?_)
   first|refine ak hJ ?_|refine ah hJ ?_|refine af hJ (ah hJ ?_)|refine af hJ (af hJ (ah hJ ?_))
   simp only[*,go_sem,-h]
   first|refine ak hJ ?_|refine ah hJ ?_|refine af hJ (ah hJ ?_)|refine af hJ (af hJ (ah hJ ?_))
   simp only[*,go_sem,-h]
   refine aU hJ _ (G4 u0 ⟨(e.mono aN),(f.mono aN),(j.mono aN),(l.mono aN)⟩ q) (aJ ?_)
   simp only[*,go_sem,-h]
   first|refine ak hJ ?_|refine ah hJ ?_|refine af hJ (ah hJ ?_)|refine af hJ (af hJ (ah hJ ?_))
   simp only[*,go_sem,-h]
   have b:=je h;clear h;rcases b with ⟨c,h⟩|⟨c,h⟩
   .refine dU hJ (by simp only[*,go_sem,-h]) ?_
    first|refine ak hJ ?_|refine ah hJ ?_|refine af hJ (ah hJ ?_)|refine af hJ (af hJ (ah hJ ?_))
    simp only[*,go_sem,-h]
    have b:=Option.some.inj h;clear h;subst b
    refine ax ?_
    simp only[*,go_sem]
   .refine dM hJ (by simp only[*,go_sem,-h]) ?_
    refine aI hJ ?_
    refine ak hJ ?_
    simp only[*,go_sem,-h]
    refine ⟨5 - 2,by omega,_,Le.refl _,2,rfl,rfl,?_⟩
    have hw:IntKind.i64.wrap (1+1)=((2:Nat):Int):=by decide
    simp only[*,go_sem,-h]
    first|exact ⟨by omega,h⟩|exact h
  .replace h:ag (mP u0) (fun x=>cond (x != 0) (some x) (lF u0))=some r:=h
   have b:=fP h;clear h;obtain ⟨x,q,h⟩:=b
   have n:((0+1+1:Nat):Int)=2:=rfl
   first|refine ak hJ ?_|refine ah hJ ?_|refine af hJ (ah hJ ?_)|refine af hJ (af hJ (ah hJ ?_))
   simp only[*,go_sem,-h]
   refine af hJ ?_
   refine dU hJ (by simp only[*,go_sem,-h]) ?_
   refine aI hJ ?_
   refine af hJ (aO hJ ?_)
   first|refine ak hJ ?_|refine ah hJ ?_|refine af hJ (ah hJ ?_)|refine af hJ (af hJ (ah hJ ?_))
   simp only[*,go_sem,-h]
   first|refine ak hJ ?_|refine ah hJ ?_|refine af hJ (ah hJ ?_)|refine af hJ (af hJ (ah hJ ?_))
   simp only[*,go_sem,-h]
   refine aU hJ _ (G3 u0 ⟨(e.mono aN),(f.mono aN),(j.mono aN),(l.mono aN)⟩ q) (aJ ?_)
   simp only[*,go_sem,-h]
   first|refine ak hJ ?_|refine ah hJ ?_|refine af hJ (ah hJ ?_)|refine af hJ (af hJ (ah hJ ?_))
   simp only[*,go_sem,-h]
   have b:=je h;clear h;rcases b with ⟨c,h⟩|⟨c,h⟩
   .refine dU hJ (by simp only[*,go_sem,-h]) ?_
    first|refine ak hJ ?_|refine ah hJ ?_|refine af hJ (ah hJ ?_)|refine af hJ (af hJ (ah hJ ?_))
    simp only[*,go_sem,-h]
    have b:=Option.some.inj h;clear h;subst b
    refine ax ?_
    simp only[*,go_sem]
   .refine dM hJ (by simp only[*,go_sem,-h]) ?_
    refine aI hJ ?_
    refine ak hJ ?_
    simp only[*,go_sem,-h]
    refine ⟨5 - 3,by omega,_,Le.refl _,3,rfl,rfl,?_⟩
    have hw:IntKind.i64.wrap (2+1)=((3:Nat):Int):=by decide
    simp only[*,go_sem,-h]
    first|exact ⟨by omega,h⟩|exact h
  .replace h:ag (mO u0) (fun x=>cond (x != 0) (some x) (lE u0))=some r:=h
   have b:=fP h;clear h;obtain ⟨x,q,h⟩:=b
   have n:((0+1+1+1:Nat):Int)=3:=rfl
   first|refine ak hJ ?_|refine ah hJ ?_|refine af hJ (ah hJ ?_)|refine af hJ (af hJ (ah hJ ?_))
   simp only[*,go_sem,-h]
   refine af hJ ?_
   refine dU hJ (by simp only[*,go_sem,-h]) ?_
   refine aI hJ ?_
   refine af hJ (aO hJ ?_)
   first|refine ak hJ ?_|refine ah hJ ?_|refine af hJ (ah hJ ?_)|refine af hJ (af hJ (ah hJ ?_))
   simp only[*,go_sem,-h]
   first|refine ak hJ ?_|refine ah hJ ?_|refine af hJ (ah hJ ?_)|refine af hJ (af hJ (ah hJ ?_))
   simp only[*,go_sem,-h]
   refine aU hJ _ (G2 u0 ⟨(e.mono aN),(f.mono aN),(j.mono aN),(l.mono aN)⟩ q) (aJ ?_)
   simp only[*,go_sem,-h]
   first|refine ak hJ ?_|refine ah hJ ?_|refine af hJ (ah hJ ?_)|refine af hJ (af hJ (ah hJ ?_))
   simp only[*,go_sem,-h]
   have b:=je h;clear h;rcases b with ⟨c,h⟩|⟨c,h⟩
   .refine dU hJ (by simp only[*,go_sem,-h]) ?_
    first|refine ak hJ ?_|refine ah hJ ?_|refine af hJ (ah hJ ?_)|refine af hJ (af hJ (ah hJ ?_))
    simp only[*,go_sem,-h]
    have b:=Option.some.inj h;clear h;subst b
    refine ax ?_
    simp only[*,go_sem]
   .refine dM hJ (by simp only[*,go_sem,-h]) ?_
    refine aI hJ ?_
    refine ak hJ ?_
    simp only[*,go_sem,-h]
    refine ⟨5 - 4,by omega,_,Le.refl _,4,rfl,rfl,?_⟩
    have hw:IntKind.i64.wrap (3+1)=((4:Nat):Int):=by decide
    simp only[*,go_sem,-h]
    first|exact ⟨by omega,h⟩|exact h
  .replace h:ag (mN u0) (fun x=>cond (x != 0) (some x) (oa u0))=some r:=h
   have b:=fP h;clear h;obtain ⟨x,q,h⟩:=b
   have n:((0+1+1+1+1:Nat):Int)=4:=rfl
   first|refine ak hJ ?_|refine ah hJ ?_|refine af hJ (ah hJ ?_)|refine af hJ (af hJ (ah hJ ?_))
   simp only[*,go_sem,-h]
   refine af hJ ?_
   refine dU hJ (by simp only[*,go_sem,-h]) ?_
   refine aI hJ ?_
   refine af hJ (aO hJ ?_)
   first|refine ak hJ ?_|refine ah hJ ?_|refine af hJ (ah hJ ?_)|refine af hJ (af hJ (ah hJ ?_))
   simp only[*,go_sem,-h]
   first|refine ak hJ ?_|refine ah hJ ?_|refine af hJ (ah hJ ?_)|refine af hJ (af hJ (ah hJ ?_))
   simp only[*,go_sem,-h]
   refine aU hJ _ (G1 u0 ⟨(e.mono aN),(f.mono aN),(j.mono aN),(l.mono aN)⟩ q) (aJ ?_)
   simp only[*,go_sem,-h]
   first|refine ak hJ ?_|refine ah hJ ?_|refine af hJ (ah hJ ?_)|refine af hJ (af hJ (ah hJ ?_))
   simp only[*,go_sem,-h]
   have b:=je h;clear h;rcases b with ⟨c,h⟩|⟨c,h⟩
   .refine dU hJ (by simp only[*,go_sem,-h]) ?_
    first|refine ak hJ ?_|refine ah hJ ?_|refine af hJ (ah hJ ?_)|refine af hJ (af hJ (ah hJ ?_))
    simp only[*,go_sem,-h]
    have b:=Option.some.inj h;clear h;subst b
    refine ax ?_
    simp only[*,go_sem]
   .refine dM hJ (by simp only[*,go_sem,-h]) ?_
    refine aI hJ ?_
    refine ak hJ ?_
    simp only[*,go_sem,-h]
    refine ⟨5 - 5,by omega,_,Le.refl _,5,rfl,rfl,?_⟩
    have hw:IntKind.i64.wrap (4+1)=((5:Nat):Int):=by decide
    simp only[*,go_sem,-h]
    first|exact ⟨by omega,h⟩|exact h
  .have:i=0:=by omega
   subst this
   replace h:some 0=some r:=h
   have n:((0+1+1+1+1+1:Nat):Int)=5:=rfl
   first|refine ak hJ ?_|refine ah hJ ?_|refine af hJ (ah hJ ?_)|refine af hJ (af hJ (ah hJ ?_))
   simp only[*,go_sem,-h]
   refine af hJ ?_
   refine dM hJ (by simp only[*,go_sem,-h]) ?_
   refine bO ?_
   simp only[go_sem]
   first|refine ak hJ ?_|refine ah hJ ?_|refine af hJ (ah hJ ?_)|refine af hJ (af hJ (ah hJ ?_))
   simp only[*,go_sem,-h]
   have b:=Option.some.inj h;clear h;subst b
   refine ax ?_
   simp only[*,go_sem]
def ob (u0:aj)(b:bn)(i39:Nat)(a:bT)(st:(List bE)):Option (Fl (List bE) bE):=
 ag (fU a.high) fun c=>ag (kI u0 b (i39:Int) (⟨a.aL,c⟩:g8)) fun d=>ag (dc st ([d])) fun e=>some (.nx e)
def lI (u0:aj)(b:bn):Option bE:=
 ag (bJ (ob u0 b) 0 u0.az ([]:List bE)) fun o=>aF o (fun a=>ag (bf a 0) fun c=>ag (jf a 1 (a.length:Int)) fun d=>ag (mL jj c d) fun e=>some e) (fun _ _=>none) (fun r=>some r)
theorem sU {ro:Addr->Option Value}(u0:aj){s1 f g i:Value}(u:bN ro u0 s1 f g i)(b:bn){r:bE}(h:lI u0 b=some r):aD Tryz.prog 69 #[bv u0 s1 f g i,.agg #[.int .i64 b.back,.int .i64 b.high]] ⟨ro,[]⟩ (fun v _=>v=r.v):=by
 obtain ⟨d3,c4,rfl,dE,W,-⟩:=id u.e;unfold lI at h;refine aD.go Tryz.func69 rfl Tryz.ntmps69 Tryz.results69 (by simp) fun main J hJ A X hd hs=>?_;have Y:=hs 0;have k1:=hs 1;clear hs;refine ah hJ ?_;simp only[*,go_sem];refine ay fun o Z ab=>?_;try simp only[au] at ab
 refine ay fun p ad ae=>?_;try simp only[au] at ae
 refine ay fun q al ao=>?_;try simp only[au] at ao
 refine ah hJ ?_;simp only[*,go_sem];refine af hJ (ah hJ ?_);simp only[*,go_sem];refine aO hJ ?_;revert h;refine bS fun ar j a0=>?_;refine bU hJ (rg 12 19 [5,6,7]) (fun m G F'=>∃(i39:Nat) (d33:Option Addr) (s:Nat) (w:List (Nat×Obj)) (c:(List bE)),m=u0.az.length - i39/\i39<=u0.az.length/\bJ (ob u0 b) i39 (u0.az.drop i39) c=some ar/\F'=⟨ro,(q,.cells #[.int .i64 0,.int .i64 0,.int .i64 0,.int .i64 0,.int .i64 0,.int .i64 0] 122)::(p,.cells #[.int .i64 b.back,.int .i64 b.high] 118)::(o,bl u0 (sl d3 u0.az c4) f g i)::w⟩/\aP kG ro 122 (.slice d33 c.length s) c w/\c.length<=s/\slot G 12= .int .i64 (i39:Int)/\slot G 5= .slice d33 c.length s) u0.az.length ?_ ?_
 .refine ⟨0,none,0,[],([]:List bE),(Nat.sub_zero _).symm,Nat.zero_le _,j,rfl,aP.nil _ _ _,Nat.le_refl _,?_⟩;simp only[*,go_sem]
 rintro dT ea F' H ⟨i39,d33,s,w,c,rfl,eb,j,rfl,I,ec,ed,eh⟩;obtain ⟨a2,a3,a4⟩:=H.pick [2,3,4,10,11] (by decide);simp only[*,go_sem] at a2 a3 a4;clear H X hd Y k1;refine ah hJ ?_;simp only[*,go_sem];refine af hJ ?_;rcases Nat.lt_or_ge i39 u0.az.length with a5|K
 .refine b8 hJ ?_;refine aI hJ ?_;obtain ⟨d,y⟩:∃x,u0.az[i39]?=some x:=⟨_,List.getElem?_eq_getElem a5⟩
  rw[dg y] at j;revert j;refine bS fun et h a6=>?_;unfold ob at h;try dsimp only at h
  obtain ⟨z,a7,a8,a9,B⟩:=u.e.el _ _ y;obtain rfl:a7=d.cells:=a9;cases a8;have ba:=B 0 _ rfl;simp only[go_sem] at ba;have bb:=B 1 _ rfl;simp only[go_sem] at bb;clear B y;refine af hJ (aO hJ (af hJ ?_));refine aC hJ fun bc=>?_;refine ak hJ ?_;simp only[*,go_sem];refine ay fun C eu L=>?_;have ev:=aQ.cons L bc;try simp only[au] at L
  refine aC hJ fun bd=>?_;refine fl hJ mixed 11 ⟨ro,[(C,.cells #[.int .i64 d.aL,.int .i64 d.high] 44),(q,.cells #[.int .i64 0,.int .i64 0,.int .i64 0,.int .i64 0,.int .i64 0,.int .i64 0] 122),(p,.cells #[.int .i64 b.back,.int .i64 b.high] 118),(o,bl u0 (sl (some z) u0.az c4) f g i)]⟩ (by simp only[*,go_sem]) (by kernel_rfl) ?_;revert h;refine bS fun bj bk h=>?_;simp only[*,go_sem];refine ⟨_,bD hJ fun F t=>jN d.high bk,cn ?_⟩;revert h;refine bS fun a bm h=>?_;simp only[*,go_sem];refine ⟨_,bD hJ fun F t=>Bs u0 (u.mono (bY t)) b (i39:Int) (⟨d.aL,bj⟩:g8) bm,?_⟩;revert h;refine bS fun bo br h=>?_;obtain rfl:=sI h;obtain ⟨bs,M⟩:=dr br;simp only[*,go_sem];refine ay fun N bz O=>?_;have b0:=aQ.cons O bd;try simp only[au] at O
  simp only[*,go_sem];refine ek (r:=kG) (l:=c) (x:=a) (cs:=#[.int .i64 a.spot.aL,.int .i64 a.spot.high.num,.int .i64 a.spot.high.den,.int .i64 a.at_,.int .i64 a.high.num,.int .i64 a.high.den]) (e2:=122) [(N,.cells #[.int .i64 a.spot.aL,.int .i64 a.spot.high.num,.int .i64 a.spot.high.den,.int .i64 a.at_,.int .i64 a.high.num,.int .i64 a.high.den] 122),(C,.cells #[.int .i64 d.aL,.int .i64 d.high] 44),(q,.cells #[.int .i64 0,.int .i64 0,.int .i64 0,.int .i64 0,.int .i64 0,.int .i64 0] 122),(p,.cells #[.int .i64 b.back,.int .i64 b.high] 118),(o,bl u0 (sl (some z) u0.az c4) f g i)] [] I b0 bs rfl (by simp only[*,go_sem]) bz rfl rfl nU nU vS vU rfl vT (by decide) (by decide) (fun eQ P D b1 b2 eS=>?_);simp only[aS] at b2;subst b1;rw[<-M] at D;clear M;obtain ⟨d63,b3,rfl,b4⟩:=D.len;refine ⟨⟨ro,(N,.cells #[.int .i64 a.spot.aL,.int .i64 a.spot.high.num,.int .i64 a.spot.high.den,.int .i64 a.at_,.int .i64 a.high.num,.int .i64 a.high.den] 122)::(C,.cells #[.int .i64 d.aL,.int .i64 d.high] 44)::(q,.cells #[.int .i64 0,.int .i64 0,.int .i64 0,.int .i64 0,.int .i64 0,.int .i64 0] 122)::(p,.cells #[.int .i64 b.back,.int .i64 b.high] 118)::(o,bl u0 (sl (some z) u0.az c4) f g i)::P⟩,Le.refl _,?_⟩;refine ⟨by simp only[*,go_sem],mB ?_⟩;simp only[*,go_sem];have e0:=cv (n:=i39) (by have:=W;omega);refine ak hJ ?_;simp only[*,go_sem];refine ⟨u0.az.length - (i39+1),by omega,_,Le.sub (List.Sublist.cons _ (List.Sublist.cons _ (List.Sublist.refl _))),i39+1,d63,b3,P,bo,rfl,by omega,a6,rfl,D,b4,?_⟩;simp only[*,go_sem]
 have e1:=Nat.not_lt.2 K;refine b6 hJ ?_;rw[List.drop_eq_nil_of_le K] at j;obtain rfl:=sI j;clear j;have h:=a0;dsimp only[aF] at h;refine bO ?_;simp only[go_sem];refine af hJ ?_;refine aC hJ fun Q=>?_;obtain ⟨b5,e3,ca,E,cb⟩:=I.eX [(q,.cells #[.int .i64 0,.int .i64 0,.int .i64 0,.int .i64 0,.int .i64 0,.int .i64 0] 122),(p,.cells #[.int .i64 b.back,.int .i64 b.high] 118),(o,bl u0 (sl d3 u0.az c4) f g i)] [] Q (aE.cons al (aE.cons ad (aE.cons Z (aE.nil _))));clear Q;refine cz hJ cb ?_;obtain ⟨fa,fb,-⟩:=E.op;simp only[bu] at ca;refine fl hJ mixed 6 ⟨b5,[(p,.cells #[.int .i64 b.back,.int .i64 b.high] 118),(o,bl u0 (sl d3 u0.az c4) f g i)]⟩ (by simp only[*,go_sem]) (by kernel_rfl) ?_;revert h;refine bS fun R cd h=>?_;obtain ⟨fg,fi,S⟩:=cG cd;obtain ⟨fo,cf,cl,cu,k⟩:=E.el _ _ S;obtain rfl:cf=R.cells:=cu;cases cl;have cy:=k 0 _ rfl;simp only[go_sem] at cy;have cS:=k 1 _ rfl;simp only[go_sem] at cS;have c0:=k 2 _ rfl;simp only[go_sem] at c0;have da:=k 3 _ rfl;simp only[go_sem] at da;have db:=k 4 _ rfl;simp only[go_sem] at db;have dd:=k 5 _ rfl;simp only[go_sem] at dd;clear k S;revert h;refine bS fun df dk h=>?_;obtain ⟨fp,fr,fs,T⟩:=pY dk;have U:(1:Int).toNat<=((c.length:Int)).toNat:=by omega
 have dp:((c.length:Int)).toNat<=s:=by omega
 have ft:0<=((c.length:Int)):=by omega
 obtain ⟨d80,dq,ds,V⟩:=aA.p7 E (1:Int).toNat ((c.length:Int)).toNat U (by omega) T;simp only[go_sem] at dq ds U dp;obtain ⟨_,_,dt,fu,fv,fw⟩:=id V;cases dt;clear T;revert h;refine bS fun fx du h=>?_;obtain rfl:=sI h;simp only[*,go_sem];refine ⟨_,bD hJ fun F t=>sM (dO:=71) (en:=#[]) (eo:=#[]) jj ⟨by simp only[go_sem],fun fz gg dv dC _ h=>by simp only[go_sem];exact sH dv dC h⟩ R df (V.mono (bY t)) du,?_⟩;simp only[*,go_sem];refine ax ?_;simp only[*,go_sem]
def mQ (u0:aj)(a:bn):Option an:=
 ag (fU u0.bM) fun b=>ag (lI u0 a) fun c=>ag (jP b c.high) fun d=>some d
theorem Bu {ro:Addr->Option Value}(u0:aj){s1 b c d:Value}(f:bN ro u0 s1 b c d)(a:bn){r:an}(h:mQ u0 a=some r):aD Tryz.prog 109 #[bv u0 s1 b c d,.agg #[.int .i64 a.back,.int .i64 a.high]] ⟨ro,[]⟩ (fun v _=>v=r.v):=by
 unfold mQ at h;refine aD.go Tryz.func109 rfl Tryz.ntmps109 Tryz.results109 (by simp) fun main J hJ A s hd hs=>?_;have t:=hs 0;have k1:=hs 1;clear hs;refine ah hJ ?_;simp only[*,go_sem];refine ay fun g u i=>?_;try simp only[au] at i
 refine ay fun j w k=>?_;try simp only[au] at k
 refine ay fun x y l=>?_;try simp only[au] at l
 refine af hJ ?_;refine fl hJ mixed 9 ⟨ro,[(j,.cells #[.int .i64 a.back,.int .i64 a.high] 118),(g,bl u0 s1 b c d)]⟩ (by simp only[*,go_sem]) (by kernel_rfl) ?_;revert h;refine bS fun m n h=>?_;simp only[*,go_sem];refine ⟨_,bD hJ fun F e=>jN u0.bM n,cn ?_⟩;revert h;refine bS fun o p h=>?_;simp only[*,go_sem];refine ⟨_,bD hJ fun F e=>sU u0 (f.mono (bY e)) a p,cn ?_⟩;revert h;refine bS fun z q h=>?_;obtain rfl:=sI h;simp only[*,go_sem];refine ⟨_,bD hJ fun F e=>qo m o.high q,?_⟩;simp only[*,go_sem];refine ax ?_;simp only[*,go_sem]
def od (u0:aj)(a:Int)(st:Int):Option (Fl Int an):=
 ag (bf u0.az st) fun b=>cond (decide (b.aL<a)) (some (.nx (IntKind.i64.wrap (st+1)))) (some (.bk st))
def jl (u0:aj)(b:Int):Option an:=
 ag (aZ (od u0 b) fu 1) fun o=>aF o (fun c=>ag (bf u0.az (IntKind.i64.wrap (c - 1))) fun a=>ag (bf u0.az c) fun d=>ag (fU a.high) fun e=>ag (kH (IntKind.i64.wrap ((IntKind.i64.wrap (d.high - a.high))*(IntKind.i64.wrap (b - a.aL)))) (IntKind.i64.wrap (d.aL - a.aL))) fun f=>ag (jO e f) fun g=>some g) (fun _ _=>none) (fun r=>some r)
theorem Bv {ro:Addr->Option Value}(u0:aj){s1 b c d:Value}(g:bN ro u0 s1 b c d)(i:Int){r:an}(h:jl u0 i=some r):aD Tryz.prog 134 #[bv u0 s1 b c d,.int .i64 i] ⟨ro,[]⟩ (fun v _=>v=r.v):=by
 obtain ⟨d3,c4,rfl,bc,bd,-⟩:=id g.e;unfold jl at h;refine aD.go Tryz.func134 rfl Tryz.ntmps134 Tryz.results134 (by simp) fun main J hJ A E hd hs=>?_;have G:=hs 0;have k1:=hs 1;clear hs;refine ah hJ ?_;simp only[*,go_sem];refine ay fun l bj H=>?_;try simp only[au] at H
 refine ay fun t bk I=>?_;try simp only[au] at I
 refine ah hJ ?_;simp only[*,go_sem];refine af hJ (aO hJ ?_);revert h;refine bS fun K j L=>?_;refine bU hJ (rg 8 11 [5]) (fun m M F'=>∃(k:Int),aZ (od u0 i) m k=some K/\F'=⟨ro,(t,rt 0 0)::(l,bl u0 (sl d3 u0.az c4) b c d)::[]⟩/\slot M 5= .int .i64 k) fu ?_ ?_
 .refine ⟨1,j,rfl,?_⟩;simp only[*,go_sem]
 rintro n bm F' u ⟨k,j,rfl,bo⟩;obtain ⟨N,O,P⟩:=u.pick [1,2,4] (by decide);simp only[*,go_sem] at N O P;clear u E hd G k1;obtain _|n:=n
 .exact absurd j (by simp only[aZ,reduceCtorEq,not_false_eq_true])
 revert j;refine bS fun br h o=>?_;unfold od at h;try dsimp only at h
 refine af hJ (ah hJ ?_);revert h;refine bS fun Q R h=>?_;obtain ⟨bs,bz,w⟩:=cG R;obtain ⟨x,S,T,U,p⟩:=g.e.el _ _ w;obtain rfl:S=Q.cells:=U;cases T;have y:=p 0 _ rfl;simp only[go_sem] at y;have z:=p 1 _ rfl;simp only[go_sem] at z;clear p w;simp only[*,go_sem];revert h;refine aT hJ (fun V h=>?_) fun V h=>?_
 .obtain rfl:=sI h;refine aI hJ (aO hJ ?_);refine ak hJ ?_;simp only[*,go_sem];refine ⟨n,Nat.lt_succ_self _,_,Le.sub (List.Sublist.refl _),(IntKind.i64.wrap (k+1)),o,rfl,?_⟩;simp only[*,go_sem]
 obtain rfl:=sI h;refine bO ?_;simp only[go_sem];obtain rfl:=sI o;clear o;have h:=L;dsimp only[aF] at h;clear y z;refine af hJ ?_;refine AV hJ mixed 13 ⟨ro,[(t,rt 0 0),(l,bl u0 (sl (some x) u0.az c4) b c d)]⟩ (by simp only[*,go_sem]) (by kernel_rfl) 44 rfl AJ ?_;revert h;refine bS fun a W h=>?_;obtain ⟨b0,b1,B⟩:=cG W;obtain ⟨b2,X,Y,Z,q⟩:=g.e.el _ _ B;obtain rfl:X=a.cells:=Z;cases Y;have ab:=q 0 _ rfl;simp only[go_sem] at ab;have ad:=q 1 _ rfl;simp only[go_sem] at ad;clear q B;revert h;refine bS fun f ae h=>?_;obtain ⟨b3,b4,C⟩:=cG ae;obtain ⟨b5,al,ao,ar,s⟩:=g.e.el _ _ C;obtain rfl:al=f.cells:=ar;cases ao;have a0:=s 0 _ rfl;simp only[go_sem] at a0;have a2:=s 1 _ rfl;simp only[go_sem] at a2;clear s C;simp only[*,go_sem];refine ay fun a3 ca a4=>?_;try simp only[au] at a4
 simp only[*,go_sem];refine ay fun a5 cb a6=>?_;try simp only[au] at a6
 simp only[*,go_sem];refine af hJ ?_;refine fl hJ mixed 20 ⟨ro,[(a5,.cells #[.int .i64 f.aL,.int .i64 f.high] 44),(a3,.cells #[.int .i64 a.aL,.int .i64 a.high] 44),(l,bl u0 (sl (some x) u0.az c4) b c d)]⟩ (by simp only[*,go_sem]) (by kernel_rfl) ?_;revert h;refine bS fun a7 a8 h=>?_;simp only[*,go_sem];refine ⟨_,bD hJ fun F D=>jN a.high a8,cn ?_⟩;revert h;refine bS fun a9 ba h=>?_;simp only[*,go_sem];refine ⟨_,bD hJ fun F D=>qm (IntKind.i64.wrap ((IntKind.i64.wrap (f.high - a.high))*(IntKind.i64.wrap (i - a.aL)))) (IntKind.i64.wrap (f.aL - a.aL)) ba,cn ?_⟩;revert h;refine bS fun cd bb h=>?_;obtain rfl:=sI h;simp only[*,go_sem];refine ⟨_,bD hJ fun F D=>qn a7 a9 bb,?_⟩;simp only[*,go_sem];refine ax ?_;simp only[*,go_sem]
def qq (c:bX)(b:an)(i59:Nat)(a:bE)(st:Unit):Option (Fl Unit (List bE)):=
 cond (((a.spot.aL==c.place)&&((a.spot.high.num==b.num)&&(a.spot.high.den==b.den)))) (some (.br 1 ())) (some (.nx ()))
def qs (u0:aj)(c:bn)(i38:Nat)(a:bX)(st:(List bE)):Option (Fl (List bE) (List bE)):=
 ag (jl u0 a.place) fun d=>ag (fU a.dh) fun e=>ag (jO d e) fun b=>ag (bJ (qq a b) 0 st ()) fun o=>aF o (fun h=>ag (kI u0 c (i38:Int) (⟨a.place,b⟩:g8)) fun f=>ag (dc st ([f])) fun g=>some (.nx g)) (fun _ i=>some (.nx st)) (fun r=>some (.rt r))
def jQ (u0:aj)(a:bn):Option (List bE):=
 ag (bJ (qs u0 a) 0 u0.props ([]:List bE)) fun o=>aF o (fun b=>some b) (fun _ _=>none) (fun r=>some r)
theorem wB {ro:Addr->Option Value}(u0:aj){s1 O f g:Value}(w:bN ro u0 s1 O f g)(b:bn){r:(List bE)}(h:jQ u0 b=some r):eM Tryz.prog 106 #[bv u0 s1 O f g,.agg #[.int .i64 b.back,.int .i64 b.high]] ro (fun v aM=>∃P,v=P/\aA kG aM P r):=by
 obtain ⟨d10,o,rfl,fb,Q,-⟩:=id w.p;unfold jQ at h;refine aD.go Tryz.func106 rfl Tryz.ntmps106 Tryz.results106 (by simp) fun main J hJ A ba hd hs=>?_;have bb:=hs 0;have k1:=hs 1;clear hs;refine ah hJ ?_;simp only[*,go_sem];refine ay fun q bc bj=>?_;try simp only[au] at bj
 refine ay fun s bk bm=>?_;try simp only[au] at bm
 refine EP hJ (af hJ ?_);refine ak hJ ?_;simp only[*,go_sem];refine af hJ ?_;refine EO hJ ?_;refine af hJ (ah hJ ?_);simp only[*,go_sem];refine aO hJ ?_;revert h;refine bS fun bo i br=>?_;refine bU hJ (rg 15 36 [5,6,7,8,10]) (fun m y F'=>∃(i38:Nat) (d32:Option Addr) (t:Nat) (z:List (Nat×Obj)) (c:(List bE)),m=u0.props.length - i38/\i38<=u0.props.length/\bJ (qs u0 b) i38 (u0.props.drop i38) c=some bo/\F'=⟨ro,(s,.cells #[.int .i64 b.back,.int .i64 b.high] 118)::(q,bl u0 s1 (sl d10 u0.props o) f g)::z⟩/\aP kG ro 122 (.slice d32 c.length t) c z/\c.length<=t/\slot y 15= .int .i64 (i38:Int)/\slot y 5= .slice d32 c.length t) u0.props.length ?_ ?_
 .refine ⟨0,none,0,[],([]:List bE),(Nat.sub_zero _).symm,Nat.zero_le _,i,rfl,aP.nil _ _ _,Nat.le_refl _,?_⟩;simp only[*,go_sem]
 rintro fg bs F' R ⟨i38,d32,t,z,c,rfl,fi,i,rfl,u,bz,b0,b1⟩;obtain ⟨S,T,U⟩:=R.pick [2,3,4,13,14] (by decide);simp only[*,go_sem] at S T U;clear R ba hd bb k1;refine ah hJ ?_;simp only[*,go_sem];refine af hJ ?_;rcases Nat.lt_or_ge i38 u0.props.length with b2|V
 .refine b8 hJ ?_;refine aI hJ ?_;obtain ⟨d,B⟩:∃x,u0.props[i38]?=some x:=⟨_,List.getElem?_eq_getElem b2⟩
  rw[dg B] at i;revert i;refine bS fun fo h W=>?_;unfold qs at h;try dsimp only at h
  obtain ⟨C,b3,b4,b5,D⟩:=w.p.el _ _ B;obtain rfl:b3=d.cells:=b5;cases b4;have ca:=D 0 _ rfl;simp only[go_sem] at ca;have cb:=D 1 _ rfl;simp only[go_sem] at cb;clear D B;refine af hJ (aO hJ (af hJ ?_));refine aC hJ fun cd=>?_;refine ak hJ ?_;simp only[*,go_sem];refine ay fun E fp X=>?_;have fr:=aQ.cons X cd;try simp only[au] at X
  refine af hJ ?_;refine aC hJ fun cf=>?_;refine cP hJ mixed 11 3 (by simp only[*,go_sem]) (by kernel_rfl) ?_;revert h;refine bS fun cl cu h=>?_;simp only[*,go_sem];refine ⟨_,bD hJ fun F G=>Bv u0 (w.mono (bY G)) d.place cu,cn ?_⟩;revert h;refine bS fun cy cS h=>?_;simp only[*,go_sem];refine ⟨_,bD hJ fun F G=>jN d.dh cS,cn ?_⟩;revert h;refine bS fun e c0 h=>?_;simp only[*,go_sem];refine ⟨_,bD hJ fun F G=>qn cl cy c0,cn ?_⟩;simp only[*,go_sem];refine ay fun H fs Y=>?_;have ft:=aQ.cons Y cf;try simp only[au] at Y
  simp only[*,go_sem];refine af hJ (af hJ ?_);refine aC hJ fun fu=>?_;refine ak hJ ?_;simp only[*,go_sem];refine aO hJ ?_;revert h;refine bS fun da j Z=>?_;refine bU hJ (rg 33 9 [10]) (fun m y F'=>∃(i59:Nat),m=c.length - i59/\i59<=c.length/\bJ (qq d e) i59 (c.drop i59) ()=some da/\F'=⟨ro,(H,.cells #[.int .i64 d.place,.int .i64 e.num,.int .i64 e.den] 120)::(E,.cells #[.int .i64 d.place,.int .i64 d.dh] 70)::(s,.cells #[.int .i64 b.back,.int .i64 b.high] 118)::(q,bl u0 s1 (sl (some C) u0.props o) f g)::z⟩/\slot y 33= .int .i64 (i59:Int)) c.length ?_ ?_
  .refine ⟨0,(Nat.sub_zero _).symm,Nat.zero_le _,j,rfl,?_⟩;simp only[*,go_sem]
  rintro fv db F' I ⟨i59,rfl,fw,j,rfl,fx⟩;obtain ⟨dd,df,dk⟩:=I.pick [2,3,4,5,6,7,8,13,14,15,16,17,19,20,21,22,23,24,25,26,27,28,29,30,31,32] (by decide);simp only[*,go_sem] at dd df dk;have fz:cM (rg 15 36 [5,6,7,8,10]) db bs:=(I.gm (by decide)).trans (by simp only[*,go_sem]);clear I S T U b1 b0;refine ah hJ ?_;simp only[*,go_sem];refine af hJ ?_;rcases Nat.lt_or_ge i59 c.length with dp|ab
  .refine b8 hJ ?_;refine aI hJ ?_;obtain ⟨dq,K⟩:∃x,c[i59]?=some x:=⟨_,List.getElem?_eq_getElem dp⟩
   rw[dg K] at j;revert j;refine bS fun gg h L=>?_;unfold qq at h;(try dsimp only at h);refine aC hJ fun M=>?_;obtain ⟨ad,ds,gl,dt,du,rfl,gn,dv,k⟩:=u.elem K;obtain rfl:dt=dq.cells:=dv;cases du;replace M:=M.nd;simp only[keys,List.map_cons,List.map_nil,List.map_append,List.cons_append,List.nil_append,List.nodup_cons,List.mem_cons,List.mem_append,List.not_mem_nil,or_false,not_or] at M;have ae:=k 0 _ rfl;simp only[go_sem] at ae;have al:=k 1 _ rfl;simp only[go_sem] at al;have ao:=k 2 _ rfl;simp only[go_sem] at ao;have ar:=k 3 _ rfl;simp only[go_sem] at ar;have a0:=k 4 _ rfl;simp only[go_sem] at a0;have a2:=k 5 _ rfl;simp only[go_sem] at a2;clear k K;refine af hJ (aO hJ (af hJ ?_));refine aC hJ fun dC=>?_;refine ak hJ ?_;simp only[*,go_sem];refine ay fun gp gB a3=>?_;have gC:=aQ.cons a3 dC;try simp only[au] at a3
   refine af hJ ?_;refine aC hJ fun gM=>?_;refine ak hJ ?_;simp only[*,go_sem];revert h;refine aT hJ (fun dE h=>?_) fun dE h=>?_
   .obtain rfl:=sI h;refine bO ?_;simp only[go_sem];obtain rfl:=sI L;clear L;have h:=Z;dsimp only[aF] at h;obtain rfl:=sI h;clear ae al ao ar a0 a2;have dT:=cv (n:=i38) (by have:=Q;omega);refine ak hJ ?_;simp only[*,go_sem];refine ⟨u0.props.length - (i38+1),by omega,_,Le.sub (List.Sublist.cons _ (List.Sublist.cons _ (List.Sublist.cons _ (List.Sublist.refl _)))),i38+1,(some ⟨ad,0,none⟩),t,[(ad,Obj.cells ds 122)],c,rfl,by omega,W,rfl,u,bz,?_⟩;simp only[*,go_sem]
   obtain rfl:=sI h;refine aI hJ ?_;have gT:=cv (n:=i59) (by have:=u.bd;omega);refine ak hJ ?_;simp only[*,go_sem];refine ⟨c.length - (i59+1),by omega,_,Le.sub (List.Sublist.cons _ (List.Sublist.refl _)),i59+1,rfl,by omega,L,rfl,?_⟩;simp only[*,go_sem]
  have gV:=Nat.not_lt.2 ab;refine b6 hJ ?_;rw[List.drop_eq_nil_of_le ab] at j;obtain rfl:=sI j;clear j;have h:=Z;dsimp only[aF] at h;refine bO ?_;simp only[go_sem];refine aC hJ fun ea=>?_;refine ak hJ ?_;revert h;refine bS fun a eb h=>?_;simp only[*,go_sem];refine aU hJ _ (Bs u0 (w.mono aN) b (i38:Int) (⟨d.place,e⟩:g8) eb) (aJ ?_);revert h;refine bS fun ec ed h=>?_;obtain rfl:=sI h;obtain ⟨eh,a4⟩:=dr ed;simp only[*,go_sem];refine ay fun a5 et a6=>?_;have eu:=aQ.cons a6 ea;try simp only[au] at a6
  refine ek (r:=kG) (l:=c) (x:=a) (cs:=#[.int .i64 a.spot.aL,.int .i64 a.spot.high.num,.int .i64 a.spot.high.den,.int .i64 a.at_,.int .i64 a.high.num,.int .i64 a.high.den]) (e2:=122) [(a5,.cells #[.int .i64 a.spot.aL,.int .i64 a.spot.high.num,.int .i64 a.spot.high.den,.int .i64 a.at_,.int .i64 a.high.num,.int .i64 a.high.den] 122),(H,.cells #[.int .i64 d.place,.int .i64 e.num,.int .i64 e.den] 120),(E,.cells #[.int .i64 d.place,.int .i64 d.dh] 70),(s,.cells #[.int .i64 b.back,.int .i64 b.high] 118),(q,bl u0 s1 (sl (some C) u0.props o) f g)] [] u eu eh rfl (by simp only[*,go_sem]) et rfl rfl nU nU vS vU rfl vT (by decide) (by decide) (fun g0 a7 N ev eQ g1=>?_);simp only[aS] at eQ;subst ev;rw[<-a4] at N;clear a4;obtain ⟨d83,eS,rfl,e0⟩:=N.len;refine ⟨⟨ro,(a5,.cells #[.int .i64 a.spot.aL,.int .i64 a.spot.high.num,.int .i64 a.spot.high.den,.int .i64 a.at_,.int .i64 a.high.num,.int .i64 a.high.den] 122)::(H,.cells #[.int .i64 d.place,.int .i64 e.num,.int .i64 e.den] 120)::(E,.cells #[.int .i64 d.place,.int .i64 d.dh] 70)::(s,.cells #[.int .i64 b.back,.int .i64 b.high] 118)::(q,bl u0 s1 (sl (some C) u0.props o) f g)::a7⟩,Le.refl _,?_⟩;refine aJ ?_;simp only[*,go_sem];have dT:=cv (n:=i38) (by have:=Q;omega);refine ak hJ ?_;simp only[*,go_sem];refine ⟨u0.props.length - (i38+1),by omega,_,Le.sub (List.Sublist.cons _ (List.Sublist.cons _ (List.Sublist.cons _ (List.Sublist.refl _)))),i38+1,d83,eS,a7,ec,rfl,by omega,W,rfl,N,e0,?_⟩;simp only[*,go_sem]
 have g2:=Nat.not_lt.2 V;refine b6 hJ ?_;rw[List.drop_eq_nil_of_le V] at i;obtain rfl:=sI i;clear i;have h:=br;dsimp only[aF] at h;obtain rfl:=sI h;refine bO ?_;simp only[go_sem];refine af hJ ?_;refine aC hJ fun g3=>?_;refine ak hJ ?_;simp only[*,go_sem];refine aC hJ fun a8=>?_;obtain ⟨g4,e1,e3,a9,fa⟩:=u.eX [(s,.cells #[.int .i64 b.back,.int .i64 b.high] 118),(q,bl u0 s1 (sl d10 u0.props o) f g)] [] a8 (aE.cons bk (aE.cons bc (aE.nil _)));clear a8;refine cz hJ fa ?_;obtain ⟨ha,hc,-⟩:=a9.op;simp only[bu] at e3;refine ax ?_;simp only[*,go_sem];exact ⟨_,e1,Le.sub (List.nil_sublist _),_,rfl,a9⟩
def mR (i54:Nat)(a:bE)(st:an):Option (Fl an an):=
 ag (fV eB st ([a.high])) fun b=>some (.nx b)
def mS (i100:Nat)(a:bE)(st:an):Option (Fl an an):=
 ag (fV eB st ([a.high])) fun b=>some (.nx b)
def kK (u0:aj)(a:bn):Option an:=
 ag (fU u0.bM) fun b=>ag (lI u0 a) fun c=>ag (eB c.high b) fun d=>cond (d) (ag (jQ u0 a) fun e=>ag (bJ (mR) 0 e c.high) fun o=>aF o (fun f=>ag (jP b f) fun g=>ag (fU 0) fun h=>ag (fV eB g ([h])) fun i=>some i) (fun _ _=>none) (fun r=>some r)) (ag (jQ u0 a) fun j=>ag (bJ (mS) 0 j b) fun o=>aF o (fun k=>ag (jP c.high k) fun l=>ag (fU 0) fun m=>ag (fV eB l ([m])) fun n=>some n) (fun _ _=>none) (fun r=>some r))
theorem sV {ro:Addr->Option Value}(u0:aj){s1 p q s:Value}(t:bN ro u0 s1 p q s)(a:bn){r:an}(h:kK u0 a=some r):aD Tryz.prog 113 #[bv u0 s1 p q s,.agg #[.int .i64 a.back,.int .i64 a.high]] ⟨ro,[]⟩ (fun v _=>v=r.v):=by
 unfold kK at h;refine aD.go Tryz.func113 rfl Tryz.ntmps113 Tryz.results113 (by simp) fun main J hJ A O hd hs=>?_;have P:=hs 0;have k1:=hs 1;clear hs;refine ah hJ ?_;simp only[*,go_sem];refine ay fun D fr al=>?_;try simp only[au] at al
 refine ay fun E fs ao=>?_;try simp only[au] at ao
 refine ay fun G ft ar=>?_;try simp only[au] at ar
 refine af hJ ?_;refine AV hJ mixed 8 ⟨ro,[(G,rt 0 0),(E,.cells #[.int .i64 a.back,.int .i64 a.high] 118),(D,bl u0 s1 p q s)]⟩ (by simp only[*,go_sem]) (by kernel_rfl) 23 rfl AH ?_;revert h;refine bS fun u a0 h=>?_;simp only[*,go_sem];refine ⟨_,bD hJ fun F Q=>jN u0.bM a0,cn ?_⟩;revert h;refine bS fun w a2 h=>?_;simp only[*,go_sem];refine ⟨_,bD hJ fun F Q=>sU u0 (t.mono (bY Q)) a a2,cn ?_⟩;simp only[*,go_sem];refine ay fun R fu a3=>?_;try simp only[au] at a3
 simp only[*,go_sem];refine ay fun S fv a4=>?_;try simp only[au] at a4
 simp only[*,go_sem];refine af hJ (ah hJ ?_);revert h;refine bS fun fw a5 h=>?_;simp only[*,go_sem];refine aU hJ _ (ji w.high u a5) ?_;revert h;refine aT hJ (fun a6 h=>?_) fun a6 h=>?_
 .refine ak hJ ?_;simp only[*,go_sem];refine af hJ (ah hJ ?_);revert h;refine bS fun b a7 h=>?_;simp only[*,go_sem];refine b9 hJ _ (wB u0 t a a7) fun v a8 a9 ba H=>?_;obtain ⟨fx,rfl,T⟩:=H;replace t:=t.mono a9;simp only[bu] at ba;obtain ⟨d48,fz,rfl,gg,bb,-⟩:=id T;refine aJ ?_;simp only[*,go_sem];refine aO hJ ?_;revert h;refine bS fun bc c bd=>?_;refine bU hJ (rg 26 10 [8]) (fun m I F'=>∃(i54:Nat) (l:an),m=b.length - i54/\i54<=b.length/\bJ (mR) i54 (b.drop i54) l=some bc/\F'=⟨a8,(S,rt u.num u.den)::(R,rt l.num l.den)::(G,rt 0 0)::(E,.cells #[.int .i64 a.back,.int .i64 a.high] 118)::(D,bl u0 s1 p q s)::[]⟩/\slot I 26= .int .i64 (i54:Int)) b.length ?_ ?_
  .refine ⟨0,w.high,(Nat.sub_zero _).symm,Nat.zero_le _,c,rfl,?_⟩;simp only[*,go_sem]
  rintro gl gn F' U ⟨i54,l,rfl,gp,c,rfl,gB⟩;obtain ⟨bj,bk,bm⟩:=U.pick [4,5,6,24,25] (by decide);simp only[*,go_sem] at bj bk bm;clear U O hd P k1;refine ah hJ ?_;simp only[*,go_sem];refine af hJ ?_;rcases Nat.lt_or_ge i54 b.length with bo|V
  .refine b8 hJ ?_;refine aI hJ ?_;obtain ⟨y,K⟩:∃x,b[i54]?=some x:=⟨_,List.getElem?_eq_getElem bo⟩
   rw[dg K] at c;revert c;refine bS fun gC h br=>?_;unfold mR at h;(try dsimp only at h);obtain ⟨gM,bs,bz,b0,d⟩:=T.el _ _ K;obtain rfl:bs=y.cells:=b0;cases bz;have b1:=d 0 _ rfl;simp only[go_sem] at b1;have b2:=d 1 _ rfl;simp only[go_sem] at b2;have b3:=d 2 _ rfl;simp only[go_sem] at b3;have b4:=d 3 _ rfl;simp only[go_sem] at b4;have b5:=d 4 _ rfl;simp only[go_sem] at b5;have ca:=d 5 _ rfl;simp only[go_sem] at ca;clear d K;refine af hJ (aO hJ (af hJ ?_));refine ak hJ ?_;simp only[*,go_sem];refine ay fun gT gV cb=>?_;try simp only[au] at cb
   refine aC hJ fun cd=>?_;refine ak hJ ?_;revert h;refine bS fun cf cl h=>?_;obtain rfl:=sI h;simp only[*,go_sem];refine ay fun g0 cu W=>?_;have g1:=aQ.cons W cd;try simp only[au] at W
   refine aU hJ _ (n8 (dO:=75) (en:=#[]) (eo:=#[]) eB ⟨by simp only[go_sem],fun L M f g _ h=>by simp only[go_sem];exact ji f g h⟩ l ([y.high]) ((aA.flat (r:=lC) (e:=23) (cs:=#[.int .i64 y.high.num,.int .i64 y.high.den]) an.cells ([y.high]) (fun _=>rfl) cu rfl (by simp)).mono (kA (by simp only[*,go_sem]))) cl) (aJ ?_);simp only[*,go_sem];have g2:=cv (n:=i54) (by have:=bb;omega);refine ak hJ ?_;simp only[*,go_sem];refine ⟨b.length - (i54+1),by omega,_,Le.sub (List.Sublist.cons _ (List.Sublist.cons _ (List.Sublist.refl _))),i54+1,cf,rfl,by omega,br,rfl,?_⟩;simp only[*,go_sem]
  have g3:=Nat.not_lt.2 V;refine b6 hJ ?_;rw[List.drop_eq_nil_of_le V] at c;obtain rfl:=sI c;clear c;have h:=bd;dsimp only[aF] at h;refine bO ?_;simp only[go_sem];refine af hJ ?_;refine aC hJ fun cy=>?_;refine ak hJ ?_;revert h;refine bS fun cS c0 h=>?_;simp only[*,go_sem];refine aU hJ _ (qo u l c0) (aJ ?_);revert h;refine bS fun B da h=>?_;simp only[*,go_sem];refine aU hJ _ (jN 0 da) (aJ ?_);revert h;refine bS fun g4 db h=>?_;obtain rfl:=sI h;simp only[*,go_sem];refine ay fun ha dd X=>?_;have hc:=aQ.cons X cy;try simp only[au] at X
  refine aU hJ _ (n8 (dO:=75) (en:=#[]) (eo:=#[]) eB ⟨by simp only[go_sem],fun L M f g _ h=>by simp only[go_sem];exact ji f g h⟩ cS ([B]) ((aA.flat (r:=lC) (e:=23) (cs:=#[.int .i64 B.num,.int .i64 B.den]) an.cells ([B]) (fun _=>rfl) dd rfl (by simp)).mono (kA (by simp only[*,go_sem]))) db) (aJ ?_);simp only[*,go_sem];refine ax ?_;simp only[*,go_sem]
 refine aI hJ (af hJ ?_);refine ah hJ ?_;revert h;refine bS fun i df h=>?_;simp only[*,go_sem];refine b9 hJ _ (wB u0 t a df) fun v dk hf dp H=>?_;obtain ⟨hg,rfl,Y⟩:=H;simp only[bu] at dp;obtain ⟨d94,hh,rfl,hi,dq,-⟩:=id Y;refine aJ ?_;simp only[*,go_sem];refine aO hJ ?_;revert h;refine bS fun ds j dt=>?_;refine bU hJ (rg 26 10 [8]) (fun m I F'=>∃(i100:Nat) (o:an),m=i.length - i100/\i100<=i.length/\bJ (mS) i100 (i.drop i100) o=some ds/\F'=⟨dk,(S,rt w.high.num w.high.den)::(R,rt o.num o.den)::(G,rt 0 0)::(E,.cells #[.int .i64 a.back,.int .i64 a.high] 118)::(D,bl u0 s1 p q s)::[]⟩/\slot I 26= .int .i64 (i100:Int)) i.length ?_ ?_
 .refine ⟨0,u,(Nat.sub_zero _).symm,Nat.zero_le _,j,rfl,?_⟩;simp only[*,go_sem]
 rintro hj hk F' Z ⟨i100,o,rfl,hl,j,rfl,hn⟩;obtain ⟨du,dv,dC⟩:=Z.pick [4,5,6,24,25] (by decide);simp only[*,go_sem] at du dv dC;clear Z O hd P k1;refine ah hJ ?_;simp only[*,go_sem];refine af hJ ?_;rcases Nat.lt_or_ge i100 i.length with dE|ab
 .refine b8 hJ ?_;refine aI hJ ?_;obtain ⟨z,N⟩:∃x,i[i100]?=some x:=⟨_,List.getElem?_eq_getElem dE⟩
  rw[dg N] at j;revert j;refine bS fun ho h dT=>?_;unfold mS at h;try dsimp only at h
  obtain ⟨hp,ea,eb,ec,k⟩:=Y.el _ _ N;obtain rfl:ea=z.cells:=ec;cases eb;have ed:=k 0 _ rfl;simp only[go_sem] at ed;have eh:=k 1 _ rfl;simp only[go_sem] at eh;have et:=k 2 _ rfl;simp only[go_sem] at et;have eu:=k 3 _ rfl;simp only[go_sem] at eu;have ev:=k 4 _ rfl;simp only[go_sem] at ev;have eQ:=k 5 _ rfl;simp only[go_sem] at eQ;clear k N;refine af hJ (aO hJ (af hJ ?_));refine ak hJ ?_;simp only[*,go_sem];refine ay fun hq hr eS=>?_;try simp only[au] at eS
  refine aC hJ fun e0=>?_;refine ak hJ ?_;revert h;refine bS fun e1 e2 h=>?_;obtain rfl:=sI h;simp only[*,go_sem];refine ay fun ht e3 ad=>?_;have hv:=aQ.cons ad e0;try simp only[au] at ad
  refine aU hJ _ (n8 (dO:=75) (en:=#[]) (eo:=#[]) eB ⟨by simp only[go_sem],fun L M f g _ h=>by simp only[go_sem];exact ji f g h⟩ o ([z.high]) ((aA.flat (r:=lC) (e:=23) (cs:=#[.int .i64 z.high.num,.int .i64 z.high.den]) an.cells ([z.high]) (fun _=>rfl) e3 rfl (by simp)).mono (kA (by simp only[*,go_sem]))) e2) (aJ ?_);simp only[*,go_sem];have hx:=cv (n:=i100) (by have:=dq;omega);refine ak hJ ?_;simp only[*,go_sem];refine ⟨i.length - (i100+1),by omega,_,Le.sub (List.Sublist.cons _ (List.Sublist.cons _ (List.Sublist.refl _))),i100+1,e1,rfl,by omega,dT,rfl,?_⟩;simp only[*,go_sem]
 have hy:=Nat.not_lt.2 ab;refine b6 hJ ?_;rw[List.drop_eq_nil_of_le ab] at j;obtain rfl:=sI j;clear j;have h:=dt;dsimp only[aF] at h;refine bO ?_;simp only[go_sem];refine af hJ ?_;refine aC hJ fun fa=>?_;refine ak hJ ?_;revert h;refine bS fun fb fg h=>?_;simp only[*,go_sem];refine aU hJ _ (qo w.high o fg) (aJ ?_);revert h;refine bS fun C fi h=>?_;simp only[*,go_sem];refine aU hJ _ (jN 0 fi) (aJ ?_);revert h;refine bS fun hz fo h=>?_;obtain rfl:=sI h;simp only[*,go_sem];refine ay fun hA fp ae=>?_;have hB:=aQ.cons ae fa;try simp only[au] at ae
 refine aU hJ _ (n8 (dO:=75) (en:=#[]) (eo:=#[]) eB ⟨by simp only[go_sem],fun L M f g _ h=>by simp only[go_sem];exact ji f g h⟩ fb ([C]) ((aA.flat (r:=lC) (e:=23) (cs:=#[.int .i64 C.num,.int .i64 C.den]) an.cells ([C]) (fun _=>rfl) fp rfl (by simp)).mono (kA (by simp only[*,go_sem]))) fo) (aJ ?_);simp only[*,go_sem];refine ax ?_;simp only[*,go_sem]
def gv (u0:aj)(a:bn):Option Bool:=
 ag (kK u0 a) fun b=>ag (eB u0.aV b) fun c=>some c
theorem mT {ro:Addr->Option Value}(u0:aj){s1 b c d:Value}(f:bN ro u0 s1 b c d)(a:bn){r:Bool}(h:gv u0 a=some r):aD Tryz.prog 92 #[bv u0 s1 b c d,.agg #[.int .i64 a.back,.int .i64 a.high]] ⟨ro,[]⟩ (fun v _=>v= .bool r):=by
 unfold gv at h;refine aD.go Tryz.func92 rfl Tryz.ntmps92 Tryz.results92 (by simp) fun main J hJ A m hd hs=>?_;have n:=hs 0;have k1:=hs 1;clear hs;refine ah hJ ?_;simp only[*,go_sem];refine ay fun o p g=>?_;try simp only[au] at g
 refine ay fun q s i=>?_;try simp only[au] at i
 refine af hJ ?_;refine cP hJ mixed 8 2 (by simp only[*,go_sem]) (by kernel_rfl) ?_;revert h;refine bS fun j k h=>?_;simp only[*,go_sem];refine ⟨_,bD hJ fun F e=>sV u0 (f.mono (bY e)) a k,cn ?_⟩;revert h;refine bS fun t l h=>?_;obtain rfl:=sI h;simp only[*,go_sem];refine ⟨_,bD hJ fun F e=>ji u0.aV j l,cn ?_⟩;simp only[*,go_sem];refine ax ?_;simp only[*,go_sem]
end Go.Proofs.YtghbphimkgamkaaGreatDoor
end

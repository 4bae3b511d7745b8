/- A part of the proof of a row and its tied card: QO3. -/
import Derived.Test.YtghbphimkgamkaaGreatDoorQO2
set_option linter.all false
section
namespace Go.Sep
open Go Go.Conc
theorem sE:∀{pre bq:List (Nat×Obj)} {b:Nat} {o:Obj},av pre b->lk (pre++((b,o)::bq)) b=some o
 |[],bq,b,o,_=>by simp[lk]
 |(c,x)::pre,bq,b,o,h=>by
  have a:¬c=b:=fun e=>h.1 e.symm
  simp[lk,a,sE h.2]
theorem AS:∀{pre bq:List (Nat×Obj)} {b:Nat} {o x:Obj},av pre b->iW (pre++((b,o)::bq)) b x=pre++((b,x)::bq)
 |[],bq,b,o,x,_=>by simp[iW]
 |(c,y)::pre,bq,b,o,x,h=>by
  have a:¬c=b:=fun e=>h.1 e.symm
  simp[iW,a,AS h.2]
theorem v5 {ro:Addr->Option Value}{pre bq:List (Nat×Obj)}{b:Nat}{e:TypeId}(c:av pre b)(o:Nat):∀(a:List Value) (arr:Array Value) (i:Nat),(∀v∈a,bF v=true)->o+i+a.length<=arr.size->
  aa.jF ⟨ro,pre++((b,.cells arr e)::bq)⟩ ⟨b,o,none⟩ i a=some ⟨ro,pre++((b,.cells (cJ arr (o+i) a) e)::bq)⟩
 |[],arr,i,_,_=>rfl
 |v::a,arr,i,d,h=>by
  simp only[List.length_cons] at h
  have f:(⟨b,o,none⟩:Addr).add i=⟨b,o+i,none⟩:=by
   unfold Addr.add
   split
   .rename_i hi;subst hi;rfl
   .rfl
  unfold aa.jF
  have:aa.lX ⟨ro,pre++((b,.cells arr e)::bq)⟩ ((⟨b,o,none⟩:Addr).add i) v=some ⟨ro,pre++((b,.cells (arr.setIfInBounds (o+i) v) e)::bq)⟩:=by
   have g:o+i<arr.size:=by omega
   simp[aa.lX,f,sE c,d v (by simp),g,frozenAt,aa.put,AS c]
  rw[this]
  simp only
  rw[v5 c o a _ (i+1) (fun x j=>d x (by simp[j])) (by simp;omega)]
  rw[cJ]
  congr 1
theorem AT {ro:Addr->Option Value}{pre bq:List (Nat×Obj)}{b:Nat}{e:TypeId}{arr:Array Value}(a:av pre b)(c:∀off sp,ro ⟨b,off,sp⟩=none):∀(n i:Nat),i+n<=arr.size->
  aa.dn ⟨ro,pre++((b,.cells arr e)::bq)⟩ ⟨b,0,none⟩ i n=some ((arr.toList.drop i).take n)
 |0,i,_=>by simp[aa.dn]
 |n+1,i,h=>by
  have f:(⟨b,0,none⟩:Addr).add i=⟨b,i,none⟩:=by
   unfold Addr.add
   split
   .rename_i hi;subst hi;rfl
   .simp
  have d:i<arr.size:=by omega
  unfold aa.dn
  have ih:=AT (e:=e) (arr:=arr) (bq:=bq) a c n (i+1) (by omega)
  simp only[aa.get,f,c,if_true,sE a,Option.bind_some,cellOf,Array.getElem?_eq_getElem d,ih]
  have g:i<arr.toList.length:=by simpa using d
  rw[List.drop_eq_getElem_cons g,List.take_succ_cons]
  simp
theorem Gr.F9 {ro:Addr->Option Value}{e:TypeId}{size:Nat}{v:Value}{l:List (List Value)}{aW pre bq:List (Nat×Obj)}(h:Gr ro e size v l aW)(a:∀k∈keys aW,av pre k):
  Go.Sep.gk ⟨ro,pre++(aW++bq)⟩ size v=some l.flatten:=by
 rcases h with ⟨rfl,rfl,rfl⟩|⟨b,arr,cap,rfl,rfl,hs,c,ht,f,d⟩
 .rfl
 .simp only[Go.Sep.gk,List.cons_append,List.nil_append]
  have hle:l.length*size<=arr.size:=by rw[hs];exact Nat.mul_le_mul_right _ c
  rw[AT (a b (by simp[keys])) d _ _ (by omega)]
  simp[ht]
theorem Le.ps {ro:Addr->Option Value}{l m l':List (Nat×Obj)}(e:l.Perm m)(hs:m.Sublist l'):Le ⟨ro,l⟩ ⟨ro,l'⟩:=by
 have c:(keys m).Sublist (keys l'):=hs.map _;have d:(keys l).Perm (keys m):=e.map _;exact ⟨fun w hw=>⟨hw.ro,fun b o hb=>hw.own b o (hs.subset (e.subset hb)),d.nodup_iff.2 (c.nodup hw.nodup),fun a v f hm=>hw.apart a v f (c.subset (d.subset hm))⟩,fun b hb=>c.subset (d.subset hb),fun a g=>.inl g⟩
structure aR (ks:List Nat):Prop where
 nd:ks.Nodup
abbrev Nd (l:List (Nat×Obj)):Prop:=(keys l).Nodup
theorem Nd.fresh {pre aW bq:List (Nat×Obj)}(h:Nd (pre++(aW++bq))):∀k∈keys aW,av pre k:=fun k a=>by
 refine mo fun hm=>?_
 simp only[Nd,cp] at h
 exact (List.nodup_append.1 h).2.2 k hm k (List.mem_append_left _ a) rfl
theorem Nd.push {l:List (Nat×Obj)}{b:Nat}{o:Obj}(h:Nd l)(hb:av l b):Nd ((b,o)::l):=by
 simp only[Nd,keys,List.map_cons,List.nodup_cons];exact ⟨k4 hb,h⟩
theorem Nd.drop {pre aW bq:List (Nat×Obj)}(h:Nd (pre++(aW++bq))):Nd (pre++bq):=
 ((List.Sublist.append_left (List.sublist_append_right aW bq) pre).map _).nodup h
theorem Nd.ins {pre aW bq:List (Nat×Obj)}{b:Nat}{o:Obj}(h:Nd (pre++(aW++bq)))(hb:av (pre++(aW++bq)) b):Nd (pre++([(b,o)]++bq)):=by
 have a:Nd ((b,o)::(pre++bq)):=h.drop.push (mo fun hm=>k4 hb (((List.Sublist.append_left (List.sublist_append_right aW bq) pre).map _).subset hm));have:(pre++([(b,o)]++bq)).Perm ((b,o)::(pre++bq)):=List.perm_middle;exact (this.map _).nodup_iff.2 a
section
variable {P : Program}
theorem AU {ro:Addr->Option Value}{pre aW bq:List (Nat×Obj)}{R:Value->aa->Prop}{argTypes:Array TypeId}{ty B C e Q:TypeId}{size p n c:Nat}{D:Option Addr}{s z:Value}{l xs:List (List Value)}
  (E:argTypes[0]?=some B) (G:argTypes[1]?=some C) (he:c8 P B=some e) (d:c8 P C=some Q) (hs:bY P e=some size) (H:zeroOf P e=some z) (S:z.cells.size=size) (hb:bytesOf P e=some p)
  (I:0<p) (J:p<=10000) (hg:Gr ro e size s l aW) (j:Nd (pre++(aW++bq))) (T:n=xs.length) (K:∀x∈xs,x.length=size/\∀v∈x,bF v=true) (L:gk ⟨ro,pre++(aW++bq)⟩ size (.slice D n c)=some xs.flatten)
  (M:l.length+xs.length<=1000000)
  (q:∀v r,Gr ro e size v (l++xs) r->Nd (pre++(r++bq))->∃F0,Le F0 ⟨ro,pre++(r++bq)⟩/\R v F0):
  aX P (Builtin.append_ argTypes ty #[s,.slice D n c]) (fun v F=>∃F0,Le F0 F/\R v F0) ⟨ro,pre++(aW++bq)⟩:=by
 subst T
 have N:=j.fresh
 have hold:=hg.F9 (bq:=bq) N
 have t:∀x∈xs,x.length=size:=fun x h=>(K x h).1
 have a:=iC t
 have out:∀(k b:Nat) (old:List Value),old=l.flatten->(∀x∈l,x.length=size)->l.length+xs.length<=k->dV ⟨ro,pre++(aW++bq)⟩ b->
   ∃F0,Le F0 (aa.push ⟨ro,pre++(aW++bq)⟩ b (.cells (old.toArray++xs.flatten.toArray++Builtin.zeroCells z.cells (k - (l.length+xs.length))) e))/\R (.slice (some ⟨b,0,none⟩) (l.length+xs.length) k) F0:=by
  intro k b old U u i f
  subst U
  have w:=iC u
  have y:=q (.slice (some ⟨b,0,none⟩) (l.length+xs.length) k) [(b,.cells (l.flatten.toArray++xs.flatten.toArray++Builtin.zeroCells z.cells (k - (l.length+xs.length))) e)] (.inr ⟨b,_,k,by simp,rfl,?_,by simpa using i,?_,?_,f.ro⟩) (j.ins f.own)
  .obtain ⟨F0,hle,y⟩:=y
   refine ⟨F0,hle.trans ?_,y⟩
   exact Le.ps (m:=(b,.cells (l.flatten.toArray++xs.flatten.toArray++Builtin.zeroCells z.cells (k - (l.length+xs.length))) e)::(pre++bq)) List.perm_middle (.cons₂ _ (List.Sublist.append_left (List.sublist_append_right aW bq) pre))
  .simp only[Array.size_append,List.size_toArray,Builtin.zeroCells,Array.size_map,Array.size_range,w,a,S]
   rw[<-Nat.add_mul,<-Nat.add_mul]
   congr 1;omega
  .simp only[Array.toList_append,List.length_append,List.flatten_append]
   rw[List.take_append_of_le_length (by simp[w,a,Nat.add_mul])]
   rw[List.take_of_length_le (by simp[w,a,Nat.add_mul])]
  .intro x d
   rcases List.mem_append.1 d with h|h
   .exact u x h
   .exact t x h
 rcases id hg with ⟨rfl,rfl,rfl⟩|⟨b,arr,cap,rfl,rfl,A,u,ht,o,V⟩
 .refine vF E G he d hs H hb I J (by simpa using M) hold L (fun g=>.inr ⟨rfl,?_⟩) (fun g k b i f=>?_)
  .have:xs=[]:=List.eq_nil_of_length_eq_zero (by omega)
   subst this
   exact q _ _ (.inl ⟨rfl,rfl,rfl⟩) j
  .have:=out k b [] rfl (by simp) (by simpa using i) f
   simpa using this
 .refine vF E G he d hs H hb I J M hold L (fun g=>.inl ⟨_,⟨ro,pre++([(b,.cells (cJ arr (l.length*size) xs.flatten) e)]++bq)⟩,rfl,?_,?_⟩) (fun g k W i f=>out k W _ rfl o i f)
  .have X:(⟨b,0,none⟩:Addr).add (l.length*size)=⟨b,l.length*size,none⟩:=by
    unfold Addr.add
    split
    .rename_i hi;rw[hi]
    .simp
   rw[X]
   have O:l.length*size+xs.length*size<=arr.size:=by rw[A,<-Nat.add_mul];exact Nat.mul_le_mul_right _ g
   have:=v5 (ro:=ro) (e:=e) (bq:=bq) (N b (by simp[keys])) (l.length*size) xs.flatten arr 0 (fun v Y=>by
    obtain ⟨x,Z,ab⟩:=List.mem_flatten.1 Y
    exact (K x Z).2 v ab) (by rw[a];omega)
   simpa using this
  .refine q _ _ (.inr ⟨b,_,cap,by simp,rfl,by rw[r8];exact A,by simpa using g,?_,?_,V⟩) (by simpa [Nd,keys] using j)
   .have O:l.length*size+xs.length*size<=arr.size:=by rw[A,<-Nat.add_mul];exact Nat.mul_le_mul_right _ g
    rw[r9 _ _ _ (by rw[a];exact O),ht,List.length_append,List.flatten_append,a]
    rw[List.take_append_of_le_length (by simp[iC o,a,Nat.add_mul])]
    rw[List.take_of_length_le (by simp[iC o,a,Nat.add_mul])]
   .intro x d
    rcases List.mem_append.1 d with h|h
    .exact o x h
    .exact t x h
theorem AV:∀{pre own:List (Nat×Obj)} {b:Nat} {o:Obj},lk pre b=some o->lk (pre++own) b=some o
 |(c,x)::pre,own,b,o,h=>by
  simp only[List.cons_append,lk] at h ⊢
  split
  .rename_i a;rw[if_pos a] at h;exact h
  .rename_i a;rw[if_neg a] at h;exact AV h
theorem AW {ro:Addr->Option Value}{own:List (Nat×Obj)}{b:Nat}{cs:Array Value}{e:TypeId}(a:lk own b=some (.cells cs e))(c:∀off sp,ro ⟨b,off,sp⟩=none):∀n i,i+n<=cs.toList.length->aa.dn ⟨ro,own⟩ ⟨b,0,none⟩ i n=some ((cs.toList.drop i).take n)
 |0,i,_=>by simp[aa.dn]
 |n+1,i,hi=>by
  have d:i<cs.toList.length:=by omega
  unfold aa.dn
  have f:(⟨b,0,none⟩:Addr).add i=⟨b,i,none⟩:=by
   unfold Addr.add
   split
   .rename_i hi;subst hi;rfl
   .simp
  have g:i<cs.size:=by simpa using d
  simp only[aa.get,f,c,if_true,a,Option.bind_some,cellOf,Array.getElem?_eq_getElem g,AW a c n (i+1) (by omega)]
  rw[List.drop_eq_getElem_cons d,List.take_succ_cons]
  simp
theorem aO.more {T:Type}{r:b7 T}{ro:Addr->Option Value}{e:TypeId}{l xs:List T}{ls ys:List (List Value)}{v:Value}{a:List (Nat×Obj)}(hg:Gr ro e r.n v (ls++ys) a)(b:ls.length=l.length)(c:ys.length=xs.length)
  (d:∀(i:Nat) (x:T),l[i]?=some x->∃cs:List Value,ls[i]?=some cs/\r.rel ro x cs) (f:∀(i:Nat) (x:T),xs[i]?=some x->∃cs:List Value,ys[i]?=some cs/\r.rel ro x cs) (g:l.length+xs.length<=1000000):aO r ro e v (l++xs) a:=by
 refine ⟨_,hg,by simp[b,c],by simpa using g,fun i y hi=>?_⟩
 rcases Nat.lt_or_ge i l.length with h|h
 .rw[List.getElem?_append_left h] at hi
  rw[List.getElem?_append_left (by omega)]
  exact d i y hi
 .rw[List.getElem?_append_right h] at hi
  rw[List.getElem?_append_right (by omega),b]
  exact f _ y hi
theorem AX {T:Type}{r:b7 T}{ro:Addr->Option Value}{aW:List (Nat×Obj)}{R:Value->aa->Prop}{argTypes:Array TypeId}{g h e p e2:TypeId}{b c:Nat}{s z:Value}{l:List T}{x:T}{cs:Array Value}{own:List (Nat×Obj)}(pre bq:List (Nat×Obj))(q:own=pre++(aW++bq))
  (hg:aO r ro e s l aW) (t:aR (keys own)) (j:l.length+[x].length<=1000000) (d:r.rel ro x cs.toList) (u:lk pre c=some (.cells cs e2)) (w:∀off sp,ro ⟨c,off,sp⟩=none)
  (A:argTypes[0]?=some g) (B:argTypes[1]?=some h) (he:c8 P g=some e) (C:c8 P h=some p) (hs:bY P e=some r.n) (D:zeroOf P e=some z) (E:z.cells.size=r.n) (hb:bytesOf P e=some b)
  (F:0<b) (G:b<=10000)
  (H:∀v a,aO r ro e v (l++[x]) a->∀f,f=pre++(a++bq)->aR (keys f)->∃F0,Le F0 ⟨ro,f⟩/\R v F0):me P argTypes s (.slice (some ⟨c,0,none⟩) 1 1) R ⟨ro,own⟩:=by
 subst q
 obtain ⟨ls,I,k,hm,J⟩:=hg
 have K:=t.nd
 intro ty
 have hlen:cs.toList.length=r.n:=r.len d
 refine AU (xs:=[cs.toList]) (e:=e) (size:=r.n) (z:=z) (l:=ls) A B he C hs D E hb F G I K rfl (fun y o=>?_) ?_ (by simpa [k] using j) (fun v a L M=>H v a (aO.more L k rfl J (fun i y hi=>?_) j) _ rfl ⟨M⟩)
 .simp only[List.mem_singleton] at o;subst o;exact ⟨hlen,r.one d⟩
 .simp only[gk,Nat.one_mul]
  rw[AW (AV u) w _ _ (by omega)]
  rw[List.drop_zero,List.take_of_length_le (by omega)]
  simp
 .cases i with
  |zero=>simp at hi;subst hi;exact ⟨cs.toList,rfl,d⟩
  |succ m=>simp at hi
theorem Ga {T:Type}{r:b7 T}{ro:Addr->Option Value}{aW:List (Nat×Obj)}{R:Value->aa->Prop}{argTypes:Array TypeId}{g i e m:TypeId}{d c:Nat}{ad:Option Addr}{s z:Value}{l xs:List T}{own:List (Nat×Obj)}(pre bq:List (Nat×Obj))(o:own=pre++(aW++bq))
  (hg:aO r ro e s l aW) (p:aR (keys own)) (j:l.length+xs.length<=1000000) (q:az r ro (.slice ad xs.length c) xs)
  (t:argTypes[0]?=some g) (u:argTypes[1]?=some i) (he:c8 P g=some e) (w:c8 P i=some m) (hs:bY P e=some r.n) (x:zeroOf P e=some z) (y:z.cells.size=r.n) (hb:bytesOf P e=some d)
  (A:0<d) (B:d<=10000)
  (C:∀v b,aO r ro e v (l++xs) b->∀f,f=pre++(b++bq)->aR (keys f)->∃F0,Le F0 ⟨ro,f⟩/\R v F0):me P argTypes s (.slice ad xs.length c) R ⟨ro,own⟩:=by
 subst o
 obtain ⟨ls,D,k,hm,E⟩:=hg
 have F:=p.nd
 intro ty
 obtain ⟨G,k1,H,I,J⟩:=q.cells ⟨ro,pre++(aW++bq)⟩ (fun a v h=>by simp[aa.get,h])
 exact AU (xs:=G) (e:=e) (size:=r.n) (z:=z) (l:=ls) t u he w hs x y hb A B D F k1.symm H J (by rw[k,k1];exact j) (fun v b K L=>C v b (aO.more K k k1 E I j) _ rfl ⟨L⟩)
theorem aO.k9 {T:Type}{r:b7 T}{ro:Addr->Option Value}{e:TypeId}{v:Value}{l:List T}{aW:List (Nat×Obj)}(h:aO r ro e v l aW){own:List (Nat×Obj)}(a pre bq:List (Nat×Obj))(f:own=pre++(aW++bq))(g:a=pre++bq)(i:aR (keys own))(j:aF ro a):
  ∃aM,Ext ro aM/\aF aM a/\az r aM v l/\Le ⟨aM,a⟩ ⟨ro,own⟩:=by
 subst f g
 have c:Nd (pre++(aW++bq)):=i.nd
 have m:Apart (keys (pre++bq)) aW:=fun k d hm=>by
  simp only[Nd,cp] at c
  have b:=List.nodup_append.1 c
  simp only[cp,List.mem_append] at hm
  rcases hm with hm|hm
  .exact b.2.2 k hm k (List.mem_append_left _ d) rfl
  .exact (List.nodup_append.1 b.2.1).2.2 k d k hm rfl
 obtain ⟨aM,n,b,o,p⟩:=h.Au (pre++bq) m rfl j
 refine ⟨aM,n,b,o,p.trans ?_⟩
 have q:((pre++bq)++aW).Perm (pre++(aW++bq)):=by
  rw[List.append_assoc]
  exact List.Perm.append_left pre List.perm_append_comm
 exact Le.ps q (List.Sublist.refl _)
theorem aO.setAt {T:Type}{r:b7 T}{ro:Addr->Option Value}{e:TypeId}{l:List T}{b n cap:Nat}{arr:Array Value}(h:aO r ro e (.slice (some ⟨b,0,none⟩) n cap) l [(b,.cells arr e)]){i:Nat}{x y:T}(hi:l[i]?=some x){cs:List Value}(m:r.rel ro y cs):
  aO r ro e (.slice (some ⟨b,0,none⟩) n cap) (l.set i y) [(b,.cells (cJ arr (i*r.n) cs) e)]:=by
 obtain ⟨ls,hg,o,hm,p⟩:=h
 have D:i<l.length:=(List.getElem?_eq_some_iff.1 hi).1
 have a:=r.len m
 rcases hg with ⟨k,_,_⟩|⟨E,F,q,k,s,hs,hle,ht,c,t⟩
 .cases k
 .cases s
  obtain ⟨rfl,rfl⟩:n=ls.length/\cap=q:=by cases k;exact ⟨rfl,rfl⟩
  have u:i*r.n+cs.length<=arr.size:=by
   rw[hs,a,<-Nat.succ_mul]
   exact Nat.mul_le_mul_right _ (by omega)
  refine ⟨ls.set i cs,.inr ⟨b,_,cap,by simp,rfl,by rw[r8];exact hs,by simpa using hle,?_,?_,t⟩,by simp[o],by simpa using hm,fun j z d=>?_⟩
  .rw[r9 _ _ _ u]
   have G:=iC c
   have f:i<ls.length:=by omega
   have e1:(ls.set i cs).flatten=(ls.take i).flatten++cs++(ls.drop (i+1)).flatten:=by
    rw[List.set_eq_take_append_cons_drop,if_pos f]
    simp
   have e2:ls.flatten=(ls.take i).flatten++(ls.drop i).flatten:=by rw[<-List.flatten_append,List.take_append_drop]
   have t1:((ls.take i).flatten).length=i*r.n:=by rw[iC (fun x h=>c x (List.mem_of_mem_take h)),List.length_take,Nat.min_eq_left (by omega)]
   have v:(ls.drop i).flatten=ls[i]++(ls.drop (i+1)).flatten:=by rw[List.drop_eq_getElem_cons f,List.flatten_cons]
   have t2:ls[i].length=r.n:=c _ (List.getElem_mem f)
   have a1:arr.toList.take (i*r.n)=(ls.take i).flatten:=by
    have:=congrArg (List.take (i*r.n)) ht
    rw[List.take_take,Nat.min_eq_left (Nat.mul_le_mul_right _ (by omega)),e2,List.take_append_of_le_length (Nat.le_of_eq t1.symm),List.take_of_length_le (Nat.le_of_eq t1)] at this
    exact this
   have a2:(arr.toList.take (ls.length*r.n)).drop (i*r.n+cs.length)=(ls.drop (i+1)).flatten:=by
    have t3:((ls.take i).flatten++ls[i]).length=i*r.n+cs.length:=by rw[List.length_append,t1,t2,a]
    rw[ht,e2,v,<-List.append_assoc,List.drop_append_of_le_length (Nat.le_of_eq t3.symm),List.drop_eq_nil_of_le (Nat.le_of_eq t3),List.nil_append]
   rw[a1,e1]
   simp only[List.length_set]
   have w:ls.length*r.n=(i*r.n+cs.length)+(ls.length*r.n - (i*r.n+cs.length)):=by
    have:i*r.n+cs.length<=ls.length*r.n:=by rw[a,<-Nat.succ_mul];exact Nat.mul_le_mul_right _ f
    omega
   rw[w,List.take_append]
   rw[List.take_of_length_le (by rw[List.length_append,t1];omega)]
   congr 1
   have:i*r.n+cs.length+(ls.length*r.n - (i*r.n+cs.length)) - ((ls.take i).flatten++cs).length=ls.length*r.n - (i*r.n+cs.length):=by simp only[List.length_append,t1];omega
   rw[this,<-a2,List.drop_take]
  .intro z A
   rcases List.mem_or_eq_of_mem_set A with h|h
   .exact c z h
   .rw[h];exact a
  .rcases Nat.decEq i j with g|g
   .rw[List.getElem?_set_ne g] at d
    obtain ⟨cs',B,C⟩:=p j z d
    exact ⟨cs',by rw[List.getElem?_set_ne g];exact B,C⟩
   .subst g
    rw[List.getElem?_set_self (by omega)] at d
    obtain rfl:=Option.some.inj d
    exact ⟨cs,List.getElem?_set_self (by omega),m⟩
end
section
variable {P : Program} {main : Bool} {J : Goroutine → aa → Prop}
theorem ax (hJ:Closed P main J){c:Code}{Q:Ex->Act->aa->Prop}{a:Act}{F:aa}(h:aR (keys F.own)->Wp J c Q a F):Wp J c Q a F:=by
 intro b k cs hb d;by_cases hw:∃w,Has F w
 .obtain ⟨w,hw⟩:=hw;exact h ⟨hw.nodup⟩ b k cs hb d
 .exact hJ.step fun w e=>absurd ⟨w,e⟩ hw
end
theorem aR.cons {l:List (Nat×Obj)}{b:Nat}(hb:av l b)(h:aR (keys l)):aR (b::keys l):=⟨List.nodup_cons.2 ⟨k4 hb,h.nd⟩⟩
theorem aF.nil (ro:Addr->Option Value):aF ro []:=fun b h=>by cases h
theorem aF.cons {ro:Addr->Option Value}{b:Nat}{o:Obj}{l:List (Nat×Obj)}(hb:∀off sp,ro ⟨b,off,sp⟩=none)(h:aF ro l):aF ro ((b,o)::l):=fun c a=>by
 simp only[keys,List.map_cons,List.mem_cons] at a
 rcases a with rfl|a
 .exact hb
 .exact h c a
theorem aF.app {ro:Addr->Option Value}{l l':List (Nat×Obj)}(h:aF ro l)(h':aF ro l'):aF ro (l++l'):=fun c a=>by
 rw[cp] at a
 exact (List.mem_append.1 a).elim (h c) (h' c)
theorem aF.hd {ro:Addr->Option Value}{b:Nat}{o:Obj}{l:List (Nat×Obj)}(h:aF ro ((b,o)::l)):∀off sp,ro ⟨b,off,sp⟩=none:=h b (by simp[keys])
theorem aF.tl {ro:Addr->Option Value}{x:Nat×Obj}{l:List (Nat×Obj)}(h:aF ro (x::l)):aF ro l:=fun c a=>h c (by simp only[keys,List.map_cons,List.mem_cons];exact .inr a)
theorem aF.l {ro:Addr->Option Value}{l l':List (Nat×Obj)}(h:aF ro (l++l')):aF ro l:=fun c a=>h c (by rw[cp];exact List.mem_append_left _ a)
theorem aF.r {ro:Addr->Option Value}{l l':List (Nat×Obj)}(h:aF ro (l++l')):aF ro l':=fun c a=>h c (by rw[cp];exact List.mem_append_right _ a)
theorem aO.jG {T:Type}{r:b7 T}{ro:Addr->Option Value}{e:TypeId}{v:Value}{l:List T}{aW:List (Nat×Obj)}(h:aO r ro e v l aW):aF ro aW:=by
 obtain ⟨ls,hg,-⟩:=h;rcases hg with ⟨_,_,rfl⟩|⟨b,arr,cap,_,rfl,_,_,_,_,a⟩
 .exact aF.nil _
 .exact aF.cons a (aF.nil _)
theorem Le.back {ro:Addr->Option Value}{l l':List (Nat×Obj)}(A B O S:List (Nat×Obj))(a:l=A++(B++(O++S)))(b:l'=A++(O++(B++S))):Le ⟨ro,l⟩ ⟨ro,l'⟩:=by
 subst a b;refine Le.ps (m:=A++(O++(B++S))) (List.Perm.append_left A ?_) (List.Sublist.refl _);rw[<-List.append_assoc,<-List.append_assoc];exact List.Perm.append_right S List.perm_append_comm
section
variable {P : Program} {main : Bool} {J : Goroutine → aa → Prop}
def sF (J:Goroutine->aa->Prop)(jH:Frame)(F:aa)(R:Value->aa->Prop):Prop:=
 ∀(c:Frame) (cs:List Frame),(∀v F',R v F'->J (G (c.finish v) cs) F')->J (G jH (c::cs)) F
theorem AY (hJ:Closed P main J){jH:Frame}{ro:Addr->Option Value}{aW:List (Nat×Obj)}{K:Value->aa->Prop}{own:List (Nat×Obj)}(pre bq:List (Nat×Obj))(q:own=pre++(aW++bq))(R:Value->List (Nat×Obj)->Prop)(h:∀(main:Bool) (J:Goroutine->aa->Prop),Closed P main J->sF J jH ⟨ro,aW⟩ (fun v G=>∃d,R v d/\Le ⟨ro,d⟩ G))
  (M:∀v d,R v d->∀r,r=pre++(d++bq)->aR (keys r)->∃F0,Le F0 ⟨ro,r⟩/\K v F0):sF J jH ⟨ro,own⟩ K:=by
 subst q
 intro c cs N
 by_cases hw:∃w,Has ⟨ro,pre++(aW++bq)⟩ w
 .obtain ⟨s,k⟩:=hw
  let F:aa:=⟨fun _=>none,pre++bq⟩
  have t:(pre++bq).Sublist (pre++(aW++bq)):=List.Sublist.append_left (List.sublist_append_right aW bq) pre
  have u:aW.Sublist (pre++(aW++bq)):=(List.sublist_append_left aW bq).trans (List.sublist_append_right pre _)
  have B:∀w,Has ⟨ro,pre++(aW++bq)⟩ w->Has F w:=fun w hw=>⟨fun a v h=>(by cases h),fun b o hb=>hw.own b o (t.subset hb),(t.map _).nodup hw.nodup,fun a v h=>(by cases h)⟩
  have C:∀w,Has ⟨ro,pre++(aW++bq)⟩ w->Has ⟨ro,aW⟩ w:=fun w hw=>⟨hw.ro,fun b o hb=>hw.own b o (u.subset hb),(u.map _).nodup hw.nodup,fun a v i hm=>hw.apart a v i ((u.map _).subset hm)⟩
  have hd:∀b,b∈keys aW->b∉keys (pre++bq):=fun b hb hm=>by
   have l:=k.nodup
   simp only[cp] at l
   have D:=List.nodup_append.1 l
   simp only[cp,List.mem_append] at hm
   rcases hm with hm|hm
   .exact D.2.2 b hm b (List.mem_append_left _ hb) rfl
   .exact (List.nodup_append.1 D.2.1).2.2 b hb b hm rfl
  have E:Fits F ⟨ro,aW⟩:=⟨⟨s,C s k,B s k⟩,hd,fun a f hm=>(by cases f)⟩
  have O:mm F ⟨ro,aW⟩:=fun a f hm=>by
   obtain ⟨v,Q⟩:=Option.isSome_iff_exists.1 f
   exact k.apart a v Q ((t.map _).subset hm)
  have q:vO J F (G jH (c::cs)) ⟨ro,aW⟩:=by
   refine h main _ (Ar hJ F) c cs fun v H A m l=>?_
   obtain ⟨d,A,hle⟩:=A
   have I:Le ⟨ro,pre++(d++bq)⟩ (H.star F):=by
    refine ⟨fun w hw=>?_,fun b hb=>?_,fun a f=>?_⟩
    .have n:=hle.has w (m.right hw)
     have g:=m.left hw
     have S:∀b,b∈keys d->b∉keys (pre++bq):=fun b hb=>m.own b (hle.own b hb)
     have j:(pre++(d++bq)).Perm (d++(pre++bq)):=by
      rw[<-List.append_assoc,<-List.append_assoc]
      exact List.Perm.append_right bq List.perm_append_comm
     refine ⟨n.ro,fun b o hb=>?_,?_,fun a v i hm=>?_⟩
     .rcases List.mem_append.1 (j.subset hb) with x|x
      .exact n.own b o x
      .exact g.own b o x
     .refine (j.map _).nodup_iff.2 ?_
      rw[List.map_append]
      exact List.nodup_append.2 ⟨n.nodup,g.nodup,fun a f b hb e=>S a f (e▸hb)⟩
     .have L:=(j.map (·.1)).subset hm
      rw[List.map_append] at L
      rcases List.mem_append.1 L with x|x
      .exact n.apart a v i x
      .rcases hle.ro a (by simp only at i;simp[i]) with y|y
       .exact l a y x
       .exact m.own _ y x
    .simp only[aa.star,cp,List.mem_append] at hb ⊢
     rcases hb with x|x|x
     .exact .inr (show b∈keys (pre++bq) by rw[cp];exact List.mem_append_left _ x)
     .exact .inl (hle.own b x)
     .exact .inr (show b∈keys (pre++bq) by rw[cp];exact List.mem_append_right _ x)
    .rcases hle.ro a f with x|x
     .exact (gG (.inr x)).imp id (fun z=>by simp only[aa.star,cp,List.mem_append];exact .inr z)
     .exact .inr (by simp only[aa.star,cp,List.mem_append];exact .inl x)
   have T:∃fr cs',G (c.finish v) cs=G fr cs':=⟨_,_,rfl⟩
   obtain ⟨fr,cs',U⟩:=T
   by_cases p:∃w,Has (H.star F) w
   .obtain ⟨w1,p⟩:=p
    obtain ⟨F0,V,W⟩:=M v d A _ rfl ⟨(I.has w1 p).nodup⟩
    exact hJ.mono (V.trans I) (N v F0 W)
   .rw[U]
    exact hJ.step fun w g=>absurd ⟨w,g⟩ p
  refine hJ.mono ⟨fun w hw=>E.both (C w hw) (B w hw),fun b hb=>?_,fun a f=>?_⟩ (q E O)
  .have j:(aW++(pre++bq)).Perm (pre++(aW++bq)):=by
    rw[<-List.append_assoc,<-List.append_assoc]
    exact List.Perm.append_right bq List.perm_append_comm
   exact (j.map _).subset hb
  .rcases j3 f with x|x
   .cases x
   .exact .inl x
 .exact hJ.step fun w g=>absurd ⟨w,g⟩ hw
theorem Gb (hJ:Closed P main J){f:FuncId}{args:Array Value}{ro:Addr->Option Value}{aW:List (Nat×Obj)}{K:Value->aa->Prop}{own:List (Nat×Obj)}(pre bq:List (Nat×Obj))(c:own=pre++(aW++bq))(R:Value->List (Nat×Obj)->Prop)(h:aE P f args ⟨ro,aW⟩ (fun v G=>∃a,R v a/\Le ⟨ro,a⟩ G))
  (d:∀v a,R v a->∀b,b=pre++(a++bq)->aR (keys b)->∃F0,Le F0 ⟨ro,b⟩/\K v F0):cU P J f args ⟨ro,own⟩ K:=
 AY hJ (jH:=Frame.enter P f args .normal) pre bq c R h d
end
attribute [go_sem] Array.size_setIfInBounds
theorem az.op {T:Type}{r:b7 T}{ro:Addr->Option Value}{ad:Option Addr}{n cap:Nat}{l:List T}(h:az r ro (.slice ad n cap) l):
  l.length<=cap/\l.length<=1000000000000000/\∀i x,l[i]?=some x->∃p cs,ad=some p/\r.rel ro x cs/\∀j v,cs[j]?=some v->ro ((p.add (i*r.n)).add j)=some v:=by
 obtain ⟨d,f,e,a,b,c⟩:=h
 cases e
 exact ⟨a,b,c⟩
theorem aR.sub {l l':List (Nat×Obj)}(A O S:List (Nat×Obj))(a:l=A++S)(b:l'=A++(O++S))(h:aR (keys l')):aR (keys l):=by
 subst a b;exact
 ⟨((List.Sublist.append_left (List.sublist_append_right O S) A).map _).nodup h.nd⟩
theorem aR.back {l l':List (Nat×Obj)}(A B O S:List (Nat×Obj))(a:l=A++(B++(O++S)))(b:l'=A++(O++(B++S)))(h:aR (keys l')):aR (keys l):=by
 subst a b;refine ⟨(List.Perm.map _ (List.Perm.append_left A ?_)).nodup_iff.2 h.nd⟩;rw[<-List.append_assoc,<-List.append_assoc];exact List.Perm.append_right S List.perm_append_comm
theorem fX {ro:Addr->Option Value}{b:Nat}{o:Obj}(pre bq:List (Nat×Obj))(f:aR (keys (pre++((b,o)::bq))))(_hr:∀off sp,ro ⟨b,off,sp⟩=none)(g:aF ro (pre++bq)):
  Ext ro (bR ro b o)/\aF (bR ro b o) (pre++bq)/\Le ⟨bR ro b o,pre++bq⟩ ⟨ro,pre++((b,o)::bq)⟩:=by
 have a:(pre++((b,o)::bq)).Perm ((b,o)::(pre++bq)):=List.perm_middle
 have h:Nd ((b,o)::(pre++bq)):=(a.map _).nodup_iff.1 f.nd
 have hb:b∉keys (pre++bq):=(List.nodup_cons.1 h).1
 refine ⟨gm _ _ _,fun c d off sp=>?_,?_⟩
 .have aD:¬c=b:=fun e=>hb (e▸d)
  simp[bR,g c d,aD]
 .have i:Le ⟨bR ro b o,pre++bq⟩ ⟨ro,(b,o)::(pre++bq)⟩:=j7 (by simp[lk]) (.cons _ (List.Sublist.refl _)) (mo hb)
  exact i.trans (Le.ps a.symm (List.Sublist.refl _))
section
variable {P : Program} {main : Bool} {J : Goroutine → aa → Prop}
theorem e6 (hJ:Closed P main J){c:Code}{Q:Ex->Act->aa->Prop}{a:Act}{F:aa}(h:aR (keys F.own)->aF F.ro F.own->Wp J c Q a F):Wp J c Q a F:=by
 intro b k cs hb d;by_cases hw:∃w,Has F w
 .obtain ⟨w,hw⟩:=hw;refine h ⟨hw.nodup⟩ (fun b hb off sp=>?_) b k cs hb d;cases e:F.ro ⟨b,off,sp⟩ with
  |none=>rfl
  |some v=>exact absurd hb (hw.apart _ v e)
 .exact hJ.step fun w f=>absurd ⟨w,f⟩ hw
end
theorem v7:∀(a:List Value) (arr:Array Value) (k:Nat),k+a.length<=arr.size->∀q,(cJ arr k a)[q]?=if k<=q/\q<k+a.length then a[q - k]? else arr[q]?
 |[],arr,k,h,q=>by
  have:¬(k<=q/\q<k+([]:List Value).length):=by simp
  rw[if_neg this];rfl
 |v::a,arr,k,h,q=>by
  simp only[List.length_cons] at h
  rw[cJ,v7 a _ (k+1) (by simp;omega)]
  simp only[List.length_cons]
  by_cases b:k=q
  .subst b
   rw[if_neg (by omega),if_pos (by omega),Array.getElem?_setIfInBounds_self_of_lt (by omega)]
   simp
  .by_cases c:k+1<=q/\q<k+1+a.length
   .rw[if_pos c,if_pos (by omega)]
    rw[show q - k=(q - (k+1))+1 by omega]
    simp
   .rw[if_neg c,if_neg (by omega),Array.getElem?_setIfInBounds_ne b]
theorem aO.part {T:Type}{r:b7 T}{ro:Addr->Option Value}{e:TypeId}{l:List T}{b n cap:Nat}{arr:Array Value}(h:aO r ro e (.slice (some ⟨b,0,none⟩) n cap) l [(b,.cells arr e)]){i:Nat}{x y:T}(hi:l[i]?=some x)(o:Nat)(a cs cs':List Value)
  (hm:∀j v,cs[j]?=some v->arr[i*r.n+j]?=some v) (hlen:cs.length=r.n) (g:cs'=cs.take o++a++cs.drop (o+a.length)) (z:o+a.length<=cs.length) (k:r.rel ro y cs'):
  aO r ro e (.slice (some ⟨b,0,none⟩) n cap) (l.set i y) [(b,.cells (cJ arr (i*r.n+o) a) e)]:=by
 have m:=h.setAt hi k
 have d:=r.len k
 have t:i*r.n+r.n<=arr.size:=by
  rcases Nat.eq_zero_or_pos r.n with u|A
  .rw[u];omega
  .have c:r.n - 1<cs.length:=by omega
   have:=hm (r.n - 1) cs[r.n - 1] (List.getElem?_eq_getElem c)
   have:=(Array.getElem?_eq_some_iff.1 this).1
   omega
 have e1:cJ arr (i*r.n) cs'=cJ arr (i*r.n+o) a:=by
  apply Array.ext_getElem?
  intro q
  rw[v7 cs' arr _ (by rw[d];exact t),v7 a arr _ (by omega)]
  by_cases p:i*r.n+o<=q/\q<i*r.n+o+a.length
  .rw[if_pos p,if_pos (by rw[d];omega),g]
   rw[List.append_assoc,List.getElem?_append_right (by simp;omega),List.getElem?_append_left (by simp;omega)]
   congr 1
   simp;omega
  .rw[if_neg p]
   by_cases f:i*r.n<=q/\q<i*r.n+cs'.length
   .rw[if_pos f]
    rw[d] at f
    have w:arr[q]?=cs[q - i*r.n]?:=by
     have c:q - i*r.n<cs.length:=by omega
     have:=hm (q - i*r.n) _ (List.getElem?_eq_getElem c)
     rw[show i*r.n+(q - i*r.n)=q by omega] at this
     rw[this,List.getElem?_eq_getElem c]
    rw[w,g]
    rcases Nat.lt_or_ge (q - i*r.n) o with s|s
    .rw[List.append_assoc,List.getElem?_append_left (by simp;omega),List.getElem?_take_of_lt s]
    .have B:o+a.length<=q - i*r.n:=by omega
     rw[List.getElem?_append_right (by simp;omega),List.getElem?_drop]
     congr 1
     simp;omega
   .rw[if_neg f]
 rw[e1] at m
 exact m
theorem aO.elemAt {T:Type}{r:b7 T}{ro:Addr->Option Value}{e:TypeId}{b n cap:Nat}{l:List T}{aW:List (Nat×Obj)}(h:aO r ro e (.slice (some ⟨b,0,none⟩) n cap) l aW){i:Nat}{x:T}(hi:l[i]?=some x):
  ∃arr cs,aW=[(b,.cells arr e)]/\(∀off sp,ro ⟨b,off,sp⟩=none)/\r.rel ro x cs/\∀j v,cs[j]?=some v->arr[i*r.n+j]?=some v:=by
 obtain ⟨g,arr,k,cs,a,c,d,f,hm⟩:=h.elem hi
 cases a
 exact ⟨arr,cs,c,d,f,hm⟩
theorem aO.AZ {T:Type}{r:b7 T}{ro:Addr->Option Value}{e:TypeId}{ad:Option Addr}{n cap:Nat}{l:List T}{aW:List (Nat×Obj)}(h:aO r ro e (.slice ad n cap) l aW){i:Nat}{x:T}(hi:l[i]?=some x):
  ∃b arr cs,ad=some ⟨b,0,none⟩/\aW=[(b,.cells arr e)]/\(∀off sp,ro ⟨b,off,sp⟩=none)/\r.rel ro x cs/\∀j v,cs[j]?=some v->arr[i*r.n+j]?=some v:=by
 obtain ⟨a,arr,m,cs,c,d,f,g,hm⟩:=h.elem hi
 injection c with k o p
 exact ⟨a,arr,cs,k,d,f,g,hm⟩
theorem aO.je {T:Type}{r:b7 T}{ro:Addr->Option Value}{e:TypeId}{b n cap:Nat}{l:List T}{arr:Array Value}(h:aO r ro e (.slice (some ⟨b,0,none⟩) n cap) l [(b,.cells arr e)]){i:Nat}{x:T}(hi:l[i]?=some x):
  ∃cs,r.rel ro x cs/\∀j v,cs[j]?=some v->arr[i*r.n+j]?=some v:=by
 obtain ⟨d,cs,a,f,c,hm⟩:=h.elemAt hi
 simp only[List.cons.injEq,Prod.mk.injEq,Obj.cells.injEq,true_and,and_true] at a
 subst a
 exact ⟨cs,c,hm⟩
theorem aO.sG {T:Type}{r:b7 T}{ro:Addr->Option Value}{e:TypeId}{l:List T}{b n cap:Nat}{arr:Array Value}(h:aO r ro e (.slice (some ⟨b,0,none⟩) n cap) l [(b,.cells arr e)]){i:Nat}{y:T}(hi:i<l.length){cs:List Value}(a:r.rel ro y cs):
  aO r ro e (.slice (some ⟨b,0,none⟩) n cap) (l.set i y) [(b,.cells (cJ arr (i*r.n) cs) e)]:=h.setAt (List.getElem?_eq_getElem hi) a
theorem aO.iH {T:Type}{r:b7 T}{ro:Addr->Option Value}{e:TypeId}{ad:Option Addr}{n cap:Nat}{l:List T}{aW:List (Nat×Obj)}(h:aO r ro e (.slice ad n cap) l aW)(a:l.isEmpty=false):
  ∃b arr,ad=some ⟨b,0,none⟩/\aW=[(b,.cells arr e)]/\(∀off sp,ro ⟨b,off,sp⟩=none):=by
 cases l with
 |nil=>cases a
 |cons x l=>
  obtain ⟨b,arr,cs,c,d,f,_⟩:=h.AZ (i:=0) rfl
  exact ⟨b,arr,c,d,f⟩
theorem aO.gQ {T:Type}{r:b7 T}{ro:Addr->Option Value}{e:TypeId}{b n cap:Nat}{l:List T}{aW:List (Nat×Obj)}(h:aO r ro e (.slice (some ⟨b,0,none⟩) n cap) l aW):∃arr,aW=[(b,.cells arr e)]:=by
 obtain ⟨ls,hg,-⟩:=h;rcases hg with ⟨a,_,_⟩|⟨d,arr,f,a,c,_⟩
 .cases a
 .cases a;exact ⟨arr,c⟩
theorem aO.count {T:Type}{r:b7 T}{ro:Addr->Option Value}{e:TypeId}{ad:Option Addr}{n cap:Nat}{l:List T}{aW:List (Nat×Obj)}(h:aO r ro e (.slice ad n cap) l aW):l.length=n:=by
 obtain ⟨b,c,a,_⟩:=h.len;cases a;rfl
def qi (ops:Array Oper)(bX:List Nat)(i:Nat):Bool:=bX.all fun j=>match ops[j]? with
 |some o=>o.after.any fun e=>Region.binds .any e&&e.on==i
 |none=>true
section
variable {P : Program} {main : Bool} {J : Goroutine → aa → Prop} {ops : Array Oper} {Q : Act → aa → Prop} {S : aa → Prop} {bX : List Nat}
def ef (P:Program)(J:Goroutine->aa->Prop)(ops:Array Oper)(Q:Act->aa->Prop)(S:aa->Prop)(bX:List Nat):Nat->Array Bool->Act->aa->Prop
 |0,listed,a,F=>Region.ready .any ops listed=[]/\Q a F
 |fuel+1,listed,a,F=>(Region.ready .any ops listed=[]->Q a F)/\
  ∀i∈Region.ready .any ops listed,dM P J ops i (fun b F'=>(¬i∈bX->S F->S F')/\ef P J ops Q S bX fuel (listed.setIfInBounds i true) b F') a F
theorem Gc:∀(fuel t:Nat) (listed:Array Bool) (a:Act) (F:aa),ef P J ops Q S bX fuel listed a F->
  fU P J ops Q (Region.linearise.go .any ops fuel t listed []) a F:=by
 intro fuel
 induction fuel with
 |zero=>intro t listed a F h;simpa [Region.linearise.go,fU] using h.2
 |succ fuel ih=>
  intro t listed a F h
  obtain ⟨b,c⟩:=h
  simp only[Region.linearise.go]
  change fU P J ops Q (match (Region.ready .any ops listed)[t % (Region.ready .any ops listed).length]? with
   |some i=>Region.linearise.go .any ops fuel (t/(Region.ready .any ops listed).length) (listed.setIfInBounds i true) [i]
   |none=>[].reverse) a F
  cases hi:(Region.ready .any ops listed)[t % (Region.ready .any ops listed).length]? with
  |none=>
   have d:Region.ready .any ops listed=[]:=by
    cases e:Region.ready .any ops listed with
    |nil=>rfl
    |cons x xs=>
     rw[e] at hi
     have f:t % (x::xs).length<(x::xs).length:=Nat.mod_lt _ (by simp)
     simp at hi
     simp at f
     omega
   simpa [fU] using b d
  |some i=>
   simp only[]
   rw[linearise_go_acc,List.reverse_singleton,List.singleton_append]
   exact pN (fun a F h=>ih _ _ a F h.2) (c i (List.mem_of_getElem? hi))
theorem Gd {i:Nat}{l:Oper}{v:Value}(hi:ops[i]?=some l)(m:qi ops bX i=true)(u:∀(j:Nat) (o:Oper) cs b,ops[j]?=some o->o.op≠ .select cs b):
  ∀(fuel:Nat) (listed:Array Bool) (a:Act) (F:aa),
   (∀j f,ops[j]?=some f->j≠i->listed.getD j true=false->(∀e∈f.after,Region.binds .any e=true->e.on≠i)->l.apart ops f=true)->
   i∈Region.ready .any ops listed->fI P J ops S l v a->S F->
   ef P J ops Q S bX fuel (listed.setIfInBounds i true) (a.put l.dst v) F->ef P J ops Q S bX (fuel+1) listed a F:=by
 intro fuel
 induction fuel with
 |zero=>
  intro listed a F _ g n p H
  refine ⟨fun h=>(by rw[h] at g;cases g),fun j q=>?_⟩
  by_cases d:j=i
  .subst d;exact n.nC hi p ⟨fun _ h=>h,H⟩
  .have:=ready_mono q d
   rw[H.1] at this
   cases this
 |succ fuel ih=>
  intro listed a F w g n p H
  refine ⟨fun h=>(by rw[h] at g;cases g),fun j q=>?_⟩
  by_cases d:j=i
  .subst d;exact n.nC hi p ⟨fun _ h=>h,H⟩
  .have c:=H.2 j (ready_mono q d)
   obtain ⟨y,f,r,D⟩:=mem_ready.1 q
   have z:∀e∈f.after,Region.binds .any e=true->e.on≠i:=fun e he hb heq=>by
    have c:=D e he hb
    have A:=(mem_ready.1 g).1
    rw[heq] at c
    rcases Nat.lt_or_ge i listed.size with h'|h'
    .simp[h'] at A c;rw[A] at c;cases c
    .simp[Array.getElem?_eq_none h'] at c
   have E:¬j∈bX:=fun e=>by
    have m:=List.all_eq_true.1 m j e
    simp only[r,Array.any_eq_true,Bool.and_eq_true,beq_iff_eq] at m
    obtain ⟨x,G,c,t⟩:=m
    exact z _ (Array.getElem_mem G) c t
   have t:=vf r (w j f r d y z) (fun cs b=>u i l cs b hi) (fun cs b=>u j f cs b r) n c
   have I:∀k ok,ops[k]?=some ok->k≠i->(listed.setIfInBounds j true).getD k true=false->
     (∀e∈ok.after,Region.binds .any e=true->e.on≠i)->l.apart ops ok=true:=fun k ok K L B M=>by
    refine w k ok K L ?_ M
    by_cases C:j=k
    .subst C;exact y
    .rw[getD_set_ne true C] at B;exact B
   refine pN (fun N F' s=>⟨s.2.1,ih (listed.setIfInBounds j true) N F' I (ready_mono g (Ne.symm d)) s.1 (s.2.1 E p) ?_⟩) t
   rw[Array.setIfInBounds_comm _ _ d]
   exact s.2.2
theorem Ge {i:Nat}{l:Oper}{v:Value}(hi:ops[i]?=some l)(r:∀(j:Nat) (o:Oper) cs b,ops[j]?=some o->o.op≠ .select cs b):
  ∀(fuel:Nat) (listed:Array Bool) (a:Act) (F:aa),
   (∀j d,ops[j]?=some d->j≠i->listed.getD j true=false->(∀e∈d.after,Region.binds .any e=true->e.on≠i)->l.apart ops d=true)->
   i∈Region.ready .any ops listed->fI P J ops (fun _=>True) l v a->
   ef P J ops Q S bX fuel (listed.setIfInBounds i true) (a.put l.dst v) F->ef P J ops Q S bX (fuel+1) listed a F:=by
 intro fuel
 induction fuel with
 |zero=>
  intro listed a F _ f m H
  refine ⟨fun h=>(by rw[h] at f;cases f),fun j n=>?_⟩
  by_cases c:j=i
  .subst c;exact m.nC hi trivial ⟨fun _ h=>h,H⟩
  .have:=ready_mono n c
   rw[H.1] at this
   cases this
 |succ fuel ih=>
  intro listed a F s f m H
  refine ⟨fun h=>(by rw[h] at f;cases f),fun j n=>?_⟩
  by_cases c:j=i
  .subst c;exact m.nC hi trivial ⟨fun _ h=>h,H⟩
  .have g:=H.2 j (ready_mono n c)
   obtain ⟨t,d,p,y⟩:=mem_ready.1 n
   have z:∀e∈d.after,Region.binds .any e=true->e.on≠i:=fun e he hb heq=>by
    have g:=y e he hb
    have u:=(mem_ready.1 f).1
    rw[heq] at g
    rcases Nat.lt_or_ge i listed.size with h'|h'
    .simp[h'] at u g;rw[u] at g;cases g
    .simp[Array.getElem?_eq_none h'] at g
   have A:=vf p (s j d p c t z) (fun cs b=>r i l cs b hi) (fun cs b=>r j d cs b p) m g
   have B:∀k ok,ops[k]?=some ok->k≠i->(listed.setIfInBounds j true).getD k true=false->
     (∀e∈ok.after,Region.binds .any e=true->e.on≠i)->l.apart ops ok=true:=fun k ok C D w E=>by
    refine s k ok C D ?_ E
    by_cases x:j=k
    .subst x;exact t
    .rw[getD_set_ne true x] at w;exact w
   refine pN (fun G F' q=>⟨q.2.1,ih (listed.setIfInBounds j true) G F' B (ready_mono f (Ne.symm c)) q.1 ?_⟩) A
   rw[Array.setIfInBounds_comm _ _ c]
   exact q.2.2
theorem A0 (i:Nat){c:Oper}(v:Value){fuel:Nat}{listed:Array Bool}{a:Act}{F:aa}(hi:ops[i]?=some c)
  (b:(Region.noSelect ops&&Region.free .any ops listed i&&(Region.ready .any ops listed).contains i)=true)
  (d:qi ops bX i=true) (e:fI P J ops S c v a) (f:S F)
  (h:ef P J ops Q S bX fuel (listed.setIfInBounds i true) (a.put c.dst v) F):ef P J ops Q S bX (fuel+1) listed a F:=by
 simp only[Bool.and_eq_true] at b
 exact Gd hi d (Region.noSelect_spec b.1.1) fuel listed a F (Region.free_spec hi b.1.2) (by simpa using b.2) e f h
theorem v8 {rs:List Nat}{fuel:Nat}{listed:Array Bool}{a:Act}{F:aa}(b:Region.ready .any ops listed=rs)(aD:rs≠[])
  (h:∀i∈rs,dM P J ops i (fun c F'=>(¬i∈bX->S F->S F')/\ef P J ops Q S bX fuel (listed.setIfInBounds i true) c F') a F):ef P J ops Q S bX (fuel+1) listed a F:=
 ⟨fun d=>absurd (b▸d) aD,b▸h⟩
theorem A1 (i:Nat){fuel:Nat}{listed:Array Bool}{a:Act}{F:aa}(b:Region.ready .any ops listed=[i])
  (h:dM P J ops i (fun c F'=>(¬i∈bX->S F->S F')/\ef P J ops Q S bX fuel (listed.setIfInBounds i true) c F') a F):ef P J ops Q S bX (fuel+1) listed a F:=
 v8 b (by simp) (by simpa using h)
theorem A2 {listed:Array Bool}{a:Act}{F:aa}(b:Region.ready .any ops listed=[])(h:Q a F):∀fuel,ef P J ops Q S bX fuel listed a F
 |0=>⟨b,h⟩
 |_+1=>⟨fun _=>h,by rw[b];simp⟩
end
theorem v9 {P:Program}{J:Goroutine->aa->Prop}{ops:Array Oper}{Q:Act->aa->Prop}{S:aa->Prop}{bX:List Nat}(i:Nat){b:Oper}(v:Value){fuel:Nat}{listed:Array Bool}{a:Act}{F:aa}(hi:ops[i]?=some b)
  (d:(Region.noSelect ops&&Region.free .any ops listed i&&(Region.ready .any ops listed).contains i)=true)
  (e:qi ops bX i=true) (hg:cC ops b a=some true) (f:∀F R,S F->R v F->cK P J b R a F) (c:S F)
  (h:ef P J ops Q S bX fuel (listed.setIfInBounds i true) (bg a b.dst v) F):ef P J ops Q S bX (fuel+1) listed a F:=
 A0 i v hi d e (.inl ⟨cj hg,fun F R c g=>kX (f F R c g)⟩) c h
theorem Gf {P:Program}{J:Goroutine->aa->Prop}{ops:Array Oper}{Q:Act->aa->Prop}{S:aa->Prop}{bX:List Nat}(i:Nat){b:Oper}{fuel:Nat}{listed:Array Bool}{a:Act}{F:aa}(hi:ops[i]?=some b)
  (c:(Region.noSelect ops&&Region.free .any ops listed i&&(Region.ready .any ops listed).contains i)=true)
  (d:qi ops bX i=true) (hg:cC ops b a=some false) (e:S F)
  (h:ef P J ops Q S bX fuel (listed.setIfInBounds i true) (bg a b.dst undef) F):ef P J ops Q S bX (fuel+1) listed a F:=
 A0 i undef hi c d (.inr ⟨cj hg,rfl⟩) e h
theorem A3 {P:Program}{J:Goroutine->aa->Prop}{ops:Array Oper}{Q:Act->aa->Prop}{S:aa->Prop}{bX:List Nat}(i:Nat){c:Oper}(v:Value){fuel:Nat}{listed:Array Bool}{a:Act}{F:aa}(hi:ops[i]?=some c)
  (b:(Region.noSelect ops&&Region.free .any ops listed i&&(Region.ready .any ops listed).contains i)=true)
  (d:fI P J ops (fun _=>True) c v a)
  (h:ef P J ops Q S bX fuel (listed.setIfInBounds i true) (bg a c.dst v) F):ef P J ops Q S bX (fuel+1) listed a F:=by
 simp only[Bool.and_eq_true] at b
 exact Ge hi (Region.noSelect_spec b.1.1) fuel listed a F (Region.free_spec hi b.1.2) (by simpa using b.2) d h
inductive cm where
 |done
 |rd (i:Nat) (p:cm)
 |one (i:Nat) (p:cm)
 |two (i:Nat) (p:cm) (j:Nat) (q:cm)
 |three (i:Nat) (p:cm) (j:Nat) (q:cm) (k:Nat) (r:cm)
 |last (i:Nat) (p:cm)
 |pure (i:Nat) (p:cm)
inductive fP where
 |done
 |rd (o:Oper) (p:fP)
 |one (o:Oper) (p:fP)
 |two (o:Oper) (p:fP) (o':Oper) (q:fP)
 |three (o:Oper) (p:fP) (o':Oper) (q:fP) (jI:Oper) (r:fP)
 |last (o:Oper) (p:fP)
 |pure (o:Oper) (p:fP)
 |bad
def cm.opers (ops:Array Oper):cm->fP
 | .done=>.done
 | .rd i p=>match ops[i]? with
  |some o=>.rd o (p.opers ops)
  |none=>.bad
 | .one i p=>match ops[i]? with
  |some o=>.one o (p.opers ops)
  |none=>.bad
 | .two i p j q=>match ops[i]?,ops[j]? with
  |some o,some o'=>.two o (p.opers ops) o' (q.opers ops)
  |_,_=>.bad
 | .three i p j q k r=>match ops[i]?,ops[j]?,ops[k]? with
  |some o,some o',some jI=>.three o (p.opers ops) o' (q.opers ops) jI (r.opers ops)
  |_,_,_=>.bad
 | .last i p=>match ops[i]? with
  |some o=>.last o (p.opers ops)
  |none=>.bad
 | .pure i p=>match ops[i]? with
  |some o=>.pure o (p.opers ops)
  |none=>.bad
def cm.tl:cm->Bool
 | .done=>true
 | .last _ p=>p.tl
 | .pure _ p=>p.tl
 |_=>false
def cm.ok (ops:Array Oper)(bX:List Nat):cm->Array Bool->Bool
 | .done,L=>decide (Region.ready .any ops L=[])
 | .rd i p,L=>Region.free .any ops L i&&(Region.ready .any ops L).contains i&&(ops[i]?).isSome&&qi ops bX i&&p.ok ops bX (L.setIfInBounds i true)
 | .one i p,L=>decide (Region.ready .any ops L=[i])&&(ops[i]?).isSome&&p.ok ops bX (L.setIfInBounds i true)
 | .two i p j q,L=>decide (Region.ready .any ops L=[i,j])&&(ops[i]?).isSome&&(ops[j]?).isSome&&p.ok ops bX (L.setIfInBounds i true)&&q.ok ops bX (L.setIfInBounds j true)
 | .three i p j q k r,L=>decide (Region.ready .any ops L=[i,j,k])&&(ops[i]?).isSome&&(ops[j]?).isSome&&(ops[k]?).isSome&&p.ok ops bX (L.setIfInBounds i true)&&q.ok ops bX (L.setIfInBounds j true)&&r.ok ops bX (L.setIfInBounds k true)
 | .pure i p,L=>Region.free .any ops L i&&(Region.ready .any ops L).contains i&&(ops[i]?).isSome&&p.ok ops bX (L.setIfInBounds i true)
 | .last i p,L=>bX.contains i&&decide (Region.ready .any ops L=[i])&&p.tl&&(ops[i]?).isSome&&p.ok ops bX (L.setIfInBounds i true)
def cm.len:cm->Nat
 | .done=>0
 | .rd _ p=>p.len+1
 | .one _ p=>p.len+1
 | .two _ p _ q=>max p.len q.len+1
 | .three _ p _ q _ r=>max p.len (max q.len r.len)+1
 | .last _ p=>p.len+1
 | .pure _ p=>p.len+1
def cg (P:Program)(J:Goroutine->aa->Prop)(ops:Array Oper)(F0:aa)(Q:Act->aa->Prop):fP->Bool->Act->aa->Prop
 | .done,_,a,F=>Q a F
 | .bad,_,_,_=>False
 | .rd o p,_,a,F=>match cC ops o a with
  |some false=>cg P J ops F0 Q p true (bg a o.dst undef) F
  |some true=>match o.op with
   | .load t x=>match ev a x with
    | .pointer (some ad)=>match fA P F0 t ad with
     |some v=>cg P J ops F0 Q p true (bg a o.dst v) F
     |none=>False
    |_=>False
   | .call {callee:=.value x,args, ..}=>match ev a x with
    | .func (.func fn) first captured=>aJ P fn=true/\∃v,Plain P J F0 fn (first++args.map (ev a)++captured) v/\cg P J ops F0 Q p false (bg a o.dst v) F
    |_=>False
   |_=>match jb P o a with
    |some v=>cg P J ops F0 Q p true (bg a o.dst v) F
    |none=>False
  |none=>False
 | .one o p,_,a,F=>match cC ops o a with
  |some true=>cK P J o (fun v F'=>Knows F0 F'/\cg P J ops F0 Q p (!Oper.calls o) (bg a o.dst v) F') a F
  |some false=>cg P J ops F0 Q p true (bg a o.dst undef) F
  |none=>False
 | .two o p o' q,_,a,F=>(match cC ops o a with
  |some true=>cK P J o (fun v F'=>Knows F0 F'/\cg P J ops F0 Q p (!Oper.calls o) (bg a o.dst v) F') a F
  |some false=>cg P J ops F0 Q p true (bg a o.dst undef) F
  |none=>False)/\(match cC ops o' a with
  |some true=>cK P J o' (fun v F'=>Knows F0 F'/\cg P J ops F0 Q q (!Oper.calls o') (bg a o'.dst v) F') a F
  |some false=>cg P J ops F0 Q q true (bg a o'.dst undef) F
  |none=>False)
 | .three o p o' q jI r,_,a,F=>(match cC ops o a with
  |some true=>cK P J o (fun v F'=>Knows F0 F'/\cg P J ops F0 Q p (!Oper.calls o) (bg a o.dst v) F') a F
  |some false=>cg P J ops F0 Q p true (bg a o.dst undef) F
  |none=>False)/\(match cC ops o' a with
  |some true=>cK P J o' (fun v F'=>Knows F0 F'/\cg P J ops F0 Q q (!Oper.calls o') (bg a o'.dst v) F') a F
  |some false=>cg P J ops F0 Q q true (bg a o'.dst undef) F
  |none=>False)/\(match cC ops jI a with
  |some true=>cK P J jI (fun v F'=>Knows F0 F'/\cg P J ops F0 Q r (!Oper.calls jI) (bg a jI.dst v) F') a F
  |some false=>cg P J ops F0 Q r true (bg a jI.dst undef) F
  |none=>False)
 | .pure o p,_,a,F=>match cC ops o a with
  |some false=>cg P J ops F0 Q p true (bg a o.dst undef) F
  |some true=>match jb P o a with
   |some v=>cg P J ops F0 Q p true (bg a o.dst v) F
   |none=>False
  |none=>False
 | .last o p,_,a,F=>match cC ops o a with
  |some true=>cK P J o (fun v F'=>cg P J ops F0 Q p (!Oper.calls o) (bg a o.dst v) F') a F
  |_=>False
section
variable {P : Program} {main : Bool} {J : Goroutine → aa → Prop} {ops : Array Oper} {Q : Act → aa → Prop} {F0 : aa} {bX : List Nat}
theorem nS {p:cm}{i:Nat}{o:Oper}{fuel:Nat}{L:Array Bool}{a:Act}{F:aa}(b:ops[i]?=some o)(d:Knows F0 F)
  (ih:∀go a F,Knows F0 F->cg P J ops F0 Q (p.opers ops) go a F->ef P J ops Q (Knows F0) bX fuel (L.setIfInBounds i true) a F)
  (h:match cC ops o a with
   |some true=>cK P J o (fun v F'=>Knows F0 F'/\cg P J ops F0 Q (p.opers ops) (!Oper.calls o) (bg a o.dst v) F') a F
   |some false=>cg P J ops F0 Q (p.opers ops) true (bg a o.dst undef) F
   |none=>False):dM P J ops i (fun e F'=>(¬i∈bX->Knows F0 F->Knows F0 F')/\ef P J ops Q (Knows F0) bX fuel (L.setIfInBounds i true) e F') a F:=by
 split at h
 .rename_i hg
  unfold dM
  simp only[b]
  rw[if_pos (cj hg)]
  refine kX (mj.sr ?_ h)
  rintro v F' ⟨c,f⟩
  exact ⟨fun _ _=>c,ih _ _ F' c f⟩
 .rename_i hg
  unfold dM
  simp only[b]
  rw[if_neg (by rw[cj hg];exact Bool.false_ne_true)]
  exact ⟨fun _ g=>g,ih _ _ F d h⟩
 .exact h.elim
theorem A4 {p:cm}{i:Nat}{fuel:Nat}{L:Array Bool}{go:Bool}{a:Act}{F:aa}(e:Region.noSelect ops=true)(c:(cm.pure i p).ok ops bX L=true)
  (ih:∀go v a,p.ok ops bX (L.setIfInBounds i true)=true->cg P J ops F0 Q (p.opers ops) go (bg a ((ops[i]?).bind (·.dst)) v) F->ef P J ops Q (Knows F0) bX fuel (L.setIfInBounds i true) (bg a ((ops[i]?).bind (·.dst)) v) F)
  (h:cg P J ops F0 Q ((cm.pure i p).opers ops) go a F):ef P J ops Q (Knows F0) bX (fuel+1) L a F:=by
 simp only[cm.ok,Bool.and_eq_true] at c
 obtain ⟨⟨⟨c1,c2⟩,c3⟩,c4⟩:=c
 obtain ⟨o,b⟩:=Option.isSome_iff_exists.1 c3
 have d:(Region.noSelect ops&&Region.free .any ops L i&&(Region.ready .any ops L).contains i)=true:=by rw[e,c1,c2];rfl
 have f:cm.opers ops (.pure i p)= .pure o (p.opers ops):=by simp only[cm.opers,b]
 rw[f] at h
 have hd:(ops[i]?).bind (·.dst)=o.dst:=by rw[b];rfl
 rw[hd] at ih
 unfold cg at h
 split at h
 .rename_i hg
  exact A3 i undef b d (.inr ⟨cj hg,rfl⟩) (ih _ _ _ c4 h)
 .rename_i hg
  split at h
  .rename_i v g
   exact A3 i v b d (.inl ⟨cj hg,fun F R _ j=>kX (sk g j)⟩) (ih _ _ _ c4 h)
  .exact h.elim
 .exact h.elim
theorem we (d:Region.noSelect ops=true):∀(p:cm) (fuel:Nat) (L:Array Bool) (go:Bool) (a:Act) (F:aa),p.tl=true->p.len<=fuel->p.ok ops bX L=true->cg P J ops F0 Q (p.opers ops) go a F->ef P J ops Q (Knows F0) bX fuel L a F
 | .done,fuel,L,go,a,F,_,c,b,h=>by
  simp only[cm.ok,decide_eq_true_eq] at b
  unfold cm.opers cg at h
  exact A2 b h _
 | .last i p,fuel,L,go,a,F,ht,c,b,h=>by
  simp only[cm.ok,Bool.and_eq_true,decide_eq_true_eq] at b
  obtain ⟨⟨⟨⟨c1,c2⟩,c3⟩,c4⟩,g⟩:=b
  obtain ⟨o,e⟩:=Option.isSome_iff_exists.1 c4
  have j:cm.opers ops (.last i p)= .last o (p.opers ops):=by simp only[cm.opers,e]
  rw[j] at h
  simp only[cm.len] at c
  obtain ⟨fuel,rfl⟩:∃f,fuel=f+1:=⟨fuel - 1,by omega⟩
  unfold cg at h
  refine A1 i c2 ?_
  split at h
  .rename_i hg
   unfold dM
   simp only[e]
   rw[if_pos (cj hg)]
   refine kX (mj.sr ?_ h)
   exact fun v F' k=>⟨fun aD _=>absurd (by simpa using c1) aD,we d p fuel _ _ _ F' c3 (by omega) g k⟩
  .exact h.elim
 | .pure i p,fuel,L,go,a,F,ht,c,b,h=>by
  simp only[cm.len] at c
  obtain ⟨fuel,rfl⟩:∃f,fuel=f+1:=⟨fuel - 1,by omega⟩
  exact A4 d b (fun go v a c4 l=>we d p fuel _ go _ F ht (by omega) c4 l) h
 | .rd _ _,_,_,_,_,_,ht,_,_,_=>by cases ht
 | .one _ _,_,_,_,_,_,ht,_,_,_=>by cases ht
 | .two ..,_,_,_,_,_,ht,_,_,_=>by cases ht
 | .three ..,_,_,_,_,_,ht,_,_,_=>by cases ht
theorem kq (g:Region.noSelect ops=true):∀(p:cm) (fuel:Nat) (L:Array Bool) (go:Bool) (a:Act) (F:aa),Knows F0 F->p.len<=fuel->p.ok ops bX L=true->cg P J ops F0 Q (p.opers ops) go a F->ef P J ops Q (Knows F0) bX fuel L a F
 | .done,fuel,L,go,a,F,b,e,c,h=>by
  simp only[cm.ok,decide_eq_true_eq] at c
  unfold cm.opers cg at h
  exact A2 c h _
 | .rd i p,fuel,L,go,a,F,b,e,c,h=>by
  simp only[cm.ok,Bool.and_eq_true] at c
  obtain ⟨⟨⟨⟨c1,c2⟩,c3⟩,l⟩,c4⟩:=c
  obtain ⟨o,d⟩:=Option.isSome_iff_exists.1 c3
  have y:(Region.noSelect ops&&Region.free .any ops L i&&(Region.ready .any ops L).contains i)=true:=by rw[g,c1,c2];rfl
  have m:cm.opers ops (.rd i p)= .rd o (p.opers ops):=by simp only[cm.opers,d]
  rw[m] at h
  simp only[cm.len] at e
  obtain ⟨fuel,rfl⟩:∃f,fuel=f+1:=⟨fuel - 1,by omega⟩
  have next:∀go v,cg P J ops F0 Q (p.opers ops) go (bg a o.dst v) F->ef P J ops Q (Knows F0) bX fuel (L.setIfInBounds i true) (bg a o.dst v) F:=fun go v n=>
   kq g p fuel _ go _ F b (by omega) c4 n
  unfold cg at h
  split at h
  .rename_i hg
   exact Gf i d y l hg b (next true undef h)
  .rename_i hg
   split at h
   .rename_i t x A
    split at h
    case h_2=>exact h.elim
    rename_i ad C
    split at h
    case h_2=>exact h.elim
    rename_i v n
    refine v9 i v d y l hg (fun F R z u=>?_) b (next _ v h)
    unfold cK
    simp only[A,C,z.fA n]
    exact u
   .rename_i x args argTypes A
    split at h
    case h_2=>exact h.elim
    rename_i fn first captured s
    obtain ⟨D,v,E,h⟩:=h
    refine v9 i v d y l hg (fun F R z u=>?_) b (next _ v h)
    unfold cK
    simp only[A,s]
    exact ⟨D,(E F z).mono fun K F' G=>by obtain ⟨rfl,rfl⟩:=G;exact u⟩
   .split at h
    case h_2=>exact h.elim
    rename_i v n
    exact v9 i v d y l hg (fun F R z u=>sk n u) b (next _ v h)
  .exact h.elim
 | .one i p,fuel,L,go,a,F,b,e,c,h=>by
  simp only[cm.ok,Bool.and_eq_true,decide_eq_true_eq] at c
  obtain ⟨⟨c1,c3⟩,c4⟩:=c
  obtain ⟨o,d⟩:=Option.isSome_iff_exists.1 c3
  have m:cm.opers ops (.one i p)= .one o (p.opers ops):=by simp only[cm.opers,d]
  rw[m] at h
  simp only[cm.len] at e
  obtain ⟨fuel,rfl⟩:∃f,fuel=f+1:=⟨fuel - 1,by omega⟩
  unfold cg at h
  exact A1 i c1 (nS d b (fun go a F b h=>kq g p fuel _ go a F b (by omega) c4 h) h)
 | .two i p j q,fuel,L,go,a,F,b,e,c,h=>by
  simp only[cm.ok,Bool.and_eq_true,decide_eq_true_eq] at c
  obtain ⟨⟨⟨⟨c1,c2⟩,c3⟩,c4⟩,l⟩:=c
  obtain ⟨o,d⟩:=Option.isSome_iff_exists.1 c2
  obtain ⟨o',w⟩:=Option.isSome_iff_exists.1 c3
  have m:cm.opers ops (.two i p j q)= .two o (p.opers ops) o' (q.opers ops):=by simp only[cm.opers,d,w]
  rw[m] at h
  simp only[cm.len] at e
  obtain ⟨fuel,rfl⟩:∃f,fuel=f+1:=⟨fuel - 1,by omega⟩
  unfold cg at h
  refine v8 c1 (by simp) fun x s=>?_
  simp only[List.mem_cons,List.not_mem_nil,or_false] at s
  rcases s with rfl|rfl
  .exact nS d b (fun go a F b h=>kq g p fuel _ go a F b (by omega) c4 h) h.1
  .exact nS w b (fun go a F b h=>kq g q fuel _ go a F b (by omega) l h) h.2
 | .three i p j q k r,fuel,L,go,a,F,b,e,c,h=>by
  simp only[cm.ok,Bool.and_eq_true,decide_eq_true_eq] at c
  obtain ⟨⟨⟨⟨⟨⟨c1,c2⟩,c3⟩,c4⟩,l⟩,H⟩,I⟩:=c
  obtain ⟨o,d⟩:=Option.isSome_iff_exists.1 c2
  obtain ⟨o',w⟩:=Option.isSome_iff_exists.1 c3
  obtain ⟨jI,B⟩:=Option.isSome_iff_exists.1 c4
  have m:cm.opers ops (.three i p j q k r)= .three o (p.opers ops) o' (q.opers ops) jI (r.opers ops):=by simp only[cm.opers,d,w,B]
  rw[m] at h
  simp only[cm.len] at e
  obtain ⟨fuel,rfl⟩:∃f,fuel=f+1:=⟨fuel - 1,by omega⟩
  unfold cg at h
  refine v8 c1 (by simp) fun x s=>?_
  simp only[List.mem_cons,List.not_mem_nil,or_false] at s
  rcases s with rfl|rfl|rfl
  .exact nS d b (fun go a F b h=>kq g p fuel _ go a F b (by omega) l h) h.1
  .exact nS w b (fun go a F b h=>kq g q fuel _ go a F b (by omega) H h) h.2.1
  .exact nS B b (fun go a F b h=>kq g r fuel _ go a F b (by omega) I h) h.2.2
 | .last i p,fuel,L,go,a,F,b,e,c,h=>we g (.last i p) fuel L go a F (by simp only[cm.ok,Bool.and_eq_true] at c;exact c.1.1.2) e c h
 | .pure i p,fuel,L,go,a,F,b,e,c,h=>by
  simp only[cm.len] at e
  obtain ⟨fuel,rfl⟩:∃f,fuel=f+1:=⟨fuel - 1,by omega⟩
  exact A4 g c (fun go v a c4 n=>kq g p fuel _ go _ F b (by omega) c4 n) h
theorem eT {Q:Ex->Act->aa->Prop}(hJ:Closed P main J)(d:P.follows .mixedOrders=true)(bX:List Nat)(p:cm){id:Nat}{a:Act}{F:aa}(F0:aa)(e:Knows F0 F)
  (c:(Region.noSelect ops&&decide (p.len<=ops.size)&&p.ok ops bX (Array.replicate ops.size false))=true)
  (h:cg P J ops F0 (Q .normal) (p.opers ops) true a F):Wp J (.region id ops true) Q a F:=by
 simp only[Bool.and_eq_true,decide_eq_true_eq] at c
 obtain ⟨⟨f,g⟩,i⟩:=c
 intro b k cs hb j
 refine hJ.step fun w hw=>?_
 refine ⟨_,_,_,F,zL,.drawn _ _ _,hw.drawn _,by simp,?_⟩
 refine rR (K:=Q .normal) hJ (vj hb) (fun l F' h'=>j .normal l F' h') _ _ _ ?_
 simp only[Region.schedule,d,Bool.true_or,if_true]
 exact Gc ops.size _ _ a F (kq (bX:=bX) f p ops.size _ true a F e g i h)
end
theorem Gg {P:Program}{J:Goroutine->aa->Prop}{ops:Array Oper}{F0:aa}{Q:Act->aa->Prop}{go:Bool}{a:Act}{F:aa}:cg P J ops F0 Q .done go a F=Q a F:=rfl
theorem Gh {P:Program}{J:Goroutine->aa->Prop}{ops:Array Oper}{F0:aa}{Q:Act->aa->Prop}{o:Oper}{p:fP}{a:Act}{F:aa}:cg P J ops F0 Q (.rd o p) true a F=match cC ops o a with
  |some false=>cg P J ops F0 Q p true (bg a o.dst undef) F
  |some true=>match o.op with
   | .load t x=>match ev a x with
    | .pointer (some ad)=>match fA P F0 t ad with
     |some v=>cg P J ops F0 Q p true (bg a o.dst v) F
     |none=>False
    |_=>False
   | .call {callee:=.value x,args, ..}=>match ev a x with
    | .func (.func fn) first captured=>aJ P fn=true/\∃v,Plain P J F0 fn (first++args.map (ev a)++captured) v/\cg P J ops F0 Q p false (bg a o.dst v) F
    |_=>False
   |_=>match jb P o a with
    |some v=>cg P J ops F0 Q p true (bg a o.dst v) F
    |none=>False
  |none=>False:=(Eq.refl _).trans (Eq.refl _)
theorem A5 {P:Program}{J:Goroutine->aa->Prop}{ops:Array Oper}{F0:aa}{Q:Act->aa->Prop}{o:Oper}{p:fP}{a:Act}{F:aa}:cg P J ops F0 Q (.one o p) true a F=match cC ops o a with
  |some true=>cK P J o (fun v F'=>Knows F0 F'/\cg P J ops F0 Q p (!Oper.calls o) (bg a o.dst v) F') a F
  |some false=>cg P J ops F0 Q p true (bg a o.dst undef) F
  |none=>False:=(Eq.refl _).trans (Eq.refl _)
theorem kr {P:Program}{J:Goroutine->aa->Prop}{ops:Array Oper}{F0:aa}{Q:Act->aa->Prop}{o o':Oper}{p q:fP}{go:Bool}{a:Act}{F:aa}(b:cg P J ops F0 Q (.one o p) true a F)(c:cg P J ops F0 Q (.one o' q) true a F):cg P J ops F0 Q (.two o p o' q) go a F:=by
 rw[A5] at b c;unfold cg;exact ⟨b,c⟩
theorem Gi {P:Program}{J:Goroutine->aa->Prop}{ops:Array Oper}{F0:aa}{Q:Act->aa->Prop}{o:Oper}{p:fP}{a:Act}{F:aa}:cg P J ops F0 Q (.last o p) true a F=match cC ops o a with
  |some true=>cK P J o (fun v F'=>cg P J ops F0 Q p (!Oper.calls o) (bg a o.dst v) F') a F
  |_=>False:=(Eq.refl _).trans (Eq.refl _)
theorem Gj {P:Program}{J:Goroutine->aa->Prop}{ops:Array Oper}{F0:aa}{Q:Act->aa->Prop}{o:Oper}{p:fP}{a:Act}{F:aa}:cg P J ops F0 Q (.pure o p) true a F=match cC ops o a with
  |some false=>cg P J ops F0 Q p true (bg a o.dst undef) F
  |some true=>match jb P o a with
   |some v=>cg P J ops F0 Q p true (bg a o.dst v) F
   |none=>False
  |none=>False:=(Eq.refl _).trans (Eq.refl _)
theorem bZ {P:Program}{J:Goroutine->aa->Prop}{ops:Array Oper}{F0:aa}{Q:Act->aa->Prop}:∀{p:fP} {go:Bool} {a:Act} {F:aa},cg P J ops F0 Q p true a F->cg P J ops F0 Q p go a F
 | .done,_,_,_,h=>h
 | .bad,_,_,_,h=>h
 | .rd ..,_,_,_,h=>h
 | .one ..,_,_,_,h=>h
 | .two ..,_,_,_,h=>h
 | .three ..,_,_,_,h=>h
 | .last ..,_,_,_,h=>h
 | .pure ..,_,_,_,h=>h
attribute [irreducible] cg
attribute [go_sem] Gg Gh A5 Gi Gj cm.opers
theorem e7 {ro aM:Addr->Option Value}{l:List (Nat×Obj)}(a:Ext ro aM)(b:aF aM l)(own:List (Nat×Obj)):Knows ⟨ro,l⟩ ⟨aM,own⟩=ja l own:=
 propext ⟨fun h=>h.2.2,Fi a b⟩
section
variable {P : Program} {main : Bool} {J : Goroutine → aa → Prop} {a : Act} {F : aa}
def mw (l:Nat)(R:Value->aa->Prop)(st:LoopState)(jump:Option Code)(F:aa):Prop:=
 ∃lo,F.ff l=some (.loop lo)/\R (.bool jump.isNone) (F.put l (.loop {lo with state:=st,pending:=jump}))
def sH (l:Nat)(R:Value->aa->Prop):Ex->Act->aa->Prop
 | .normal,_,F=>mw l R .ready none F
 | .exit id,_,F=>mw l R .done (some (.exit id)) F
 | .ret,_,F=>mw l R .done (some .ret) F
def qj (J:Goroutine->aa->Prop)(l:Nat)(body:Code)(R:Value->aa->Prop):Ex->Act->aa->Prop
 | .normal,a,F=>∃lo,F.ff l=some (.loop lo)/\lo.state= .ready/\Wp J body (sH l R) a (F.put l (.loop {lo with state:=.busy}))
 |_,_,_=>False
theorem wh {l:Nat}{R:Value->aa->Prop}{st:LoopState}{jump:Option Code}(c:st=if jump.isNone then .ready else .done)(h:mw l R st jump F):aX P (Instr.endRound l jump) R F:=by
 obtain ⟨lo,a,b⟩:=h;simp only[Instr.endRound,Instr.getLoop,bu,nD];refine ⟨_,a,?_⟩;simp only[bG,bu,l5,a,Option.isSome_some,Obj.isChan,true_and];rw[c] at b;exact b
theorem wj (hJ:Closed P main J){l:Nat}{b:Frame}{a:Act}{todo:List Item}{jump:Option Code}{c:Frame}{cs:List Frame}(f:b.kind= .normal)
  (hs:∀w,stepG P main (G (on b a todo) (c::cs)) w=GStep.after (seen P b.fn ((Instr.endRound l jump).runT P w #[]).2) (match ((Instr.endRound l jump).runT P w #[]).1 with
    | .ok v w=>doReturn P main (on b a todo) (c::cs) none v w
    | .halt _ w=>.ended (.stuck "range over a function: no such loop" ((on b a todo).pos P)) w))
  (h:aX P (Instr.endRound l jump) (fun v F'=>J (G (c.finish v) cs) F') F):J (G (on b a todo) (c::cs)) F:=by
 refine hJ.step fun w hw=>?_
 obtain ⟨v,w',F',es,H⟩:=kV _ F w #[] h hw
 have d:=H.run
 rw[Array.empty_append] at d
 refine ⟨G (c.finish v) cs,w',seen P b.fn es,F',?_,H.upd,H.has,fun e he=>H.iA e (mem_seen he),H.post⟩
 rw[hs w,d]
 have g:(on b a todo).kind= .normal:=f
 simp only[doReturn,g,GStep.after,G]
 simp
theorem jB.of_wp (hJ:Closed P main J){l:Nat}{f:FuncId}{tmps:Array Value}{assign body:Code}{R:Value->aa->Prop}(hd:fJ assign=true)(q:fJ body=true)
  (h:Wp J assign (qj J l body R) {tmps:=tmps,defers:=[]} F):jB J l f tmps assign body F R:=by
 intro c cs j
 let b:Frame:={(default:Frame) with fn:=f,kind:=.normal,roundOf:=some l}
 have he:Frame.round l f tmps assign body .normal=on b {tmps:=tmps,defers:=[]} (.code assign::[.beginRound,.code body]):=rfl
 rw[he]
 refine h b [.beginRound,.code body] (c::cs) ⟨by simp[b],.inr hd⟩ fun e m F' d=>?_
 cases e with
 |exit i=>exact d.elim
 |ret=>exact d.elim
 |normal=>
  obtain ⟨lo,a,g,r⟩:=d
  show J (G (on b m [.beginRound,.code body]) (c::cs)) F'
  have s:aX P (do Instr.beginRound l;pure Next.skip:Sem Next) (fun n k=>n= .skip/\k=F'.put l (.loop {lo with state:=.busy})) F':=by
   simp only[Instr.beginRound,Instr.getLoop,bu,nD]
   refine ⟨_,a,?_⟩
   simp only[bG,bu,l5,a,Option.isSome_some,Obj.isChan,true_and,g]
   all_goals first|trivial|exact ⟨rfl,rfl⟩
  refine hJ.step fun w hw=>?_
  obtain ⟨n,w',k,es,H⟩:=kV _ F' w #[] s hw
  have o:=H.run
  rw[Array.empty_append] at o
  obtain ⟨rfl,rfl⟩:=H.post
  refine ⟨G (on b m [.code body]) (c::cs),w',seen P b.fn es,_,?_,H.upd,H.has,fun e he=>H.iA e (mem_seen he),?_⟩
  .have t:b.roundOf=some l:=rfl
   simp only[G,stepG,stepG.exec,on,t,Option.elim,stepG.apply,if_true]
   have u:(b.kind==CallKind.early)=false:=rfl
   simp only[o,u,Bool.false_eq_true,if_false,GStep.after]
   simp[Frame.finish,undef]
  .refine r b [] (c::cs) ⟨by simp[b],.inr q⟩ fun e a2 k d=>?_
   cases e with
   |normal=>
    refine wj hJ (l:=l) (jump:=none) rfl (fun w=>?_) (wh rfl (R:=fun v F'=>J (G (c.finish v) cs) F') ?_)
    .simp only[G,stepG,stepG.exec,on]
     rfl
    .obtain ⟨lo,a,g⟩:=d
     exact ⟨lo,a,j _ _ g⟩
   |exit i=>
    intro p x
    refine wj hJ (l:=l) (jump:=some (.exit i)) rfl (fun w=>?_) (wh rfl (R:=fun v F'=>J (G (c.finish v) cs) F') ?_)
    .have y:exitTo i p=none:=x
     simp only[G,stepG,stepG.exec,on,y,Option.elim]
     rfl
    .obtain ⟨lo,a,g⟩:=d
     exact ⟨lo,a,j _ _ g⟩
   |ret=>
    intro p
    refine wj hJ (l:=l) (jump:=some .ret) rfl (fun w=>?_) (wh rfl (R:=fun v F'=>J (G (c.finish v) cs) F') ?_)
    .simp only[G,stepG,stepG.exec,on]
     rfl
    .obtain ⟨lo,a,g⟩:=d
     exact ⟨lo,a,j _ _ g⟩
def sJ (Q:Ex->Act->aa->Prop)(a:Act)(F:aa):Option Code->Prop
 |none=>Q .normal a F
 |some (.exit id)=>Q (.exit id) a F
 |some .ret=>Q .ret a F
 |_=>False
def nU (b:FuncId)(a:Act)(params:Array Tmp)(assign body:Code)(d:Nat):Loop:={state:=.ready,pending:=none,fn:=b,tmps:=a.tmps,params:=params,assign:=assign,body:=body,defers:=d}
theorem Gk (hJ:Closed P main J){x:Operand}{params:Array Tmp}{assign body:Code}{Q:Ex->Act->aa->Prop}{fn:FuncId}{first captured:Array Value}
  (E:ev a x= .func (.func fn) first captured) (I:aJ P fn=true)
  (L:∀M d l,dV F d->dV (F.push d (.deferred (some []))) l->
   cU P J fn (first++#[.func (.yield l) #[] #[]]++captured) ((F.push d (.deferred (some []))).push l (.loop (nU M a params assign body d)))
    (fun _ F'=>∃lo,F'.ff l=some (.loop lo)/\lo.state≠ .busy/\sJ Q {a with defers:=⟨.collected d,#[]⟩::a.defers} (F'.put l (.loop {lo with state:=.exhausted})) lo.pending)):
  Wp J (.rangeFunc x params assign body) Q a F:=by
 intro b k cs hb p
 have t:b.roundOf=none:=hb.round.elim id fun h=>by simp[fJ] at h
 obtain ⟨u,N,O,R,S,q,a4⟩:=b
 simp only at t
 subst t
 let b:Frame:=⟨u,N,O,R,S,q,none⟩
 have T:a.eval x= .func (.func fn) first captured:=E
 have i:=I
 unfold aJ at i
 split at i
 case h_2=>cases i
 rename_i a5 U
 simp only[Bool.not_eq_true',Bool.or_eq_false_iff] at i
 let K:Nat×List Deferred->aa->Prop:=fun r F'=>∃d l,r=(l,[⟨.collected d,#[]⟩])/\dV F d/\dV (F.push d (.deferred (some []))) l/\F'=(F.push d (.deferred (some []))).push l (.loop (nU b.fn a params assign body d))
 have V:aX P (Instr.enterLoop b.fn a.tmps params assign body none) K F:=by
  simp only[Instr.enterLoop,bu,pP,bG]
  exact ⟨rfl,fun d hd=>⟨rfl,fun l s=>⟨d,l,rfl,hd,s,rfl⟩⟩⟩
 refine hJ.step fun w hw=>?_
 obtain ⟨r,w1,a6,z,H1⟩:=kV _ F w #[] V hw
 have A:=H1.run
 rw[Array.empty_append] at A
 obtain ⟨d,l,rfl,hd,s,rfl⟩:=H1.post
 let fr':Frame:={on b a (.inRangeFunc l::k) with defers:=[⟨.collected d,#[]⟩]++a.defers}
 have W:fr'=on b {a with defers:=⟨.collected d,#[]⟩::a.defers} (.inRangeFunc l::k):=rfl
 have X:fr'.eval x= .func (.func fn) first captured:=by rw[W,u9];exact T
 have Y:aX P (do let m<-resolve fr'.eval {callee:=.value x,args:=#[.const (.func (.yield l) #[] #[])],argTypes:=#[]} 0;invoke m.target m.args:Sem Next)
   (fun n o=>n= .enter fn (first++#[.func (.yield l) #[] #[]]++captured)/\o=(F.push d (.deferred (some []))).push l (.loop (nU b.fn a params assign body d))) ((F.push d (.deferred (some []))).push l (.loop (nU b.fn a params assign body d))):=by
  have Z:fr'.eval (.const (.func (.yield l) #[] #[]))= .func (.yield l) #[] #[]:=rfl
  simp only[resolve,X,Deferred.ofValue,bu,bG,invoke,callFunc,j4,U,i.1,i.2,Bool.false_eq_true,if_false,List.map_toArray,List.map_cons,List.map_nil,Z]
  simp
 obtain ⟨n,w2,o,ab,g⟩:=kV _ _ w1 #[] Y H1.has
 have B:=g.run
 rw[Array.empty_append] at B
 obtain ⟨rfl,rfl⟩:=g.post
 refine ⟨G (Frame.enter P fn (first++#[.func (.yield l) #[] #[]]++captured) .normal) (fr'::cs),w2,seen P b.fn z++seen P b.fn ab,_,?_,H1.upd.trans g.upd,g.has,fun e he=>?_,?_⟩
 .have ad:(q==CallKind.early)=false:=by have:=hb.kind;cases q<;>simp_all
  have hs:∀e:Array Event,stepG P main (G (on b a (.code (.rangeFunc x params assign body)::k)) cs) w=GStep.after (seen P u z) (stepG.apply P true fr' cs none (do let m<-resolve fr'.eval {callee:=.value x,args:=#[.const (.func (.yield l) #[] #[])],argTypes:=#[]} 0;invoke m.target m.args) w1):=fun _=>by
   simp only[G,stepG,stepG.exec,on,b]
   rw[A]
   rfl
  show stepG P main (G (on b a (.code (.rangeFunc x params assign body)::k)) cs) w=_
  rw[hs #[]]
  unfold stepG.apply
  simp only[if_true,B]
  have ae:(fr'.kind==CallKind.early)=false:=ad
  simp only[ae,Bool.false_eq_true,if_false,GStep.after]
  rfl
 .rcases Array.mem_append.1 he with h|h
  .refine (H1.iA e (mem_seen h)).mono (fun _ x=>x) fun b hb=>hb.imp id fun y=>⟨y.1,Nat.lt_of_lt_of_le y.2 g.upd.size⟩
  .refine (g.iA e (mem_seen h)).mono (fun a al=>al) fun b hb=>?_
   rcases hb with hb|hb
   .rcases H1.upd.own b hb with x|x
    .exact .inl x
    .exact .inr ⟨x,Nat.lt_of_lt_of_le (H1.has.lt hb) g.upd.size⟩
   .exact .inr ⟨Nat.le_trans H1.upd.size hb.1,hb.2⟩
 .refine L b.fn d l hd s fr' cs fun v F' ao=>?_
  obtain ⟨lo,C,ar,f⟩:=ao
  have a0:fr'.finish v=on b {a with defers:=⟨.collected d,#[]⟩::a.defers} (.endRangeFunc l::k):=rfl
  rw[a0]
  have a2:aX P (Instr.endLoop l) (fun j o=>j=lo.pending/\o=F'.put l (.loop {lo with state:=.exhausted})) F':=by
   simp only[Instr.endLoop,Instr.getLoop,bu,nD]
   refine ⟨_,C,?_⟩
   have a3:¬(lo.state== .busy)=true:=by simpa using ar
   simp only[bG,bu,l5,C,Option.isSome_some,Obj.isChan,true_and,dm,a3]
   all_goals first|trivial|exact ⟨rfl,rfl⟩
  refine hJ.step fun w hw=>?_
  obtain ⟨j,w',a7,es,H⟩:=kV _ F' w #[] a2 hw
  have D:=H.run
  rw[Array.empty_append] at D
  obtain ⟨rfl,rfl⟩:=H.post
  refine ⟨G (on b {a with defers:=⟨.collected d,#[]⟩::a.defers} ((lo.pending.map Item.code).toList++k)) cs,w',seen P b.fn es,_,?_,H.upd,H.has,fun e he=>H.iA e (mem_seen he),?_⟩
  .simp only[G,stepG,stepG.exec,on,D,GStep.after]
   simp
  .revert f
   cases lo.pending with
   |none=>exact fun f=>p .normal _ _ f
   |some c=>
    intro f
    cases c<;>simp only[sJ] at f<;>first
     |exact f.elim
     |exact p (.exit _) _ _ f k rfl
     |exact p .ret _ _ f k
end
def fh {H σ:Type}(step:σ->H->Option (Bool×σ)):List (Option H)->σ->Option (Bool×σ)
 |[],s=>some (true,s)
 |none::_,_=>none
 |some x::l,s=>match step s x with
  |some (true,s')=>fh step l s'
  |some (false,s')=>some (false,s')
  |none=>none
theorem A6 {H σ:Type}(step:σ->H->Option (Bool×σ)):∀(l l':List (Option H)) (s:σ),fh step (l++l') s=match fh step l s with
  |some (true,s')=>fh step l' s'
  |some (false,s')=>some (false,s')
  |none=>none
 |[],l',s=>rfl
 |none::l,l',s=>rfl
 |some x::l,l',s=>by
  simp only[List.cons_append,fh]
  split<;>first|rfl|exact A6 step l l' _
def jf {H σ ρ:Type}(f:H->σ->Option (Fl σ ρ)):List (Option H)->σ->Option (Fl σ ρ)
 |[],s=>some (.nx s)
 |none::_,_=>none
 |some x::l,s=>ag (f x s) fun o=>match o with
  | .nx s'=>jf f l s'
  | .bk s'=>some (.nx s')
  | .br k s'=>some (.br k s')
  | .rt _=>none
def wm {H σ:Type}(P:Program)(y:Value)(enc:H->Value)(step:σ->H->Option (Bool×σ))(ro:Addr->Option Value)(I:σ->List (Nat×Obj)->Prop):Prop:=
 ∀s x b s',step s x=some (b,s')->∀(main:Bool) (J:Goroutine->aa->Prop),Closed P main J->∀own,I s own->
  gI P J y #[enc x] ⟨ro,own⟩ (fun v F'=>∃a,Le ⟨ro,a⟩ F'/\v= .bool b/\I s' a)
def mz {H:Type}(P:Program)(f:FuncId)(first cap:Array Value)(enc:H->Value)(L:List (Option H))(ro:Addr->Option Value):Prop:=
 aJ P f=true/\∀(aM:Addr->Option Value),Ext ro aM->∀(σ:Type) (step:σ->H->Option (Bool×σ)) (I:σ->List (Nat×Obj)->Prop) (a:Fn) (c d:Array Value),wm P (.func a c d) enc step aM I->
  ∀s b s',fh step L s=some (b,s')->∀(main:Bool) (J:Goroutine->aa->Prop),Closed P main J->∀own,I s own->
   cU P J f (first++#[.func a c d]++cap) ⟨aM,own⟩ (fun _ F'=>∃e,Le ⟨aM,e⟩ F'/\I s' e)
theorem mz.mono {H:Type}{P:Program}{f:FuncId}{first cap:Array Value}{enc:H->Value}{L:List (Option H)}{ro a:Addr->Option Value}(h:mz P f first cap enc L ro)(b:Ext ro a):mz P f first cap enc L a:=
 ⟨h.1,fun aM c=>h.2 aM (b.trans c)⟩
def sK:Nat:=1000000000
def mA (k:Nat):Code:=if k=sK then .ret else .exit k
def wo (Q:Ex->Act->aa->Prop)(k:Nat):Act->aa->Prop:=if k=sK then Q .ret else Q (.exit k)
def A7 {σ ρ:Type}(c:Nat)(ro:Addr->Option Value)(l d:Nat)(S:σ->List (Nat×Obj)->Prop)(lo:Loop)(b:Fl σ ρ)(v:Value)(F:aa):Prop:=
 ∃a,Le ⟨ro,(l,.loop {lo with state:=(match b with| .nx _=>.ready|_=>.done),pending:=(match b with| .nx _=>none| .bk _=>some (mA c)| .br k _=>some (mA k)| .rt _=>none)})::(d,.deferred (some []))::a⟩ F/\
  match b with
  | .nx s'=>v= .bool true/\S s' a
  | .bk s'=>v= .bool false/\S s' a
  | .br _ s'=>v= .bool false/\S s' a
  | .rt _=>False
section
variable {P : Program} {main : Bool} {J : Goroutine → aa → Prop} {a : Act}
theorem A8 {H σ ρ:Type}{f:H->σ->Option (Fl σ ρ)}(a:Nat):∀(L:List (Option H)) (s:σ) (o:Fl σ ρ),jf f L s=some o->
  ∃b s' pend,fh (σ:=σ×Option Nat) (fun st x=>match st with
   |(s,none)=>match f x s with
    |some (.nx s')=>some (true,(s',none))
    |some (.bk s')=>some (false,(s',some a))
    |some (.br k s')=>some (false,(s',some k))
    |_=>none
   |_=>none) L (s,none)=some (b,(s',pend))/\((o= .nx s'/\(pend=none\/pend=some a))\/∃k,o= .br k s'/\pend=some k)
 |[],s,o,h=>by
  cases h
  exact ⟨true,s,none,rfl,.inl ⟨rfl,.inl rfl⟩⟩
 |none::L,s,o,h=>by cases h
 |some x::L,s,o,h=>by
  unfold jf at h
  obtain ⟨e,d,c⟩:=fV h
  cases e with
  |nx s'=>
   obtain ⟨b,s2,pend,g,i⟩:=A8 a L s' o c
   refine ⟨b,s2,pend,?_,i⟩
   unfold fh
   simp only[d]
   exact g
  |bk s'=>
   cases c
   refine ⟨false,s',some a,?_,.inl ⟨rfl,.inr rfl⟩⟩
   unfold fh
   simp only[d]
  |br k s'=>
   cases c
   refine ⟨false,s',some k,?_,.inr ⟨k,rfl,rfl⟩⟩
   unfold fh
   simp only[d]
  |rt r=>cases c
theorem A9 {ro:Addr->Option Value}{l:Nat}{o:Obj}{own:List (Nat×Obj)}(a:Obj.pK o=false)(b:o.isChan=false):aa.ff ⟨ro,(l,o)::own⟩ l=some o:=by
 simp[aa.ff,lk,a,b]
def ql (a:Act)(d:Nat):Act:={a with defers:=⟨.collected d,#[]⟩::a.defers}
theorem Gl (a:Act)(d i:Nat):slot (ql a d) i=slot a i:=rfl
theorem Gm (a:Act)(d:Nat):sz (ql a d)=sz a:=rfl
theorem Gn (a:Act)(d:Nat):(ql a d).defers=⟨.collected d,#[]⟩::a.defers:=rfl
def mB (a:Act)(p:Tmp)(v:Value):Act:={tmps:=a.tmps.setIfInBounds p v,defers:=[]}
theorem nW (a:Act)(p:Tmp)(v:Value)(i:Nat):slot (mB a p v) i=slot (bg a (some p) v) i:=rfl
theorem wq (a:Act)(p:Tmp)(v:Value):sz (mB a p v)=sz a:=by simp[sz,mB]
theorem wu {H σ ρ:Type}(hJ:Closed P main J){x:Operand}{p:Tmp}{assign body:Code}{Q:Ex->Act->aa->Prop}{fn:FuncId}{first captured:Array Value}{ro:Addr->Option Value}{own:List (Nat×Obj)}{g:Nat}
  (enc:H->Value) {L:List (Option H)} (U:ev a x= .func (.func fn) first captured) (K:mz P fn first captured enc L ro)
  (V:fJ assign=true) (W:fJ body=true)
  (S:σ->List (Nat×Obj)->Prop) {f:H->σ->Option (Fl σ ρ)} {z:σ} {o:Fl σ ρ} (X:jf f L z=some o) (Y:S z own)
  (Z:∀(d l:Nat) (lo:Loop),lo.state= .ready->∀(s:σ) (y:H) (q:Fl σ ρ),f y s=some q->∀(main:Bool) (J:Goroutine->aa->Prop),Closed P main J->∀own,S s own->
   Wp J assign (qj J l body (A7 g ro l d S lo q)) (mB a p (enc y)) ⟨ro,(l,.loop lo)::(d,.deferred (some []))::own⟩)
  (ab:¬g=sK)
  (ad:∀d l lo j s',S s' j->aR (keys ((l,.loop lo)::(d,.deferred (some []))::j))->aF ro ((l,.loop lo)::(d,.deferred (some []))::j)->(o= .nx s'->Q .normal (ql a d) ⟨ro,(l,.loop lo)::(d,.deferred (some []))::j⟩)/\
   (∀k,o= .br k s'->wo Q k (ql a d) ⟨ro,(l,.loop lo)::(d,.deferred (some []))::j⟩))
  (ae:∀k s',o= .br k s'->¬k=g):Wp J (.block g (.rangeFunc x #[p] assign body)) Q a ⟨ro,own⟩:=by
 refine aN hJ (Wp.mono (Q:=fun e A F'=>match e with| .exit i=>if i=g then Q .normal A F' else Q (.exit i) A F'|e=>Q e A F') ?_ fun e a F h=>by cases e<;>exact h)
 obtain ⟨b,s',pend,al,ao⟩:=A8 g L z o X
 refine Gk hJ U K.1 fun B d l hd bc=>?_
 let lo:Loop:=nU B a #[p] assign body d
 let n:Option Nat->Loop:=fun pend=>{lo with state:=(match pend with|none=>.ready|some _=>.done),pending:=pend.map mA}
 let I:σ×Option Nat->List (Nat×Obj)->Prop:=fun st ar=>∃aW,ar=(l,.loop (n st.2))::(d,.deferred (some []))::aW/\S st.1 aW
 have a0:wm P (.func (.yield l) #[] #[]) enc (fun (st:σ×Option Nat) x=>match st with
   |(s,none)=>match f x s with
    |some (.nx s')=>some (true,(s',none))
    |some (.bk s')=>some (false,(s',some g))
    |some (.br k s')=>some (false,(s',some k))
    |_=>none
   |_=>none) ro I:=by
  rintro ⟨s,pend⟩ y bd ⟨s1,bj⟩ m a2 M N a3 ⟨aW,rfl,a4⟩
  cases pend with
  |some k=>cases m
  |none=>
   simp only at m
   refine ⟨rfl,rfl,lo,A9 rfl rfl,rfl,?_⟩
   cases C:f y s with
   |none=>rw[C] at m;cases m
   |some q=>
    have D:=jB.of_wp N (R:=A7 g ro l d S lo q) (f:=B) V W (Z d l lo rfl s y q C a2 M N aW a4)
    rw[C] at m
    have a5:(lo.params.zip #[enc y]).foldl (fun tmps (t,a)=>tmps.setIfInBounds t a) lo.tmps=a.tmps.setIfInBounds p (enc y):=by simp[lo,nU]
    show jB M l B ((lo.params.zip #[enc y]).foldl (fun tmps (t,a)=>tmps.setIfInBounds t a) lo.tmps) assign body _ _
    rw[a5]
    refine D.mono fun v F' E=>?_
    obtain ⟨j,hle,hm⟩:=E
    cases q with
    |nx s2=>
     simp only[Option.some.injEq,Prod.mk.injEq] at m
     obtain ⟨rfl,rfl,rfl⟩:=m
     exact ⟨_,hle,hm.1,j,rfl,hm.2⟩
    |bk s2=>
     simp only[Option.some.injEq,Prod.mk.injEq] at m
     obtain ⟨rfl,rfl,rfl⟩:=m
     exact ⟨_,hle,hm.1,j,rfl,hm.2⟩
    |br k s2=>
     simp only[Option.some.injEq,Prod.mk.injEq] at m
     obtain ⟨rfl,rfl,rfl⟩:=m
     exact ⟨_,hle,hm.1,j,rfl,hm.2⟩
    |rt r=>exact hm.elim
 have a6:=K.2 ro (Ext.refl ro) _ _ I _ _ _ a0 (z,none) b (s',pend) al main J hJ ((l,.loop lo)::(d,.deferred (some []))::own) ⟨own,rfl,Y⟩
 intro c cs a7
 refine a6 c cs fun v F' E=>?_
 obtain ⟨a3,hle,j,rfl,a8⟩:=E
 by_cases hw:∃w,Has F' w
 case neg=>exact hJ.step fun w a9=>absurd ⟨w,a9⟩ hw
 obtain ⟨w,hw⟩:=hw
 have O:=hle.has w hw
 refine hJ.mono hle (a7 v _ ⟨n pend,A9 rfl rfl,?_,?_⟩)
 .cases pend<;>simp[n]
 .obtain ⟨T,ba⟩:=ad d l {n pend with state:=.exhausted} j s' a8 ⟨O.nodup⟩ (fun b hb off sp=>by
   cases D:ro ⟨b,off,sp⟩ with
   |none=>rfl
   |some v=>exact absurd hb (O.apart _ v D))
  have bb:aa.put ⟨ro,(l,.loop (n pend))::(d,.deferred (some []))::j⟩ l (.loop {n pend with state:=.exhausted})=⟨ro,(l,.loop {n pend with state:=.exhausted})::(d,.deferred (some []))::j⟩:=by simp[aa.put,iW]
  rw[bb]
  rcases ao with ⟨rfl,rfl|rfl⟩|⟨k,rfl,rfl⟩
  .exact T rfl
  .show sJ _ _ _ (some (mA g))
   have:mA g= .exit g:=if_neg ab
   rw[this]
   show (if g=g then Q .normal _ _ else Q (.exit g) _ _)
   rw[if_pos rfl]
   exact T rfl
  .have u:=ba k rfl
   show sJ _ _ _ (some (mA k))
   unfold wo at u
   unfold mA
   split
   .rename_i G
    rw[if_pos G] at u
    exact u
   .rename_i G
    rw[if_neg G] at u
    show (if k=g then Q .normal _ _ else Q (.exit k) _ _)
    rw[if_neg (ae k s' rfl)]
    exact u
theorem Gq {R:List Deferred->aa->Prop}{r:Nat}{F:aa}:aX P (Instr.takeDeferred r) R F=match F.ff r with
  |some (.deferred (some a))=>R a (F.put r (.deferred none))
  |_=>False:=by
 unfold Instr.takeDeferred
 rw[bu,nD]
 refine propext ⟨fun ⟨o,d,b⟩=>?_,fun h=>?_⟩
 .rw[d]
  cases o<;>first|exact (show False from b).elim|skip
  rename_i a
  cases a with
  |none=>exact (show False from b).elim
  |some a=>
   simp only[bu,l5,bG] at b
   exact b.2.2
 .split at h
  .rename_i a c
   refine ⟨_,c,?_⟩
   simp only[bu,l5,bG]
   exact ⟨rfl,by rw[c];rfl,h⟩
  .exact h.elim
theorem Gs (hJ:Closed P main J){y:Value}{args:Array Value}{ro:Addr->Option Value}{own:List (Nat×Obj)}{R:Value->List (Nat×Obj)->Prop}(pre:List (Nat×Obj))
  (h:∀(main:Bool) (J:Goroutine->aa->Prop),Closed P main J->gI P J y args ⟨ro,own⟩ (fun v F'=>∃a,Le ⟨ro,a⟩ F'/\R v a)) (p:aR (keys (pre++own))) {K:Value->aa->Prop}
  (s:∀v a,R v a->aR (keys (pre++a))->K v ⟨ro,pre++a⟩):gI P J y args ⟨ro,pre++own⟩ K:=by
 have key:∀jH:Frame,(∀(main:Bool) (J:Goroutine->aa->Prop),Closed P main J->sF J jH ⟨ro,own⟩ (fun v F'=>∃a,Le ⟨ro,a⟩ F'/\R v a))->sF J jH ⟨ro,pre++own⟩ K:=fun jH d=>
  AY hJ pre [] (by simp) R (fun m e f c cs t=>d m e f c cs fun v F' u=>t v F' (by obtain ⟨o,b,g⟩:=u;exact ⟨o,g,b⟩)) fun v w x a k i=>by
   rw[List.append_nil] at k
   subst k
   exact ⟨_,Le.refl _,s v w x i⟩
 have d:=h main J hJ
 unfold gI at d ⊢
 split at d
 .rename_i fn first captured
  refine ⟨d.1,key _ fun m e f=>?_⟩
  have:=h m e f
  unfold gI at this
  exact this.2
 .rename_i l first captured
  obtain ⟨e1,e2,r,b,g,_⟩:=d
  refine ⟨e1,e2,r,?_,g,key _ fun m e f=>?_⟩
  .have hm:l∈keys own:=by
    unfold aa.ff at b
    split at b
    .rename_i o z;exact e4 (g6 z)
    .cases b
   have i:l∉keys pre:=fun A=>by
    have:=p.nd
    rw[cp] at this
    exact (List.nodup_append.1 this).2.2 l A l hm rfl
   have B:∀(pre:List (Nat×Obj)),l∉keys pre->lk (pre++own) l=lk own l:=fun pre=>by
    induction pre with
    |nil=>intro _;rfl
    |cons q pre ih=>
     intro j
     simp only[keys,List.map_cons,List.mem_cons,not_or] at j
     simp only[List.cons_append,lk,if_neg (Ne.symm j.1)]
     exact ih j.2
   unfold aa.ff at b ⊢
   simp only at b ⊢
   rw[B pre i]
   exact b
  .have:=h m e f
   unfold gI at this
   obtain ⟨_,_,D,n,E,C⟩:=this
   rw[b] at n
   cases n
   exact C
 .exact d.elim
theorem cU.less (hJ:Closed P main J){f:FuncId}{args:Array Value}{F:aa}{R:Value->aa->Prop}(h:cU P J f args F (fun v F'=>∃F0,Le F0 F'/\R v F0)):cU P J f args F R:=
 fun c cs a=>h c cs fun v F' ⟨F0,hle,b⟩=>hJ.mono hle (a v F0 b)
def Ba (P:Program)(rs:List ResultVar)(R:Value->aa->Prop):Ex->Act->aa->Prop
 | .exit _,_,_=>False
 |_,a,F=>iB P a.defers (fun F=>match mh P F a rs with|some v=>R v F|none=>False) F
theorem Bb {K b:aa->Prop}(h:∀F,K F->b F):∀(a:List Deferred) (F:aa),iB P a K F->iB P a b F
 |[],F,x=>h F x
 |d::a,F,⟨r,e,f⟩=>⟨r,e,g9 (fun calls F' c=>⟨c.1,Bb h a F' c.2⟩) _ _ f⟩
theorem aE.wv {f:FuncId}{fn:Func}{c:Code}{n:Nat}{rs:List ResultVar}{args:Array Value}{F:aa}{R:Value->aa->Prop}(g:P.funcs[f]?=some fn)(hb:fn.body=some c)(j:fn.ntmps=n)(k:fn.results=rs.toArray)(l:args.size<=n)
  (h:∀main J,Closed P main J->∀A:Act,sz A=n->A.defers=[]->(∀i,slot A i=args.getD i undef)->Wp J c (Ba P rs R) A F):aE P f args F R:=
 aE.start g hb j l fun main J hJ A m o p=>(h main J hJ A m o p).mono fun e a F b=>by
  have key:iB P a.defers (fun F=>match mh P F a rs with|some v=>R v F|none=>False) F->iB P a.defers (fun F=>aX P (results fn a.tmps) R F) F:=Bb (fun F d=>by
   split at d
   .rename_i v q;exact sj k q d
   .exact d.elim) _ _
  cases e with
  |exit i=>exact b
  |normal=>exact key b
  |ret=>exact key b
theorem cU.go (hJ:Closed P main J){f:FuncId}{fn:Func}{c:Code}{n:Nat}{rs:List ResultVar}{args:Array Value}{F:aa}{R:Value->aa->Prop}(j:P.funcs[f]?=some fn)(hb:fn.body=some c)(d:fn.ntmps=n)(k:fn.results=rs.toArray)(m:args.size<=n)
  (h:∀A:Act,sz A=n->A.defers=[]->(∀i,slot A i=args.getD i undef)->Wp J c (gJ P rs R) A F):cU P J f args F R:=by
 refine cU.of_wp hJ j hb ?_
 refine (h _ (by simp[sz,d];omega) rfl fun i=>?_).mono fun e a F g=>?_
 .simp only[slot,d,Array.getD_eq_getD_getElem?]
  rcases Nat.lt_or_ge i args.size with hi|hi
  .rw[Array.getElem?_append_left hi]
  .rw[Array.getElem?_append_right hi,Array.getElem?_replicate,Array.getElem?_eq_none hi]
   split<;>rfl
 .cases e with
  |exit i=>exact g
  |_=>
   obtain ⟨hd,b⟩:=g
   split at b
   .rename_i v l
    show iB P a.defers _ F
    rw[hd]
    exact sj k l b
   .exact b.elim
theorem Gt {d:Nat}{X:Nat->Prop}:(∃r,Target.collected d=Target.collected r/\X r)=X d:=propext ⟨fun ⟨r,a,b⟩=>by cases a;exact b,fun h=>⟨d,rfl,h⟩⟩
attribute [go_sem] Gt Gl Gm Gn Ba Gq aa.ff Obj.pK Obj.isChan
end
section
variable {P : Program}
theorem Bc {argTypes:Array TypeId}{t e ty:TypeId}{R:Value->aa->Prop}{F:aa}{ad:Option Addr}{n c:Nat}(ht:argTypes[0]?=some t)(hu:P.underlying t=some (.slice e))(h:R (.int .i64 c) F):e5 P (Builtin.cap_ argTypes ty #[.slice ad n c]) R F:=by
 unfold e5;simp only[Builtin.cap_,ht,List.getElem?_toArray,List.getElem?_cons_zero,bu,dy,hu,bG];exact h
theorem Gu (z:Value)(n:Nat):(Builtin.zeroCells #[z] n).toList=List.replicate n z:=by
 simp only[Builtin.zeroCells,List.size_toArray,List.length_cons,List.length_nil,Nat.zero_add,Nat.mul_one,Nat.mod_one];rw[Array.toList_map,Array.toList_range];apply List.ext_getElem
 .simp
 .intro i a b;simp
theorem Gv {ro:Addr->Option Value}{pre bq:List (Nat×Obj)}{argTypes:Array TypeId}{t e ty:TypeId}{R:Value->aa->Prop}{b off n c:Nat}{arr:Array Value}{z zc:Value}(ht:argTypes[0]?=some t)(hu:P.underlying t=some (.slice e))(a:zeroOf P e=some z)(d:z.cells=#[zc])(f:bF zc=true)
  (l:0<n) (g:av pre b) (i:off+n<=arr.size)
  (h:R (.tuple #[]) ⟨ro,pre++((b,.cells (cJ arr off (List.replicate n zc)) e)::bq)⟩):
  e5 P (Builtin.clear_ argTypes ty #[.slice (some ⟨b,off,none⟩) n c]) R ⟨ro,pre++((b,.cells arr e)::bq)⟩:=by
 unfold e5
 have m:n≠0:=by omega
 obtain ⟨k,rfl⟩:∃k,n=k+1:=⟨n - 1,by omega⟩
 simp only[Builtin.clear_,ht,List.getElem?_toArray,List.getElem?_cons_zero,bu,dy,hu,l6,a,d]
 refine rW _ _ 0 _ ⟨ro,pre++((b,.cells (cJ arr off (List.replicate (k+1) zc)) e)::bq)⟩ ?_ ?_
 .rw[Gu]
  have:=v5 (ro:=ro) (bq:=bq) (e:=e) g off (List.replicate (k+1) zc) arr 0 (fun v j=>by rw[List.eq_of_mem_replicate j];exact f) (by simpa using i)
  simpa using this
 .simp only[bG]
  exact h
end
theorem aO.Be {T:Type}{r:b7 T}{ro:Addr->Option Value}{e:TypeId}{v:Value}{l:List T}{aW:List (Nat×Obj)}(h:aO r ro e v l aW){own:List (Nat×Obj)}(pre bq:List (Nat×Obj))(f:own=pre++(aW++bq))(g:aR (keys own)):az r (aa.cx ⟨ro,own⟩).ro v l:=by
 subst f;obtain ⟨ls,hg,c,hm,k⟩:=h;rcases hg with ⟨rfl,rfl,rfl⟩|⟨b,arr,cap,rfl,rfl,hs,hle,ht,d,m⟩
 .have:l=[]:=List.eq_nil_of_length_eq_zero (by simpa using c.symm);subst this;exact az.nil r _
 .have o:av pre b:=Nd.fresh g.nd b (by simp[keys]);refine ⟨some ⟨b,0,none⟩,cap,by rw[c],by omega,by omega,fun i x hi=>?_⟩;obtain ⟨cs,p,q⟩:=k i x hi;refine ⟨_,cs,rfl,r.mono aP q,fun j v s=>?_⟩;have a:=qa ls i cs d p j v s;rw[kY,kZ,Nat.zero_add];have t:i*r.n+j<ls.length*r.n:=by
   have:=(List.getElem?_eq_some_iff.1 a).1;rw[iC d] at this;exact this
  rw[<-ht,List.getElem?_take_of_lt t] at a;show aa.get ⟨ro,pre++([(b,Obj.cells arr e)]++bq)⟩ ⟨b,i*r.n+j,none⟩=some v;simp only[aa.get,m,if_true,List.cons_append,List.nil_append,sE o,Option.bind_some,cellOf];simpa using a
theorem az.two {T:Type}{r:b7 T}{ro:Addr->Option Value}{own:List (Nat×Obj)}{b:Nat}{x y:T}{v u:Value}{e:TypeId}(c:∀off sp,ro ⟨b,off,sp⟩=none)(f:lk own b=some (.cells #[v,u] e))(d:r.n=1)(h:r.rel ro x [v])(k:r.rel ro y [u]):
  az r (bR ro b (.cells #[v,u] e)) (.slice (some ⟨b,0,none⟩) 2 2) [x,y]:=by
 refine ⟨some ⟨b,0,none⟩,2,rfl,Nat.le_refl _,by simp,fun i z hi=>?_⟩
 have:(i=0/\z=x)\/(i=1/\z=y):=by
  cases i with
  |zero=>simp at hi;exact .inl ⟨rfl,hi.symm⟩
  |succ i=>cases i with
   |zero=>simp at hi;exact .inr ⟨rfl,hi.symm⟩
   |succ i=>simp at hi
 rcases this with ⟨rfl,rfl⟩|⟨rfl,rfl⟩
 .refine ⟨_,_,rfl,r.mono (gm _ _ _) h,fun j w a=>?_⟩
  cases j with
  |zero=>
   rw[Nat.zero_mul,add_zero',kZ,Nat.zero_add,jc c]
   simpa [cellOf] using a
  |succ j=>simp at a
 .refine ⟨_,_,rfl,r.mono (gm _ _ _) k,fun j w a=>?_⟩
  cases j with
  |zero=>
   rw[d,kY,kZ,jc c]
   simpa [cellOf] using a
  |succ j=>simp at a
theorem aO.clear {ro:Addr->Option Value}{e:TypeId}{b n cap k:Nat}{x:List Int}{arr:Array Value}(h:aO rI ro e (.slice (some ⟨b,0,none⟩) n cap) x [(b,.cells arr e)])(t:k<=x.length):
  aO rI ro e (.slice (some ⟨b,0,none⟩) k cap) (x.take k) [(b,.cells (cJ arr k (List.replicate (n - k) (.int .i64 0))) e)]:=by
 obtain ⟨ls,hg,u,hm,l⟩:=h
 rcases hg with ⟨a,_,_⟩|⟨w,y,m,a,o,hs,hle,ht,f,p⟩
 .cases a
 .cases o
  obtain ⟨rfl,rfl⟩:n=ls.length/\cap=m:=by cases a;exact ⟨rfl,rfl⟩
  have d:rI.n=1:=rfl
  rw[d] at hs ht f
  simp only[Nat.mul_one] at hs ht
  have c:(ls.take k).length=k:=by rw[List.length_take];omega
  refine ⟨ls.take k,.inr ⟨b,_,cap,by rw[c],rfl,by rw[r8];rw[d,Nat.mul_one];exact hs,by rw[c];omega,?_,?_,p⟩,by rw[c,List.length_take];omega,by rw[List.length_take];omega,?_⟩
  .rw[r9 _ _ _ (by simp;omega),c,d,Nat.mul_one,List.append_assoc,List.take_append_of_le_length (by rw[List.length_take,Array.length_toList];omega),List.take_take,Nat.min_self]
   have e1:arr.toList.take k=(arr.toList.take ls.length).take k:=by rw[List.take_take,Nat.min_eq_left (by omega)]
   rw[e1,ht]
   have e2:ls.flatten=(ls.take k).flatten++(ls.drop k).flatten:=by rw[<-List.flatten_append,List.take_append_drop]
   have j:(ls.take k).flatten.length=k:=by rw[iC (size:=1) (fun z g=>f z (List.mem_of_mem_take g)),c,Nat.mul_one]
   rw[e2,List.take_append_of_le_length (Nat.le_of_eq j.symm),List.take_of_length_le (Nat.le_of_eq j)]
  .intro z g
   rw[d];exact f z (List.mem_of_mem_take g)
  .intro i v a
   obtain ⟨hi,q⟩:i<k/\x[i]?=some v:=by
    rw[List.getElem?_take] at a
    split at a
    .exact ⟨‹_›,a⟩
    .cases a
   obtain ⟨cs,r,s⟩:=l i v q
   exact ⟨cs,by rw[List.getElem?_take,if_pos hi];exact r,s⟩
section
variable {P : Program}
theorem Gw {t:TypeId}{R:Value->aa->Prop}{F:aa}(h:∀b,dV F b->R (.map (some b)) (F.push b (.map #[] 0))):e5 P (Instr.makeMap t none) R F:=by
 unfold e5;simp only[Instr.makeMap,bu,pP,bG];exact ⟨rfl,h⟩
theorem Gx {argTypes:Array TypeId}{t a b ty:TypeId}{r:Nat}{es:Array MapEntry}{clock:Nat}{R:Value->aa->Prop}{F:aa}(ht:argTypes[0]?=some t)(hu:P.underlying t=some (.map a b))(c:F.ff r=some (.map es clock))(h:R (.int .i64 (es.size:Int)) F):
  e5 P (Builtin.len_ argTypes ty #[.map (some r)]) R F:=by
 unfold e5
 simp only[Builtin.len_,ht,List.getElem?_toArray,List.getElem?_cons_zero,bu,dy,hu,nD]
 exact ⟨_,c,h⟩
theorem Bf {d:TypeId}{key:Value}{F:aa}{Q:Option (Nat×Value)->aa->Prop}:∀(l:List MapEntry) (i:Nat),
  (∀e∈l,∃b,(∀(Q:Bool->aa->Prop),Q b F->aX P (Op.equal d key e.key) Q F)/\(b=true↔e.key=key))->
  (∀j e,l[j]?=some e->e.key=key->Q (some (i+j,e.val)) F)->((∀e∈l,¬e.key=key)->Q none F)->aX P (Instr.findAsking d key l i) Q F
 |[],i,_,_,a=>a (by simp)
 |e::l,i,f,g,a=>by
  obtain ⟨b,hb,h⟩:=f e (by simp)
  simp only[Instr.findAsking,bu]
  refine hb _ ?_
  cases b with
  |true=>exact g 0 e rfl (h.1 rfl)
  |false=>
   have aD:¬e.key=key:=fun x=>by have:=h.2 x;cases this
   refine Bf l (i+1) (fun x c=>f x (by simp[c])) (fun j x c he=>?_) (fun k=>a (by simpa [aD] using k))
   have:=g (j+1) x (by simpa using c) he
   rwa [show i+1+j=i+(j+1) by omega]
theorem modify_keys {es:Array MapEntry}{i:Nat}{key val:Value}{e:MapEntry}(hi:es[i]?=some e)(he:e.key=key):(es.modify i fun e=>{e with key:=key,val:=val}).toList.map (·.key)=es.toList.map (·.key):=by
 apply List.ext_getElem?;intro j;simp only[List.getElem?_map,Array.toList_modify,List.getElem?_modify];by_cases a:i=j
 .subst a;have:es.toList[i]?=some e:=by simpa using hi
  simp[this,he]
 .simp[a]
theorem Gy {t c q f n:TypeId}{r:Nat}{es:Array MapEntry}{clock:Nat}{key val:Value}{R:Value->aa->Prop}{F:aa}(hu:P.underlying t=some (.map c q))(g:F.ff r=some (.map es clock))
  (s:∀Q:Unit->aa->Prop,Q () F->aX P (Instr.checkKey false 10000 c key) Q F) (u:P.underlying c=some (.array n f))
  (v:∀e∈es.toList,∃b,(∀(Q:Bool->aa->Prop),Q b F->aX P (Op.equal c key e.key) Q F)/\(b=true↔e.key=key))
  (h:∀d w,((key∈es.toList.map (·.key)/\d.toList.map (·.key)=es.toList.map (·.key))\/(key∉es.toList.map (·.key)/\d.toList.map (·.key)=es.toList.map (·.key)++[key]))->R undef (F.put r (.map d w))):
  e5 P (Instr.mapUpdate t (.map (some r)) key val>>= fun _=>pure undef) R F:=by
 unfold e5
 simp only[Instr.mapUpdate,bu,dy,hu,nD]
 refine ⟨_,g,?_⟩
 simp only[bu]
 refine s _ ?_
 have k:(F.ff r).isSome=true:=by rw[g];rfl
 have step:aX P (Instr.findAsking c key es.toList) (fun a G=>aX P (match a with
   |some (i,_)=>do
    let key<-Instr.keyThatStays (((es[i]?).map (·.key)).getD key) key
    setObj r (.map (es.modify i fun e=>{e with key,val}) clock)
   |none=>setObj r (.map (es.push {key,val,born:=clock}) (clock+1))) (fun _ G=>aX P (pure undef) R G) G) F:=by
  refine Bf _ 0 v (fun j e m he=>?_) (fun x=>?_)
  .simp only[Nat.zero_add,bu]
   have o:es[j]?=some e:=by simpa using m
   rw[o]
   simp only[Option.map_some,Option.getD_some,he]
   have fin:aX P (setObj r (.map (es.modify j fun e=>{e with key:=key,val:=val}) clock)) (fun _ G=>aX P (pure undef) R G) F:=by
    simp only[l5,bG]
    refine ⟨rfl,k,h _ _ (.inl ⟨?_,modify_keys o he⟩)⟩
    rw[<-he]
    exact List.mem_map_of_mem (List.mem_of_getElem? m)
   unfold Instr.keyThatStays
   rw[dm]
   split
   .exact fin
   .simp only[bu,vo]
    split
    .simp only[bG,ite_self];exact fin
    .intro t;simp only[bG,ite_self];exact fin
  .simp only[l5,bG]
   refine ⟨rfl,k,h _ _ (.inr ⟨?_,by simp⟩)⟩
   intro hm
   obtain ⟨e,he,y⟩:=List.mem_map.1 hm
   exact x e he y
 unfold Instr.findKey
 simp only[bu,dy,u]
 cases p:es.toList with
 |nil=>
  rw[p] at step
  exact step
 |cons e l=>
  have:Instr.findNow (.array n f) key (e::l) 0=none:=rfl
  rw[this]
  rw[p] at step
  exact step
end
theorem bS {α β:Type}{x:Option α}{f:α->Option β}{r:β}{G:Prop}(k:∀a,x=some a->f a=some r->G)(h:ag x f=some r):G:=by
 obtain ⟨a,b,c⟩:=fV h;exact k a b c
def bp:Code->Code
 | .seq _ b=>b
 |c=>c
theorem sI {α:Type}{x r:α}(h:some x=some r):x=r:=Option.some.inj h
theorem aC {ro:Addr->Option Value}{own:List (Nat×Obj)}{G:Nat->Prop}(h:∀b,(∀off sp,ro ⟨b,off,sp⟩=none)->av own b->G b):∀b,dV ⟨ro,own⟩ b->G b:=fun b f=>h b (eK f) (fL f)
theorem bt:(∀(ro:Addr->Option Value) (b:Nat) (o:Obj) (l:List (Nat×Obj)),aF ro ((b,o)::l)=((∀off sp,ro ⟨b,off,sp⟩=none)/\aF ro l))/\(∀l:List (Nat×Obj),[]++l=l)/\(∀l:List (Nat×Obj),l++[]=l)/\
  (∀(x:Nat×Obj) (l m:List (Nat×Obj)),x::l++m=x::(l++m))/\∀l m n:List (Nat×Obj),l++m++n=l++(m++n):=
 ⟨fun _ _ _ _=>propext ⟨fun h=>⟨h.hd,h.tl⟩,fun h=>aF.cons h.1 h.2⟩,fun _=>rfl,List.append_nil,fun _ _ _=>rfl,List.append_assoc⟩
theorem az.el {T:Type}{r:b7 T}{ro:Addr->Option Value}{ad:Option Addr}{n cap:Nat}{l:List T}(h:az r ro (.slice ad n cap) l):
  ∀i x,l[i]?=some x->∃p cs,ad=some p/\r.rel ro x cs/\∀j v,cs[j]?=some v->ro ((p.add (i*r.n)).add j)=some v:=by
 obtain ⟨a,b,e,_,_,h⟩:=h
 cases e
 exact h
theorem aR.tl {b:Nat}{ks:List Nat}(h:aR (b::ks)):aR ks:=⟨(List.nodup_cons.1 h.nd).2⟩
theorem aR.cut {l:List (Nat×Obj)}(h:aR (keys l))(i n:Nat):aR (keys (l.take i++l.drop (i+n))):=
 ⟨(((List.Sublist.append_left (show (l.drop (i+n)).Sublist (l.drop i) by rw[<-List.drop_drop];exact List.drop_sublist _ _) (l.take i)).trans (by rw[List.take_append_drop];exact List.Sublist.refl _)).map _).nodup h.nd⟩
theorem aO.eH {T:Type}{r:b7 T}{ro:Addr->Option Value}{e:TypeId}{v:Value}{l:List T}{aW:List (Nat×Obj)}(h:aO r ro e v l aW){own:List (Nat×Obj)}(pre bq:List (Nat×Obj))(a:aR (keys own))(b:aF ro (pre++bq))
  (c:own=pre++(aW++bq):=by first|rfl|simp only[aV]|(simp only[aV];rfl)):
  ∃aM,Ext ro aM/\aF aM (pre++bq)/\az r aM v l/\Le ⟨aM,pre++bq⟩ ⟨ro,own⟩:=h.k9 _ pre bq c rfl a b
theorem az.oc {T:Type}{r:b7 T}{ro:Addr->Option Value}{s:Value}{l:List T}(h:az r ro s l):bF s=true:=by
 obtain ⟨_,_,e,_⟩:=h;rw[e];rfl
theorem Gz {p:Nat->Prop}{a:Nat}{l:List Nat}:(∀i,i∈a::l->p i)=(p a/\∀i,i∈l->p i):=propext List.forall_mem_cons
theorem GA {p:Nat->Prop}:(∀i,i∈([]:List Nat)->p i)=True:=propext ⟨fun _=>trivial,fun _ _ h=>(by cases h)⟩
section
variable {P : Program} {main : Bool} {J : Goroutine → aa → Prop} {Q : Ex → Act → aa → Prop} {a : Act} {F : aa}
theorem b8 (hJ:Closed P main J){f:FuncId}{args:Array Value}{ro:Addr->Option Value}{own:List (Nat×Obj)}{K:Value->aa->Prop}(R:Value->(Addr->Option Value)->Prop)(h:eM P f args ro R)
  (a:∀v aM,Ext ro aM->aF aM own->R v aM->K v ⟨aM,own⟩):cU P J f args ⟨ro,own⟩ K:=vP hJ R h a
theorem nZ {Φ:Goroutine->aa->Prop}{f:FuncId}{args:Array Value}{ro:Addr->Option Value}{own:List (Nat×Obj)}{K:Value->aa->Prop}(R:Value->(Addr->Option Value)->Prop)(h:qd P f args ro R)
  (a:∀v aM,Ext ro aM->aF aM own->R v aM->K v ⟨aM,own⟩):cU P (dA P Φ) f args ⟨ro,own⟩ K:=FE R h a
theorem cS {α:Type}{b:Bool}{e1 e2:Option α}{r:α}{G:Prop}(c:b=true->e1=some r->G)(d:b=false->e2=some r->G)(h:cond b e1 e2=some r):G:=by
 rcases jd h with ⟨a,b⟩|⟨a,b⟩
 .exact c a b
 .exact d a b
theorem jC {α:Type}(hJ:Closed P main J){c:Operand}{x y:Code}{b:Bool}{e1 e2:Option α}{r:α}(d:ev a c= .bool b)(f:b=true->e1=some r->Wp J x Q a F)(g:b=false->e2=some r->Wp J y Q a F)(h:cond b e1 e2=some r):Wp J (.cond c x y) Q a F:=by
 refine Fs hJ b d (fun e=>f e ?_) fun e=>g e ?_
 .rw[e] at h;exact h
 .rw[e] at h;exact h
theorem cn (hJ:Closed P main J){c:Operand}{x y:Code}(h:Wp J x Q a F)(b:ev a c= .bool true:=by simp (maxSteps:=9^9) only[*,go_sem]):Wp J (.cond c x y) Q a F:=dW hJ b h
theorem bT (hJ:Closed P main J){c:Operand}{x y:Code}(h:Wp J y Q a F)(b:ev a c= .bool false:=by simp (maxSteps:=9^9) only[*,go_sem]):Wp J (.cond c x y) Q a F:=dO hJ b h
theorem aS {α:Type}(hJ:Closed P main J){c:Operand}{x y:Code}{b:Bool}{e1 e2:Option α}{r:α}(d:b=true->e1=some r->Wp J x Q a F)(e:b=false->e2=some r->Wp J y Q a F)(f:ev a c= .bool b:=by simp (maxSteps:=9^9) only[*,go_sem]):cond b e1 e2=some r->Wp J (.cond c x y) Q a F:=jC hJ f d e
structure wz (Q:Ex->Act->aa->Prop)(K:Act->aa->Prop):Prop where
 go:∀{a F},Q .normal a F->K a F
theorem cE (hJ:Closed P main J)(b:P.follows .mixedOrders=true)(m n:Nat){id:Nat}{ops:Array Oper}(c:Knows ⟨F.ro,F.own.take n⟩ F)(d:nN ops m=true)
  (h:en P J ops ⟨F.ro,F.own.take n⟩ (fun e=>eL P J ops ⟨F.ro,F.own.take n⟩ (Q .normal) (ops.toList.drop m) true e F) (ops.toList.take m) true a):Wp J (.region id ops true) Q a F:=fC hJ b m _ c d h
theorem qm (hJ:Closed P main J)(b:P.follows .mixedOrders=true)(m n:Nat){id:Nat}{ops:Array Oper}(c:Knows ⟨F.ro,F.own.take n⟩ F)(d:nN ops m=true)
  (h:∀K,wz Q K->en P J ops ⟨F.ro,F.own.take n⟩ (fun e=>eL P J ops ⟨F.ro,F.own.take n⟩ K (ops.toList.drop m) true e F) (ops.toList.take m) true a):Wp J (.region id ops true) Q a F:=fC hJ b m _ c d (h _ ⟨fun h=>h⟩)
theorem eB (hJ:Closed P main J){id:Nat}{ops:Array Oper}(h:∀K,wz Q K->fB P J ops K ops.toList true a F):Wp J (.region id ops false) Q a F:=aj hJ (h _ ⟨fun h=>h⟩)
theorem ku (hJ:Closed P main J)(b:P.follows .mixedOrders=true)(bX:List Nat)(p:cm){id:Nat}{ops:Array Oper}(F0:aa)(c:Knows F0 F)
  (d:(Region.noSelect ops&&decide (p.len<=ops.size)&&p.ok ops bX (Array.replicate ops.size false))=true)
  (h:∀K,wz Q K->cg P J ops F0 K (p.opers ops) true a F):Wp J (.region id ops true) Q a F:=eT hJ b bX p F0 c d (h _ ⟨fun h=>h⟩)
theorem fY {c:Code}(L:List Nat){a:Act}(h:∀A,sz A=sz a->A.defers=a.defers->(∀i∈L,slot A i=slot a i)->Wp J c Q A F):Wp J c Q a F:=h a rfl rfl fun _ _=>rfl
theorem cF.pick {ws:List Nat}{A a:Act}(h:cF ws A a)(L:List Nat)(b:(L.all fun i=>!hH ws i)=true):sz A=sz a/\A.defers=a.defers/\∀i∈L,slot A i=slot a i:=
 ⟨h.size,h.defers,fun i hi=>h.dz i fun x=>by
  have c:=List.all_eq_true.1 b i hi
  have d:hH ws i=true:=by
   unfold In at x
   exact x
  simp[d] at c⟩
theorem dB {T:Type}{r:b7 T}{ro:Addr->Option Value}{aW:List (Nat×Obj)}{R:Value->aa->Prop}{argTypes:Array TypeId}{d f e h e2:TypeId}{a b:Nat}{s z:Value}{l:List T}{x:T}{cs:Array Value}{own:List (Nat×Obj)}(pre bq:List (Nat×Obj))
  (hg:aO r ro e s l aW) (i:aR (keys own)) (j:l.length+[x].length<=1000000) (k:r.rel ro x cs.toList) (m:lk pre b=some (.cells cs e2)) (o:∀off sp,ro ⟨b,off,sp⟩=none)
  (p:argTypes[0]?=some d) (q:argTypes[1]?=some f) (he:c8 P d=some e) (t:c8 P f=some h) (hs:bY P e=some r.n) (u:zeroOf P e=some z) (w:z.cells.size=r.n) (hb:bytesOf P e=some a)
  (y:0<a) (A:a<=10000)
  (B:∀v g,aO r ro e v (l++[x]) g->∀c,c=pre++(g++bq)->aR (keys c)->∃F0,Le F0 ⟨ro,c⟩/\R v F0)
  (C:own=pre++(aW++bq):=by first|rfl|simp only[aV]|(simp only[aV];rfl)):me P argTypes s (.slice (some ⟨b,0,none⟩) 1 1) R ⟨ro,own⟩:=
 AX pre bq C hg i j k m o p q he t hs u w hb y A B
theorem qn {T:Type}{r:b7 T}{ro:Addr->Option Value}{aW:List (Nat×Obj)}{R:Value->aa->Prop}{argTypes:Array TypeId}{d f e h:TypeId}{a c:Nat}{ad:Option Addr}{s z:Value}{l xs:List T}{own:List (Nat×Obj)}(pre bq:List (Nat×Obj))
  (hg:aO r ro e s l aW) (i:aR (keys own)) (j:l.length+xs.length<=1000000) (k:az r ro (.slice ad xs.length c) xs)
  (m:argTypes[0]?=some d) (o:argTypes[1]?=some f) (he:c8 P d=some e) (p:c8 P f=some h) (hs:bY P e=some r.n) (q:zeroOf P e=some z) (t:z.cells.size=r.n) (hb:bytesOf P e=some a)
  (u:0<a) (w:a<=10000)
  (x:∀v g,aO r ro e v (l++xs) g->∀b,b=pre++(g++bq)->aR (keys b)->∃F0,Le F0 ⟨ro,b⟩/\R v F0)
  (y:own=pre++(aW++bq):=by first|rfl|simp only[aV]|(simp only[aV];rfl)):me P argTypes s (.slice ad xs.length c) R ⟨ro,own⟩:=
 Ga pre bq y hg i j k m o he p hs q t hb u w x
theorem dQ (hJ:Closed P main J){f:FuncId}{args:Array Value}{ro:Addr->Option Value}{aW:List (Nat×Obj)}{K:Value->aa->Prop}{own:List (Nat×Obj)}(pre bq:List (Nat×Obj))(R:Value->List (Nat×Obj)->Prop)(h:aE P f args ⟨ro,aW⟩ (fun v G=>∃a,R v a/\Le ⟨ro,a⟩ G))
  (c:∀v a,R v a->∀b,b=pre++(a++bq)->aR (keys b)->∃F0,Le F0 ⟨ro,b⟩/\K v F0)
  (d:own=pre++(aW++bq):=by first|rfl|simp only[aV]|(simp only[aV];rfl)):cU P J f args ⟨ro,own⟩ K:=Gb hJ pre bq d R h c
end
end Go.Sep
end
section
namespace Go.Proofs.YtghbphimkgamkaaGreatDoor
open Go Go.Sep Go.Proofs
set_option maxRecDepth 100000
attribute [go_sem] az.nil
theorem sL:rI.n=1:=rfl
theorem wA:rB.n=1:=rfl
theorem GB {T:Type}(r:b7 T):(rL r).n=1:=rfl
attribute [go_sem] sL wA GB
structure au where
 num:Int
 den:Int
 deriving DecidableEq
def au.v (x:au):Value:=.agg #[.int .i64 x.num,.int .i64 x.den]
def au.cells (x:au):List Value:=[.int .i64 x.num,.int .i64 x.den]
def lf:b7 au:=gK 2 au.cells (fun _=>rfl) (fun _ v a=>by simp only[au.cells,List.mem_cons,List.not_mem_nil,or_false] at a;rcases a with rfl|rfl<;>rfl)
theorem GC:lf.n=2:=rfl
attribute [go_sem] au.v au.cells GC
structure bN where
 aH:Int
 high:Int
 deriving DecidableEq
def bN.cells (x:bN):List Value:=[.int .i64 x.aH,.int .i64 x.high]
def fj:b7 bN:=gK 2 bN.cells (fun _=>rfl) (fun _ v a=>by simp only[bN.cells,List.mem_cons,List.not_mem_nil,or_false] at a;rcases a with rfl|rfl<;>rfl)
theorem GD:fj.n=2:=rfl
attribute [go_sem] bN.cells GD
structure bO where
 place:Int
 dr:Int
 deriving DecidableEq
def bO.cells (x:bO):List Value:=[.int .i64 x.place,.int .i64 x.dr]
def eI:b7 bO:=gK 2 bO.cells (fun _=>rfl) (fun _ v a=>by simp only[bO.cells,List.mem_cons,List.not_mem_nil,or_false] at a;rcases a with rfl|rfl<;>rfl)
theorem GF:eI.n=2:=rfl
attribute [go_sem] bO.cells GF
structure de where
 low:Int
 high:Int
 deriving DecidableEq
def de.v (x:de):Value:=.agg #[.int .i64 x.low,.int .i64 x.high]
def de.cells (x:de):List Value:=[.int .i64 x.low,.int .i64 x.high]
def GG:b7 de:=gK 2 de.cells (fun _=>rfl) (fun _ v a=>by simp only[de.cells,List.mem_cons,List.not_mem_nil,or_false] at a;rcases a with rfl|rfl<;>rfl)
theorem GH:GG.n=2:=rfl
attribute [go_sem] de.v de.cells GH
structure b9 where
 back:Int
 high:de
 deriving DecidableEq
def b9.cells (x:b9):List Value:=[.int .i64 x.back,.int .i64 x.high.low,.int .i64 x.high.high]
def e8:b7 b9:=gK 3 b9.cells (fun _=>rfl) (fun _ v a=>by simp only[b9.cells,List.mem_cons,List.not_mem_nil,or_false] at a;rcases a with rfl|rfl|rfl<;>rfl)
theorem GI:e8.n=3:=rfl
attribute [go_sem] b9.cells GI
structure bV where
 aY:Int
 bw:Bool
 deriving DecidableEq
def bV.v (x:bV):Value:=.agg #[.int .i64 x.aY,.bool x.bw]
def bV.cells (x:bV):List Value:=[.int .i64 x.aY,.bool x.bw]
def di:b7 bV:=gK 2 bV.cells (fun _=>rfl) (fun _ v a=>by simp only[bV.cells,List.mem_cons,List.not_mem_nil,or_false] at a;rcases a with rfl|rfl<;>rfl)
theorem GJ:di.n=2:=rfl
attribute [go_sem] bV.v bV.cells GJ
structure ak where
 bH:Int
 bP:Int
 bf:au
 an:(List bN)
 props:(List bO)
 aG:(List b9)
 told:(List bV)
 deriving DecidableEq
def ak.rel (ro:Addr->Option Value)(x:ak)(cs:List Value):Prop:=∃a b c d,cs=[.int .i64 x.bH,.int .i64 x.bP,.int .i64 x.bf.num,.int .i64 x.bf.den,a,b,c,d]/\az fj ro a x.an/\az eI ro b x.props/\az e8 ro c x.aG/\az di ro d x.told
theorem ak.qo {ro:Addr->Option Value}{x:ak}{cs:List Value}(h:ak.rel ro x cs):∀v∈cs,bF v=true:=by
 obtain ⟨b,c,d,e,rfl,⟨_,_,rfl,_⟩,⟨_,_,rfl,_⟩,⟨_,_,rfl,_⟩,⟨_,_,rfl,_⟩⟩:=h;intro v a;simp only[List.mem_cons,List.not_mem_nil,or_false] at a;rcases a with rfl|rfl|rfl|rfl|rfl|rfl|rfl|rfl<;>rfl
def GK:b7 ak:=⟨8,ak.rel,fun a ⟨b,c,d,f,e,g,h,i,j⟩=>⟨b,c,d,f,e,g.mono a,h.mono a,i.mono a,j.mono a⟩,fun ⟨b,c,d,f,e,_⟩=>by rw[e];rfl,ak.qo⟩
theorem GL:GK.n=8:=rfl
attribute [go_sem] GL
structure aU where
 back:Int
 high:Int
 deriving DecidableEq
def aU.v (x:aU):Value:=.agg #[.int .i64 x.back,.int .i64 x.high]
def aU.cells (x:aU):List Value:=[.int .i64 x.back,.int .i64 x.high]
def jg:b7 aU:=gK 2 aU.cells (fun _=>rfl) (fun _ v a=>by simp only[aU.cells,List.mem_cons,List.not_mem_nil,or_false] at a;rcases a with rfl|rfl<;>rfl)
theorem GM:jg.n=2:=rfl
attribute [go_sem] aU.v aU.cells GM
structure aZ where
 e0:Int
 e1:Int
 e2:Int
 deriving DecidableEq
def aZ.v (x:aZ):Value:=.agg #[.int .i64 x.e0,.int .i64 x.e1,.int .i64 x.e2]
def aZ.cells (x:aZ):List Value:=[.int .i64 x.e0,.int .i64 x.e1,.int .i64 x.e2]
def ia:b7 aZ:=gK 3 aZ.cells (fun _=>rfl) (fun _ v a=>by simp only[aZ.cells,List.mem_cons,List.not_mem_nil,or_false] at a;rcases a with rfl|rfl|rfl<;>rfl)
theorem GN:ia.n=3:=rfl
attribute [go_sem] aZ.v aZ.cells GN
def aZ.get (x:aZ)(i:Int):Option Int:=if i=0 then some x.e0 else if i=1 then some x.e1 else if i=2 then some x.e2 else none
theorem aZ.get_some {x:aZ}{i:Int}{y:Int}(h:aZ.get x i=some y):0<=i/\i<((3:Nat):Int)/\([.int .i64 x.e0,.int .i64 x.e1,.int .i64 x.e2]:List Value)[i.toNat]?=some (.int .i64 y):=by
 unfold aZ.get at h;by_cases a:i=0
 .subst a;simp at h;subst h;exact ⟨by omega,by omega,rfl⟩
 by_cases b:i=1
 .subst b;simp at h;subst h;exact ⟨by omega,by omega,rfl⟩
 by_cases c:i=2
 .subst c;simp at h;subst h;exact ⟨by omega,by omega,rfl⟩
 simp[a,b,c] at h
theorem aZ.GO {ro:Addr->Option Value}{b:Nat}{x:aZ}{i:Int}{y:Int}(h:aZ.get x i=some y)(g0:ro ⟨b,0,none⟩=some (.int .i64 x.e0))(e:ro ⟨b,1,none⟩=some (.int .i64 x.e1))(f:ro ⟨b,2,none⟩=some (.int .i64 x.e2)):ro ⟨b,i.toNat,none⟩=some (.int .i64 y):=by
 unfold aZ.get at h;by_cases a:i=0
 .subst a;simp at h;subst h;exact g0
 by_cases c:i=1
 .subst c;simp at h;subst h;exact e
 by_cases d:i=2
 .subst d;simp at h;subst h;exact f
 simp[a,c,d] at h
structure cO where
 book:ak
 all:(List aZ)
 deriving DecidableEq
def cO.rel (ro:Addr->Option Value)(x:cO)(cs:List Value):Prop:=∃a b c d e,cs=[.int .i64 x.book.bH,.int .i64 x.book.bP,.int .i64 x.book.bf.num,.int .i64 x.book.bf.den,a,b,c,d,e]/\az fj ro a x.book.an/\az eI ro b x.book.props/\az e8 ro c x.book.aG/\az di ro d x.book.told/\az ia ro e x.all
theorem cO.qo {ro:Addr->Option Value}{x:cO}{cs:List Value}(h:cO.rel ro x cs):∀v∈cs,bF v=true:=by
 obtain ⟨b,c,d,e,f,rfl,⟨_,_,rfl,_⟩,⟨_,_,rfl,_⟩,⟨_,_,rfl,_⟩,⟨_,_,rfl,_⟩,⟨_,_,rfl,_⟩⟩:=h;intro v a;simp only[List.mem_cons,List.not_mem_nil,or_false] at a;rcases a with rfl|rfl|rfl|rfl|rfl|rfl|rfl|rfl|rfl<;>rfl
def GP:b7 cO:=⟨9,cO.rel,fun a ⟨b,c,d,f,g,e,h,i,j,k,l⟩=>⟨b,c,d,f,g,e,h.mono a,i.mono a,j.mono a,k.mono a,l.mono a⟩,fun ⟨b,c,d,f,g,e,_⟩=>by rw[e];rfl,cO.qo⟩
theorem GQ:GP.n=9:=rfl
attribute [go_sem] GQ
structure ie where
 aH:Int
 high:au
 deriving DecidableEq
def ie.cells (x:ie):List Value:=[.int .i64 x.aH,.int .i64 x.high.num,.int .i64 x.high.den]
def GR:b7 ie:=gK 3 ie.cells (fun _=>rfl) (fun _ v a=>by simp only[ie.cells,List.mem_cons,List.not_mem_nil,or_false] at a;rcases a with rfl|rfl|rfl<;>rfl)
theorem GU:GR.n=3:=rfl
attribute [go_sem] ie.cells GU
structure bC where
 spot:ie
 at_:Int
 high:au
 deriving DecidableEq
def bC.v (x:bC):Value:=.agg #[.int .i64 x.spot.aH,.int .i64 x.spot.high.num,.int .i64 x.spot.high.den,.int .i64 x.at_,.int .i64 x.high.num,.int .i64 x.high.den]
def bC.cells (x:bC):List Value:=[.int .i64 x.spot.aH,.int .i64 x.spot.high.num,.int .i64 x.spot.high.den,.int .i64 x.at_,.int .i64 x.high.num,.int .i64 x.high.den]
def kz:b7 bC:=gK 6 bC.cells (fun _=>rfl) (fun _ v a=>by simp only[bC.cells,List.mem_cons,List.not_mem_nil,or_false] at a;rcases a with rfl|rfl|rfl|rfl|rfl|rfl<;>rfl)
theorem GV:kz.n=6:=rfl
attribute [go_sem] bC.v bC.cells GV
def dc.rel (ro:Addr->Option Value)(g:(ak->Option Int))(cs:List Value):Prop:=∃(b:FuncId) (c d:Array Value),cs=[.func (.func b) c d]/\aJ Tryz.prog b=true/\∀(aM:Addr->Option Value),Ext ro aM->∀(a:ak) (e:Value) (f:Value) (h:Value) (i:Value) (z:Int),az fj aM e a.an->az eI aM f a.props->az e8 aM h a.aG->az di aM i a.told->g a=some z->aE Tryz.prog b (c++#[.agg #[.int .i64 a.bH,.int .i64 a.bP,.int .i64 a.bf.num,.int .i64 a.bf.den,e,f,h,i]]++d) ⟨aM,[]⟩ (fun v _=>v= .int .i64 z)
theorem dc.GW {ro aM:Addr->Option Value}{g:(ak->Option Int)}{cs:List Value}(b:Ext ro aM)(h:dc.rel ro g cs):dc.rel aM g cs:=by
 obtain ⟨f,a,c,e,d,i⟩:=h;exact ⟨f,a,c,e,d,fun j k=>i j (b.trans k)⟩
theorem dc.GX {ro:Addr->Option Value}{g:(ak->Option Int)}{cs:List Value}(h:dc.rel ro g cs):cs.length=1:=by
 obtain ⟨f,a,c,e,_⟩:=h;rw[e];rfl
theorem dc.qo {ro:Addr->Option Value}{g:(ak->Option Int)}{cs:List Value}(h:dc.rel ro g cs):∀v∈cs,bF v=true:=by
 obtain ⟨f,a,c,e,_⟩:=h;intro v b;rw[e] at b;simp at b;subst b;rfl
def dc:b7 (ak->Option Int):=⟨1,dc.rel,dc.GW,dc.GX,dc.qo⟩
theorem GY:dc.n=1:=rfl
attribute [go_sem] GY
abbrev sl {T:Type}(d:Option Addr)(l:List T)(c:Nat):Value:=.slice d l.length c
abbrev bk (x:ak)(a b c d:Value):Obj:=.cells #[.int .i64 x.bH,.int .i64 x.bP,.int .i64 x.bf.num,.int .i64 x.bf.den,a,b,c,d] 29
abbrev bl (x:ak)(a b c d:Value):Obj:=.cells #[.int .i64 x.bH,.int .i64 x.bP,.int .i64 x.bf.num,.int .i64 x.bf.den,a,b,c,d] 109
abbrev bz (t:Nat):Obj:=.cells #[.int .i64 0,.int .i64 0,.int .i64 0,.int .i64 0,.slice none 0 0,.slice none 0 0,.slice none 0 0,.slice none 0 0] t
abbrev kn (x:cO)(a b c d e:Value):Obj:=.cells #[.int .i64 x.book.bH,.int .i64 x.book.bP,.int .i64 x.book.bf.num,.int .i64 x.book.bf.den,a,b,c,d,e] 112
abbrev rt (a b:Int):Obj:=.cells #[.int .i64 a,.int .i64 b] 23
abbrev ic (a:Int):Obj:=.cells #[.int .i64 a] 3
abbrev bv (x:ak)(a b c d:Value):Value:=.agg #[.int .i64 x.bH,.int .i64 x.bP,.int .i64 x.bf.num,.int .i64 x.bf.den,a,b,c,d]
attribute [go_sem] sl bk bl bz kn rt ic bv Gz GA List.cons_append List.nil_append List.append_nil List.append_assoc
structure bL (ro:Addr->Option Value)(u:ak)(a b c d:Value):Prop where
 e:az fj ro a u.an
 p:az eI ro b u.props
 y:az e8 ro c u.aG
 t:az di ro d u.told
theorem bL.oc {ro:Addr->Option Value}{u:ak}{a b c d:Value}(h:bL ro u a b c d):bF a=true/\bF b=true/\bF c=true/\bF d=true:=⟨h.e.oc,h.p.oc,h.y.oc,h.t.oc⟩
theorem bL.mono {ro aM:Addr->Option Value}{u:ak}{a b c d:Value}(h:bL ro u a b c d)(f:Ext ro aM):bL aM u a b c d:=⟨h.e.mono f,h.p.mono f,h.y.mono f,h.t.mono f⟩
end Go.Proofs.YtghbphimkgamkaaGreatDoor
end
section
namespace Go.Proofs.YtghbphimkgamkaaGreatDoor
open Go Go.Sep Go.Proofs
set_option maxRecDepth 100000
set_option maxHeartbeats 4000000
def fQ (u0:Int)(a:Int)(b:Int):Option Bool:=
 cond (decide (a<=u0)) (some (decide (u0<=b))) (some false)
theorem gR {ro:Addr->Option Value}(u0:Int)(a:Int)(b:Int){r:Bool}(h:fQ u0 a b=some r):aE Tryz.prog 121 #[.int .i64 u0,.int .i64 a,.int .i64 b] ⟨ro,[]⟩ (fun v _=>v= .bool r):=by
 unfold fQ at h;refine aE.go Tryz.func121 rfl Tryz.ntmps121 Tryz.results121 (by simp) fun main J hJ A d hd hs=>?_;have e:=hs 0;have k1:=hs 1;have f:=hs 2;clear hs;apply ah hJ;simp only[*,go_sem];apply ah hJ;revert h;refine cS (fun c h=>?_) fun c h=>?_
 .cases h;simp only[*,go_sem];apply aA;simp only[*,go_sem]
 cases h;simp only[*,go_sem];apply aA;simp only[*,go_sem]
def gr (u0:Int):Option au:=
 some (⟨u0,1⟩:au)
theorem jJ {ro:Addr->Option Value}(u0:Int){r:au}(h:gr u0=some r):aE Tryz.prog 112 #[.int .i64 u0] ⟨ro,[]⟩ (fun v _=>v=r.v):=by
 unfold gr at h;cases h;refine aE.go Tryz.func112 rfl Tryz.ntmps112 Tryz.results112 (by simp) fun main J hJ A a hd hs=>?_;have b:=hs 0;clear hs;apply ah hJ;simp only[*,go_sem];refine aC fun c r1 n1=>?_;try simp only[av] at n1
 apply ah hJ;simp only[*,go_sem];apply aA;simp only[*,go_sem]
def eN (u0:au)(a:au):Option Bool:=
 some (decide ((IntKind.i64.wrap (u0.num*a.den))<(IntKind.i64.wrap (a.num*u0.den))))
theorem jh {ro:Addr->Option Value}(u0:au)(a:au){r:Bool}(h:eN u0 a=some r):aE Tryz.prog 75 #[.agg #[.int .i64 u0.num,.int .i64 u0.den],.agg #[.int .i64 a.num,.int .i64 a.den]] ⟨ro,[]⟩ (fun v _=>v= .bool r):=by
 unfold eN at h;cases h;refine aE.go Tryz.func75 rfl Tryz.ntmps75 Tryz.results75 (by simp) fun main J hJ A b hd hs=>?_;have c:=hs 0;have k1:=hs 1;clear hs;apply ah hJ;simp only[*,go_sem];refine aC fun d r1 n1=>?_;try simp only[av] at n1
 refine aC fun b2 r2 n2=>?_;try simp only[av] at n2
 apply ah hJ;simp only[*,go_sem];apply aA;simp only[*,go_sem]
def qp (u0:de)(a:Int)(b:Int):Option Bool:=
 cond (decide (a<=u0.low)) (cond (decide (u0.low<=u0.high)) (some (decide (u0.high<=b))) (some false)) (some false)
theorem Bg {ro:Addr->Option Value}(u0:de)(a:Int)(b:Int){r:Bool}(h:qp u0 a b=some r):aE Tryz.prog 103 #[.agg #[.int .i64 u0.low,.int .i64 u0.high],.int .i64 a,.int .i64 b] ⟨ro,[]⟩ (fun v _=>v= .bool r):=by
 unfold qp at h;refine aE.go Tryz.func103 rfl Tryz.ntmps103 Tryz.results103 (by simp) fun main J hJ A e hd hs=>?_;have f:=hs 0;have k1:=hs 1;have g:=hs 2;clear hs;apply ah hJ;simp only[*,go_sem];refine aC fun i r1 n1=>?_;try simp only[av] at n1
 apply ah hJ;revert h;refine cS (fun c h=>?_) fun c h=>?_
 .revert h;refine cS (fun d h=>?_) fun d h=>?_
  .cases h;simp only[*,go_sem];apply aA;simp only[*,go_sem]
  cases h;simp only[*,go_sem];apply aA;simp only[*,go_sem]
 cases h;simp only[*,go_sem];apply aA;simp only[*,go_sem]
def ji (u0:bC)(a:bC):Option Bool:=
 ag (eN u0.high a.high) fun b=>some b
theorem sM {ro:Addr->Option Value}(u0:bC)(a:bC){r:Bool}(h:ji u0 a=some r):aE Tryz.prog 71 #[.agg #[.int .i64 u0.spot.aH,.int .i64 u0.spot.high.num,.int .i64 u0.spot.high.den,.int .i64 u0.at_,.int .i64 u0.high.num,.int .i64 u0.high.den],.agg #[.int .i64 a.spot.aH,.int .i64 a.spot.high.num,.int .i64 a.spot.high.den,.int .i64 a.at_,.int .i64 a.high.num,.int .i64 a.high.den]] ⟨ro,[]⟩ (fun v _=>v= .bool r):=by
 unfold ji at h;refine aE.go Tryz.func71 rfl Tryz.ntmps71 Tryz.results71 (by simp) fun main J hJ A c hd hs=>?_;have d:=hs 0;have k1:=hs 1;clear hs;apply ah hJ;simp only[*,go_sem];refine aC fun e r1 n1=>?_;try simp only[av] at n1
 refine aC fun b2 r2 n2=>?_;try simp only[av] at n2
 apply ah hJ;revert h;refine bS fun f b h=>?_;cases h;simp only[*,go_sem];refine bn hJ _ (jh u0.high a.high b) (aK ?_);simp only[*,go_sem];apply aA;simp only[*,go_sem]
def gu (u0:Int)(b:ak):Option Int:=
 ag (fQ u0 1 20) fun a=>cond (!a) (some 1) (some 0)
theorem wB {ro:Addr->Option Value}(u0:Int)(b:ak){s1 c d f:Value}(a:bL ro b s1 c d f){r:Int}(h:gu u0 b=some r):aE Tryz.prog 82 #[.int .i64 u0,bv b s1 c d f] ⟨ro,[]⟩ (fun v _=>v= .int .i64 r):=by
 obtain ⟨d3,c4,rfl,k,l,-⟩:=id a.e;obtain ⟨d10,m,rfl,n,o,-⟩:=id a.p;obtain ⟨d17,q,rfl,s,u,-⟩:=id a.y;obtain ⟨d24,w,rfl,x,z,-⟩:=id a.t;unfold gu at h;refine aE.go Tryz.func82 rfl Tryz.ntmps82 Tryz.results82 (by simp) fun main J hJ A B hd hs=>?_;have C:=hs 0;have k1:=hs 1;clear hs;apply ah hJ;simp only[*,go_sem];refine aC fun D E g=>?_;try simp only[av] at g
 refine af hJ (ah hJ ?_);revert h;refine bS fun F i h=>?_;simp only[*,go_sem];refine bn hJ _ (gR u0 1 20 i) (aK ?_);simp only[*,go_sem];revert h;refine aS hJ (fun j h=>?_) fun j h=>?_
 .cases h;apply ah hJ;simp only[*,go_sem];apply aA;simp only[*,go_sem]
 cases h;refine aI hJ (af hJ ?_);apply aj hJ;simp only[*,go_sem];apply aA;simp only[*,go_sem]
def eU (u0:aU)(c:ak):Option Int:=
 ag (fQ u0.back 1 20) fun a=>cond (!a) (some 1) (ag (fQ u0.high 0 60) fun b=>cond (!b) (some 1) (some 0))
theorem sN {ro:Addr->Option Value}(u0:aU)(b:ak){s1 c d f:Value}(a:bL ro b s1 c d f){r:Int}(h:eU u0 b=some r):aE Tryz.prog 105 #[.agg #[.int .i64 u0.back,.int .i64 u0.high],bv b s1 c d f] ⟨ro,[]⟩ (fun v _=>v= .int .i64 r):=by
 obtain ⟨d3,c4,rfl,n,o,-⟩:=id a.e;obtain ⟨d10,q,rfl,s,u,-⟩:=id a.p;obtain ⟨d17,w,rfl,x,z,-⟩:=id a.y;obtain ⟨d24,B,rfl,C,D,-⟩:=id a.t;unfold eU at h;refine aE.go Tryz.func105 rfl Tryz.ntmps105 Tryz.results105 (by simp) fun main J hJ A E hd hs=>?_;have F:=hs 0;have k1:=hs 1;clear hs;apply ah hJ;simp only[*,go_sem];refine aC fun G H g=>?_;try simp only[av] at g
 refine aC fun I K i=>?_;try simp only[av] at i
 refine af hJ (ah hJ ?_);revert h;refine bS fun L j h=>?_;simp only[*,go_sem];refine bn hJ _ (gR u0.back 1 20 j) (aK ?_);revert h;refine cS (fun k h=>?_) fun k h=>?_
 .cases h;simp only[*,go_sem];refine cn hJ ?_;apply ah hJ;simp only[*,go_sem];apply aA;simp only[*,go_sem]
 revert h;refine bS fun M l h=>?_;simp only[*,go_sem];refine bn hJ _ (gR u0.high 0 60 l) (aK ?_);simp only[*,go_sem];revert h;refine aS hJ (fun m h=>?_) fun m h=>?_
 .cases h;apply ah hJ;simp only[*,go_sem];apply aA;simp only[*,go_sem]
 cases h;refine aI hJ (af hJ ?_);apply aj hJ;simp only[*,go_sem];apply aA;simp only[*,go_sem]
def n4 (u0:ak)(a:Int):Option Bool:=
 ag (fQ a 0 (IntKind.i64.wrap ((u0.aG.length:Int) - 1))) fun b=>some b
theorem Bh {ro:Addr->Option Value}(u0:ak){s1 c d f:Value}(a:bL ro u0 s1 c d f)(b:Int){r:Bool}(h:n4 u0 b=some r):aE Tryz.prog 156 #[bv u0 s1 c d f,.int .i64 b] ⟨ro,[]⟩ (fun v _=>v= .bool r):=by
 obtain ⟨d3,c4,rfl,j,k,-⟩:=id a.e;obtain ⟨d10,l,rfl,m,n,-⟩:=id a.p;obtain ⟨d17,o,rfl,q,s,-⟩:=id a.y;obtain ⟨d24,u,rfl,w,x,-⟩:=id a.t;unfold n4 at h;refine aE.go Tryz.func156 rfl Tryz.ntmps156 Tryz.results156 (by simp) fun main J hJ A z hd hs=>?_;have B:=hs 0;have k1:=hs 1;clear hs;apply ah hJ;simp only[*,go_sem];refine aC fun C D g=>?_;try simp only[av] at g
 apply ah hJ;revert h;refine bS fun E i h=>?_;cases h;simp only[*,go_sem];refine bn hJ _ (gR b 0 (IntKind.i64.wrap ((u0.aG.length:Int) - 1)) i) (aK ?_);simp only[*,go_sem];apply aA;simp only[*,go_sem]
def eo (u0:ak)(a:Int):Option Bool:=
 ag (aT u0.an 0) fun b=>ag (aT u0.an (IntKind.i64.wrap ((u0.an.length:Int) - 1))) fun c=>ag (fQ a b.aH c.aH) fun d=>some d
theorem sO {ro:Addr->Option Value}(u0:ak){s1 f g i:Value}(a:bL ro u0 s1 f g i)(b:Int){r:Bool}(h:eo u0 b=some r):aE Tryz.prog 149 #[bv u0 s1 f g i,.int .i64 b] ⟨ro,[]⟩ (fun v _=>v= .bool r):=by
 obtain ⟨d3,c4,rfl,E,G,-⟩:=id a.e;unfold eo at h;refine aE.go Tryz.func149 rfl Tryz.ntmps149 Tryz.results149 (by simp) fun main J hJ A H hd hs=>?_;have I:=hs 0;have k1:=hs 1;clear hs;apply ah hJ;simp only[*,go_sem];refine aC fun K L n=>?_;try simp only[av] at n
 apply af hJ;refine cE hJ mixed 20 1 (by simp only[*,go_sem]) (by kernel_rfl) ?_;revert h;refine bS fun j o h=>?_;obtain ⟨M,N,k⟩:=cq o;obtain ⟨O,p,q,s,c⟩:=a.e.el _ _ k;obtain rfl:p=j.cells:=s;cases q;have t:=c 0 _ rfl;simp only[go_sem] at t;have u:=c 1 _ rfl;simp only[go_sem] at u;clear c k;revert h;refine bS fun l w h=>?_;obtain ⟨P,Q,m⟩:=cq w;obtain ⟨R,x,y,z,d⟩:=a.e.el _ _ m;obtain rfl:x=l.cells:=z;cases y;have B:=d 0 _ rfl;simp only[go_sem] at B;have C:=d 1 _ rfl;simp only[go_sem] at C;clear d m;revert h;refine bS fun S D h=>?_;cases h;simp only[*,go_sem];refine ⟨_,bE hJ fun F T=>gR b j.aH l.aH D,cc ?_⟩;simp only[*,go_sem];apply aA;simp only[*,go_sem]
def eV (u0:Int)(a:ak):Option Int:=
 ag (n4 a u0) fun b=>cond (!b) (some 6) (some 0)
theorem sP {ro:Addr->Option Value}(u0:Int)(b:ak){s1 c d f:Value}(a:bL ro b s1 c d f){r:Int}(h:eV u0 b=some r):aE Tryz.prog 102 #[.int .i64 u0,bv b s1 c d f] ⟨ro,[]⟩ (fun v _=>v= .int .i64 r):=by
 obtain ⟨d3,c4,rfl,k,l,-⟩:=id a.e;obtain ⟨d10,m,rfl,n,o,-⟩:=id a.p;obtain ⟨d17,q,rfl,s,u,-⟩:=id a.y;obtain ⟨d24,w,rfl,x,z,-⟩:=id a.t;unfold eV at h;refine aE.go Tryz.func102 rfl Tryz.ntmps102 Tryz.results102 (by simp) fun main J hJ A B hd hs=>?_;have C:=hs 0;have k1:=hs 1;clear hs;apply ah hJ;simp only[*,go_sem];refine aC fun D E g=>?_;try simp only[av] at g
 refine af hJ (ah hJ ?_);revert h;refine bS fun F i h=>?_;simp only[*,go_sem];refine bn hJ _ (Bh b (a.mono aP) u0 i) (aK ?_);simp only[*,go_sem];revert h;refine aS hJ (fun j h=>?_) fun j h=>?_
 .cases h;apply ah hJ;simp only[*,go_sem];apply aA;simp only[*,go_sem]
 cases h;refine aI hJ (af hJ ?_);apply aj hJ;simp only[*,go_sem];apply aA;simp only[*,go_sem]
def n5 (u0:Int)(a:ak):Option Int:=
 ag (eo a u0) fun b=>cond (!b) (some 6) (some 0)
theorem GZ {ro:Addr->Option Value}(u0:Int)(b:ak){s1 c d f:Value}(a:bL ro b s1 c d f){r:Int}(h:n5 u0 b=some r):aE Tryz.prog 133 #[.int .i64 u0,bv b s1 c d f] ⟨ro,[]⟩ (fun v _=>v= .int .i64 r):=by
 obtain ⟨d3,c4,rfl,k,l,-⟩:=id a.e;obtain ⟨d10,m,rfl,n,o,-⟩:=id a.p;obtain ⟨d17,q,rfl,s,u,-⟩:=id a.y;obtain ⟨d24,w,rfl,x,z,-⟩:=id a.t;unfold n5 at h;refine aE.go Tryz.func133 rfl Tryz.ntmps133 Tryz.results133 (by simp) fun main J hJ A B hd hs=>?_;have C:=hs 0;have k1:=hs 1;clear hs;apply ah hJ;simp only[*,go_sem];refine aC fun D E g=>?_;try simp only[av] at g
 refine af hJ (ah hJ ?_);revert h;refine bS fun F i h=>?_;simp only[*,go_sem];refine bn hJ _ (sO b (a.mono aP) u0 i) (aK ?_);simp only[*,go_sem];revert h;refine aS hJ (fun j h=>?_) fun j h=>?_
 .cases h;apply ah hJ;simp only[*,go_sem];apply aA;simp only[*,go_sem]
 cases h;refine aI hJ (af hJ ?_);apply aj hJ;simp only[*,go_sem];apply aA;simp only[*,go_sem]
def qq (st:(Int×Int)):Option (Fl (Int×Int) au):=
 cond ((st.2 != 0)) (ag (gq st.1 st.2) fun a=>some (.nx (st.2,a))) (some (.bk (st.1,st.2)))
def kA (u0:Int)(a:Int):Option au:=
 ag (aQ (qq) fu ((if u0<IntKind.i64.wrap (0 - u0) then IntKind.i64.wrap (0 - u0) else u0),a)) fun o=>ay o (fun b=>ag (fN u0 b.1) fun c=>ag (fN a b.1) fun d=>some (⟨c,d⟩:au)) (fun _ _=>none) (fun r=>some r)
theorem qs {ro:Addr->Option Value}(u0:Int)(c:Int){r:au}(h:kA u0 c=some r):aE Tryz.prog 138 #[.int .i64 u0,.int .i64 c] ⟨ro,[]⟩ (fun v _=>v=r.v):=by
 unfold kA at h;refine aE.go Tryz.func138 rfl Tryz.ntmps138 Tryz.results138 (by simp) fun main J hJ A l hd hs=>?_;have n:=hs 0;have k1:=hs 1;clear hs;apply ah hJ;simp only[*,go_sem];refine aC fun o r1 n1=>?_;try simp only[av] at n1
 apply ah hJ;simp only[*,go_sem];refine af hJ (aN hJ ?_);revert h;refine bS fun o4 a p=>?_;refine bQ hJ (rg 12 6 [5,6]) (fun m f F'=>∃(v2:Int) (b:Int),aQ (qq) m (v2,b)=some o4/\F'=⟨ro,(o,rt 0 0)::[]⟩/\slot f 5= .int .i64 v2/\slot f 6= .int .i64 b) fu ?_ ?_
 .refine ⟨(if u0<IntKind.i64.wrap (0 - u0) then IntKind.i64.wrap (0 - u0) else u0),c,a,rfl,?_⟩;simp only[*,go_sem]
 rintro d x F' g ⟨v2,b,a,rfl,y,z⟩;obtain ⟨q,s,t⟩:=g.pick [0,1,4] (by decide);simp only[*,go_sem] at q s t;clear g l hd n k1;obtain _|d:=d
 .exact absurd a (by simp only[aQ,reduceCtorEq,not_false_eq_true])
 revert a;refine bS fun B h e=>?_;unfold qq at h;try dsimp only at h
 refine af hJ (ah hJ ?_);simp only[*,go_sem];revert h;refine aS hJ (fun u h=>?_) fun u h=>?_
 .refine aI hJ (aN hJ ?_);refine cE hJ mixed 6 1 (by simp only[*,go_sem]) (by kernel_rfl) ?_;revert h;refine bS fun w i h=>?_;cases h;obtain ⟨C,D⟩:=nO i;clear i;simp only[*,go_sem];refine ⟨d,Nat.lt_succ_self _,_,Le.sub (List.Sublist.refl _),b,w,e,rfl,?_⟩;simp only[*,go_sem]
 cases h;apply bJ;simp only[go_sem];obtain rfl:=sI e;clear e;have h:=p;dsimp only[ay] at h;apply af hJ;refine cE hJ mixed 7 0 (by simp only[*,go_sem]) (by kernel_rfl) ?_;revert h;refine bS fun E j h=>?_;obtain ⟨F,G⟩:=j9 j;clear j;revert h;refine bS fun H k h=>?_;cases h;obtain ⟨I,K⟩:=j9 k;clear k;simp only[*,go_sem];apply aA;simp only[*,go_sem]
def jK (u0:au)(a:au):Option au:=
 ag (kA (IntKind.i64.wrap ((IntKind.i64.wrap (u0.num*a.den))+(IntKind.i64.wrap (a.num*u0.den)))) (IntKind.i64.wrap (u0.den*a.den))) fun b=>some b
theorem qt {ro:Addr->Option Value}(u0:au)(a:au){r:au}(h:jK u0 a=some r):aE Tryz.prog 74 #[.agg #[.int .i64 u0.num,.int .i64 u0.den],.agg #[.int .i64 a.num,.int .i64 a.den]] ⟨ro,[]⟩ (fun v _=>v=r.v):=by
 unfold jK at h;refine aE.go Tryz.func74 rfl Tryz.ntmps74 Tryz.results74 (by simp) fun main J hJ A c hd hs=>?_;have d:=hs 0;have k1:=hs 1;clear hs;apply ah hJ;simp only[*,go_sem];refine aC fun e r1 n1=>?_;try simp only[av] at n1
 refine aC fun b2 r2 n2=>?_;try simp only[av] at n2
 refine aC fun b3 r3 n3=>?_;try simp only[av] at n3
 apply ah hJ;revert h;refine bS fun f b h=>?_;cases h;simp only[*,go_sem];refine bn hJ _ (qs (IntKind.i64.wrap ((IntKind.i64.wrap (u0.num*a.den))+(IntKind.i64.wrap (a.num*u0.den)))) (IntKind.i64.wrap (u0.den*a.den)) b) (aK ?_);simp only[*,go_sem];apply aA;simp only[*,go_sem]
def jL (u0:au)(a:au):Option au:=
 ag (jK u0 (⟨IntKind.i64.wrap (0 - a.num),a.den⟩:au)) fun b=>some b
theorem qu {ro:Addr->Option Value}(u0:au)(a:au){r:au}(h:jL u0 a=some r):aE Tryz.prog 73 #[.agg #[.int .i64 u0.num,.int .i64 u0.den],.agg #[.int .i64 a.num,.int .i64 a.den]] ⟨ro,[]⟩ (fun v _=>v=r.v):=by
 unfold jL at h;refine aE.go Tryz.func73 rfl Tryz.ntmps73 Tryz.results73 (by simp) fun main J hJ A c hd hs=>?_;have d:=hs 0;have k1:=hs 1;clear hs;apply ah hJ;simp only[*,go_sem];refine aC fun e r1 n1=>?_;try simp only[av] at n1
 refine aC fun b2 r2 n2=>?_;try simp only[av] at n2
 refine aC fun b3 r3 n3=>?_;try simp only[av] at n3
 apply ah hJ;revert h;refine bS fun f b h=>?_;cases h;simp only[*,go_sem];refine bn hJ _ (qt u0 (⟨IntKind.i64.wrap (0 - a.num),a.den⟩:au) b) (aK ?_);simp only[*,go_sem];apply aA;simp only[*,go_sem]
def kB (u0:ak)(a:aU)(e:Int)(b:ie):Option bC:=
 ag (gr a.high) fun f=>ag (jL b.high f) fun c=>ag (kA (IntKind.i64.wrap (u0.bH+a.back)) (IntKind.i64.wrap (b.aH+a.back))) fun d=>ag (gr a.high) fun g=>ag (kA (IntKind.i64.wrap (c.num*d.num)) (IntKind.i64.wrap (c.den*d.den))) fun h=>ag (jK g h) fun i=>some (⟨b,e,i⟩:bC)
theorem Bi {ro:Addr->Option Value}(u0:ak){s1 c d e:Value}(K:bL ro u0 s1 c d e)(b:aU)(j:Int)(a:ie){r:bC}(h:kB u0 b j a=some r):aE Tryz.prog 137 #[bv u0 s1 c d e,.agg #[.int .i64 b.back,.int .i64 b.high],.int .i64 j,.agg #[.int .i64 a.aH,.int .i64 a.high.num,.int .i64 a.high.den]] ⟨ro,[]⟩ (fun v _=>v=r.v):=by
 unfold kB at h;refine aE.go Tryz.func137 rfl Tryz.ntmps137 Tryz.results137 (by simp) fun main J hJ A L hd hs=>?_;have M:=hs 0;have k1:=hs 1;have N:=hs 2;have O:=hs 3;clear hs;apply ah hJ;simp only[*,go_sem];refine aC fun k P n=>?_;try simp only[av] at n
 refine aC fun l Q o=>?_;try simp only[av] at o
 refine aC fun m R p=>?_;try simp only[av] at p
 refine aC fun q S s=>?_;try simp only[av] at s
 apply af hJ;refine fC hJ mixed 6 ⟨ro,[(q,.cells #[.int .i64 0,.int .i64 0,.int .i64 0,.int .i64 0,.int .i64 0,.int .i64 0] 122),(m,.cells #[.int .i64 a.aH,.int .i64 a.high.num,.int .i64 a.high.den] 120),(l,.cells #[.int .i64 b.back,.int .i64 b.high] 118),(k,bl u0 s1 c d e)]⟩ (by simp only[*,go_sem]) (by kernel_rfl) ?_;revert h;refine bS fun t u h=>?_;simp only[*,go_sem];refine ⟨_,bE hJ fun F f=>jJ b.high u,cc ?_⟩;revert h;refine bS fun g w h=>?_;simp only[*,go_sem];refine ⟨_,bE hJ fun F f=>qu a.high t w,?_⟩;simp only[*,go_sem];refine aC fun x T y=>?_;try simp only[av] at y
 simp only[*,go_sem];apply ah hJ;revert h;refine bS fun i z h=>?_;simp only[*,go_sem];refine bn hJ _ (qs (IntKind.i64.wrap (u0.bH+b.back)) (IntKind.i64.wrap (a.aH+b.back)) z) (aK ?_);simp only[*,go_sem];refine aC fun B U C=>?_;try simp only[av] at C
 apply af hJ;refine fC hJ mixed 18 ⟨ro,[(B,rt i.num i.den),(x,rt g.num g.den),(m,.cells #[.int .i64 a.aH,.int .i64 a.high.num,.int .i64 a.high.den] 120),(l,.cells #[.int .i64 b.back,.int .i64 b.high] 118),(k,bl u0 s1 c d e)]⟩ (by simp only[*,go_sem]) (by kernel_rfl) ?_;revert h;refine bS fun D E h=>?_;simp only[*,go_sem];refine ⟨_,bE hJ fun F f=>jJ b.high E,cc ?_⟩;revert h;refine bS fun G H h=>?_;simp only[*,go_sem];refine ⟨_,bE hJ fun F f=>qs (IntKind.i64.wrap (g.num*i.num)) (IntKind.i64.wrap (g.den*i.den)) H,cc ?_⟩;revert h;refine bS fun V I h=>?_;cases h;simp only[*,go_sem];refine ⟨_,bE hJ fun F f=>qt D G I,cc ?_⟩;simp only[*,go_sem];apply aA;simp only[*,go_sem]
def iI (u0:ak)(a:Int)(b:Int):Option aU:=
 ag (aT u0.aG a) fun c=>some (⟨c.back,b⟩:aU)
theorem mC {ro:Addr->Option Value}(u0:ak){s1 c d f:Value}(a:bL ro u0 s1 c d f)(g:Int)(i:Int){r:aU}(h:iI u0 g i=some r):aE Tryz.prog 93 #[bv u0 s1 c d f,.int .i64 g,.int .i64 i] ⟨ro,[]⟩ (fun v _=>v=r.v):=by
 obtain ⟨d3,c4,rfl,z,B,-⟩:=id a.e;obtain ⟨d10,C,rfl,D,E,-⟩:=id a.p;obtain ⟨d17,F,rfl,G,H,-⟩:=id a.y;obtain ⟨d24,I,rfl,K,L,-⟩:=id a.t;unfold iI at h;refine aE.go Tryz.func93 rfl Tryz.ntmps93 Tryz.results93 (by simp) fun main J hJ A M hd hs=>?_;have N:=hs 0;have k1:=hs 1;have O:=hs 2;clear hs;apply ah hJ;simp only[*,go_sem];refine aC fun P Q k=>?_;try simp only[av] at k
 refine aC fun R S l=>?_;try simp only[av] at l
 apply ah hJ;revert h;refine bS fun m n h=>?_;cases h;obtain ⟨T,U,j⟩:=cq n;obtain ⟨V,o,q,s,b⟩:=a.y.el _ _ j;obtain rfl:o=m.cells:=s;cases q;have u:=b 0 _ rfl;simp only[go_sem] at u;have w:=b 1 _ rfl;simp only[go_sem] at w;have x:=b 2 _ rfl;simp only[go_sem] at x;clear b j;simp only[*,go_sem];apply aA;simp only[*,go_sem]
def qv (u0:(bC->bC->Option Bool))(i11:Nat)(a:bC)(st:bC):Option (Fl bC bC):=
 ag (u0 st a) fun b=>cond (b) (some (.nx a)) (some (.nx st))
def mD (u0:(bC->bC->Option Bool))(a:bC)(b:(List bC)):Option bC:=
 ag (bD (qv u0) 0 b a) fun o=>ay o (fun c=>some c) (fun _ _=>none) (fun r=>some r)
theorem sQ {ro:Addr->Option Value}(u0:(bC->bC->Option Bool)){dR:FuncId}{ep er:Array Value}(s:aJ Tryz.prog dR=true/\∀(aM:Addr->Option Value),Ext ro aM->∀(i:bC) (j:bC) (z:Bool),u0 i j=some z->aE Tryz.prog dR (ep++#[i.v,j.v]++er) ⟨aM,[]⟩ (fun v _=>v= .bool z))(c:bC)(b:(List bC)){s1:Value}(k:az kz ro s1 b){r:bC}(h:mD u0 c b=some r):aE Tryz.prog 70 #[.func (.func dR) ep er,.agg #[.int .i64 c.spot.aH,.int .i64 c.spot.high.num,.int .i64 c.spot.high.den,.int .i64 c.at_,.int .i64 c.high.num,.int .i64 c.high.den],s1] ⟨ro,[]⟩ (fun v _=>v=r.v):=by
 obtain ⟨d3,c4,rfl,Z,l,-⟩:=id k;unfold mD at h;refine aE.go Tryz.func70 rfl Tryz.ntmps70 Tryz.results70 (by simp) fun main J hJ A t hd hs=>?_;have u:=hs 0;have k1:=hs 1;have w:=hs 2;clear hs;apply ah hJ;simp only[*,go_sem];refine aC fun y ab B=>?_;try simp only[av] at B
 refine aC fun C ad D=>?_;try simp only[av] at D
 refine af hJ (ah hJ ?_);simp only[*,go_sem];apply aN hJ;revert h;refine bS fun E d F=>?_;refine bQ hJ (rg 11 10 [8]) (fun m G F'=>∃(i11:Nat) (v10:bC),m=b.length - i11/\i11<=b.length/\bD (qv u0) i11 (b.drop i11) v10=some E/\F'=⟨ro,(C,.cells #[.int .i64 0,.int .i64 0,.int .i64 0,.int .i64 0,.int .i64 0,.int .i64 0] 122)::(y,.cells #[.int .i64 v10.spot.aH,.int .i64 v10.spot.high.num,.int .i64 v10.spot.high.den,.int .i64 v10.at_,.int .i64 v10.high.num,.int .i64 v10.high.den] 122)::[]⟩/\slot G 11= .int .i64 (i11:Int)) b.length ?_ ?_
 .refine ⟨0,c,(Nat.sub_zero _).symm,Nat.zero_le _,d,rfl,?_⟩;simp only[*,go_sem]
 rintro ae al F' o ⟨i11,v10,rfl,ao,d,rfl,ar⟩;obtain ⟨H,I,K⟩:=o.pick [0,4,6,9,10] (by decide);simp only[*,go_sem] at H I K;clear o t hd u k1 w;apply ah hJ;simp only[*,go_sem];apply af hJ;rcases Nat.lt_or_ge i11 b.length with L|p
 .refine cn hJ ?_;apply aI hJ;obtain ⟨f,g⟩:∃x,b[i11]?=some x:=⟨_,List.getElem?_eq_getElem L⟩
  rw[dh g] at d;revert d;refine bS fun a0 h q=>?_;unfold qv at h;try dsimp only at h
  obtain ⟨a2,M,N,O,e⟩:=k.el _ _ g;obtain rfl:M=f.cells:=O;cases N;have P:=e 0 _ rfl;simp only[go_sem] at P;have Q:=e 1 _ rfl;simp only[go_sem] at Q;have R:=e 2 _ rfl;simp only[go_sem] at R;have S:=e 3 _ rfl;simp only[go_sem] at S;have T:=e 4 _ rfl;simp only[go_sem] at T;have U:=e 5 _ rfl;simp only[go_sem] at U;clear e g;refine af hJ (aN hJ (af hJ ?_));apply aj hJ;simp only[*,go_sem];refine aC fun a3 a4 V=>?_;try simp only[av] at V
  apply ah hJ;revert h;refine bS fun a5 W h=>?_;simp only[*,go_sem];refine bn hJ _ (s.2 _ (fun a v h=>aP a v h) v10 f _ W) ?_;revert h;refine aS hJ (fun X h=>?_) fun X h=>?_
  .cases h;apply aj hJ;simp only[*,go_sem];have Y:=cw (n:=i11) (by have:=l;omega);apply aj hJ;simp only[*,go_sem];refine ⟨b.length - (i11+1),by omega,_,Le.sub (List.Sublist.cons _ (List.Sublist.refl _)),i11+1,f,rfl,by omega,q,rfl,?_⟩;simp only[*,go_sem]
  cases h;apply aI hJ;have Y:=cw (n:=i11) (by have:=l;omega);apply aj hJ;simp only[*,go_sem];refine ⟨b.length - (i11+1),by omega,_,Le.sub (List.Sublist.cons _ (List.Sublist.refl _)),i11+1,v10,rfl,by omega,q,rfl,?_⟩;simp only[*,go_sem]
 have a6:=Nat.not_lt.2 p;refine bT hJ ?_;rw[List.drop_eq_nil_of_le p] at d;obtain rfl:=sI d;clear d;have h:=F;dsimp only[ay] at h;cases h;apply bJ;simp only[go_sem];apply ah hJ;simp only[*,go_sem];apply aA;simp only[*,go_sem]
def qw (u0:(au->au->Option Bool))(i11:Nat)(a:au)(st:au):Option (Fl au au):=
 ag (u0 st a) fun b=>cond (b) (some (.nx a)) (some (.nx st))
def iJ (u0:(au->au->Option Bool))(a:au)(b:(List au)):Option au:=
 ag (bD (qw u0) 0 b a) fun o=>ay o (fun c=>some c) (fun _ _=>none) (fun r=>some r)
theorem n6 {ro:Addr->Option Value}(u0:(au->au->Option Bool)){dR:FuncId}{ep er:Array Value}(s:aJ Tryz.prog dR=true/\∀(aM:Addr->Option Value),Ext ro aM->∀(i:au) (j:au) (z:Bool),u0 i j=some z->aE Tryz.prog dR (ep++#[i.v,j.v]++er) ⟨aM,[]⟩ (fun v _=>v= .bool z))(d:au)(b:(List au)){s1:Value}(k:az lf ro s1 b){r:au}(h:iJ u0 d b=some r):aE Tryz.prog 111 #[.func (.func dR) ep er,.agg #[.int .i64 d.num,.int .i64 d.den],s1] ⟨ro,[]⟩ (fun v _=>v=r.v):=by
 obtain ⟨d3,c4,rfl,V,l,-⟩:=id k;unfold iJ at h;refine aE.go Tryz.func111 rfl Tryz.ntmps111 Tryz.results111 (by simp) fun main J hJ A t hd hs=>?_;have u:=hs 0;have k1:=hs 1;have w:=hs 2;clear hs;apply ah hJ;simp only[*,go_sem];refine aC fun y W B=>?_;try simp only[av] at B
 refine aC fun C X D=>?_;try simp only[av] at D
 refine af hJ (ah hJ ?_);simp only[*,go_sem];apply aN hJ;revert h;refine bS fun E c F=>?_;refine bQ hJ (rg 11 10 [8]) (fun m G F'=>∃(i11:Nat) (v10:au),m=b.length - i11/\i11<=b.length/\bD (qw u0) i11 (b.drop i11) v10=some E/\F'=⟨ro,(C,rt 0 0)::(y,rt v10.num v10.den)::[]⟩/\slot G 11= .int .i64 (i11:Int)) b.length ?_ ?_
 .refine ⟨0,d,(Nat.sub_zero _).symm,Nat.zero_le _,c,rfl,?_⟩;simp only[*,go_sem]
 rintro Y Z F' o ⟨i11,v10,rfl,ab,c,rfl,ad⟩;obtain ⟨H,I,K⟩:=o.pick [0,4,6,9,10] (by decide);simp only[*,go_sem] at H I K;clear o t hd u k1 w;apply ah hJ;simp only[*,go_sem];apply af hJ;rcases Nat.lt_or_ge i11 b.length with L|p
 .refine cn hJ ?_;apply aI hJ;obtain ⟨e,f⟩:∃x,b[i11]?=some x:=⟨_,List.getElem?_eq_getElem L⟩
  rw[dh f] at c;revert c;refine bS fun ae h q=>?_;unfold qw at h;try dsimp only at h
  obtain ⟨al,M,N,O,g⟩:=k.el _ _ f;obtain rfl:M=e.cells:=O;cases N;have P:=g 0 _ rfl;simp only[go_sem] at P;have Q:=g 1 _ rfl;simp only[go_sem] at Q;clear g f;refine af hJ (aN hJ (af hJ ?_));apply aj hJ;simp only[*,go_sem];refine aC fun ao ar R=>?_;try simp only[av] at R
  apply ah hJ;revert h;refine bS fun a0 S h=>?_;simp only[*,go_sem];refine bn hJ _ (s.2 _ (fun a v h=>aP a v h) v10 e _ S) ?_;revert h;refine aS hJ (fun T h=>?_) fun T h=>?_
  .cases h;apply aj hJ;simp only[*,go_sem];have U:=cw (n:=i11) (by have:=l;omega);apply aj hJ;simp only[*,go_sem];refine ⟨b.length - (i11+1),by omega,_,Le.sub (List.Sublist.cons _ (List.Sublist.refl _)),i11+1,e,rfl,by omega,q,rfl,?_⟩;simp only[*,go_sem]
  cases h;apply aI hJ;have U:=cw (n:=i11) (by have:=l;omega);apply aj hJ;simp only[*,go_sem];refine ⟨b.length - (i11+1),by omega,_,Le.sub (List.Sublist.cons _ (List.Sublist.refl _)),i11+1,v10,rfl,by omega,q,rfl,?_⟩;simp only[*,go_sem]
 have a2:=Nat.not_lt.2 p;refine bT hJ ?_;rw[List.drop_eq_nil_of_le p] at c;obtain rfl:=sI c;clear c;have h:=F;dsimp only[ay] at h;cases h;apply bJ;simp only[go_sem];apply ah hJ;simp only[*,go_sem];apply aA;simp only[*,go_sem]
def sR (u0:bC)(a:bC):Option Bool:=
 ag (ji a u0) fun b=>some b
theorem G0 {ro:Addr->Option Value}(u0:bC)(a:bC){r:Bool}(h:sR u0 a=some r):aE Tryz.prog 72 #[.agg #[.int .i64 u0.spot.aH,.int .i64 u0.spot.high.num,.int .i64 u0.spot.high.den,.int .i64 u0.at_,.int .i64 u0.high.num,.int .i64 u0.high.den],.agg #[.int .i64 a.spot.aH,.int .i64 a.spot.high.num,.int .i64 a.spot.high.den,.int .i64 a.at_,.int .i64 a.high.num,.int .i64 a.high.den]] ⟨ro,[]⟩ (fun v _=>v= .bool r):=by
 unfold sR at h;refine aE.go Tryz.func72 rfl Tryz.ntmps72 Tryz.results72 (by simp) fun main J hJ A c hd hs=>?_;have d:=hs 0;have k1:=hs 1;clear hs;apply ah hJ;simp only[*,go_sem];refine aC fun e r1 n1=>?_;try simp only[av] at n1
 refine aC fun b2 r2 n2=>?_;try simp only[av] at n2
 apply ah hJ;revert h;refine bS fun f b h=>?_;cases h;simp only[*,go_sem];refine bn hJ _ (sM a u0 b) (aK ?_);simp only[*,go_sem];apply aA;simp only[*,go_sem]
def sS (u0:au)(a:au):Option Bool:=
 ag (eN a u0) fun b=>some b
theorem G1 {ro:Addr->Option Value}(u0:au)(a:au){r:Bool}(h:sS u0 a=some r):aE Tryz.prog 110 #[.agg #[.int .i64 u0.num,.int .i64 u0.den],.agg #[.int .i64 a.num,.int .i64 a.den]] ⟨ro,[]⟩ (fun v _=>v= .bool r):=by
 unfold sS at h;refine aE.go Tryz.func110 rfl Tryz.ntmps110 Tryz.results110 (by simp) fun main J hJ A c hd hs=>?_;have d:=hs 0;have k1:=hs 1;clear hs;apply ah hJ;simp only[*,go_sem];refine aC fun e r1 n1=>?_;try simp only[av] at n1
 refine aC fun b2 r2 n2=>?_;try simp only[av] at n2
 apply ah hJ;revert h;refine bS fun f b h=>?_;cases h;simp only[*,go_sem];refine bn hJ _ (jh a u0 b) (aK ?_);simp only[*,go_sem];apply aA;simp only[*,go_sem]
def sU (u0:ak)(i32:Nat)(a:bV)(st:Int):Option (Fl Int Int):=
 ag (n4 u0 a.aY) fun b=>cond (!b) (some (.rt 6)) (some (.nx st))
def mE (u0:ak):Option Int:=
 cond (decide (3<(u0.told.length:Int))) (some 2) (ag (bD (sU u0) 0 u0.told 0) fun o=>ay o (fun a=>some 0) (fun _ _=>none) (fun r=>some r))
theorem G2 {ro:Addr->Option Value}(u0:ak){s1 c d j:Value}(e:bL ro u0 s1 c d j){r:Int}(h:mE u0=some r):aE Tryz.prog 248 #[bv u0 s1 c d j] ⟨ro,[]⟩ (fun v _=>v= .int .i64 r):=by
 obtain ⟨d24,s,rfl,R,u,-⟩:=id e.t;unfold mE at h;refine aE.go Tryz.func248 rfl Tryz.ntmps248 Tryz.results248 (by simp) fun main J hJ A w hd hs=>?_;have y:=hs 0;clear hs;apply ah hJ;simp only[*,go_sem];refine aC fun z S B=>?_;try simp only[av] at B
 refine af hJ (ah hJ ?_);simp only[*,go_sem];revert h;refine aS hJ (fun C h=>?_) fun C h=>?_
 .cases h;apply ah hJ;simp only[*,go_sem];apply aA;simp only[*,go_sem]
 refine aI hJ (af hJ ?_);apply ah hJ;simp only[*,go_sem];apply aN hJ;revert h;refine bS fun D a k=>?_;refine bQ hJ (rg 14 10 [2,4]) (fun m l F'=>∃(i32:Nat) (b:Int),m=u0.told.length - i32/\i32<=u0.told.length/\bD (sU u0) i32 (u0.told.drop i32) b=some D/\F'=⟨ro,(z,bl u0 s1 c d (sl d24 u0.told s))::[]⟩/\slot l 14= .int .i64 (i32:Int)/\slot l 2= .int .i64 b) u0.told.length ?_ ?_
 .refine ⟨0,0,(Nat.sub_zero _).symm,Nat.zero_le _,a,rfl,?_⟩;simp only[*,go_sem]
 rintro T U F' o ⟨i32,b,rfl,V,a,rfl,W,X⟩;obtain ⟨E,F,G⟩:=o.pick [1,12,13] (by decide);simp only[*,go_sem] at E F G;clear o w hd y;apply ah hJ;simp only[*,go_sem];apply af hJ;rcases Nat.lt_or_ge i32 u0.told.length with H|p
 .refine cn hJ ?_;apply aI hJ;obtain ⟨q,f⟩:∃x,u0.told[i32]?=some x:=⟨_,List.getElem?_eq_getElem H⟩
  rw[dh f] at a;revert a;refine bS fun Y h g=>?_;unfold sU at h;try dsimp only at h
  obtain ⟨Z,I,K,L,i⟩:=e.t.el _ _ f;obtain rfl:I=q.cells:=L;cases K;have M:=i 0 _ rfl;simp only[go_sem] at M;have N:=i 1 _ rfl;simp only[go_sem] at N;clear i f;refine af hJ (aN hJ (af hJ ?_));apply aj hJ;simp only[*,go_sem];refine aC fun ab ad O=>?_;try simp only[av] at O
  apply ah hJ;revert h;refine bS fun ae P h=>?_;simp only[*,go_sem];refine bn hJ _ (Bh u0 (e.mono aP) q.aY P) (aK ?_);simp only[*,go_sem];revert h;refine aS hJ (fun Q h=>?_) fun Q h=>?_
  .cases h;apply ah hJ;simp only[*,go_sem];obtain rfl:=sI g;clear g;have h:=k;dsimp only[ay] at h;cases h;apply aA;simp only[*,go_sem]
  cases h;apply aI hJ;have al:=cw (n:=i32) (by have:=u;omega);apply aj hJ;simp only[*,go_sem];refine ⟨u0.told.length - (i32+1),by omega,_,Le.sub (List.Sublist.cons _ (List.Sublist.refl _)),i32+1,b,rfl,by omega,g,rfl,?_⟩;simp only[*,go_sem]
 have ao:=Nat.not_lt.2 p;refine bT hJ ?_;rw[List.drop_eq_nil_of_le p] at a;obtain rfl:=sI a;clear a;have h:=k;dsimp only[ay] at h;cases h;apply bJ;simp only[go_sem];apply ah hJ;simp only[*,go_sem];apply aA;simp only[*,go_sem]
def sV (i34:Nat)(a:b9)(st:Int):Option (Fl Int Int):=
 ag (fQ a.back 1 20) fun b=>cond (!b) (some (.rt 1)) (ag (qp a.high 0 60) fun c=>cond (!c) (some (.rt 1)) (cond (decide (3<=(IntKind.i64.wrap (a.high.high - a.high.low)))) (some (.rt 1)) (some (.nx st))))
def mF (u0:ak):Option Int:=
 ag (fQ (u0.aG.length:Int) 1 3) fun a=>cond (!a) (some 2) (ag (bD (sV) 0 u0.aG 0) fun o=>ay o (fun b=>some 0) (fun _ _=>none) (fun r=>some r))
theorem G3 {ro:Addr->Option Value}(u0:ak){s1 f k g:Value}(l:bL ro u0 s1 f k g){r:Int}(h:mF u0=some r):aE Tryz.prog 247 #[bv u0 s1 f k g] ⟨ro,[]⟩ (fun v _=>v= .int .i64 r):=by
 obtain ⟨d17,s,rfl,W,t,-⟩:=id l.y;unfold mF at h;refine aE.go Tryz.func247 rfl Tryz.ntmps247 Tryz.results247 (by simp) fun main J hJ A u hd hs=>?_;have w:=hs 0;clear hs;apply ah hJ;simp only[*,go_sem];refine aC fun z X B=>?_;try simp only[av] at B
 refine af hJ (ah hJ ?_);revert h;refine bS fun Y C h=>?_;simp only[*,go_sem];refine bn hJ _ (gR (u0.aG.length:Int) 1 3 C) (aK ?_);simp only[*,go_sem];revert h;refine aS hJ (fun D h=>?_) fun D h=>?_
 .cases h;apply ah hJ;simp only[*,go_sem];apply aA;simp only[*,go_sem]
 refine aI hJ (af hJ ?_);apply ah hJ;simp only[*,go_sem];apply aN hJ;revert h;refine bS fun E a c=>?_;refine bQ hJ (rg 15 25 [2,4]) (fun m o F'=>∃(i34:Nat) (d:Int),m=u0.aG.length - i34/\i34<=u0.aG.length/\bD (sV) i34 (u0.aG.drop i34) d=some E/\F'=⟨ro,(z,bl u0 s1 f (sl d17 u0.aG s) g)::[]⟩/\slot o 15= .int .i64 (i34:Int)/\slot o 2= .int .i64 d) u0.aG.length ?_ ?_
 .refine ⟨0,0,(Nat.sub_zero _).symm,Nat.zero_le _,a,rfl,?_⟩;simp only[*,go_sem]
 rintro Z ab F' p ⟨i34,d,rfl,ad,a,rfl,ae,al⟩;obtain ⟨F,G,H⟩:=p.pick [13,14] (by decide);simp only[*,go_sem] at F G H;clear p u hd w;apply ah hJ;simp only[*,go_sem];apply af hJ;rcases Nat.lt_or_ge i34 u0.aG.length with I|q
 .refine cn hJ ?_;apply aI hJ;obtain ⟨i,j⟩:∃x,u0.aG[i34]?=some x:=⟨_,List.getElem?_eq_getElem I⟩
  rw[dh j] at a;revert a;refine bS fun ao h b=>?_;unfold sV at h;try dsimp only at h
  obtain ⟨ar,K,L,M,e⟩:=l.y.el _ _ j;obtain rfl:K=i.cells:=M;cases L;have N:=e 0 _ rfl;simp only[go_sem] at N;have O:=e 1 _ rfl;simp only[go_sem] at O;have P:=e 2 _ rfl;simp only[go_sem] at P;clear e j;refine af hJ (aN hJ (af hJ ?_));apply aj hJ;simp only[*,go_sem];refine aC fun a0 a2 Q=>?_;try simp only[av] at Q
  apply ah hJ;revert h;refine bS fun a3 R h=>?_;simp only[*,go_sem];refine bn hJ _ (gR i.back 1 20 R) (aK ?_);revert h;refine cS (fun S h=>?_) fun S h=>?_
  .cases h;simp only[*,go_sem];refine cn hJ ?_;apply ah hJ;simp only[*,go_sem];obtain rfl:=sI b;clear b;have h:=c;dsimp only[ay] at h;cases h;apply aA;simp only[*,go_sem]
  revert h;refine bS fun a4 T h=>?_;simp only[*,go_sem];refine bn hJ _ (Bg i.high 0 60 T) (aK ?_);revert h;refine cS (fun U h=>?_) fun U h=>?_
  .cases h;simp only[*,go_sem];refine cn hJ ?_;apply ah hJ;simp only[*,go_sem];obtain rfl:=sI b;clear b;have h:=c;dsimp only[ay] at h;cases h;apply aA;simp only[*,go_sem]
  simp only[*,go_sem];revert h;refine aS hJ (fun V h=>?_) fun V h=>?_
  .cases h;apply ah hJ;simp only[*,go_sem];obtain rfl:=sI b;clear b;have h:=c;dsimp only[ay] at h;cases h;apply aA;simp only[*,go_sem]
  cases h;apply aI hJ;have a5:=cw (n:=i34) (by have:=t;omega);apply aj hJ;simp only[*,go_sem];refine ⟨u0.aG.length - (i34+1),by omega,_,Le.sub (List.Sublist.cons _ (List.Sublist.refl _)),i34+1,d,rfl,by omega,b,rfl,?_⟩;simp only[*,go_sem]
 have a6:=Nat.not_lt.2 q;refine bT hJ ?_;rw[List.drop_eq_nil_of_le q] at a;obtain rfl:=sI a;clear a;have h:=c;dsimp only[ay] at h;cases h;apply bJ;simp only[go_sem];apply ah hJ;simp only[*,go_sem];apply aA;simp only[*,go_sem]
def sW (u0:ak)(i32:Nat)(a:bO)(st:Int):Option (Fl Int Int):=
 ag (eo u0 a.place) fun c=>cond (!c) (some (.rt 6)) (ag (gu a.dr u0) fun b=>cond ((b != 0)) (some (.rt b)) (some (.nx st)))
def mG (u0:ak):Option Int:=
 cond (decide (3<(u0.props.length:Int))) (some 2) (ag (bD (sW u0) 0 u0.props 0) fun o=>ay o (fun a=>some 0) (fun _ _=>none) (fun r=>some r))
theorem G4 {ro:Addr->Option Value}(u0:ak){s1 l e f:Value}(c:bL ro u0 s1 l e f){r:Int}(h:mG u0=some r):aE Tryz.prog 246 #[bv u0 s1 l e f] ⟨ro,[]⟩ (fun v _=>v= .int .i64 r):=by
 obtain ⟨d10,t,rfl,T,u,-⟩:=id c.p;unfold mG at h;refine aE.go Tryz.func246 rfl Tryz.ntmps246 Tryz.results246 (by simp) fun main J hJ A w hd hs=>?_;have y:=hs 0;clear hs;apply ah hJ;simp only[*,go_sem];refine aC fun z U B=>?_;try simp only[av] at B
 refine af hJ (ah hJ ?_);simp only[*,go_sem];revert h;refine aS hJ (fun C h=>?_) fun C h=>?_
 .cases h;apply ah hJ;simp only[*,go_sem];apply aA;simp only[*,go_sem]
 refine aI hJ (af hJ ?_);apply ah hJ;simp only[*,go_sem];apply aN hJ;revert h;refine bS fun D a g=>?_;refine bQ hJ (rg 15 17 [2,4,5]) (fun m o F'=>∃(i32:Nat) (d:Int),m=u0.props.length - i32/\i32<=u0.props.length/\bD (sW u0) i32 (u0.props.drop i32) d=some D/\F'=⟨ro,(z,bl u0 s1 (sl d10 u0.props t) e f)::[]⟩/\slot o 15= .int .i64 (i32:Int)/\slot o 2= .int .i64 d) u0.props.length ?_ ?_
 .refine ⟨0,0,(Nat.sub_zero _).symm,Nat.zero_le _,a,rfl,?_⟩;simp only[*,go_sem]
 rintro V W F' q ⟨i32,d,rfl,X,a,rfl,Y,Z⟩;obtain ⟨E,F,G⟩:=q.pick [1,13,14] (by decide);simp only[*,go_sem] at E F G;clear q w hd y;apply ah hJ;simp only[*,go_sem];apply af hJ;rcases Nat.lt_or_ge i32 u0.props.length with H|s
 .refine cn hJ ?_;apply aI hJ;obtain ⟨i,j⟩:∃x,u0.props[i32]?=some x:=⟨_,List.getElem?_eq_getElem H⟩
  rw[dh j] at a;revert a;refine bS fun ab h b=>?_;unfold sW at h;try dsimp only at h
  obtain ⟨ad,I,K,L,k⟩:=c.p.el _ _ j;obtain rfl:I=i.cells:=L;cases K;have M:=k 0 _ rfl;simp only[go_sem] at M;have N:=k 1 _ rfl;simp only[go_sem] at N;clear k j;refine af hJ (aN hJ (af hJ ?_));apply aj hJ;simp only[*,go_sem];refine aC fun ae al O=>?_;try simp only[av] at O
  refine af hJ (ah hJ ?_);revert h;refine bS fun ao P h=>?_;simp only[*,go_sem];refine bn hJ _ (sO u0 (c.mono aP) i.place P) (aK ?_);simp only[*,go_sem];revert h;refine aS hJ (fun Q h=>?_) fun Q h=>?_
  .cases h;apply ah hJ;simp only[*,go_sem];obtain rfl:=sI b;clear b;have h:=g;dsimp only[ay] at h;cases h;apply aA;simp only[*,go_sem]
  refine aI hJ (af hJ ?_);apply aj hJ;revert h;refine bS fun ar R h=>?_;simp only[*,go_sem];refine bn hJ _ (wB i.dr u0 (c.mono aP) R) (aK ?_);simp only[*,go_sem];apply ah hJ;simp only[*,go_sem];revert h;refine aS hJ (fun S h=>?_) fun S h=>?_
  .cases h;apply ah hJ;simp only[*,go_sem];obtain rfl:=sI b;clear b;have h:=g;dsimp only[ay] at h;cases h;apply aA;simp only[*,go_sem]
  cases h;apply aI hJ;have a0:=cw (n:=i32) (by have:=u;omega);apply aj hJ;simp only[*,go_sem];refine ⟨u0.props.length - (i32+1),by omega,_,Le.sub (List.Sublist.cons _ (List.Sublist.refl _)),i32+1,d,rfl,by omega,b,rfl,?_⟩;simp only[*,go_sem]
 have a2:=Nat.not_lt.2 s;refine bT hJ ?_;rw[List.drop_eq_nil_of_le s] at a;obtain rfl:=sI a;clear a;have h:=g;dsimp only[ay] at h;cases h;apply bJ;simp only[go_sem];apply ah hJ;simp only[*,go_sem];apply aA;simp only[*,go_sem]
def sX (u0:ak)(i34:Nat)(a:bN)(st:Int):Option (Fl Int Int):=
 ag (fQ a.aH 0 (IntKind.i64.wrap (u0.bH - 1))) fun b=>cond (!b) (some (.rt 1)) (ag (fQ a.high 0 60) fun c=>cond (!c) (some (.rt 1)) (cond (decide (0<(i34:Int))) (ag (aT u0.an (IntKind.i64.wrap ((i34:Int) - 1))) fun d=>cond (decide (a.aH<=d.aH)) (some (.rt 7)) (some (.nx st))) (some (.nx st))))
def lg (u0:ak):Option Int:=
 ag (fQ (u0.an.length:Int) 2 5) fun a=>cond (!a) (some 2) (ag (bD (sX u0) 0 u0.an 0) fun o=>ay o (fun b=>some 0) (fun _ _=>none) (fun r=>some r))
theorem G5 {ro:Addr->Option Value}(u0:ak){s1 f g i:Value}(j:bL ro u0 s1 f g i){r:Int}(h:lg u0=some r):aE Tryz.prog 245 #[bv u0 s1 f g i] ⟨ro,[]⟩ (fun v _=>v= .int .i64 r):=by
 obtain ⟨d3,c4,rfl,ar,q,-⟩:=id j.e;unfold lg at h;refine aE.go Tryz.func245 rfl Tryz.ntmps245 Tryz.results245 (by simp) fun main J hJ A y hd hs=>?_;have z:=hs 0;clear hs;apply ah hJ;simp only[*,go_sem];refine aC fun B a0 C=>?_;try simp only[av] at C
 refine af hJ (ah hJ ?_);revert h;refine bS fun a2 D h=>?_;simp only[*,go_sem];refine bn hJ _ (gR (u0.an.length:Int) 2 5 D) (aK ?_);simp only[*,go_sem];revert h;refine aS hJ (fun E h=>?_) fun E h=>?_
 .cases h;apply ah hJ;simp only[*,go_sem];apply aA;simp only[*,go_sem]
 refine aI hJ (af hJ ?_);apply ah hJ;simp only[*,go_sem];apply aN hJ;revert h;refine bS fun F b d=>?_;refine bQ hJ (rg 15 35 [2,3,4]) (fun m s F'=>∃(i34:Nat) (c:Int),m=u0.an.length - i34/\i34<=u0.an.length/\bD (sX u0) i34 (u0.an.drop i34) c=some F/\F'=⟨ro,(B,bl u0 (sl d3 u0.an c4) f g i)::[]⟩/\slot s 15= .int .i64 (i34:Int)/\slot s 2= .int .i64 c) u0.an.length ?_ ?_
 .refine ⟨0,0,(Nat.sub_zero _).symm,Nat.zero_le _,b,rfl,?_⟩;simp only[*,go_sem]
 rintro a3 a4 F' t ⟨i34,c,rfl,a5,b,rfl,a6,a7⟩;obtain ⟨G,H,I⟩:=t.pick [1,13,14] (by decide);simp only[*,go_sem] at G H I;clear t y hd z;apply ah hJ;simp only[*,go_sem];apply af hJ;rcases Nat.lt_or_ge i34 u0.an.length with K|u
 .refine cn hJ ?_;apply aI hJ;obtain ⟨k,l⟩:∃x,u0.an[i34]?=some x:=⟨_,List.getElem?_eq_getElem K⟩
  rw[dh l] at b;revert b;refine bS fun a8 h a=>?_;unfold sX at h;try dsimp only at h
  obtain ⟨a9,L,M,N,o⟩:=j.e.el _ _ l;obtain rfl:L=k.cells:=N;cases M;have O:=o 0 _ rfl;simp only[go_sem] at O;have P:=o 1 _ rfl;simp only[go_sem] at P;clear o l;refine af hJ (aN hJ (af hJ ?_));apply aj hJ;simp only[*,go_sem];refine aC fun ba bb Q=>?_;try simp only[av] at Q
  refine aN hJ (af hJ ?_);apply ah hJ;revert h;refine bS fun bc R h=>?_;simp only[*,go_sem];refine bn hJ _ (gR k.aH 0 (IntKind.i64.wrap (u0.bH - 1)) R) (aK ?_);simp only[*,go_sem];revert h;refine aS hJ (fun S h=>?_) fun S h=>?_
  .cases h;apply aI hJ;refine cn hJ ?_;apply ah hJ;simp only[*,go_sem];obtain rfl:=sI a;clear a;have h:=d;dsimp only[ay] at h;cases h;apply aA;simp only[*,go_sem]
  apply aj hJ;revert h;refine bS fun bd T h=>?_;simp only[*,go_sem];refine bn hJ _ (gR k.high 0 60 T) (aK ?_);simp only[*,go_sem];revert h;refine aS hJ (fun U h=>?_) fun U h=>?_
  .cases h;apply ah hJ;simp only[*,go_sem];obtain rfl:=sI a;clear a;have h:=d;dsimp only[ay] at h;cases h;apply aA;simp only[*,go_sem]
  apply af hJ;refine cE hJ mixed 16 2 (by simp only[*,go_sem]) (by kernel_rfl) ?_;revert h;refine cS (fun V h=>?_) fun V h=>?_
  .revert h;refine bS fun W X h=>?_;obtain ⟨bj,bk,w⟩:=cq X;obtain ⟨bm,Y,Z,ab,p⟩:=j.e.el _ _ w;obtain rfl:Y=W.cells:=ab;cases Z;have ad:=p 0 _ rfl;simp only[go_sem] at ad;have ae:=p 1 _ rfl;simp only[go_sem] at ae;clear p w;simp only[*,go_sem];revert h;refine aS hJ (fun al h=>?_) fun al h=>?_
   .cases h;apply ah hJ;simp only[*,go_sem];obtain rfl:=sI a;clear a;have h:=d;dsimp only[ay] at h;cases h;apply aA;simp only[*,go_sem]
   cases h;apply aI hJ;have ao:=cw (n:=i34) (by have:=q;omega);apply aj hJ;simp only[*,go_sem];refine ⟨u0.an.length - (i34+1),by omega,_,Le.sub (List.Sublist.cons _ (List.Sublist.refl _)),i34+1,c,rfl,by omega,a,rfl,?_⟩;simp only[*,go_sem]
  cases h;simp only[*,go_sem];refine bT hJ ?_;apply aI hJ;have ao:=cw (n:=i34) (by have:=q;omega);apply aj hJ;simp only[*,go_sem];refine ⟨u0.an.length - (i34+1),by omega,_,Le.sub (List.Sublist.cons _ (List.Sublist.refl _)),i34+1,c,rfl,by omega,a,rfl,?_⟩;simp only[*,go_sem]
 have bo:=Nat.not_lt.2 u;refine bT hJ ?_;rw[List.drop_eq_nil_of_le u] at b;obtain rfl:=sI b;clear b;have h:=d;dsimp only[ay] at h;cases h;apply bJ;simp only[go_sem];apply ah hJ;simp only[*,go_sem];apply aA;simp only[*,go_sem]
def n7 (u0:ak):Option Int:=
 ag (fQ u0.bH 2 60) fun b=>cond (!b) (some 1) (ag (fQ u0.bP 0 60) fun c=>cond (!c) (some 1) (ag (fQ u0.bf.den 1 20) fun d=>cond (!d) (some 1) (ag (fQ u0.bf.num 0 20) fun e=>cond (!e) (some 1) (ag (kA u0.bf.num u0.bf.den) fun a=>cond (!((a.num==u0.bf.num)&&(a.den==u0.bf.den))) (some 3) (some 0)))))
theorem G6 {ro:Addr->Option Value}(u0:ak){s1 a b c:Value}(z:bL ro u0 s1 a b c){r:Int}(h:n7 u0=some r):aE Tryz.prog 244 #[bv u0 s1 a b c] ⟨ro,[]⟩ (fun v _=>v= .int .i64 r):=by
 unfold n7 at h;refine aE.go Tryz.func244 rfl Tryz.ntmps244 Tryz.results244 (by simp) fun main J hJ A d hd hs=>?_;have e:=hs 0;clear hs;apply ah hJ;simp only[*,go_sem];refine aC fun B C f=>?_;try simp only[av] at f
 refine af hJ (aN hJ (af hJ ?_));apply ah hJ;revert h;refine bS fun D g h=>?_;simp only[*,go_sem];refine bn hJ _ (gR u0.bH 2 60 g) (aK ?_);simp only[*,go_sem];revert h;refine aS hJ (fun i h=>?_) fun i h=>?_
 .cases h;apply aI hJ;refine cn hJ ?_;apply ah hJ;simp only[*,go_sem];apply aA;simp only[*,go_sem]
 apply ah hJ;revert h;refine bS fun E j h=>?_;simp only[*,go_sem];refine bn hJ _ (gR u0.bP 0 60 j) (aK ?_);simp only[*,go_sem];revert h;refine aS hJ (fun k h=>?_) fun k h=>?_
 .cases h;apply aI hJ;refine cn hJ ?_;apply ah hJ;simp only[*,go_sem];apply aA;simp only[*,go_sem]
 apply ah hJ;revert h;refine bS fun G l h=>?_;simp only[*,go_sem];refine bn hJ _ (gR u0.bf.den 1 20 l) (aK ?_);simp only[*,go_sem];revert h;refine aS hJ (fun m h=>?_) fun m h=>?_
 .cases h;apply aI hJ;refine cn hJ ?_;apply ah hJ;simp only[*,go_sem];apply aA;simp only[*,go_sem]
 apply aj hJ;revert h;refine bS fun H n h=>?_;simp only[*,go_sem];refine bn hJ _ (gR u0.bf.num 0 20 n) (aK ?_);simp only[*,go_sem];revert h;refine aS hJ (fun o h=>?_) fun o h=>?_
 .cases h;apply ah hJ;simp only[*,go_sem];apply aA;simp only[*,go_sem]
 apply af hJ;refine cE hJ mixed 14 1 (by simp only[*,go_sem]) (by kernel_rfl) ?_;revert h;refine bS fun I p h=>?_;simp only[*,go_sem];refine ⟨_,bE hJ fun F K=>qs u0.bf.num u0.bf.den p,cc ?_⟩;simp only[*,go_sem];revert h;refine aS hJ (fun q h=>?_) fun q h=>?_
 .cases h;apply af hJ;refine fY [2] fun L s t u=>?_;simp only[*,go_sem] at s t u;clear d hd e;apply aj hJ;simp only[*,go_sem];apply aA;simp only[*,go_sem]
 cases h;refine aI hJ (af hJ ?_);refine fY [2] fun M w x y=>?_;simp only[*,go_sem] at w x y;clear d hd e;apply aj hJ;simp only[*,go_sem];apply aA;simp only[*,go_sem]
def c6 (ro:Addr->Option Value):Prop:=
 ro ⟨0,0,none⟩=some (.func (.func 244) #[] #[])/\ro ⟨0,1,none⟩=some (.func (.func 245) #[] #[])/\ro ⟨0,2,none⟩=some (.func (.func 246) #[] #[])/\ro ⟨0,3,none⟩=some (.func (.func 247) #[] #[])/\ro ⟨0,4,none⟩=some (.func (.func 248) #[] #[])
theorem c6.mono {ro aM:Addr->Option Value}(h:c6 ro)(a:Ext ro aM):c6 aM:=
 ⟨a _ _ h.1,a _ _ h.2.1,a _ _ h.2.2.1,a _ _ h.2.2.2.1,a _ _ h.2.2.2.2⟩
def n8 (_:ak):Option Int:=some 0
def lp (b:ak):Option Int:=ag (mE b) fun x=>cond (x != 0) (some x) (n8 b)
def lq (b:ak):Option Int:=ag (mF b) fun x=>cond (x != 0) (some x) (lp b)
def lu (b:ak):Option Int:=ag (mG b) fun x=>cond (x != 0) (some x) (lq b)
def lz (b:ak):Option Int:=ag (lg b) fun x=>cond (x != 0) (some x) (lu b)
def jj (b:ak):Option Int:=ag (n7 b) fun x=>cond (x != 0) (some x) (lz b)
def e9 (b:ak):Option Int:=jj b
def sY:Nat->ak->Option Int
 |0=>jj|1=>lz|2=>lu|3=>lq|4=>lp|_=>n8
theorem Bj {ro:Addr->Option Value}(n:c6 ro)(u0:ak){s1:Value}(d:az fj ro s1 u0.an){s2:Value}(e:az eI ro s2 u0.props){f:Value}(g:az e8 ro f u0.aG){j:Value}(k:az di ro j u0.told){r:Int}(h:e9 u0=some r):
  aE Tryz.prog 95 #[.agg #[.int .i64 u0.bH,.int .i64 u0.bP,.int .i64 u0.bf.num,.int .i64 u0.bf.den,s1,s2,f,j]] ⟨ro,[]⟩ (fun v _=>v= .int .i64 r):=by
 obtain ⟨p,s,t,u,w⟩:=n
 replace h:sY 0 u0=some r:=h
 refine aE.go Tryz.func95 rfl Tryz.ntmps95 Tryz.results95 (by simp) fun main J hJ A o hd hs=>?_
 have y:=hs 0
 clear hs
 first|refine aj hJ ?_|refine ah hJ ?_|refine af hJ (ah hJ ?_)|refine af hJ (af hJ (ah hJ ?_))
 simp only[*,go_sem]
 intro c f1;have r1:=eK f1;have n1:=fL f1;simp only[av] at n1
 first|refine aj hJ ?_|refine ah hJ ?_|refine af hJ (ah hJ ?_)|refine af hJ (af hJ (ah hJ ?_))
 simp only[*,go_sem]
 first|refine aN hJ (vN hJ (fun m a F=>∃i:Nat,F=⟨ro,[(c,.cells #[.int .i64 u0.bH,.int .i64 u0.bP,.int .i64 u0.bf.num,.int .i64 u0.bf.den,s1,s2,f,j] 29)]⟩/\m=5 - i/\sz a=18/\a.defers=[]/\slot a 1= .pointer (some ⟨c,0,none⟩)/\slot a 6= .agg #[.func (.func 244) #[] #[],.func (.func 245) #[] #[],.func (.func 246) #[] #[],.func (.func 247) #[] #[],.func (.func 248) #[] #[]]/\slot a 7= .int .i64 i/\i<=5/\sY i u0=some r) (5) ?_ ?_)|refine af hJ (aN hJ (vN hJ (fun m a F=>∃i:Nat,F=⟨ro,[(c,.cells #[.int .i64 u0.bH,.int .i64 u0.bP,.int .i64 u0.bf.num,.int .i64 u0.bf.den,s1,s2,f,j] 29)]⟩/\m=5 - i/\sz a=18/\a.defers=[]/\slot a 1= .pointer (some ⟨c,0,none⟩)/\slot a 6= .agg #[.func (.func 244) #[] #[],.func (.func 245) #[] #[],.func (.func 246) #[] #[],.func (.func 247) #[] #[],.func (.func 248) #[] #[]]/\slot a 7= .int .i64 i/\i<=5/\sY i u0=some r) (5) ?_ ?_))|refine af hJ (af hJ (aN hJ (vN hJ (fun m a F=>∃i:Nat,F=⟨ro,[(c,.cells #[.int .i64 u0.bH,.int .i64 u0.bP,.int .i64 u0.bf.num,.int .i64 u0.bf.den,s1,s2,f,j] 29)]⟩/\m=5 - i/\sz a=18/\a.defers=[]/\slot a 1= .pointer (some ⟨c,0,none⟩)/\slot a 6= .agg #[.func (.func 244) #[] #[],.func (.func 245) #[] #[],.func (.func 246) #[] #[],.func (.func 247) #[] #[],.func (.func 248) #[] #[]]/\slot a 7= .int .i64 i/\i<=5/\sY i u0=some r) (5) ?_ ?_)))
 .refine ⟨0,rfl,rfl,?_⟩
  simp only[*,go_sem,-h]
  first|exact ⟨Nat.zero_le _,h⟩|exact h
 .clear h
  rintro m a F ⟨i,rfl,rfl,o,hd,z,B,C,hi,h⟩
  rcases i with _|_|_|_|_|i
  .replace h:ag (n7 u0) (fun x=>cond (x != 0) (some x) (lz u0))=some r:=h
   have h':=fV h;clear h;obtain ⟨x,q,h⟩:=h'
   have l:((0:Nat):Int)=0:=rfl
   first|refine aj hJ ?_|refine ah hJ ?_|refine af hJ (ah hJ ?_)|refine af hJ (af hJ (ah hJ ?_))
   simp only[*,go_sem,-h]
   apply af hJ
   refine dW hJ (by simp only[*,go_sem,-h]) ?_
   apply aI hJ
   refine af hJ (aN hJ ?_)
   first|refine aj hJ ?_|refine ah hJ ?_|refine af hJ (ah hJ ?_)|refine af hJ (af hJ (ah hJ ?_))
   simp only[*,go_sem,-h]
   first|refine aj hJ ?_|refine ah hJ ?_|refine af hJ (ah hJ ?_)|refine af hJ (af hJ (ah hJ ?_))
   simp only[*,go_sem,-h]
   refine bn hJ _ (G6 u0 ⟨(d.mono aP),(e.mono aP),(g.mono aP),(k.mono aP)⟩ q) (aK ?_)
   simp only[*,go_sem,-h]
   first|refine aj hJ ?_|refine ah hJ ?_|refine af hJ (ah hJ ?_)|refine af hJ (af hJ (ah hJ ?_))
   simp only[*,go_sem,-h]
   have h':=jd h;clear h;rcases h' with ⟨b,h⟩|⟨b,h⟩
   .refine dW hJ (by simp only[*,go_sem,-h]) ?_
    first|refine aj hJ ?_|refine ah hJ ?_|refine af hJ (ah hJ ?_)|refine af hJ (af hJ (ah hJ ?_))
    simp only[*,go_sem,-h]
    have h':=Option.some.inj h;clear h;subst h'
    apply aA
    simp only[*,go_sem]
   .refine dO hJ (by simp only[*,go_sem,-h]) ?_
    apply aI hJ
    apply aj hJ
    simp only[*,go_sem,-h]
    refine ⟨5 - 1,by omega,_,Le.refl _,1,rfl,rfl,?_⟩
    have hw:IntKind.i64.wrap (0+1)=((1:Nat):Int):=by decide
    simp only[*,go_sem,-h]
    first|exact ⟨by omega,h⟩|exact h
  .replace h:ag (lg u0) (fun x=>cond (x != 0) (some x) (lu u0))=some r:=h
   have h':=fV h;clear h;obtain ⟨x,q,h⟩:=h'
   have l:((0+1:Nat):Int)=1:=rfl
   first|refine aj hJ ?_|refine ah hJ ?_|refine af hJ (ah hJ ?_)|refine af hJ (af hJ (ah hJ ?_))
   simp only[*,go_sem,-h]
   apply af hJ
   refine dW hJ (by simp only[*,go_sem,-h]) ?_
   apply aI hJ
   refine af hJ (aN hJ ?_)
   first|refine aj hJ ?_|refine ah hJ ?_|refine af hJ (ah hJ ?_)|refine af hJ (af hJ (ah hJ ?_))
   simp only[*,go_sem,-h]
   first|refine aj hJ ?_|refine ah hJ ?_|refine af hJ (ah hJ ?_)|refine af hJ (af hJ (ah hJ ?_))
   simp only[*,go_sem,-h]
   refine bn hJ _ (G5 u0 ⟨(d.mono aP),(e.mono aP),(g.mono aP),(k.mono aP)⟩ q) (aK ?_)
   simp only[*,go_sem,-h]
   first|refine aj hJ ?_|refine ah hJ ?_|refine af hJ (ah hJ ?_)|refine af hJ (af hJ (ah hJ ?_))
   simp only[*,go_sem,-h]
   have h':=jd h;clear h;rcases h' with ⟨b,h⟩|⟨b,h⟩
   .refine dW hJ (by simp only[*,go_sem,-h]) ?_
    first|refine aj hJ ?_|refine ah hJ ?_|refine af hJ (ah hJ ?_)|refine af hJ (af hJ (ah hJ ?_))
    simp only[*,go_sem,-h]
    have h':=Option.some.inj h;clear h;subst h'
    apply aA
    simp only[*,go_sem]
   .refine dO hJ (by simp only[*,go_sem,-h]) ?_
    apply aI hJ
    apply aj hJ
    simp only[*,go_sem,-h]
    refine ⟨5 - 2,by omega,_,Le.refl _,2,rfl,rfl,?_⟩
    have hw:IntKind.i64.wrap (1+1)=((2:Nat):Int):=by decide
    simp only[*,go_sem,-h]
    first|exact ⟨by omega,h⟩|exact h
  .replace h:ag (mG u0) (fun x=>cond (x != 0) (some x) (lq u0))=some r:=h
   have h':=fV h;clear h;obtain ⟨x,q,h⟩:=h'
   have l:((0+1+1:Nat):Int)=2:=rfl
   first|refine aj hJ ?_|refine ah hJ ?_|refine af hJ (ah hJ ?_)|refine af hJ (af hJ (ah hJ ?_))
   simp only[*,go_sem,-h]
   apply af hJ
   refine dW hJ (by simp only[*,go_sem,-h]) ?_
   apply aI hJ
   refine af hJ (aN hJ ?_)
   first|refine aj hJ ?_|refine ah hJ ?_|refine af hJ (ah hJ ?_)|refine af hJ (af hJ (ah hJ ?_))
   simp only[*,go_sem,-h]
   first|refine aj hJ ?_|refine ah hJ ?_|refine af hJ (ah hJ ?_)|refine af hJ (af hJ (ah hJ ?_))
   simp only[*,go_sem,-h]
   refine bn hJ _ (G4 u0 ⟨(d.mono aP),(e.mono aP),(g.mono aP),(k.mono aP)⟩ q) (aK ?_)
   simp only[*,go_sem,-h]
   first|refine aj hJ ?_|refine ah hJ ?_|refine af hJ (ah hJ ?_)|refine af hJ (af hJ (ah hJ ?_))
   simp only[*,go_sem,-h]
   have h':=jd h;clear h;rcases h' with ⟨b,h⟩|⟨b,h⟩
   .refine dW hJ (by simp only[*,go_sem,-h]) ?_
    first|refine aj hJ ?_|refine ah hJ ?_|refine af hJ (ah hJ ?_)|refine af hJ (af hJ (ah hJ ?_))
    simp only[*,go_sem,-h]
    have h':=Option.some.inj h;clear h;subst h'
    apply aA
    simp only[*,go_sem]
   .refine dO hJ (by simp only[*,go_sem,-h]) ?_
    apply aI hJ
    apply aj hJ
    simp only[*,go_sem,-h]
    refine ⟨5 - 3,by omega,_,Le.refl _,3,rfl,rfl,?_⟩
    have hw:IntKind.i64.wrap (2+1)=((3:Nat):Int):=by decide
    simp only[*,go_sem,-h]
    first|exact ⟨by omega,h⟩|exact h
  .replace h:ag (mF u0) (fun x=>cond (x != 0) (some x) (lp u0))=some r:=h
   have h':=fV h;clear h;obtain ⟨x,q,h⟩:=h'
   have l:((0+1+1+1:Nat):Int)=3:=rfl
   first|refine aj hJ ?_|refine ah hJ ?_|refine af hJ (ah hJ ?_)|refine af hJ (af hJ (ah hJ ?_))
   simp only[*,go_sem,-h]
   apply af hJ
   refine dW hJ (by simp only[*,go_sem,-h]) ?_
   apply aI hJ
   refine af hJ (aN hJ ?_)
   first|refine aj hJ ?_|refine ah hJ ?_|refine af hJ (ah hJ ?_)|refine af hJ (af hJ (ah hJ ?_))
   simp only[*,go_sem,-h]
   first|refine aj hJ ?_|refine ah hJ ?_|refine af hJ (ah hJ ?_)|refine af hJ (af hJ (ah hJ ?_))
   simp only[*,go_sem,-h]
   refine bn hJ _ (G3 u0 ⟨(d.mono aP),(e.mono aP),(g.mono aP),(k.mono aP)⟩ q) (aK ?_)
   simp only[*,go_sem,-h]
   first|refine aj hJ ?_|refine ah hJ ?_|refine af hJ (ah hJ ?_)|refine af hJ (af hJ (ah hJ ?_))
   simp only[*,go_sem,-h]
   have h':=jd h;clear h;rcases h' with ⟨b,h⟩|⟨b,h⟩
   .refine dW hJ (by simp only[*,go_sem,-h]) ?_
    first|refine aj hJ ?_|refine ah hJ ?_|refine af hJ (ah hJ ?_)|refine af hJ (af hJ (ah hJ ?_))
    simp only[*,go_sem,-h]
    have h':=Option.some.inj h;clear h;subst h'
    apply aA
    simp only[*,go_sem]
   .refine dO hJ (by simp only[*,go_sem,-h]) ?_
    apply aI hJ
    apply aj hJ
    simp only[*,go_sem,-h]
    refine ⟨5 - 4,by omega,_,Le.refl _,4,rfl,rfl,?_⟩
    have hw:IntKind.i64.wrap (3+1)=((4:Nat):Int):=by decide
    simp only[*,go_sem,-h]
    first|exact ⟨by omega,h⟩|exact h
  .replace h:ag (mE u0) (fun x=>cond (x != 0) (some x) (n8 u0))=some r:=h
   have h':=fV h;clear h;obtain ⟨x,q,h⟩:=h'
   have l:((0+1+1+1+1:Nat):Int)=4:=rfl
   first|refine aj hJ ?_|refine ah hJ ?_|refine af hJ (ah hJ ?_)|refine af hJ (af hJ (ah hJ ?_))
   simp only[*,go_sem,-h]
   apply af hJ
   refine dW hJ (by simp only[*,go_sem,-h]) ?_
   apply aI hJ
   refine af hJ (aN hJ ?_)
   first|refine aj hJ ?_|refine ah hJ ?_|refine af hJ (ah hJ ?_)|refine af hJ (af hJ (ah hJ ?_))
   simp only[*,go_sem,-h]
   first|refine aj hJ ?_|refine ah hJ ?_|refine af hJ (ah hJ ?_)|refine af hJ (af hJ (ah hJ ?_))
   simp only[*,go_sem,-h]
   refine bn hJ _ (G2 u0 ⟨(d.mono aP),(e.mono aP),(g.mono aP),(k.mono aP)⟩ q) (aK ?_)
   simp only[*,go_sem,-h]
   first|refine aj hJ ?_|refine ah hJ ?_|refine af hJ (ah hJ ?_)|refine af hJ (af hJ (ah hJ ?_))
   simp only[*,go_sem,-h]
   have h':=jd h;clear h;rcases h' with ⟨b,h⟩|⟨b,h⟩
   .refine dW hJ (by simp only[*,go_sem,-h]) ?_
    first|refine aj hJ ?_|refine ah hJ ?_|refine af hJ (ah hJ ?_)|refine af hJ (af hJ (ah hJ ?_))
    simp only[*,go_sem,-h]
    have h':=Option.some.inj h;clear h;subst h'
    apply aA
    simp only[*,go_sem]
   .refine dO hJ (by simp only[*,go_sem,-h]) ?_
    apply aI hJ
    apply aj hJ
    simp only[*,go_sem,-h]
    refine ⟨5 - 5,by omega,_,Le.refl _,5,rfl,rfl,?_⟩
    have hw:IntKind.i64.wrap (4+1)=((5:Nat):Int):=by decide
    simp only[*,go_sem,-h]
    first|exact ⟨by omega,h⟩|exact h
  .have:i=0:=by omega
   subst this
   replace h:some 0=some r:=h
   have l:((0+1+1+1+1+1:Nat):Int)=5:=rfl
   first|refine aj hJ ?_|refine ah hJ ?_|refine af hJ (ah hJ ?_)|refine af hJ (af hJ (ah hJ ?_))
   simp only[*,go_sem,-h]
   apply af hJ
   refine dO hJ (by simp only[*,go_sem,-h]) ?_
   apply bJ
   simp only[go_sem]
   first|refine aj hJ ?_|refine ah hJ ?_|refine af hJ (ah hJ ?_)|refine af hJ (af hJ (ah hJ ?_))
   simp only[*,go_sem,-h]
   have h':=Option.some.inj h;clear h;subst h'
   apply aA
   simp only[*,go_sem]
end Go.Proofs.YtghbphimkgamkaaGreatDoor
end
section
namespace Go.Sep
open Go Go.Conc
variable {P : Program} {main : Bool} {J : Goroutine → aa → Prop} {Q : Ex → Act → aa → Prop} {a : Act} {F : aa}
def Qn (E:Act->aa->Prop)(Q:Ex->Act->aa->Prop):Ex->Act->aa->Prop
 | .normal,a,F=>∃F0,Le F0 F/\E a F0
 | .exit i,a,F=>Q (.exit i) a F
 | .ret,a,F=>Q .ret a F
theorem G7 (E:Act->aa->Prop)(Q:Ex->Act->aa->Prop)(i:Nat)(a:Act)(F:aa):Qn E Q (.exit i) a F=Q (.exit i) a F:=Eq.trans rfl rfl
theorem G8 (E:Act->aa->Prop)(Q:Ex->Act->aa->Prop)(a:Act)(F:aa):Qn E Q .ret a F=Q .ret a F:=Eq.trans rfl rfl
attribute [go_sem] G7 G8
theorem Qn.intro {E:Act->aa->Prop}(h:∃F0,Le F0 F/\E a F0):Qn E Q .normal a F:=h
theorem gv (hJ:Closed P main J){x y:Code}(E:Act->aa->Prop)(c:Wp J x (Qn E Q) a F)(d:∀a F,E a F->Wp J y Q a F):Wp J (.seq x y) Q a F:=
 af hJ (c.mono fun e a F b=>by
  cases e with
  |normal=>obtain ⟨F0,hle,f⟩:=b;exact cr hJ hle (d a F0 f)
  |exit i=>exact b
  |ret=>exact b)
theorem aO.cP {ro:Addr->Option Value}{e:TypeId}{b n cap:Nat}{l:List Int}{arr:Array Value}(h:aO rI ro e (.slice (some ⟨b,0,none⟩) n cap) l [(b,.cells arr e)]){i x:Int}(q:aT l i=some x):
  0<=i/\i<((n:Nat):Int)/\arr[i.toNat]?=some (.int .i64 x)/\i.toNat<arr.size:=by
 obtain ⟨a,f,c⟩:=cq q
 have g:=h.count
 obtain ⟨cs,d,hm⟩:=h.je c
 obtain rfl:cs=[.int .i64 x]:=d
 have m:=hm 0 _ rfl
 have m:arr[i.toNat*1+0]?=some (.int .i64 x):=m
 rw[Nat.mul_one,Nat.add_zero] at m
 exact ⟨a,by omega,m,(Array.getElem?_eq_some_iff.1 m).1⟩
theorem aO.fZ {ro:Addr->Option Value}{e:TypeId}{b n cap:Nat}{l:List Int}{arr:Array Value}(h:aO rI ro e (.slice (some ⟨b,0,none⟩) n cap) l [(b,.cells arr e)]){i:Int}(a:0<=i)(c:i<((n:Nat):Int))(y:Int):
  aO rI ro e (.slice (some ⟨b,0,none⟩) n cap) (l.set i.toNat y) [(b,.cells (cJ arr i.toNat [.int .i64 y]) e)]:=by
 have d:=h.count
 have:=h.sG (i:=i.toNat) (y:=y) (by omega) (cs:=[.int .i64 y]) rfl
 rwa [show i.toNat*rI.n=i.toNat from Nat.mul_one _] at this
variable {P : Program} {main : Bool} {J : Goroutine → aa → Prop} {Q : Ex → Act → aa → Prop} {a : Act} {F : aa}
def n9:b7 Int:=gK 1 (fun n=>[.int .u8 n]) (fun _=>rfl) (fun _ v a=>by simp at a;subst a;rfl)
@[go_sem] theorem S7:n9.n=1:=rfl
end Go.Sep
end
section
namespace Go.Proofs.YtghbphimkgamkaaGreatDoor
open Go Go.Sep Go.Proofs
set_option maxRecDepth 100000
set_option maxHeartbeats 4000000
def oa (u0:ak)(b:aU)(i39:Nat)(a:bN)(st:(List bC)):Option (Fl (List bC) bC):=
 ag (gr a.high) fun c=>ag (kB u0 b (i39:Int) (⟨a.aH,c⟩:ie)) fun d=>ag (cL st ([d])) fun e=>some (.nx e)
def lA (u0:ak)(b:aU):Option bC:=
 ag (bD (oa u0 b) 0 u0.an ([]:List bC)) fun o=>ay o (fun a=>ag (aT a 0) fun c=>ag (j8 a 1 (a.length:Int)) fun d=>ag (mD ji c d) fun e=>some e) (fun _ _=>none) (fun r=>some r)
theorem sZ {ro:Addr->Option Value}(u0:ak){s1 f g i:Value}(u:bL ro u0 s1 f g i)(b:aU){r:bC}(h:lA u0 b=some r):aE Tryz.prog 69 #[bv u0 s1 f g i,.agg #[.int .i64 b.back,.int .i64 b.high]] ⟨ro,[]⟩ (fun v _=>v=r.v):=by
 obtain ⟨d3,c4,rfl,dT,W,-⟩:=id u.e;unfold lA at h;refine aE.go Tryz.func69 rfl Tryz.ntmps69 Tryz.results69 (by simp) fun main J hJ A X hd hs=>?_;have Y:=hs 0;have k1:=hs 1;clear hs;apply ah hJ;simp only[*,go_sem];refine aC fun o Z ab=>?_;try simp only[av] at ab
 refine aC fun p ad ae=>?_;try simp only[av] at ae
 refine aC fun q al ao=>?_;try simp only[av] at ao
 apply ah hJ;simp only[*,go_sem];refine af hJ (ah hJ ?_);simp only[*,go_sem];apply aN hJ;revert h;refine bS fun ar j a0=>?_;refine bQ hJ (rg 12 19 [5,6,7]) (fun m G F'=>∃(i39:Nat) (d33:Option Addr) (s:Nat) (w:List (Nat×Obj)) (c:(List bC)),m=u0.an.length - i39/\i39<=u0.an.length/\bD (oa u0 b) i39 (u0.an.drop i39) c=some ar/\F'=⟨ro,(q,.cells #[.int .i64 0,.int .i64 0,.int .i64 0,.int .i64 0,.int .i64 0,.int .i64 0] 122)::(p,.cells #[.int .i64 b.back,.int .i64 b.high] 118)::(o,bl u0 (sl d3 u0.an c4) f g i)::w⟩/\aO kz ro 122 (.slice d33 c.length s) c w/\c.length<=s/\slot G 12= .int .i64 (i39:Int)/\slot G 5= .slice d33 c.length s) u0.an.length ?_ ?_
 .refine ⟨0,none,0,[],([]:List bC),(Nat.sub_zero _).symm,Nat.zero_le _,j,rfl,aO.nil _ _ _,Nat.le_refl _,?_⟩;simp only[*,go_sem]
 rintro ea eb F' H ⟨i39,d33,s,w,c,rfl,ec,j,rfl,I,ed,eh,et⟩;obtain ⟨a2,a3,a4⟩:=H.pick [2,3,4,10,11] (by decide);simp only[*,go_sem] at a2 a3 a4;clear H X hd Y k1;apply ah hJ;simp only[*,go_sem];apply af hJ;rcases Nat.lt_or_ge i39 u0.an.length with a5|K
 .refine cn hJ ?_;apply aI hJ;obtain ⟨d,y⟩:∃x,u0.an[i39]?=some x:=⟨_,List.getElem?_eq_getElem a5⟩
  rw[dh y] at j;revert j;refine bS fun ev h a6=>?_;unfold oa at h;try dsimp only at h
  obtain ⟨z,a7,a8,a9,B⟩:=u.e.el _ _ y;obtain rfl:a7=d.cells:=a9;cases a8;have ba:=B 0 _ rfl;simp only[go_sem] at ba;have bb:=B 1 _ rfl;simp only[go_sem] at bb;clear B y;refine af hJ (aN hJ (af hJ ?_));refine ax hJ fun bc=>?_;apply aj hJ;simp only[*,go_sem];refine aC fun C eQ L=>?_;have eS:=aR.cons L bc;try simp only[av] at L
  refine ax hJ fun bd=>?_;refine fC hJ mixed 11 ⟨ro,[(C,.cells #[.int .i64 d.aH,.int .i64 d.high] 44),(q,.cells #[.int .i64 0,.int .i64 0,.int .i64 0,.int .i64 0,.int .i64 0,.int .i64 0] 122),(p,.cells #[.int .i64 b.back,.int .i64 b.high] 118),(o,bl u0 (sl (some z) u0.an c4) f g i)]⟩ (by simp only[*,go_sem]) (by kernel_rfl) ?_;revert h;refine bS fun bj bk h=>?_;simp only[*,go_sem];refine ⟨_,bE hJ fun F t=>jJ d.high bk,cc ?_⟩;revert h;refine bS fun a bm h=>?_;simp only[*,go_sem];refine ⟨_,bE hJ fun F t=>Bi u0 (u.mono (ck t)) b (i39:Int) (⟨d.aH,bj⟩:ie) bm,?_⟩;revert h;refine bS fun bo br h=>?_;cases h;obtain ⟨bs,M⟩:=c9 br;simp only[*,go_sem];refine aC fun N bz O=>?_;have b0:=aR.cons O bd;try simp only[av] at O
  simp only[*,go_sem];refine dB (r:=kz) (l:=c) (x:=a) (cs:=#[.int .i64 a.spot.aH,.int .i64 a.spot.high.num,.int .i64 a.spot.high.den,.int .i64 a.at_,.int .i64 a.high.num,.int .i64 a.high.den]) (e2:=122) [(N,.cells #[.int .i64 a.spot.aH,.int .i64 a.spot.high.num,.int .i64 a.spot.high.den,.int .i64 a.at_,.int .i64 a.high.num,.int .i64 a.high.den] 122),(C,.cells #[.int .i64 d.aH,.int .i64 d.high] 44),(q,.cells #[.int .i64 0,.int .i64 0,.int .i64 0,.int .i64 0,.int .i64 0,.int .i64 0] 122),(p,.cells #[.int .i64 b.back,.int .i64 b.high] 118),(o,bl u0 (sl (some z) u0.an c4) f g i)] [] I b0 bs rfl (by simp only[*,go_sem]) bz rfl rfl nP nP vU vW rfl vV (by decide) (by decide) (fun e0 P D b1 b2 e1=>?_);simp only[aV] at b2;subst b1;rw[<-M] at D;clear M;obtain ⟨d63,b3,rfl,b4⟩:=D.len;refine ⟨⟨ro,(N,.cells #[.int .i64 a.spot.aH,.int .i64 a.spot.high.num,.int .i64 a.spot.high.den,.int .i64 a.at_,.int .i64 a.high.num,.int .i64 a.high.den] 122)::(C,.cells #[.int .i64 d.aH,.int .i64 d.high] 44)::(q,.cells #[.int .i64 0,.int .i64 0,.int .i64 0,.int .i64 0,.int .i64 0,.int .i64 0] 122)::(p,.cells #[.int .i64 b.back,.int .i64 b.high] 118)::(o,bl u0 (sl (some z) u0.an c4) f g i)::P⟩,Le.refl _,?_⟩;refine ⟨by simp only[*,go_sem],k3 ?_⟩;simp only[*,go_sem];have e3:=cw (n:=i39) (by have:=W;omega);apply aj hJ;simp only[*,go_sem];refine ⟨u0.an.length - (i39+1),by omega,_,Le.sub (List.Sublist.cons _ (List.Sublist.cons _ (List.Sublist.refl _))),i39+1,d63,b3,P,bo,rfl,by omega,a6,rfl,D,b4,?_⟩;simp only[*,go_sem]
 have fa:=Nat.not_lt.2 K;refine bT hJ ?_;rw[List.drop_eq_nil_of_le K] at j;obtain rfl:=sI j;clear j;have h:=a0;dsimp only[ay] at h;apply bJ;simp only[go_sem];apply af hJ;refine ax hJ fun Q=>?_;obtain ⟨b5,fb,ca,E,cb⟩:=I.eH [(q,.cells #[.int .i64 0,.int .i64 0,.int .i64 0,.int .i64 0,.int .i64 0,.int .i64 0] 122),(p,.cells #[.int .i64 b.back,.int .i64 b.high] 118),(o,bl u0 (sl d3 u0.an c4) f g i)] [] Q (aF.cons al (aF.cons ad (aF.cons Z (aF.nil _))));clear Q;refine cr hJ cb ?_;obtain ⟨fg,fi,-⟩:=E.op;simp only[bt] at ca;refine fC hJ mixed 6 ⟨b5,[(p,.cells #[.int .i64 b.back,.int .i64 b.high] 118),(o,bl u0 (sl d3 u0.an c4) f g i)]⟩ (by simp only[*,go_sem]) (by kernel_rfl) ?_;revert h;refine bS fun R cd h=>?_;obtain ⟨fp,fr,S⟩:=cq cd;obtain ⟨fs,cf,cl,cy,k⟩:=E.el _ _ S;obtain rfl:cf=R.cells:=cy;cases cl;have cS:=k 0 _ rfl;simp only[go_sem] at cS;have c0:=k 1 _ rfl;simp only[go_sem] at c0;have da:=k 2 _ rfl;simp only[go_sem] at da;have db:=k 3 _ rfl;simp only[go_sem] at db;have dd:=k 4 _ rfl;simp only[go_sem] at dd;have df:=k 5 _ rfl;simp only[go_sem] at df;clear k S;revert h;refine bS fun dk dp h=>?_;obtain ⟨ft,fu,fv,T⟩:=p8 dp;have U:(1:Int).toNat<=((c.length:Int)).toNat:=by omega
 have dq:((c.length:Int)).toNat<=s:=by omega
 have fw:0<=((c.length:Int)):=by omega
 obtain ⟨d80,ds,dt,V⟩:=az.qb E (1:Int).toNat ((c.length:Int)).toNat U (by omega) T;simp only[go_sem] at ds dt U dq;obtain ⟨_,_,du,fx,fz,gg⟩:=id V;cases du;clear T;revert h;refine bS fun gl dv h=>?_;cases h;simp only[*,go_sem];refine ⟨_,bE hJ fun F t=>sQ (dR:=71) (ep:=#[]) (er:=#[]) ji ⟨by simp only[go_sem],fun gn gp dC dE _ h=>by simp only[go_sem];exact sM dC dE h⟩ R dk (V.mono (ck t)) dv,?_⟩;simp only[*,go_sem];apply aA;simp only[*,go_sem]
def s0 (u0:ak)(a:aU):Option au:=
 ag (gr u0.bP) fun b=>ag (lA u0 a) fun c=>ag (jL b c.high) fun d=>some d
theorem Bl {ro:Addr->Option Value}(u0:ak){s1 b c d:Value}(f:bL ro u0 s1 b c d)(a:aU){r:au}(h:s0 u0 a=some r):aE Tryz.prog 109 #[bv u0 s1 b c d,.agg #[.int .i64 a.back,.int .i64 a.high]] ⟨ro,[]⟩ (fun v _=>v=r.v):=by
 unfold s0 at h;refine aE.go Tryz.func109 rfl Tryz.ntmps109 Tryz.results109 (by simp) fun main J hJ A s hd hs=>?_;have t:=hs 0;have k1:=hs 1;clear hs;apply ah hJ;simp only[*,go_sem];refine aC fun g u i=>?_;try simp only[av] at i
 refine aC fun j w k=>?_;try simp only[av] at k
 refine aC fun x y l=>?_;try simp only[av] at l
 apply af hJ;refine fC hJ mixed 9 ⟨ro,[(j,.cells #[.int .i64 a.back,.int .i64 a.high] 118),(g,bl u0 s1 b c d)]⟩ (by simp only[*,go_sem]) (by kernel_rfl) ?_;revert h;refine bS fun m n h=>?_;simp only[*,go_sem];refine ⟨_,bE hJ fun F e=>jJ u0.bP n,cc ?_⟩;revert h;refine bS fun o p h=>?_;simp only[*,go_sem];refine ⟨_,bE hJ fun F e=>sZ u0 (f.mono (ck e)) a p,cc ?_⟩;revert h;refine bS fun z q h=>?_;cases h;simp only[*,go_sem];refine ⟨_,bE hJ fun F e=>qu m o.high q,?_⟩;simp only[*,go_sem];apply aA;simp only[*,go_sem]
def ob (u0:ak)(a:Int)(st:Int):Option (Fl Int au):=
 ag (aT u0.an st) fun b=>cond (decide (b.aH<a)) (some (.nx (IntKind.i64.wrap (st+1)))) (some (.bk st))
def jk (u0:ak)(b:Int):Option au:=
 ag (aQ (ob u0 b) fu 1) fun o=>ay o (fun c=>ag (aT u0.an (IntKind.i64.wrap (c - 1))) fun a=>ag (aT u0.an c) fun d=>ag (gr a.high) fun e=>ag (kA (IntKind.i64.wrap ((IntKind.i64.wrap (d.high - a.high))*(IntKind.i64.wrap (b - a.aH)))) (IntKind.i64.wrap (d.aH - a.aH))) fun f=>ag (jK e f) fun g=>some g) (fun _ _=>none) (fun r=>some r)
theorem Bm {ro:Addr->Option Value}(u0:ak){s1 b c d:Value}(g:bL ro u0 s1 b c d)(i:Int){r:au}(h:jk u0 i=some r):aE Tryz.prog 134 #[bv u0 s1 b c d,.int .i64 i] ⟨ro,[]⟩ (fun v _=>v=r.v):=by
 obtain ⟨d3,c4,rfl,bc,bd,-⟩:=id g.e;unfold jk at h;refine aE.go Tryz.func134 rfl Tryz.ntmps134 Tryz.results134 (by simp) fun main J hJ A E hd hs=>?_;have G:=hs 0;have k1:=hs 1;clear hs;apply ah hJ;simp only[*,go_sem];refine aC fun l bj H=>?_;try simp only[av] at H
 refine aC fun t bk I=>?_;try simp only[av] at I
 apply ah hJ;simp only[*,go_sem];refine af hJ (aN hJ ?_);revert h;refine bS fun K j L=>?_;refine bQ hJ (rg 8 11 [5]) (fun m M F'=>∃(k:Int),aQ (ob u0 i) m k=some K/\F'=⟨ro,(t,rt 0 0)::(l,bl u0 (sl d3 u0.an c4) b c d)::[]⟩/\slot M 5= .int .i64 k) fu ?_ ?_
 .refine ⟨1,j,rfl,?_⟩;simp only[*,go_sem]
 rintro n bm F' u ⟨k,j,rfl,bo⟩;obtain ⟨N,O,P⟩:=u.pick [1,2,4] (by decide);simp only[*,go_sem] at N O P;clear u E hd G k1;obtain _|n:=n
 .exact absurd j (by simp only[aQ,reduceCtorEq,not_false_eq_true])
 revert j;refine bS fun br h o=>?_;unfold ob at h;try dsimp only at h
 refine af hJ (ah hJ ?_);revert h;refine bS fun Q R h=>?_;obtain ⟨bs,bz,w⟩:=cq R;obtain ⟨x,S,T,U,p⟩:=g.e.el _ _ w;obtain rfl:S=Q.cells:=U;cases T;have y:=p 0 _ rfl;simp only[go_sem] at y;have z:=p 1 _ rfl;simp only[go_sem] at z;clear p w;simp only[*,go_sem];revert h;refine aS hJ (fun V h=>?_) fun V h=>?_
 .cases h;refine aI hJ (aN hJ ?_);apply aj hJ;simp only[*,go_sem];refine ⟨n,Nat.lt_succ_self _,_,Le.sub (List.Sublist.refl _),(IntKind.i64.wrap (k+1)),o,rfl,?_⟩;simp only[*,go_sem]
 cases h;apply bJ;simp only[go_sem];obtain rfl:=sI o;clear o;have h:=L;dsimp only[ay] at h;clear y z;apply af hJ;refine AL hJ mixed 13 ⟨ro,[(t,rt 0 0),(l,bl u0 (sl (some x) u0.an c4) b c d)]⟩ (by simp only[*,go_sem]) (by kernel_rfl) 44 rfl AB ?_;revert h;refine bS fun a W h=>?_;obtain ⟨b0,b1,B⟩:=cq W;obtain ⟨b2,X,Y,Z,q⟩:=g.e.el _ _ B;obtain rfl:X=a.cells:=Z;cases Y;have ab:=q 0 _ rfl;simp only[go_sem] at ab;have ad:=q 1 _ rfl;simp only[go_sem] at ad;clear q B;revert h;refine bS fun f ae h=>?_;obtain ⟨b3,b4,C⟩:=cq ae;obtain ⟨b5,al,ao,ar,s⟩:=g.e.el _ _ C;obtain rfl:al=f.cells:=ar;cases ao;have a0:=s 0 _ rfl;simp only[go_sem] at a0;have a2:=s 1 _ rfl;simp only[go_sem] at a2;clear s C;simp only[*,go_sem];refine aC fun a3 ca a4=>?_;try simp only[av] at a4
 simp only[*,go_sem];refine aC fun a5 cb a6=>?_;try simp only[av] at a6
 simp only[*,go_sem];apply af hJ;refine fC hJ mixed 20 ⟨ro,[(a5,.cells #[.int .i64 f.aH,.int .i64 f.high] 44),(a3,.cells #[.int .i64 a.aH,.int .i64 a.high] 44),(l,bl u0 (sl (some x) u0.an c4) b c d)]⟩ (by simp only[*,go_sem]) (by kernel_rfl) ?_;revert h;refine bS fun a7 a8 h=>?_;simp only[*,go_sem];refine ⟨_,bE hJ fun F D=>jJ a.high a8,cc ?_⟩;revert h;refine bS fun a9 ba h=>?_;simp only[*,go_sem];refine ⟨_,bE hJ fun F D=>qs (IntKind.i64.wrap ((IntKind.i64.wrap (f.high - a.high))*(IntKind.i64.wrap (i - a.aH)))) (IntKind.i64.wrap (f.aH - a.aH)) ba,cc ?_⟩;revert h;refine bS fun cd bb h=>?_;cases h;simp only[*,go_sem];refine ⟨_,bE hJ fun F D=>qt a7 a9 bb,?_⟩;simp only[*,go_sem];apply aA;simp only[*,go_sem]
def qx (c:bO)(b:au)(i59:Nat)(a:bC)(st:Unit):Option (Fl Unit (List bC)):=
 cond (((a.spot.aH==c.place)&&((a.spot.high.num==b.num)&&(a.spot.high.den==b.den)))) (some (.br 1 ())) (some (.nx ()))
def qy (u0:ak)(c:aU)(i38:Nat)(a:bO)(st:(List bC)):Option (Fl (List bC) (List bC)):=
 ag (jk u0 a.place) fun d=>ag (gr a.dr) fun e=>ag (jK d e) fun b=>ag (bD (qx a b) 0 st ()) fun o=>ay o (fun h=>ag (kB u0 c (i38:Int) (⟨a.place,b⟩:ie)) fun f=>ag (cL st ([f])) fun g=>some (.nx g)) (fun _ i=>some (.nx st)) (fun r=>some (.rt r))
def jM (u0:ak)(a:aU):Option (List bC):=
 ag (bD (qy u0 a) 0 u0.props ([]:List bC)) fun o=>ay o (fun b=>some b) (fun _ _=>none) (fun r=>some r)
theorem wC {ro:Addr->Option Value}(u0:ak){s1 O f g:Value}(w:bL ro u0 s1 O f g)(b:aU){r:(List bC)}(h:jM u0 b=some r):eM Tryz.prog 106 #[bv u0 s1 O f g,.agg #[.int .i64 b.back,.int .i64 b.high]] ro (fun v aM=>∃P,v=P/\az kz aM P r):=by
 obtain ⟨d10,o,rfl,fi,Q,-⟩:=id w.p;unfold jM at h;refine aE.go Tryz.func106 rfl Tryz.ntmps106 Tryz.results106 (by simp) fun main J hJ A ba hd hs=>?_;have bb:=hs 0;have k1:=hs 1;clear hs;apply ah hJ;simp only[*,go_sem];refine aC fun q bc bj=>?_;try simp only[av] at bj
 refine aC fun s bk bm=>?_;try simp only[av] at bm
 refine EN hJ (af hJ ?_);apply aj hJ;simp only[*,go_sem];apply af hJ;refine EM hJ ?_;refine af hJ (ah hJ ?_);simp only[*,go_sem];apply aN hJ;revert h;refine bS fun bo i br=>?_;refine bQ hJ (rg 15 36 [5,6,7,8,10]) (fun m y F'=>∃(i38:Nat) (d32:Option Addr) (t:Nat) (z:List (Nat×Obj)) (c:(List bC)),m=u0.props.length - i38/\i38<=u0.props.length/\bD (qy u0 b) i38 (u0.props.drop i38) c=some bo/\F'=⟨ro,(s,.cells #[.int .i64 b.back,.int .i64 b.high] 118)::(q,bl u0 s1 (sl d10 u0.props o) f g)::z⟩/\aO kz ro 122 (.slice d32 c.length t) c z/\c.length<=t/\slot y 15= .int .i64 (i38:Int)/\slot y 5= .slice d32 c.length t) u0.props.length ?_ ?_
 .refine ⟨0,none,0,[],([]:List bC),(Nat.sub_zero _).symm,Nat.zero_le _,i,rfl,aO.nil _ _ _,Nat.le_refl _,?_⟩;simp only[*,go_sem]
 rintro fp bs F' R ⟨i38,d32,t,z,c,rfl,fr,i,rfl,u,bz,b0,b1⟩;obtain ⟨S,T,U⟩:=R.pick [2,3,4,13,14] (by decide);simp only[*,go_sem] at S T U;clear R ba hd bb k1;apply ah hJ;simp only[*,go_sem];apply af hJ;rcases Nat.lt_or_ge i38 u0.props.length with b2|V
 .refine cn hJ ?_;apply aI hJ;obtain ⟨d,B⟩:∃x,u0.props[i38]?=some x:=⟨_,List.getElem?_eq_getElem b2⟩
  rw[dh B] at i;revert i;refine bS fun fs h W=>?_;unfold qy at h;try dsimp only at h
  obtain ⟨C,b3,b4,b5,D⟩:=w.p.el _ _ B;obtain rfl:b3=d.cells:=b5;cases b4;have ca:=D 0 _ rfl;simp only[go_sem] at ca;have cb:=D 1 _ rfl;simp only[go_sem] at cb;clear D B;refine af hJ (aN hJ (af hJ ?_));refine ax hJ fun cd=>?_;apply aj hJ;simp only[*,go_sem];refine aC fun E ft X=>?_;have fu:=aR.cons X cd;try simp only[av] at X
  apply af hJ;refine ax hJ fun cf=>?_;refine cE hJ mixed 11 3 (by simp only[*,go_sem]) (by kernel_rfl) ?_;revert h;refine bS fun cl cy h=>?_;simp only[*,go_sem];refine ⟨_,bE hJ fun F G=>Bm u0 (w.mono (ck G)) d.place cy,cc ?_⟩;revert h;refine bS fun cS c0 h=>?_;simp only[*,go_sem];refine ⟨_,bE hJ fun F G=>jJ d.dr c0,cc ?_⟩;revert h;refine bS fun e da h=>?_;simp only[*,go_sem];refine ⟨_,bE hJ fun F G=>qt cl cS da,cc ?_⟩;simp only[*,go_sem];refine aC fun H fv Y=>?_;have fw:=aR.cons Y cf;try simp only[av] at Y
  simp only[*,go_sem];refine af hJ (af hJ ?_);refine ax hJ fun fx=>?_;apply aj hJ;simp only[*,go_sem];apply aN hJ;revert h;refine bS fun db j Z=>?_;refine bQ hJ (rg 33 9 [10]) (fun m y F'=>∃(i59:Nat),m=c.length - i59/\i59<=c.length/\bD (qx d e) i59 (c.drop i59) ()=some db/\F'=⟨ro,(H,.cells #[.int .i64 d.place,.int .i64 e.num,.int .i64 e.den] 120)::(E,.cells #[.int .i64 d.place,.int .i64 d.dr] 70)::(s,.cells #[.int .i64 b.back,.int .i64 b.high] 118)::(q,bl u0 s1 (sl (some C) u0.props o) f g)::z⟩/\slot y 33= .int .i64 (i59:Int)) c.length ?_ ?_
  .refine ⟨0,(Nat.sub_zero _).symm,Nat.zero_le _,j,rfl,?_⟩;simp only[*,go_sem]
  rintro fz dd F' I ⟨i59,rfl,gg,j,rfl,gl⟩;obtain ⟨df,dk,dp⟩:=I.pick [2,3,4,5,6,7,8,13,14,15,16,17,19,20,21,22,23,24,25,26,27,28,29,30,31,32] (by decide);simp only[*,go_sem] at df dk dp;have gn:cF (rg 15 36 [5,6,7,8,10]) dd bs:=(I.fM (by decide)).trans (by simp only[*,go_sem]);clear I S T U b1 b0;apply ah hJ;simp only[*,go_sem];apply af hJ;rcases Nat.lt_or_ge i59 c.length with dq|ab
  .refine cn hJ ?_;apply aI hJ;obtain ⟨ds,K⟩:∃x,c[i59]?=some x:=⟨_,List.getElem?_eq_getElem dq⟩
   rw[dh K] at j;revert j;refine bS fun gp h L=>?_;unfold qx at h;(try dsimp only at h);refine ax hJ fun M=>?_;obtain ⟨ad,dt,gB,du,dv,rfl,gC,dC,k⟩:=u.elem K;obtain rfl:du=ds.cells:=dC;cases dv;replace M:=M.nd;simp only[keys,List.map_cons,List.map_nil,List.map_append,List.cons_append,List.nil_append,List.nodup_cons,List.mem_cons,List.mem_append,List.not_mem_nil,or_false,not_or] at M;have ae:=k 0 _ rfl;simp only[go_sem] at ae;have al:=k 1 _ rfl;simp only[go_sem] at al;have ao:=k 2 _ rfl;simp only[go_sem] at ao;have ar:=k 3 _ rfl;simp only[go_sem] at ar;have a0:=k 4 _ rfl;simp only[go_sem] at a0;have a2:=k 5 _ rfl;simp only[go_sem] at a2;clear k K;refine af hJ (aN hJ (af hJ ?_));refine ax hJ fun dE=>?_;apply aj hJ;simp only[*,go_sem];refine aC fun gM gN a3=>?_;have gT:=aR.cons a3 dE;try simp only[av] at a3
   apply af hJ;refine ax hJ fun gV=>?_;apply aj hJ;simp only[*,go_sem];revert h;refine aS hJ (fun dT h=>?_) fun dT h=>?_
   .cases h;apply bJ;simp only[go_sem];obtain rfl:=sI L;clear L;have h:=Z;dsimp only[ay] at h;cases h;clear ae al ao ar a0 a2;have ea:=cw (n:=i38) (by have:=Q;omega);apply aj hJ;simp only[*,go_sem];refine ⟨u0.props.length - (i38+1),by omega,_,Le.sub (List.Sublist.cons _ (List.Sublist.cons _ (List.Sublist.cons _ (List.Sublist.refl _)))),i38+1,(some ⟨ad,0,none⟩),t,[(ad,Obj.cells dt 122)],c,rfl,by omega,W,rfl,u,bz,?_⟩;simp only[*,go_sem]
   cases h;apply aI hJ;have g0:=cw (n:=i59) (by have:=u.bd;omega);apply aj hJ;simp only[*,go_sem];refine ⟨c.length - (i59+1),by omega,_,Le.sub (List.Sublist.cons _ (List.Sublist.refl _)),i59+1,rfl,by omega,L,rfl,?_⟩;simp only[*,go_sem]
  have g1:=Nat.not_lt.2 ab;refine bT hJ ?_;rw[List.drop_eq_nil_of_le ab] at j;obtain rfl:=sI j;clear j;have h:=Z;dsimp only[ay] at h;apply bJ;simp only[go_sem];refine ax hJ fun eb=>?_;apply aj hJ;revert h;refine bS fun a ec h=>?_;simp only[*,go_sem];refine bn hJ _ (Bi u0 (w.mono aP) b (i38:Int) (⟨d.place,e⟩:ie) ec) (aK ?_);revert h;refine bS fun ed eh h=>?_;cases h;obtain ⟨et,a4⟩:=c9 eh;simp only[*,go_sem];refine aC fun a5 ev a6=>?_;have eQ:=aR.cons a6 eb;try simp only[av] at a6
  refine dB (r:=kz) (l:=c) (x:=a) (cs:=#[.int .i64 a.spot.aH,.int .i64 a.spot.high.num,.int .i64 a.spot.high.den,.int .i64 a.at_,.int .i64 a.high.num,.int .i64 a.high.den]) (e2:=122) [(a5,.cells #[.int .i64 a.spot.aH,.int .i64 a.spot.high.num,.int .i64 a.spot.high.den,.int .i64 a.at_,.int .i64 a.high.num,.int .i64 a.high.den] 122),(H,.cells #[.int .i64 d.place,.int .i64 e.num,.int .i64 e.den] 120),(E,.cells #[.int .i64 d.place,.int .i64 d.dr] 70),(s,.cells #[.int .i64 b.back,.int .i64 b.high] 118),(q,bl u0 s1 (sl (some C) u0.props o) f g)] [] u eQ et rfl (by simp only[*,go_sem]) ev rfl rfl nP nP vU vW rfl vV (by decide) (by decide) (fun g2 a7 N eS e0 g3=>?_);simp only[aV] at e0;subst eS;rw[<-a4] at N;clear a4;obtain ⟨d83,e1,rfl,e3⟩:=N.len;refine ⟨⟨ro,(a5,.cells #[.int .i64 a.spot.aH,.int .i64 a.spot.high.num,.int .i64 a.spot.high.den,.int .i64 a.at_,.int .i64 a.high.num,.int .i64 a.high.den] 122)::(H,.cells #[.int .i64 d.place,.int .i64 e.num,.int .i64 e.den] 120)::(E,.cells #[.int .i64 d.place,.int .i64 d.dr] 70)::(s,.cells #[.int .i64 b.back,.int .i64 b.high] 118)::(q,bl u0 s1 (sl (some C) u0.props o) f g)::a7⟩,Le.refl _,?_⟩;apply aK;simp only[*,go_sem];have ea:=cw (n:=i38) (by have:=Q;omega);apply aj hJ;simp only[*,go_sem];refine ⟨u0.props.length - (i38+1),by omega,_,Le.sub (List.Sublist.cons _ (List.Sublist.cons _ (List.Sublist.cons _ (List.Sublist.refl _)))),i38+1,d83,e1,a7,ed,rfl,by omega,W,rfl,N,e3,?_⟩;simp only[*,go_sem]
 have g4:=Nat.not_lt.2 V;refine bT hJ ?_;rw[List.drop_eq_nil_of_le V] at i;obtain rfl:=sI i;clear i;have h:=br;dsimp only[ay] at h;cases h;apply bJ;simp only[go_sem];apply af hJ;refine ax hJ fun ha=>?_;apply aj hJ;simp only[*,go_sem];refine ax hJ fun a8=>?_;obtain ⟨hc,fa,fb,a9,fg⟩:=u.eH [(s,.cells #[.int .i64 b.back,.int .i64 b.high] 118),(q,bl u0 s1 (sl d10 u0.props o) f g)] [] a8 (aF.cons bk (aF.cons bc (aF.nil _)));clear a8;refine cr hJ fg ?_;obtain ⟨hf,hg,-⟩:=a9.op;simp only[bt] at fb;apply aA;simp only[*,go_sem];exact ⟨_,fa,Le.sub (List.nil_sublist _),_,rfl,a9⟩
def mH (i54:Nat)(a:bC)(st:au):Option (Fl au au):=
 ag (iJ eN st ([a.high])) fun b=>some (.nx b)
def mI (i100:Nat)(a:bC)(st:au):Option (Fl au au):=
 ag (iJ eN st ([a.high])) fun b=>some (.nx b)
def kC (u0:ak)(a:aU):Option au:=
 ag (gr u0.bP) fun b=>ag (lA u0 a) fun c=>ag (eN c.high b) fun d=>cond (d) (ag (jM u0 a) fun e=>ag (bD (mH) 0 e c.high) fun o=>ay o (fun f=>ag (jL b f) fun g=>ag (gr 0) fun h=>ag (iJ eN g ([h])) fun i=>some i) (fun _ _=>none) (fun r=>some r)) (ag (jM u0 a) fun j=>ag (bD (mI) 0 j b) fun o=>ay o (fun k=>ag (jL c.high k) fun l=>ag (gr 0) fun m=>ag (iJ eN l ([m])) fun n=>some n) (fun _ _=>none) (fun r=>some r))
theorem s3 {ro:Addr->Option Value}(u0:ak){s1 p q s:Value}(t:bL ro u0 s1 p q s)(a:aU){r:au}(h:kC u0 a=some r):aE Tryz.prog 113 #[bv u0 s1 p q s,.agg #[.int .i64 a.back,.int .i64 a.high]] ⟨ro,[]⟩ (fun v _=>v=r.v):=by
 unfold kC at h;refine aE.go Tryz.func113 rfl Tryz.ntmps113 Tryz.results113 (by simp) fun main J hJ A O hd hs=>?_;have P:=hs 0;have k1:=hs 1;clear hs;apply ah hJ;simp only[*,go_sem];refine aC fun D fu al=>?_;try simp only[av] at al
 refine aC fun E fv ao=>?_;try simp only[av] at ao
 refine aC fun G fw ar=>?_;try simp only[av] at ar
 apply af hJ;refine AL hJ mixed 8 ⟨ro,[(G,rt 0 0),(E,.cells #[.int .i64 a.back,.int .i64 a.high] 118),(D,bl u0 s1 p q s)]⟩ (by simp only[*,go_sem]) (by kernel_rfl) 23 rfl Ay ?_;revert h;refine bS fun u a0 h=>?_;simp only[*,go_sem];refine ⟨_,bE hJ fun F Q=>jJ u0.bP a0,cc ?_⟩;revert h;refine bS fun w a2 h=>?_;simp only[*,go_sem];refine ⟨_,bE hJ fun F Q=>sZ u0 (t.mono (ck Q)) a a2,cc ?_⟩;simp only[*,go_sem];refine aC fun R fx a3=>?_;try simp only[av] at a3
 simp only[*,go_sem];refine aC fun S fz a4=>?_;try simp only[av] at a4
 simp only[*,go_sem];refine af hJ (ah hJ ?_);revert h;refine bS fun gg a5 h=>?_;simp only[*,go_sem];refine bn hJ _ (jh w.high u a5) ?_;revert h;refine aS hJ (fun a6 h=>?_) fun a6 h=>?_
 .apply aj hJ;simp only[*,go_sem];refine af hJ (ah hJ ?_);revert h;refine bS fun b a7 h=>?_;simp only[*,go_sem];refine b8 hJ _ (wC u0 t a a7) fun v a8 a9 ba H=>?_;obtain ⟨gl,rfl,T⟩:=H;replace t:=t.mono a9;simp only[bt] at ba;obtain ⟨d48,gn,rfl,gp,bb,-⟩:=id T;apply aK;simp only[*,go_sem];apply aN hJ;revert h;refine bS fun bc c bd=>?_;refine bQ hJ (rg 26 10 [8]) (fun m I F'=>∃(i54:Nat) (l:au),m=b.length - i54/\i54<=b.length/\bD (mH) i54 (b.drop i54) l=some bc/\F'=⟨a8,(S,rt u.num u.den)::(R,rt l.num l.den)::(G,rt 0 0)::(E,.cells #[.int .i64 a.back,.int .i64 a.high] 118)::(D,bl u0 s1 p q s)::[]⟩/\slot I 26= .int .i64 (i54:Int)) b.length ?_ ?_
  .refine ⟨0,w.high,(Nat.sub_zero _).symm,Nat.zero_le _,c,rfl,?_⟩;simp only[*,go_sem]
  rintro gB gC F' U ⟨i54,l,rfl,gM,c,rfl,gN⟩;obtain ⟨bj,bk,bm⟩:=U.pick [4,5,6,24,25] (by decide);simp only[*,go_sem] at bj bk bm;clear U O hd P k1;apply ah hJ;simp only[*,go_sem];apply af hJ;rcases Nat.lt_or_ge i54 b.length with bo|V
  .refine cn hJ ?_;apply aI hJ;obtain ⟨y,K⟩:∃x,b[i54]?=some x:=⟨_,List.getElem?_eq_getElem bo⟩
   rw[dh K] at c;revert c;refine bS fun gT h br=>?_;unfold mH at h;(try dsimp only at h);obtain ⟨gV,bs,bz,b0,d⟩:=T.el _ _ K;obtain rfl:bs=y.cells:=b0;cases bz;have b1:=d 0 _ rfl;simp only[go_sem] at b1;have b2:=d 1 _ rfl;simp only[go_sem] at b2;have b3:=d 2 _ rfl;simp only[go_sem] at b3;have b4:=d 3 _ rfl;simp only[go_sem] at b4;have b5:=d 4 _ rfl;simp only[go_sem] at b5;have ca:=d 5 _ rfl;simp only[go_sem] at ca;clear d K;refine af hJ (aN hJ (af hJ ?_));apply aj hJ;simp only[*,go_sem];refine aC fun g0 g1 cb=>?_;try simp only[av] at cb
   refine ax hJ fun cd=>?_;apply aj hJ;revert h;refine bS fun cf cl h=>?_;cases h;simp only[*,go_sem];refine aC fun g2 cy W=>?_;have g3:=aR.cons W cd;try simp only[av] at W
   refine bn hJ _ (n6 (dR:=75) (ep:=#[]) (er:=#[]) eN ⟨by simp only[go_sem],fun L M f g _ h=>by simp only[go_sem];exact jh f g h⟩ l ([y.high]) ((az.flat (r:=lf) (e:=23) (cs:=#[.int .i64 y.high.num,.int .i64 y.high.den]) au.cells ([y.high]) (fun _=>rfl) cy rfl (by simp)).mono (kg (by simp only[*,go_sem]))) cl) (aK ?_);simp only[*,go_sem];have g4:=cw (n:=i54) (by have:=bb;omega);apply aj hJ;simp only[*,go_sem];refine ⟨b.length - (i54+1),by omega,_,Le.sub (List.Sublist.cons _ (List.Sublist.cons _ (List.Sublist.refl _))),i54+1,cf,rfl,by omega,br,rfl,?_⟩;simp only[*,go_sem]
  have ha:=Nat.not_lt.2 V;refine bT hJ ?_;rw[List.drop_eq_nil_of_le V] at c;obtain rfl:=sI c;clear c;have h:=bd;dsimp only[ay] at h;apply bJ;simp only[go_sem];apply af hJ;refine ax hJ fun cS=>?_;apply aj hJ;revert h;refine bS fun c0 da h=>?_;simp only[*,go_sem];refine bn hJ _ (qu u l da) (aK ?_);revert h;refine bS fun B db h=>?_;simp only[*,go_sem];refine bn hJ _ (jJ 0 db) (aK ?_);revert h;refine bS fun hc dd h=>?_;cases h;simp only[*,go_sem];refine aC fun hf df X=>?_;have hg:=aR.cons X cS;try simp only[av] at X
  refine bn hJ _ (n6 (dR:=75) (ep:=#[]) (er:=#[]) eN ⟨by simp only[go_sem],fun L M f g _ h=>by simp only[go_sem];exact jh f g h⟩ c0 ([B]) ((az.flat (r:=lf) (e:=23) (cs:=#[.int .i64 B.num,.int .i64 B.den]) au.cells ([B]) (fun _=>rfl) df rfl (by simp)).mono (kg (by simp only[*,go_sem]))) dd) (aK ?_);simp only[*,go_sem];apply aA;simp only[*,go_sem]
 refine aI hJ (af hJ ?_);apply ah hJ;revert h;refine bS fun i dk h=>?_;simp only[*,go_sem];refine b8 hJ _ (wC u0 t a dk) fun v dp hh dq H=>?_;obtain ⟨hi,rfl,Y⟩:=H;simp only[bt] at dq;obtain ⟨d94,hj,rfl,hk,ds,-⟩:=id Y;apply aK;simp only[*,go_sem];apply aN hJ;revert h;refine bS fun dt j du=>?_;refine bQ hJ (rg 26 10 [8]) (fun m I F'=>∃(i100:Nat) (o:au),m=i.length - i100/\i100<=i.length/\bD (mI) i100 (i.drop i100) o=some dt/\F'=⟨dp,(S,rt w.high.num w.high.den)::(R,rt o.num o.den)::(G,rt 0 0)::(E,.cells #[.int .i64 a.back,.int .i64 a.high] 118)::(D,bl u0 s1 p q s)::[]⟩/\slot I 26= .int .i64 (i100:Int)) i.length ?_ ?_
 .refine ⟨0,u,(Nat.sub_zero _).symm,Nat.zero_le _,j,rfl,?_⟩;simp only[*,go_sem]
 rintro hl hn F' Z ⟨i100,o,rfl,ho,j,rfl,hp⟩;obtain ⟨dv,dC,dE⟩:=Z.pick [4,5,6,24,25] (by decide);simp only[*,go_sem] at dv dC dE;clear Z O hd P k1;apply ah hJ;simp only[*,go_sem];apply af hJ;rcases Nat.lt_or_ge i100 i.length with dT|ab
 .refine cn hJ ?_;apply aI hJ;obtain ⟨z,N⟩:∃x,i[i100]?=some x:=⟨_,List.getElem?_eq_getElem dT⟩
  rw[dh N] at j;revert j;refine bS fun hq h ea=>?_;unfold mI at h;try dsimp only at h
  obtain ⟨hr,eb,ec,ed,k⟩:=Y.el _ _ N;obtain rfl:eb=z.cells:=ed;cases ec;have eh:=k 0 _ rfl;simp only[go_sem] at eh;have et:=k 1 _ rfl;simp only[go_sem] at et;have ev:=k 2 _ rfl;simp only[go_sem] at ev;have eQ:=k 3 _ rfl;simp only[go_sem] at eQ;have eS:=k 4 _ rfl;simp only[go_sem] at eS;have e0:=k 5 _ rfl;simp only[go_sem] at e0;clear k N;refine af hJ (aN hJ (af hJ ?_));apply aj hJ;simp only[*,go_sem];refine aC fun ht hv e1=>?_;try simp only[av] at e1
  refine ax hJ fun e2=>?_;apply aj hJ;revert h;refine bS fun e3 fa h=>?_;cases h;simp only[*,go_sem];refine aC fun hx fb ad=>?_;have hy:=aR.cons ad e2;try simp only[av] at ad
  refine bn hJ _ (n6 (dR:=75) (ep:=#[]) (er:=#[]) eN ⟨by simp only[go_sem],fun L M f g _ h=>by simp only[go_sem];exact jh f g h⟩ o ([z.high]) ((az.flat (r:=lf) (e:=23) (cs:=#[.int .i64 z.high.num,.int .i64 z.high.den]) au.cells ([z.high]) (fun _=>rfl) fb rfl (by simp)).mono (kg (by simp only[*,go_sem]))) fa) (aK ?_);simp only[*,go_sem];have hz:=cw (n:=i100) (by have:=ds;omega);apply aj hJ;simp only[*,go_sem];refine ⟨i.length - (i100+1),by omega,_,Le.sub (List.Sublist.cons _ (List.Sublist.cons _ (List.Sublist.refl _))),i100+1,e3,rfl,by omega,ea,rfl,?_⟩;simp only[*,go_sem]
 have hA:=Nat.not_lt.2 ab;refine bT hJ ?_;rw[List.drop_eq_nil_of_le ab] at j;obtain rfl:=sI j;clear j;have h:=du;dsimp only[ay] at h;apply bJ;simp only[go_sem];apply af hJ;refine ax hJ fun fg=>?_;apply aj hJ;revert h;refine bS fun fi fp h=>?_;simp only[*,go_sem];refine bn hJ _ (qu w.high o fp) (aK ?_);revert h;refine bS fun C fr h=>?_;simp only[*,go_sem];refine bn hJ _ (jJ 0 fr) (aK ?_);revert h;refine bS fun hB fs h=>?_;cases h;simp only[*,go_sem];refine aC fun hD ft ae=>?_;have hE:=aR.cons ae fg;try simp only[av] at ae
 refine bn hJ _ (n6 (dR:=75) (ep:=#[]) (er:=#[]) eN ⟨by simp only[go_sem],fun L M f g _ h=>by simp only[go_sem];exact jh f g h⟩ fi ([C]) ((az.flat (r:=lf) (e:=23) (cs:=#[.int .i64 C.num,.int .i64 C.den]) au.cells ([C]) (fun _=>rfl) ft rfl (by simp)).mono (kg (by simp only[*,go_sem]))) fs) (aK ?_);simp only[*,go_sem];apply aA;simp only[*,go_sem]
def ga (u0:ak)(a:aU):Option Bool:=
 ag (kC u0 a) fun b=>ag (eN u0.bf b) fun c=>some c
theorem mJ {ro:Addr->Option Value}(u0:ak){s1 b c d:Value}(f:bL ro u0 s1 b c d)(a:aU){r:Bool}(h:ga u0 a=some r):aE Tryz.prog 92 #[bv u0 s1 b c d,.agg #[.int .i64 a.back,.int .i64 a.high]] ⟨ro,[]⟩ (fun v _=>v= .bool r):=by
 unfold ga at h;refine aE.go Tryz.func92 rfl Tryz.ntmps92 Tryz.results92 (by simp) fun main J hJ A m hd hs=>?_;have n:=hs 0;have k1:=hs 1;clear hs;apply ah hJ;simp only[*,go_sem];refine aC fun o p g=>?_;try simp only[av] at g
 refine aC fun q s i=>?_;try simp only[av] at i
 apply af hJ;refine cE hJ mixed 8 2 (by simp only[*,go_sem]) (by kernel_rfl) ?_;revert h;refine bS fun j k h=>?_;simp only[*,go_sem];refine ⟨_,bE hJ fun F e=>s3 u0 (f.mono (ck e)) a k,cc ?_⟩;revert h;refine bS fun t l h=>?_;cases h;simp only[*,go_sem];refine ⟨_,bE hJ fun F e=>jh u0.bf j l,cc ?_⟩;simp only[*,go_sem];apply aA;simp only[*,go_sem]
end Go.Proofs.YtghbphimkgamkaaGreatDoor
end

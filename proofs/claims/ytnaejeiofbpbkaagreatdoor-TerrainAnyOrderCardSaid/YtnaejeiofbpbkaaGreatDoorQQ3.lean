/- A part of the proof: QQ3. -/
import Derived.Test.YtnaejeiofbpbkaaGreatDoorQQ2
set_option linter.all false
section
namespace Go.Sep
open Go Go.Conc
theorem th:∀{pre bp:List (Nat×Obj)} {b:Nat} {o:Obj},av pre b->lk (pre++((b,o)::bp)) b=some o
 |[],bp,b,o,_=>by simp[lk]
 |(c,x)::pre,bp,b,o,h=>by
  have a:¬c=b:=fun e=>h.1 e.symm
  simp[lk,a,th h.2]
theorem BQ:∀{pre bp:List (Nat×Obj)} {b:Nat} {o x:Obj},av pre b->ju (pre++((b,o)::bp)) b x=pre++((b,x)::bp)
 |[],bp,b,o,x,_=>by simp[ju]
 |(c,y)::pre,bp,b,o,x,h=>by
  have a:¬c=b:=fun e=>h.1 e.symm
  simp[ju,a,BQ h.2]
theorem xl {ro:Addr->Option Value}{pre bp:List (Nat×Obj)}{b:Nat}{e:TypeId}(c:av pre b)(o:Nat):∀(a:List Value) (arr:Array Value) (i:Nat),(∀v∈a,bJ v=true)->o+i+a.length<=arr.size->
  aa.j7 ⟨ro,pre++((b,.cells arr e)::bp)⟩ ⟨b,o,none⟩ i a=some ⟨ro,pre++((b,.cells (cM arr (o+i) a) e)::bp)⟩
 |[],arr,i,_,_=>rfl
 |v::a,arr,i,h1,h=>by
  simp only[List.length_cons] at h
  have d:(⟨b,o,none⟩:Addr).add i=⟨b,o+i,none⟩:=by
   unfold Addr.add
   split
   .rename_i hi;subst hi;rfl
   .rfl
  unfold aa.j7
  have:aa.mJ ⟨ro,pre++((b,.cells arr e)::bp)⟩ ((⟨b,o,none⟩:Addr).add i) v=some ⟨ro,pre++((b,.cells (arr.setIfInBounds (o+i) v) e)::bp)⟩:=by
   have f:o+i<arr.size:=by omega
   simp[aa.mJ,d,th c,h1 v (by simp),f,frozenAt,aa.put,BQ c]
  rw[this]
  simp only
  rw[xl c o a _ (i+1) (fun x g=>h1 x (by simp[g])) (by simp;omega)]
  rw[cM]
  congr 1
theorem BR {ro:Addr->Option Value}{pre bp:List (Nat×Obj)}{b:Nat}{e:TypeId}{arr:Array Value}(a:av pre b)(c:∀off sp,ro ⟨b,off,sp⟩=none):∀(n i:Nat),i+n<=arr.size->
  aa.dA ⟨ro,pre++((b,.cells arr e)::bp)⟩ ⟨b,0,none⟩ i n=some ((arr.toList.drop i).take n)
 |0,i,_=>by simp[aa.dA]
 |n+1,i,h=>by
  have f:(⟨b,0,none⟩:Addr).add i=⟨b,i,none⟩:=by
   unfold Addr.add
   split
   .rename_i hi;subst hi;rfl
   .simp
  have d:i<arr.size:=by omega
  unfold aa.dA
  have ih:=BR (e:=e) (arr:=arr) (bp:=bp) a c n (i+1) (by omega)
  simp only[aa.get,f,c,if_true,th a,Option.bind_some,cellOf,Array.getElem?_eq_getElem d,ih]
  have g:i<arr.toList.length:=by simpa using d
  rw[List.drop_eq_getElem_cons g,List.take_succ_cons]
  simp
theorem Gr.GX {ro:Addr->Option Value}{e:TypeId}{size:Nat}{v:Value}{l:List (List Value)}{aW pre bp:List (Nat×Obj)}(h:Gr ro e size v l aW)(a:∀k∈keys aW,av pre k):
  Go.Sep.gF ⟨ro,pre++(aW++bp)⟩ size v=some l.flatten:=by
 rcases h with ⟨rfl,rfl,rfl⟩|⟨b,arr,cap,rfl,rfl,hs,c,ht,f,d⟩
 .rfl
 .simp only[Go.Sep.gF,List.cons_append,List.nil_append]
  have hle:l.length*size<=arr.size:=by rw[hs];exact Nat.mul_le_mul_right _ c
  rw[BR (a b (by simp[keys])) d _ _ (by omega)]
  simp[ht]
theorem Le.ps {ro:Addr->Option Value}{l m l':List (Nat×Obj)}(e:l.Perm m)(hs:m.Sublist l'):Le ⟨ro,l⟩ ⟨ro,l'⟩:=by
 have c:(keys m).Sublist (keys l'):=hs.map _;have d:(keys l).Perm (keys m):=e.map _;exact ⟨fun w hw=>⟨hw.ro,fun b o hb=>hw.own b o (hs.subset (e.subset hb)),d.nodup_iff.2 (c.nodup hw.nodup),fun a v f hm=>hw.apart a v f (c.subset (d.subset hm))⟩,fun b hb=>c.subset (d.subset hb),fun a g=>.inl g⟩
structure aR (ks:List Nat):Prop where
 nd:ks.Nodup
abbrev Nd (l:List (Nat×Obj)):Prop:=(keys l).Nodup
theorem Nd.fresh {pre aW bp:List (Nat×Obj)}(h:Nd (pre++(aW++bp))):∀k∈keys aW,av pre k:=fun k a=>by
 refine m0 fun hm=>?_
 simp only[Nd,cr] at h
 exact (List.nodup_append.1 h).2.2 k hm k (List.mem_append_left _ a) rfl
theorem Nd.push {l:List (Nat×Obj)}{b:Nat}{o:Obj}(h:Nd l)(hb:av l b):Nd ((b,o)::l):=by
 simp only[Nd,keys,List.map_cons,List.nodup_cons];exact ⟨lU hb,h⟩
theorem Nd.drop {pre aW bp:List (Nat×Obj)}(h:Nd (pre++(aW++bp))):Nd (pre++bp):=
 ((List.Sublist.append_left (List.sublist_append_right aW bp) pre).map _).nodup h
theorem Nd.ins {pre aW bp:List (Nat×Obj)}{b:Nat}{o:Obj}(h:Nd (pre++(aW++bp)))(hb:av (pre++(aW++bp)) b):Nd (pre++([(b,o)]++bp)):=by
 have h2:Nd ((b,o)::(pre++bp)):=h.drop.push (m0 fun hm=>lU hb (((List.Sublist.append_left (List.sublist_append_right aW bp) pre).map _).subset hm));have:(pre++([(b,o)]++bp)).Perm ((b,o)::(pre++bp)):=List.perm_middle;exact (this.map _).nodup_iff.2 h2
section
variable {P:Program}
theorem BS {ro:Addr->Option Value}{pre aW bp:List (Nat×Obj)}{R:Value->aa->Prop}{argTypes:Array TypeId}{ty B C e N:TypeId}{size p n c:Nat}{D:Option Addr}{s z:Value}{l xs:List (List Value)}
  (h0:argTypes[0]?=some B) (h1:argTypes[1]?=some C) (he:dm P B=some e) (d:dm P C=some N) (hs:bZ P e=some size) (E:zeroOf P e=some z) (O:z.cells.size=size) (hb:bytesOf P e=some p)
  (G:0<p) (H:p<=10000) (hg:Gr ro e size s l aW) (j:Nd (pre++(aW++bp))) (Q:n=xs.length) (I:∀x∈xs,x.length=size/\∀v∈x,bJ v=true) (J:gF ⟨ro,pre++(aW++bp)⟩ size (.slice D n c)=some xs.flatten)
  (K:l.length+xs.length<=1000000)
  (q:∀v r,Gr ro e size v (l++xs) r->Nd (pre++(r++bp))->∃F0,Le F0 ⟨ro,pre++(r++bp)⟩/\R v F0):
  aX P (Builtin.append_ argTypes ty #[s,.slice D n c]) (fun v F=>∃F0,Le F0 F/\R v F0) ⟨ro,pre++(aW++bp)⟩:=by
 subst Q
 have L:=j.fresh
 have hold:=hg.GX (bp:=bp) L
 have t:∀x∈xs,x.length=size:=fun x h=>(I x h).1
 have a:=iQ t
 have out:∀(k b:Nat) (old:List Value),old=l.flatten->(∀x∈l,x.length=size)->l.length+xs.length<=k->eg ⟨ro,pre++(aW++bp)⟩ b->
   ∃F0,Le F0 (aa.push ⟨ro,pre++(aW++bp)⟩ b (.cells (old.toArray++xs.flatten.toArray++Builtin.zeroCells z.cells (k - (l.length+xs.length))) e))/\R (.slice (some ⟨b,0,none⟩) (l.length+xs.length) k) F0:=by
  intro k b old S u i f
  subst S
  have w:=iQ u
  have y:=q (.slice (some ⟨b,0,none⟩) (l.length+xs.length) k) [(b,.cells (l.flatten.toArray++xs.flatten.toArray++Builtin.zeroCells z.cells (k - (l.length+xs.length))) e)] (.inr ⟨b,_,k,by simp,rfl,?_,by simpa using i,?_,?_,f.ro⟩) (j.ins f.own)
  .obtain ⟨F0,hle,y⟩:=y
   refine ⟨F0,hle.trans ?_,y⟩
   exact Le.ps (m:=(b,.cells (l.flatten.toArray++xs.flatten.toArray++Builtin.zeroCells z.cells (k - (l.length+xs.length))) e)::(pre++bp)) List.perm_middle (.cons₂ _ (List.Sublist.append_left (List.sublist_append_right aW bp) pre))
  .simp only[Array.size_append,List.size_toArray,Builtin.zeroCells,Array.size_map,Array.size_range,w,a,O]
   rw[<-Nat.add_mul,<-Nat.add_mul]
   congr 1;omega
  .simp only[Array.toList_append,List.length_append,List.flatten_append]
   rw[List.take_append_of_le_length (by simp[w,a,Nat.add_mul])]
   rw[List.take_of_length_le (by simp[w,a,Nat.add_mul])]
  .intro x d
   rcases List.mem_append.1 d with h|h
   .exact u x h
   .exact t x h
 rcases id hg with ⟨rfl,rfl,rfl⟩|⟨b,arr,cap,rfl,rfl,A,u,ht,o,T⟩
 .refine wS h0 h1 he d hs E hb G H (by simpa using K) hold J (fun g=>.inr ⟨rfl,?_⟩) (fun g k b i f=>?_)
  .have:xs=[]:=List.eq_nil_of_length_eq_zero (by omega)
   subst this
   exact q _ _ (.inl ⟨rfl,rfl,rfl⟩) j
  .have:=out k b [] rfl (by simp) (by simpa using i) f
   simpa using this
 .refine wS h0 h1 he d hs E hb G H K hold J (fun g=>.inl ⟨_,⟨ro,pre++([(b,.cells (cM arr (l.length*size) xs.flatten) e)]++bp)⟩,rfl,?_,?_⟩) (fun g k U i f=>out k U _ rfl o i f)
  .have V:(⟨b,0,none⟩:Addr).add (l.length*size)=⟨b,l.length*size,none⟩:=by
    unfold Addr.add
    split
    .rename_i hi;rw[hi]
    .simp
   rw[V]
   have M:l.length*size+xs.length*size<=arr.size:=by rw[A,<-Nat.add_mul];exact Nat.mul_le_mul_right _ g
   have:=xl (ro:=ro) (e:=e) (bp:=bp) (L b (by simp[keys])) (l.length*size) xs.flatten arr 0 (fun v W=>by
    obtain ⟨x,X,Y⟩:=List.mem_flatten.1 W
    exact (I x X).2 v Y) (by rw[a];omega)
   simpa using this
  .refine q _ _ (.inr ⟨b,_,cap,by simp,rfl,by rw[sW];exact A,by simpa using g,?_,?_,T⟩) (by simpa [Nd,keys] using j)
   .have M:l.length*size+xs.length*size<=arr.size:=by rw[A,<-Nat.add_mul];exact Nat.mul_le_mul_right _ g
    rw[sX _ _ _ (by rw[a];exact M),ht,List.length_append,List.flatten_append,a]
    rw[List.take_append_of_le_length (by simp[iQ o,a,Nat.add_mul])]
    rw[List.take_of_length_le (by simp[iQ o,a,Nat.add_mul])]
   .intro x d
    rcases List.mem_append.1 d with h|h
    .exact o x h
    .exact t x h
theorem BT:∀{pre own:List (Nat×Obj)} {b:Nat} {o:Obj},lk pre b=some o->lk (pre++own) b=some o
 |(c,x)::pre,own,b,o,h=>by
  simp only[List.cons_append,lk] at h ⊢
  split
  .rename_i a;rw[if_pos a] at h;exact h
  .rename_i a;rw[if_neg a] at h;exact BT h
theorem BU {ro:Addr->Option Value}{own:List (Nat×Obj)}{b:Nat}{cs:Array Value}{e:TypeId}(a:lk own b=some (.cells cs e))(c:∀off sp,ro ⟨b,off,sp⟩=none):∀n i,i+n<=cs.toList.length->aa.dA ⟨ro,own⟩ ⟨b,0,none⟩ i n=some ((cs.toList.drop i).take n)
 |0,i,_=>by simp[aa.dA]
 |n+1,i,hi=>by
  have d:i<cs.toList.length:=by omega
  unfold aa.dA
  have f:(⟨b,0,none⟩:Addr).add i=⟨b,i,none⟩:=by
   unfold Addr.add
   split
   .rename_i hi;subst hi;rfl
   .simp
  have g:i<cs.size:=by simpa using d
  simp only[aa.get,f,c,if_true,a,Option.bind_some,cellOf,Array.getElem?_eq_getElem g,BU a c n (i+1) (by omega)]
  rw[List.drop_eq_getElem_cons d,List.take_succ_cons]
  simp
theorem aQ.more {T:Type}{r:b8 T}{ro:Addr->Option Value}{e:TypeId}{l xs:List T}{ls ys:List (List Value)}{v:Value}{a:List (Nat×Obj)}(hg:Gr ro e r.n v (ls++ys) a)(b:ls.length=l.length)(c:ys.length=xs.length)
  (d:∀(i:Nat) (x:T),l[i]?=some x->∃cs:List Value,ls[i]?=some cs/\r.rel ro x cs) (f:∀(i:Nat) (x:T),xs[i]?=some x->∃cs:List Value,ys[i]?=some cs/\r.rel ro x cs) (g:l.length+xs.length<=1000000):aQ r ro e v (l++xs) a:=by
 refine ⟨_,hg,by simp[b,c],by simpa using g,fun i y hi=>?_⟩
 rcases Nat.lt_or_ge i l.length with h|h
 .rw[List.getElem?_append_left h] at hi
  rw[List.getElem?_append_left (by omega)]
  exact d i y hi
 .rw[List.getElem?_append_right h] at hi
  rw[List.getElem?_append_right (by omega),b]
  exact f _ y hi
theorem BV {T:Type}{r:b8 T}{ro:Addr->Option Value}{aW:List (Nat×Obj)}{R:Value->aa->Prop}{argTypes:Array TypeId}{g h e p e2:TypeId}{b c:Nat}{s z:Value}{l:List T}{x:T}{cs:Array Value}{own:List (Nat×Obj)}(pre bp:List (Nat×Obj))(q:own=pre++(aW++bp))
  (hg:aQ r ro e s l aW) (t:aR (keys own)) (j:l.length+[x].length<=1000000) (d:r.rel ro x cs.toList) (u:lk pre c=some (.cells cs e2)) (w:∀off sp,ro ⟨c,off,sp⟩=none)
  (h0:argTypes[0]?=some g) (h1:argTypes[1]?=some h) (he:dm P g=some e) (A:dm P h=some p) (hs:bZ P e=some r.n) (B:zeroOf P e=some z) (C:z.cells.size=r.n) (hb:bytesOf P e=some b)
  (D:0<b) (E:b<=10000)
  (F:∀v a,aQ r ro e v (l++[x]) a->∀f,f=pre++(a++bp)->aR (keys f)->∃F0,Le F0 ⟨ro,f⟩/\R v F0):mT P argTypes s (.slice (some ⟨c,0,none⟩) 1 1) R ⟨ro,own⟩:=by
 subst q
 obtain ⟨ls,G,k,hm,H⟩:=hg
 have I:=t.nd
 intro ty
 have hlen:cs.toList.length=r.n:=r.len d
 refine BS (xs:=[cs.toList]) (e:=e) (size:=r.n) (z:=z) (l:=ls) h0 h1 he A hs B C hb D E G I rfl (fun y o=>?_) ?_ (by simpa [k] using j) (fun v a J K=>F v a (aQ.more J k rfl H (fun i y hi=>?_) j) _ rfl ⟨K⟩)
 .simp only[List.mem_singleton] at o;subst o;exact ⟨hlen,r.one d⟩
 .simp only[gF,Nat.one_mul]
  rw[BU (BT u) w _ _ (by omega)]
  rw[List.drop_zero,List.take_of_length_le (by omega)]
  simp
 .cases i with
  |zero=>simp at hi;subst hi;exact ⟨cs.toList,rfl,d⟩
  |succ m=>simp at hi
theorem GY {T:Type}{r:b8 T}{ro:Addr->Option Value}{aW:List (Nat×Obj)}{R:Value->aa->Prop}{argTypes:Array TypeId}{g i e m:TypeId}{d c:Nat}{ad:Option Addr}{s z:Value}{l xs:List T}{own:List (Nat×Obj)}(pre bp:List (Nat×Obj))(o:own=pre++(aW++bp))
  (hg:aQ r ro e s l aW) (p:aR (keys own)) (j:l.length+xs.length<=1000000) (q:az r ro (.slice ad xs.length c) xs)
  (h0:argTypes[0]?=some g) (h1:argTypes[1]?=some i) (he:dm P g=some e) (t:dm P i=some m) (hs:bZ P e=some r.n) (u:zeroOf P e=some z) (w:z.cells.size=r.n) (hb:bytesOf P e=some d)
  (x:0<d) (y:d<=10000)
  (A:∀v b,aQ r ro e v (l++xs) b->∀f,f=pre++(b++bp)->aR (keys f)->∃F0,Le F0 ⟨ro,f⟩/\R v F0):mT P argTypes s (.slice ad xs.length c) R ⟨ro,own⟩:=by
 subst o
 obtain ⟨ls,B,k,hm,C⟩:=hg
 have D:=p.nd
 intro ty
 obtain ⟨E,k1,F,G,H⟩:=q.cells ⟨ro,pre++(aW++bp)⟩ (fun a v h=>by simp[aa.get,h])
 exact BS (xs:=E) (e:=e) (size:=r.n) (z:=z) (l:=ls) h0 h1 he t hs u w hb x y B D k1.symm F H (by rw[k,k1];exact j) (fun v b I J=>A v b (aQ.more I k k1 C G j) _ rfl ⟨J⟩)
theorem aQ.l5 {T:Type}{r:b8 T}{ro:Addr->Option Value}{e:TypeId}{v:Value}{l:List T}{aW:List (Nat×Obj)}(h:aQ r ro e v l aW){own:List (Nat×Obj)}(a pre bp:List (Nat×Obj))(d:own=pre++(aW++bp))(f:a=pre++bp)(g:aR (keys own))(i:aD ro a):
  ∃aN,Ext ro aN/\aD aN a/\az r aN v l/\Le ⟨aN,a⟩ ⟨ro,own⟩:=by
 subst d f
 have b:Nd (pre++(aW++bp)):=g.nd
 have j:Apart (keys (pre++bp)) aW:=fun k c hm=>by
  simp only[Nd,cr] at b
  have h2:=List.nodup_append.1 b
  simp only[cr,List.mem_append] at hm
  rcases hm with hm|hm
  .exact h2.2.2 k hm k (List.mem_append_left _ c) rfl
  .exact (List.nodup_append.1 h2.2.1).2.2 k c k hm rfl
 obtain ⟨aN,h1,h2,h3,m⟩:=h.Bp (pre++bp) j rfl i
 refine ⟨aN,h1,h2,h3,m.trans ?_⟩
 have n:((pre++bp)++aW).Perm (pre++(aW++bp)):=by
  rw[List.append_assoc]
  exact List.Perm.append_left pre List.perm_append_comm
 exact Le.ps n (List.Sublist.refl _)
theorem aQ.setAt {T:Type}{r:b8 T}{ro:Addr->Option Value}{e:TypeId}{l:List T}{b n cap:Nat}{arr:Array Value}(h:aQ r ro e (.slice (some ⟨b,0,none⟩) n cap) l [(b,.cells arr e)]){i:Nat}{x y:T}(hi:l[i]?=some x){cs:List Value}(m:r.rel ro y cs):
  aQ r ro e (.slice (some ⟨b,0,none⟩) n cap) (l.set i y) [(b,.cells (cM arr (i*r.n) cs) e)]:=by
 obtain ⟨ls,hg,o,hm,p⟩:=h
 have B:i<l.length:=(List.getElem?_eq_some_iff.1 hi).1
 have a:=r.len m
 rcases hg with ⟨k,_,_⟩|⟨C,D,q,k,s,hs,hle,ht,c,t⟩
 .cases k
 .cases s
  obtain ⟨rfl,rfl⟩:n=ls.length/\cap=q:=by cases k;exact ⟨rfl,rfl⟩
  have u:i*r.n+cs.length<=arr.size:=by
   rw[hs,a,<-Nat.succ_mul]
   exact Nat.mul_le_mul_right _ (by omega)
  refine ⟨ls.set i cs,.inr ⟨b,_,cap,by simp,rfl,by rw[sW];exact hs,by simpa using hle,?_,?_,t⟩,by simp[o],by simpa using hm,fun j z d=>?_⟩
  .rw[sX _ _ _ u]
   have E:=iQ c
   have f:i<ls.length:=by omega
   have e1:(ls.set i cs).flatten=(ls.take i).flatten++cs++(ls.drop (i+1)).flatten:=by
    rw[List.set_eq_take_append_cons_drop,if_pos f]
    simp
   have e2:ls.flatten=(ls.take i).flatten++(ls.drop i).flatten:=by rw[<-List.flatten_append,List.take_append_drop]
   have t1:((ls.take i).flatten).length=i*r.n:=by rw[iQ (fun x h=>c x (List.mem_of_mem_take h)),List.length_take,Nat.min_eq_left (by omega)]
   have v:(ls.drop i).flatten=ls[i]++(ls.drop (i+1)).flatten:=by rw[List.drop_eq_getElem_cons f,List.flatten_cons]
   have t2:ls[i].length=r.n:=c _ (List.getElem_mem f)
   have a1:arr.toList.take (i*r.n)=(ls.take i).flatten:=by
    have:=congrArg (List.take (i*r.n)) ht
    rw[List.take_take,Nat.min_eq_left (Nat.mul_le_mul_right _ (by omega)),e2,List.take_append_of_le_length (Nat.le_of_eq t1.symm),List.take_of_length_le (Nat.le_of_eq t1)] at this
    exact this
   have a2:(arr.toList.take (ls.length*r.n)).drop (i*r.n+cs.length)=(ls.drop (i+1)).flatten:=by
    have t3:((ls.take i).flatten++ls[i]).length=i*r.n+cs.length:=by rw[List.length_append,t1,t2,a]
    rw[ht,e2,v,<-List.append_assoc,List.drop_append_of_le_length (Nat.le_of_eq t3.symm),List.drop_eq_nil_of_le (Nat.le_of_eq t3),List.nil_append]
   rw[a1,e1]
   simp only[List.length_set]
   have w:ls.length*r.n=(i*r.n+cs.length)+(ls.length*r.n - (i*r.n+cs.length)):=by
    have:i*r.n+cs.length<=ls.length*r.n:=by rw[a,<-Nat.succ_mul];exact Nat.mul_le_mul_right _ f
    omega
   rw[w,List.take_append]
   rw[List.take_of_length_le (by rw[List.length_append,t1];omega)]
   congr 1
   have:i*r.n+cs.length+(ls.length*r.n - (i*r.n+cs.length)) - ((ls.take i).flatten++cs).length=ls.length*r.n - (i*r.n+cs.length):=by simp only[List.length_append,t1];omega
   rw[this,<-a2,List.drop_take]
  .intro z A
   rcases List.mem_or_eq_of_mem_set A with h|h
   .exact c z h
   .rw[h];exact a
  .rcases Nat.decEq i j with g|g
   .rw[List.getElem?_set_ne g] at d
    obtain ⟨cs',h1,h2⟩:=p j z d
    exact ⟨cs',by rw[List.getElem?_set_ne g];exact h1,h2⟩
   .subst g
    rw[List.getElem?_set_self (by omega)] at d
    obtain rfl:=Option.some.inj d
    exact ⟨cs,List.getElem?_set_self (by omega),m⟩
end
section
variable {P:Program}{main:Bool}{J:Goroutine->aa->Prop}
theorem ay (hJ:Closed P main J){c:Code}{Q:Ex->Act->aa->Prop}{a:Act}{F:aa}(h:aR (keys F.own)->Wp J c Q a F):Wp J c Q a F:=by
 intro b k cs hb d;by_cases hw:∃w,Has F w
 .obtain ⟨w,hw⟩:=hw;exact h ⟨hw.nodup⟩ b k cs hb d
 .exact hJ.step fun w e=>absurd ⟨w,e⟩ hw
end
theorem aR.cons {l:List (Nat×Obj)}{b:Nat}(hb:av l b)(h:aR (keys l)):aR (b::keys l):=⟨List.nodup_cons.2 ⟨lU hb,h.nd⟩⟩
theorem aD.nil (ro:Addr->Option Value):aD ro []:=fun b h=>by cases h
theorem aD.cons {ro:Addr->Option Value}{b:Nat}{o:Obj}{l:List (Nat×Obj)}(hb:∀off sp,ro ⟨b,off,sp⟩=none)(h:aD ro l):aD ro ((b,o)::l):=fun c a=>by
 simp only[keys,List.map_cons,List.mem_cons] at a
 rcases a with rfl|a
 .exact hb
 .exact h c a
theorem aD.app {ro:Addr->Option Value}{l l':List (Nat×Obj)}(h:aD ro l)(b:aD ro l'):aD ro (l++l'):=fun c a=>by
 rw[cr] at a
 exact (List.mem_append.1 a).elim (h c) (b c)
theorem aD.hd {ro:Addr->Option Value}{b:Nat}{o:Obj}{l:List (Nat×Obj)}(h:aD ro ((b,o)::l)):∀off sp,ro ⟨b,off,sp⟩=none:=h b (by simp[keys])
theorem aD.tl {ro:Addr->Option Value}{x:Nat×Obj}{l:List (Nat×Obj)}(h:aD ro (x::l)):aD ro l:=fun c a=>h c (by simp only[keys,List.map_cons,List.mem_cons];exact .inr a)
theorem aD.l {ro:Addr->Option Value}{l l':List (Nat×Obj)}(h:aD ro (l++l')):aD ro l:=fun c a=>h c (by rw[cr];exact List.mem_append_left _ a)
theorem aD.r {ro:Addr->Option Value}{l l':List (Nat×Obj)}(h:aD ro (l++l')):aD ro l':=fun c a=>h c (by rw[cr];exact List.mem_append_right _ a)
theorem aQ.j9 {T:Type}{r:b8 T}{ro:Addr->Option Value}{e:TypeId}{v:Value}{l:List T}{aW:List (Nat×Obj)}(h:aQ r ro e v l aW):aD ro aW:=by
 obtain ⟨ls,hg,-⟩:=h;rcases hg with ⟨_,_,rfl⟩|⟨b,arr,cap,_,rfl,_,_,_,_,a⟩
 .exact aD.nil _
 .exact aD.cons a (aD.nil _)
theorem Le.back {ro:Addr->Option Value}{l l':List (Nat×Obj)}(A B O S:List (Nat×Obj))(h1:l=A++(B++(O++S)))(h2:l'=A++(O++(B++S))):Le ⟨ro,l⟩ ⟨ro,l'⟩:=by
 subst h1 h2;refine Le.ps (m:=A++(O++(B++S))) (List.Perm.append_left A ?_) (List.Sublist.refl _);rw[<-List.append_assoc,<-List.append_assoc];exact List.Perm.append_right S List.perm_append_comm
section
variable {P:Program}{main:Bool}{J:Goroutine->aa->Prop}
def tj (J:Goroutine->aa->Prop)(kg:Frame)(F:aa)(R:Value->aa->Prop):Prop:=
 ∀(c:Frame) (cs:List Frame),(∀v F',R v F'->J (G (c.finish v) cs) F')->J (G kg (c::cs)) F
theorem BW (hJ:Closed P main J){kg:Frame}{ro:Addr->Option Value}{aW:List (Nat×Obj)}{K:Value->aa->Prop}{own:List (Nat×Obj)}(pre bp:List (Nat×Obj))(q:own=pre++(aW++bp))(R:Value->List (Nat×Obj)->Prop)(h:∀(main:Bool) (J:Goroutine->aa->Prop),Closed P main J->tj J kg ⟨ro,aW⟩ (fun v G=>∃d,R v d/\Le ⟨ro,d⟩ G))
  (L:∀v d,R v d->∀r,r=pre++(d++bp)->aR (keys r)->∃F0,Le F0 ⟨ro,r⟩/\K v F0):tj J kg ⟨ro,own⟩ K:=by
 subst q
 intro c cs M
 by_cases hw:∃w,Has ⟨ro,pre++(aW++bp)⟩ w
 .obtain ⟨s,k⟩:=hw
  let F:aa:=⟨fun _=>none,pre++bp⟩
  have t:(pre++bp).Sublist (pre++(aW++bp)):=List.Sublist.append_left (List.sublist_append_right aW bp) pre
  have u:aW.Sublist (pre++(aW++bp)):=(List.sublist_append_left aW bp).trans (List.sublist_append_right pre _)
  have B:∀w,Has ⟨ro,pre++(aW++bp)⟩ w->Has F w:=fun w hw=>⟨fun a v h=>(by cases h),fun b o hb=>hw.own b o (t.subset hb),(t.map _).nodup hw.nodup,fun a v h=>(by cases h)⟩
  have C:∀w,Has ⟨ro,pre++(aW++bp)⟩ w->Has ⟨ro,aW⟩ w:=fun w hw=>⟨hw.ro,fun b o hb=>hw.own b o (u.subset hb),(u.map _).nodup hw.nodup,fun a v i hm=>hw.apart a v i ((u.map _).subset hm)⟩
  have hd:∀b,b∈keys aW->b∉keys (pre++bp):=fun b hb hm=>by
   have l:=k.nodup
   simp only[cr] at l
   have h2:=List.nodup_append.1 l
   simp only[cr,List.mem_append] at hm
   rcases hm with hm|hm
   .exact h2.2.2 b hm b (List.mem_append_left _ hb) rfl
   .exact (List.nodup_append.1 h2.2.1).2.2 b hb b hm rfl
  have D:Fits F ⟨ro,aW⟩:=⟨⟨s,C s k,B s k⟩,hd,fun a f hm=>(by cases f)⟩
  have N:mY F ⟨ro,aW⟩:=fun a f hm=>by
   obtain ⟨v,O⟩:=Option.isSome_iff_exists.1 f
   exact k.apart a v O ((t.map _).subset hm)
  have q:w6 J F (G kg (c::cs)) ⟨ro,aW⟩:=by
   refine h main _ (Bn hJ F) c cs fun v E A m l=>?_
   obtain ⟨d,A,hle⟩:=A
   have H:Le ⟨ro,pre++(d++bp)⟩ (E.star F):=by
    refine ⟨fun w hw=>?_,fun b hb=>?_,fun a f=>?_⟩
    .have n:=hle.has w (m.right hw)
     have g:=m.left hw
     have Q:∀b,b∈keys d->b∉keys (pre++bp):=fun b hb=>m.own b (hle.own b hb)
     have j:(pre++(d++bp)).Perm (d++(pre++bp)):=by
      rw[<-List.append_assoc,<-List.append_assoc]
      exact List.Perm.append_right bp List.perm_append_comm
     refine ⟨n.ro,fun b o hb=>?_,?_,fun a v i hm=>?_⟩
     .rcases List.mem_append.1 (j.subset hb) with x|x
      .exact n.own b o x
      .exact g.own b o x
     .refine (j.map _).nodup_iff.2 ?_
      rw[List.map_append]
      exact List.nodup_append.2 ⟨n.nodup,g.nodup,fun a f b hb e=>Q a f (e▸hb)⟩
     .have I:=(j.map (·.1)).subset hm
      rw[List.map_append] at I
      rcases List.mem_append.1 I with x|x
      .exact n.apart a v i x
      .rcases hle.ro a (by simp only at i;simp[i]) with y|y
       .exact l a y x
       .exact m.own _ y x
    .simp only[aa.star,cr,List.mem_append] at hb ⊢
     rcases hb with x|x|x
     .exact .inr (show b∈keys (pre++bp) by rw[cr];exact List.mem_append_left _ x)
     .exact .inl (hle.own b x)
     .exact .inr (show b∈keys (pre++bp) by rw[cr];exact List.mem_append_right _ x)
    .rcases hle.ro a f with x|x
     .exact (gX (.inr x)).imp id (fun z=>by simp only[aa.star,cr,List.mem_append];exact .inr z)
     .exact .inr (by simp only[aa.star,cr,List.mem_append];exact .inl x)
   have S:∃fr cs',G (c.finish v) cs=G fr cs':=⟨_,_,rfl⟩
   obtain ⟨fr,cs',T⟩:=S
   by_cases p:∃w,Has (E.star F) w
   .obtain ⟨w1,p⟩:=p
    obtain ⟨F0,U,V⟩:=L v d A _ rfl ⟨(H.has w1 p).nodup⟩
    exact hJ.mono (U.trans H) (M v F0 V)
   .rw[T]
    exact hJ.step fun w g=>absurd ⟨w,g⟩ p
  refine hJ.mono ⟨fun w hw=>D.both (C w hw) (B w hw),fun b hb=>?_,fun a f=>?_⟩ (q D N)
  .have j:(aW++(pre++bp)).Perm (pre++(aW++bp)):=by
    rw[<-List.append_assoc,<-List.append_assoc]
    exact List.Perm.append_right bp List.perm_append_comm
   exact (j.map _).subset hb
  .rcases kR f with x|x
   .cases x
   .exact .inl x
 .exact hJ.step fun w g=>absurd ⟨w,g⟩ hw
theorem GZ (hJ:Closed P main J){f:FuncId}{args:Array Value}{ro:Addr->Option Value}{aW:List (Nat×Obj)}{K:Value->aa->Prop}{own:List (Nat×Obj)}(pre bp:List (Nat×Obj))(c:own=pre++(aW++bp))(R:Value->List (Nat×Obj)->Prop)(h:aF P f args ⟨ro,aW⟩ (fun v G=>∃a,R v a/\Le ⟨ro,a⟩ G))
  (d:∀v a,R v a->∀b,b=pre++(a++bp)->aR (keys b)->∃F0,Le F0 ⟨ro,b⟩/\K v F0):cY P J f args ⟨ro,own⟩ K:=
 BW hJ (kg:=Frame.enter P f args .normal) pre bp c R h d
end
attribute [go_sem] Array.size_setIfInBounds
theorem az.op {T:Type}{r:b8 T}{ro:Addr->Option Value}{ad:Option Addr}{n cap:Nat}{l:List T}(h:az r ro (.slice ad n cap) l):
  l.length<=cap/\l.length<=1000000000000000/\∀i x,l[i]?=some x->∃p cs,ad=some p/\r.rel ro x cs/\∀j v,cs[j]?=some v->ro ((p.add (i*r.n)).add j)=some v:=by
 obtain ⟨a,b,e,h1,h2,h3⟩:=h
 cases e
 exact ⟨h1,h2,h3⟩
theorem aR.sub {l l':List (Nat×Obj)}(A O S:List (Nat×Obj))(h1:l=A++S)(h2:l'=A++(O++S))(h:aR (keys l')):aR (keys l):=by
 subst h1 h2;exact
 ⟨((List.Sublist.append_left (List.sublist_append_right O S) A).map _).nodup h.nd⟩
theorem aR.back {l l':List (Nat×Obj)}(A B O S:List (Nat×Obj))(h1:l=A++(B++(O++S)))(h2:l'=A++(O++(B++S)))(h:aR (keys l')):aR (keys l):=by
 subst h1 h2;refine ⟨(List.Perm.map _ (List.Perm.append_left A ?_)).nodup_iff.2 h.nd⟩;rw[<-List.append_assoc,<-List.append_assoc];exact List.Perm.append_right S List.perm_append_comm
theorem gj {ro:Addr->Option Value}{b:Nat}{o:Obj}(pre bp:List (Nat×Obj))(f:aR (keys (pre++((b,o)::bp))))(_hr:∀off sp,ro ⟨b,off,sp⟩=none)(g:aD ro (pre++bp)):
  Ext ro (bU ro b o)/\aD (bU ro b o) (pre++bp)/\Le ⟨bU ro b o,pre++bp⟩ ⟨ro,pre++((b,o)::bp)⟩:=by
 have a:(pre++((b,o)::bp)).Perm ((b,o)::(pre++bp)):=List.perm_middle
 have h2:Nd ((b,o)::(pre++bp)):=(a.map _).nodup_iff.1 f.nd
 have hb:b∉keys (pre++bp):=(List.nodup_cons.1 h2).1
 refine ⟨gH _ _ _,fun c d off sp=>?_,?_⟩
 .have aG:¬c=b:=fun e=>hb (e▸d)
  simp[bU,g c d,aG]
 .have h3:Le ⟨bU ro b o,pre++bp⟩ ⟨ro,(b,o)::(pre++bp)⟩:=kV (by simp[lk]) (.cons _ (List.Sublist.refl _)) (m0 hb)
  exact h3.trans (Le.ps a.symm (List.Sublist.refl _))
section
variable {P:Program}{main:Bool}{J:Goroutine->aa->Prop}
theorem fF (hJ:Closed P main J){c:Code}{Q:Ex->Act->aa->Prop}{a:Act}{F:aa}(h:aR (keys F.own)->aD F.ro F.own->Wp J c Q a F):Wp J c Q a F:=by
 intro b k cs hb d;by_cases hw:∃w,Has F w
 .obtain ⟨w,hw⟩:=hw;refine h ⟨hw.nodup⟩ (fun b hb off sp=>?_) b k cs hb d;cases e:F.ro ⟨b,off,sp⟩ with
  |none=>rfl
  |some v=>exact absurd hb (hw.apart _ v e)
 .exact hJ.step fun w f=>absurd ⟨w,f⟩ hw
end
theorem xm:∀(a:List Value) (arr:Array Value) (k:Nat),k+a.length<=arr.size->∀q,(cM arr k a)[q]?=if k<=q/\q<k+a.length then a[q - k]? else arr[q]?
 |[],arr,k,h,q=>by
  have:¬(k<=q/\q<k+([]:List Value).length):=by simp
  rw[if_neg this];rfl
 |v::a,arr,k,h,q=>by
  simp only[List.length_cons] at h
  rw[cM,xm a _ (k+1) (by simp;omega)]
  simp only[List.length_cons]
  by_cases h1:k=q
  .subst h1
   rw[if_neg (by omega),if_pos (by omega),Array.getElem?_setIfInBounds_self_of_lt (by omega)]
   simp
  .by_cases h2:k+1<=q/\q<k+1+a.length
   .rw[if_pos h2,if_pos (by omega)]
    rw[show q - k=(q - (k+1))+1 by omega]
    simp
   .rw[if_neg h2,if_neg (by omega),Array.getElem?_setIfInBounds_ne h1]
theorem aQ.part {T:Type}{r:b8 T}{ro:Addr->Option Value}{e:TypeId}{l:List T}{b n cap:Nat}{arr:Array Value}(h:aQ r ro e (.slice (some ⟨b,0,none⟩) n cap) l [(b,.cells arr e)]){i:Nat}{x y:T}(hi:l[i]?=some x)(o:Nat)(a cs cs':List Value)
  (hm:∀j v,cs[j]?=some v->arr[i*r.n+j]?=some v) (hlen:cs.length=r.n) (f:cs'=cs.take o++a++cs.drop (o+a.length)) (s:o+a.length<=cs.length) (g:r.rel ro y cs'):
  aQ r ro e (.slice (some ⟨b,0,none⟩) n cap) (l.set i y) [(b,.cells (cM arr (i*r.n+o) a) e)]:=by
 have h2:=h.setAt hi g
 have d:=r.len g
 have m:i*r.n+r.n<=arr.size:=by
  rcases Nat.eq_zero_or_pos r.n with h0|t
  .rw[h0];omega
  .have c:r.n - 1<cs.length:=by omega
   have:=hm (r.n - 1) cs[r.n - 1] (List.getElem?_eq_getElem c)
   have:=(Array.getElem?_eq_some_iff.1 this).1
   omega
 have e1:cM arr (i*r.n) cs'=cM arr (i*r.n+o) a:=by
  apply Array.ext_getElem?
  intro q
  rw[xm cs' arr _ (by rw[d];exact m),xm a arr _ (by omega)]
  by_cases h1:i*r.n+o<=q/\q<i*r.n+o+a.length
  .rw[if_pos h1,if_pos (by rw[d];omega),f]
   rw[List.append_assoc,List.getElem?_append_right (by simp;omega),List.getElem?_append_left (by simp;omega)]
   congr 1
   simp;omega
  .rw[if_neg h1]
   by_cases h3:i*r.n<=q/\q<i*r.n+cs'.length
   .rw[if_pos h3]
    rw[d] at h3
    have p:arr[q]?=cs[q - i*r.n]?:=by
     have c:q - i*r.n<cs.length:=by omega
     have:=hm (q - i*r.n) _ (List.getElem?_eq_getElem c)
     rw[show i*r.n+(q - i*r.n)=q by omega] at this
     rw[this,List.getElem?_eq_getElem c]
    rw[p,f]
    rcases Nat.lt_or_ge (q - i*r.n) o with k|k
    .rw[List.append_assoc,List.getElem?_append_left (by simp;omega),List.getElem?_take_of_lt k]
    .have u:o+a.length<=q - i*r.n:=by omega
     rw[List.getElem?_append_right (by simp;omega),List.getElem?_drop]
     congr 1
     simp;omega
   .rw[if_neg h3]
 rw[e1] at h2
 exact h2
theorem aQ.elemAt {T:Type}{r:b8 T}{ro:Addr->Option Value}{e:TypeId}{b n cap:Nat}{l:List T}{aW:List (Nat×Obj)}(h:aQ r ro e (.slice (some ⟨b,0,none⟩) n cap) l aW){i:Nat}{x:T}(hi:l[i]?=some x):
  ∃arr cs,aW=[(b,.cells arr e)]/\(∀off sp,ro ⟨b,off,sp⟩=none)/\r.rel ro x cs/\∀j v,cs[j]?=some v->arr[i*r.n+j]?=some v:=by
 obtain ⟨g,arr,k,cs,a,c,d,f,hm⟩:=h.elem hi
 cases a
 exact ⟨arr,cs,c,d,f,hm⟩
theorem aQ.BX {T:Type}{r:b8 T}{ro:Addr->Option Value}{e:TypeId}{ad:Option Addr}{n cap:Nat}{l:List T}{aW:List (Nat×Obj)}(h:aQ r ro e (.slice ad n cap) l aW){i:Nat}{x:T}(hi:l[i]?=some x):
  ∃b arr cs,ad=some ⟨b,0,none⟩/\aW=[(b,.cells arr e)]/\(∀off sp,ro ⟨b,off,sp⟩=none)/\r.rel ro x cs/\∀j v,cs[j]?=some v->arr[i*r.n+j]?=some v:=by
 obtain ⟨a,arr,k,cs,c,d,f,g,hm⟩:=h.elem hi
 injection c with h1 h2 h3
 exact ⟨a,arr,cs,h1,d,f,g,hm⟩
theorem aQ.jD {T:Type}{r:b8 T}{ro:Addr->Option Value}{e:TypeId}{b n cap:Nat}{l:List T}{arr:Array Value}(h:aQ r ro e (.slice (some ⟨b,0,none⟩) n cap) l [(b,.cells arr e)]){i:Nat}{x:T}(hi:l[i]?=some x):
  ∃cs,r.rel ro x cs/\∀j v,cs[j]?=some v->arr[i*r.n+j]?=some v:=by
 obtain ⟨d,cs,a,f,c,hm⟩:=h.elemAt hi
 simp only[List.cons.injEq,Prod.mk.injEq,Obj.cells.injEq,true_and,and_true] at a
 subst a
 exact ⟨cs,c,hm⟩
theorem aQ.tn {T:Type}{r:b8 T}{ro:Addr->Option Value}{e:TypeId}{l:List T}{b n cap:Nat}{arr:Array Value}(h:aQ r ro e (.slice (some ⟨b,0,none⟩) n cap) l [(b,.cells arr e)]){i:Nat}{y:T}(hi:i<l.length){cs:List Value}(a:r.rel ro y cs):
  aQ r ro e (.slice (some ⟨b,0,none⟩) n cap) (l.set i y) [(b,.cells (cM arr (i*r.n) cs) e)]:=h.setAt (List.getElem?_eq_getElem hi) a
theorem aQ.iT {T:Type}{r:b8 T}{ro:Addr->Option Value}{e:TypeId}{ad:Option Addr}{n cap:Nat}{l:List T}{aW:List (Nat×Obj)}(h:aQ r ro e (.slice ad n cap) l aW)(a:l.isEmpty=false):
  ∃b arr,ad=some ⟨b,0,none⟩/\aW=[(b,.cells arr e)]/\(∀off sp,ro ⟨b,off,sp⟩=none):=by
 cases l with
 |nil=>cases a
 |cons x l=>
  obtain ⟨b,arr,cs,h1,h2,h3,_⟩:=h.BX (i:=0) rfl
  exact ⟨b,arr,h1,h2,h3⟩
theorem aQ.g6 {T:Type}{r:b8 T}{ro:Addr->Option Value}{e:TypeId}{b n cap:Nat}{l:List T}{aW:List (Nat×Obj)}(h:aQ r ro e (.slice (some ⟨b,0,none⟩) n cap) l aW):∃arr,aW=[(b,.cells arr e)]:=by
 obtain ⟨ls,hg,-⟩:=h;rcases hg with ⟨a,_,_⟩|⟨d,arr,f,a,c,_⟩
 .cases a
 .cases a;exact ⟨arr,c⟩
theorem aQ.count {T:Type}{r:b8 T}{ro:Addr->Option Value}{e:TypeId}{ad:Option Addr}{n cap:Nat}{l:List T}{aW:List (Nat×Obj)}(h:aQ r ro e (.slice ad n cap) l aW):l.length=n:=by
 obtain ⟨b,c,a,_⟩:=h.len;cases a;rfl
def qR (ops:Array Oper)(bX:List Nat)(i:Nat):Bool:=bX.all fun j=>match ops[j]? with
 |some o=>o.after.any fun e=>Region.binds .any e&&e.on==i
 |none=>true
section
variable {P:Program}{main:Bool}{J:Goroutine->aa->Prop}{ops:Array Oper}{Q:Act->aa->Prop}{S:aa->Prop}{bX:List Nat}
def er (P:Program)(J:Goroutine->aa->Prop)(ops:Array Oper)(Q:Act->aa->Prop)(S:aa->Prop)(bX:List Nat):Nat->Array Bool->Act->aa->Prop
 |0,listed,a,F=>Region.ready .any ops listed=[]/\Q a F
 |fuel+1,listed,a,F=>(Region.ready .any ops listed=[]->Q a F)/\
  ∀i∈Region.ready .any ops listed,dQ P J ops i (fun b F'=>(¬i∈bX->S F->S F')/\er P J ops Q S bX fuel (listed.setIfInBounds i true) b F') a F
theorem G0:∀(fuel t:Nat) (listed:Array Bool) (a:Act) (F:aa),er P J ops Q S bX fuel listed a F->
  gd P J ops Q (Region.linearise.go .any ops fuel t listed []) a F:=by
 intro fuel
 induction fuel with
 |zero=>intro t listed a F h;simpa [Region.linearise.go,gd] using h.2
 |succ fuel ih=>
  intro t listed a F h
  obtain ⟨b,c⟩:=h
  simp only[Region.linearise.go]
  change gd P J ops Q (match (Region.ready .any ops listed)[t % (Region.ready .any ops listed).length]? with
   |some i=>Region.linearise.go .any ops fuel (t/(Region.ready .any ops listed).length) (listed.setIfInBounds i true) [i]
   |none=>[].reverse) a F
  cases hi:(Region.ready .any ops listed)[t % (Region.ready .any ops listed).length]? with
  |none=>
   have d:Region.ready .any ops listed=[]:=by
    cases e:Region.ready .any ops listed with
    |nil=>rfl
    |cons x xs=>
     rw[e] at hi
     have f:t % (x::xs).length<(x::xs).length:=Nat.mod_lt _ (by simp)
     simp at hi
     simp at f
     omega
   simpa [gd] using b d
  |some i=>
   simp only[]
   rw[linearise_go_acc,List.reverse_singleton,List.singleton_append]
   exact qp (fun a F h=>ih _ _ a F h.2) (c i (List.mem_of_getElem? hi))
theorem G1 {i:Nat}{g:Oper}{v:Value}(hi:ops[i]?=some g)(l:qR ops bX i=true)(s:∀(j:Nat) (o:Oper) cs b,ops[j]?=some o->o.op≠ .select cs b):
  ∀(fuel:Nat) (listed:Array Bool) (a:Act) (F:aa),
   (∀j d,ops[j]?=some d->j≠i->listed.getD j true=false->(∀e∈d.after,Region.binds .any e=true->e.on≠i)->g.apart ops d=true)->
   i∈Region.ready .any ops listed->fR P J ops S g v a->S F->
   er P J ops Q S bX fuel (listed.setIfInBounds i true) (a.put g.dst v) F->er P J ops Q S bX (fuel+1) listed a F:=by
 intro fuel
 induction fuel with
 |zero=>
  intro listed a F _ f m n H
  refine ⟨fun h=>(by rw[h] at f;cases f),fun j p=>?_⟩
  by_cases c:j=i
  .subst c;exact m.ov hi n ⟨fun _ h=>h,H⟩
  .have:=ready_mono p c
   rw[H.1] at this
   cases this
 |succ fuel ih=>
  intro listed a F t f m n H
  refine ⟨fun h=>(by rw[h] at f;cases f),fun j p=>?_⟩
  by_cases c:j=i
  .subst c;exact m.ov hi n ⟨fun _ h=>h,H⟩
  .have h1:=H.2 j (ready_mono p c)
   obtain ⟨u,d,q,A⟩:=mem_ready.1 p
   have w:∀e∈d.after,Region.binds .any e=true->e.on≠i:=fun e he hb heq=>by
    have h1:=A e he hb
    have h0:=(mem_ready.1 f).1
    rw[heq] at h1
    rcases Nat.lt_or_ge i listed.size with r|r
    .simp[r] at h0 h1;rw[h0] at h1;cases h1
    .simp[Array.getElem?_eq_none r] at h1
   have B:¬j∈bX:=fun e=>by
    have l:=List.all_eq_true.1 l j e
    simp only[q,Array.any_eq_true,Bool.and_eq_true,beq_iff_eq] at l
    obtain ⟨x,C,h1,h2⟩:=l
    exact w _ (Array.getElem_mem C) h1 h2
   have h2:=wm q (t j d q c u w) (fun cs b=>s i g cs b hi) (fun cs b=>s j d cs b q) m h1
   have D:∀k ok,ops[k]?=some ok->k≠i->(listed.setIfInBounds j true).getD k true=false->
     (∀e∈ok.after,Region.binds .any e=true->e.on≠i)->g.apart ops ok=true:=fun k ok E G y I=>by
    refine t k ok E G ?_ I
    by_cases z:j=k
    .subst z;exact u
    .rw[getD_set_ne true z] at y;exact y
   refine qp (fun K F' h3=>⟨h3.2.1,ih (listed.setIfInBounds j true) K F' D (ready_mono f (Ne.symm c)) h3.1 (h3.2.1 B n) ?_⟩) h2
   rw[Array.setIfInBounds_comm _ _ c]
   exact h3.2.2
theorem G2 {i:Nat}{g:Oper}{v:Value}(hi:ops[i]?=some g)(q:∀(j:Nat) (o:Oper) cs b,ops[j]?=some o->o.op≠ .select cs b):
  ∀(fuel:Nat) (listed:Array Bool) (a:Act) (F:aa),
   (∀j d,ops[j]?=some d->j≠i->listed.getD j true=false->(∀e∈d.after,Region.binds .any e=true->e.on≠i)->g.apart ops d=true)->
   i∈Region.ready .any ops listed->fR P J ops (fun _=>True) g v a->
   er P J ops Q S bX fuel (listed.setIfInBounds i true) (a.put g.dst v) F->er P J ops Q S bX (fuel+1) listed a F:=by
 intro fuel
 induction fuel with
 |zero=>
  intro listed a F _ f l H
  refine ⟨fun h=>(by rw[h] at f;cases f),fun j m=>?_⟩
  by_cases c:j=i
  .subst c;exact l.ov hi trivial ⟨fun _ h=>h,H⟩
  .have:=ready_mono m c
   rw[H.1] at this
   cases this
 |succ fuel ih=>
  intro listed a F r f l H
  refine ⟨fun h=>(by rw[h] at f;cases f),fun j m=>?_⟩
  by_cases c:j=i
  .subst c;exact l.ov hi trivial ⟨fun _ h=>h,H⟩
  .have h1:=H.2 j (ready_mono m c)
   obtain ⟨s,d,n,w⟩:=mem_ready.1 m
   have x:∀e∈d.after,Region.binds .any e=true->e.on≠i:=fun e he hb heq=>by
    have h1:=w e he hb
    have h0:=(mem_ready.1 f).1
    rw[heq] at h1
    rcases Nat.lt_or_ge i listed.size with p|p
    .simp[p] at h0 h1;rw[h0] at h1;cases h1
    .simp[Array.getElem?_eq_none p] at h1
   have h2:=wm n (r j d n c s x) (fun cs b=>q i g cs b hi) (fun cs b=>q j d cs b n) l h1
   have y:∀k ok,ops[k]?=some ok->k≠i->(listed.setIfInBounds j true).getD k true=false->
     (∀e∈ok.after,Region.binds .any e=true->e.on≠i)->g.apart ops ok=true:=fun k ok z A t B=>by
    refine r k ok z A ?_ B
    by_cases u:j=k
    .subst u;exact s
    .rw[getD_set_ne true u] at t;exact t
   refine qp (fun C F' h3=>⟨h3.2.1,ih (listed.setIfInBounds j true) C F' y (ready_mono f (Ne.symm c)) h3.1 ?_⟩) h2
   rw[Array.setIfInBounds_comm _ _ c]
   exact h3.2.2
theorem BY (i:Nat){c:Oper}(v:Value){fuel:Nat}{listed:Array Bool}{a:Act}{F:aa}(hi:ops[i]?=some c)
  (b:(Region.noSelect ops&&Region.free .any ops listed i&&(Region.ready .any ops listed).contains i)=true)
  (d:qR ops bX i=true) (e:fR P J ops S c v a) (f:S F)
  (h:er P J ops Q S bX fuel (listed.setIfInBounds i true) (a.put c.dst v) F):er P J ops Q S bX (fuel+1) listed a F:=by
 simp only[Bool.and_eq_true] at b
 exact G1 hi d (Region.noSelect_spec b.1.1) fuel listed a F (Region.free_spec hi b.1.2) (by simpa using b.2) e f h
theorem xo {rs:List Nat}{fuel:Nat}{listed:Array Bool}{a:Act}{F:aa}(b:Region.ready .any ops listed=rs)(aG:rs≠[])
  (h:∀i∈rs,dQ P J ops i (fun c F'=>(¬i∈bX->S F->S F')/\er P J ops Q S bX fuel (listed.setIfInBounds i true) c F') a F):er P J ops Q S bX (fuel+1) listed a F:=
 ⟨fun h0=>absurd (b▸h0) aG,b▸h⟩
theorem BZ (i:Nat){fuel:Nat}{listed:Array Bool}{a:Act}{F:aa}(b:Region.ready .any ops listed=[i])
  (h:dQ P J ops i (fun c F'=>(¬i∈bX->S F->S F')/\er P J ops Q S bX fuel (listed.setIfInBounds i true) c F') a F):er P J ops Q S bX (fuel+1) listed a F:=
 xo b (by simp) (by simpa using h)
theorem B1 {listed:Array Bool}{a:Act}{F:aa}(b:Region.ready .any ops listed=[])(h:Q a F):∀fuel,er P J ops Q S bX fuel listed a F
 |0=>⟨b,h⟩
 |_+1=>⟨fun _=>h,by rw[b];simp⟩
end
theorem xp {P:Program}{J:Goroutine->aa->Prop}{ops:Array Oper}{Q:Act->aa->Prop}{S:aa->Prop}{bX:List Nat}(i:Nat){b:Oper}(v:Value){fuel:Nat}{listed:Array Bool}{a:Act}{F:aa}(hi:ops[i]?=some b)
  (d:(Region.noSelect ops&&Region.free .any ops listed i&&(Region.ready .any ops listed).contains i)=true)
  (e:qR ops bX i=true) (hg:cD ops b a=some true) (f:∀F R,S F->R v F->cN P J b R a F) (c:S F)
  (h:er P J ops Q S bX fuel (listed.setIfInBounds i true) (bf a b.dst v) F):er P J ops Q S bX (fuel+1) listed a F:=
 BY i v hi d e (.inl ⟨cg hg,fun F R c g=>lR (f F R c g)⟩) c h
theorem G3 {P:Program}{J:Goroutine->aa->Prop}{ops:Array Oper}{Q:Act->aa->Prop}{S:aa->Prop}{bX:List Nat}(i:Nat){b:Oper}{fuel:Nat}{listed:Array Bool}{a:Act}{F:aa}(hi:ops[i]?=some b)
  (c:(Region.noSelect ops&&Region.free .any ops listed i&&(Region.ready .any ops listed).contains i)=true)
  (d:qR ops bX i=true) (hg:cD ops b a=some false) (e:S F)
  (h:er P J ops Q S bX fuel (listed.setIfInBounds i true) (bf a b.dst undef) F):er P J ops Q S bX (fuel+1) listed a F:=
 BY i undef hi c d (.inr ⟨cg hg,rfl⟩) e h
theorem B2 {P:Program}{J:Goroutine->aa->Prop}{ops:Array Oper}{Q:Act->aa->Prop}{S:aa->Prop}{bX:List Nat}(i:Nat){c:Oper}(v:Value){fuel:Nat}{listed:Array Bool}{a:Act}{F:aa}(hi:ops[i]?=some c)
  (b:(Region.noSelect ops&&Region.free .any ops listed i&&(Region.ready .any ops listed).contains i)=true)
  (d:fR P J ops (fun _=>True) c v a)
  (h:er P J ops Q S bX fuel (listed.setIfInBounds i true) (bf a c.dst v) F):er P J ops Q S bX (fuel+1) listed a F:=by
 simp only[Bool.and_eq_true] at b
 exact G2 hi (Region.noSelect_spec b.1.1) fuel listed a F (Region.free_spec hi b.1.2) (by simpa using b.2) d h
inductive cm where
 |done
 |rd (i:Nat) (p:cm)
 |one (i:Nat) (p:cm)
 |two (i:Nat) (p:cm) (j:Nat) (q:cm)
 |three (i:Nat) (p:cm) (j:Nat) (q:cm) (k:Nat) (r:cm)
 |last (i:Nat) (p:cm)
 |pure (i:Nat) (p:cm)
inductive fZ where
 |done
 |rd (o:Oper) (p:fZ)
 |one (o:Oper) (p:fZ)
 |two (o:Oper) (p:fZ) (o':Oper) (q:fZ)
 |three (o:Oper) (p:fZ) (o':Oper) (q:fZ) (ki:Oper) (r:fZ)
 |last (o:Oper) (p:fZ)
 |pure (o:Oper) (p:fZ)
 |bad
def cm.opers (ops:Array Oper):cm->fZ
 | .done=>.done
 | .rd i p=>match ops[i]? with
  |some o=>.rd o (p.opers ops)
  |none=>.bad
 | .one i p=>match ops[i]? with
  |some o=>.one o (p.opers ops)
  |none=>.bad
 | .two i p j q=>match ops[i]?,ops[j]? with
  |some o,some o'=>.two o (p.opers ops) o' (q.opers ops)
  |_,_=>.bad
 | .three i p j q k r=>match ops[i]?,ops[j]?,ops[k]? with
  |some o,some o',some ki=>.three o (p.opers ops) o' (q.opers ops) ki (r.opers ops)
  |_,_,_=>.bad
 | .last i p=>match ops[i]? with
  |some o=>.last o (p.opers ops)
  |none=>.bad
 | .pure i p=>match ops[i]? with
  |some o=>.pure o (p.opers ops)
  |none=>.bad
def cm.tl:cm->Bool
 | .done=>true
 | .last _ p=>p.tl
 | .pure _ p=>p.tl
 |_=>false
def cm.ok (ops:Array Oper)(bX:List Nat):cm->Array Bool->Bool
 | .done,L=>decide (Region.ready .any ops L=[])
 | .rd i p,L=>Region.free .any ops L i&&(Region.ready .any ops L).contains i&&(ops[i]?).isSome&&qR ops bX i&&p.ok ops bX (L.setIfInBounds i true)
 | .one i p,L=>decide (Region.ready .any ops L=[i])&&(ops[i]?).isSome&&p.ok ops bX (L.setIfInBounds i true)
 | .two i p j q,L=>decide (Region.ready .any ops L=[i,j])&&(ops[i]?).isSome&&(ops[j]?).isSome&&p.ok ops bX (L.setIfInBounds i true)&&q.ok ops bX (L.setIfInBounds j true)
 | .three i p j q k r,L=>decide (Region.ready .any ops L=[i,j,k])&&(ops[i]?).isSome&&(ops[j]?).isSome&&(ops[k]?).isSome&&p.ok ops bX (L.setIfInBounds i true)&&q.ok ops bX (L.setIfInBounds j true)&&r.ok ops bX (L.setIfInBounds k true)
 | .pure i p,L=>Region.free .any ops L i&&(Region.ready .any ops L).contains i&&(ops[i]?).isSome&&p.ok ops bX (L.setIfInBounds i true)
 | .last i p,L=>bX.contains i&&decide (Region.ready .any ops L=[i])&&p.tl&&(ops[i]?).isSome&&p.ok ops bX (L.setIfInBounds i true)
def cm.len:cm->Nat
 | .done=>0
 | .rd _ p=>p.len+1
 | .one _ p=>p.len+1
 | .two _ p _ q=>max p.len q.len+1
 | .three _ p _ q _ r=>max p.len (max q.len r.len)+1
 | .last _ p=>p.len+1
 | .pure _ p=>p.len+1
def cc (P:Program)(J:Goroutine->aa->Prop)(ops:Array Oper)(F0:aa)(Q:Act->aa->Prop):fZ->Bool->Act->aa->Prop
 | .done,_,a,F=>Q a F
 | .bad,_,_,_=>False
 | .rd o p,_,a,F=>match cD ops o a with
  |some false=>cc P J ops F0 Q p true (bf a o.dst undef) F
  |some true=>match o.op with
   | .load t x=>match ev a x with
    | .pointer (some ad)=>match fC P F0 t ad with
     |some v=>cc P J ops F0 Q p true (bf a o.dst v) F
     |none=>False
    |_=>False
   | .call {callee:=.value x,args, ..}=>match ev a x with
    | .func (.func fn) first captured=>aH P fn=true/\∃v,Plain P J F0 fn (first++args.map (ev a)++captured) v/\cc P J ops F0 Q p false (bf a o.dst v) F
    |_=>False
   |_=>match jz P o a with
    |some v=>cc P J ops F0 Q p true (bf a o.dst v) F
    |none=>False
  |none=>False
 | .one o p,_,a,F=>match cD ops o a with
  |some true=>cN P J o (fun v F'=>Knows F0 F'/\cc P J ops F0 Q p (!Oper.calls o) (bf a o.dst v) F') a F
  |some false=>cc P J ops F0 Q p true (bf a o.dst undef) F
  |none=>False
 | .two o p o' q,_,a,F=>(match cD ops o a with
  |some true=>cN P J o (fun v F'=>Knows F0 F'/\cc P J ops F0 Q p (!Oper.calls o) (bf a o.dst v) F') a F
  |some false=>cc P J ops F0 Q p true (bf a o.dst undef) F
  |none=>False)/\(match cD ops o' a with
  |some true=>cN P J o' (fun v F'=>Knows F0 F'/\cc P J ops F0 Q q (!Oper.calls o') (bf a o'.dst v) F') a F
  |some false=>cc P J ops F0 Q q true (bf a o'.dst undef) F
  |none=>False)
 | .three o p o' q ki r,_,a,F=>(match cD ops o a with
  |some true=>cN P J o (fun v F'=>Knows F0 F'/\cc P J ops F0 Q p (!Oper.calls o) (bf a o.dst v) F') a F
  |some false=>cc P J ops F0 Q p true (bf a o.dst undef) F
  |none=>False)/\(match cD ops o' a with
  |some true=>cN P J o' (fun v F'=>Knows F0 F'/\cc P J ops F0 Q q (!Oper.calls o') (bf a o'.dst v) F') a F
  |some false=>cc P J ops F0 Q q true (bf a o'.dst undef) F
  |none=>False)/\(match cD ops ki a with
  |some true=>cN P J ki (fun v F'=>Knows F0 F'/\cc P J ops F0 Q r (!Oper.calls ki) (bf a ki.dst v) F') a F
  |some false=>cc P J ops F0 Q r true (bf a ki.dst undef) F
  |none=>False)
 | .pure o p,_,a,F=>match cD ops o a with
  |some false=>cc P J ops F0 Q p true (bf a o.dst undef) F
  |some true=>match jz P o a with
   |some v=>cc P J ops F0 Q p true (bf a o.dst v) F
   |none=>False
  |none=>False
 | .last o p,_,a,F=>match cD ops o a with
  |some true=>cN P J o (fun v F'=>cc P J ops F0 Q p (!Oper.calls o) (bf a o.dst v) F') a F
  |_=>False
section
variable {P:Program}{main:Bool}{J:Goroutine->aa->Prop}{ops:Array Oper}{Q:Act->aa->Prop}{F0:aa}{bX:List Nat}
theorem oH {p:cm}{i:Nat}{o:Oper}{fuel:Nat}{L:Array Bool}{a:Act}{F:aa}(b:ops[i]?=some o)(c:Knows F0 F)
  (ih:∀go a F,Knows F0 F->cc P J ops F0 Q (p.opers ops) go a F->er P J ops Q (Knows F0) bX fuel (L.setIfInBounds i true) a F)
  (h:match cD ops o a with
   |some true=>cN P J o (fun v F'=>Knows F0 F'/\cc P J ops F0 Q (p.opers ops) (!Oper.calls o) (bf a o.dst v) F') a F
   |some false=>cc P J ops F0 Q (p.opers ops) true (bf a o.dst undef) F
   |none=>False):dQ P J ops i (fun d F'=>(¬i∈bX->Knows F0 F->Knows F0 F')/\er P J ops Q (Knows F0) bX fuel (L.setIfInBounds i true) d F') a F:=by
 split at h
 .rename_i hg
  unfold dQ
  simp only[b]
  rw[if_pos (cg hg)]
  refine lR (mX.s7 ?_ h)
  rintro v F' ⟨h1,h2⟩
  exact ⟨fun _ _=>h1,ih _ _ F' h1 h2⟩
 .rename_i hg
  unfold dQ
  simp only[b]
  rw[if_neg (by rw[cg hg];exact Bool.false_ne_true)]
  exact ⟨fun _ e=>e,ih _ _ F c h⟩
 .exact h.elim
theorem B3 {p:cm}{i:Nat}{fuel:Nat}{L:Array Bool}{go:Bool}{a:Act}{F:aa}(e:Region.noSelect ops=true)(c:(cm.pure i p).ok ops bX L=true)
  (ih:∀go v a,p.ok ops bX (L.setIfInBounds i true)=true->cc P J ops F0 Q (p.opers ops) go (bf a ((ops[i]?).bind (·.dst)) v) F->er P J ops Q (Knows F0) bX fuel (L.setIfInBounds i true) (bf a ((ops[i]?).bind (·.dst)) v) F)
  (h:cc P J ops F0 Q ((cm.pure i p).opers ops) go a F):er P J ops Q (Knows F0) bX (fuel+1) L a F:=by
 simp only[cm.ok,Bool.and_eq_true] at c
 obtain ⟨⟨⟨c1,c2⟩,c3⟩,c4⟩:=c
 obtain ⟨o,b⟩:=Option.isSome_iff_exists.1 c3
 have d:(Region.noSelect ops&&Region.free .any ops L i&&(Region.ready .any ops L).contains i)=true:=by rw[e,c1,c2];rfl
 have f:cm.opers ops (.pure i p)= .pure o (p.opers ops):=by simp only[cm.opers,b]
 rw[f] at h
 have hd:(ops[i]?).bind (·.dst)=o.dst:=by rw[b];rfl
 rw[hd] at ih
 unfold cc at h
 split at h
 .rename_i hg
  exact B2 i undef b d (.inr ⟨cg hg,rfl⟩) (ih _ _ _ c4 h)
 .rename_i hg
  split at h
  .rename_i v g
   exact B2 i v b d (.inl ⟨cg hg,fun F R _ j=>lR (s4 g j)⟩) (ih _ _ _ c4 h)
  .exact h.elim
 .exact h.elim
theorem xq (d:Region.noSelect ops=true):∀(p:cm) (fuel:Nat) (L:Array Bool) (go:Bool) (a:Act) (F:aa),p.tl=true->p.len<=fuel->p.ok ops bX L=true->cc P J ops F0 Q (p.opers ops) go a F->er P J ops Q (Knows F0) bX fuel L a F
 | .done,fuel,L,go,a,F,_,c,b,h=>by
  simp only[cm.ok,decide_eq_true_eq] at b
  unfold cm.opers cc at h
  exact B1 b h _
 | .last i p,fuel,L,go,a,F,ht,c,b,h=>by
  simp only[cm.ok,Bool.and_eq_true,decide_eq_true_eq] at b
  obtain ⟨⟨⟨⟨c1,c2⟩,c3⟩,c4⟩,g⟩:=b
  obtain ⟨o,e⟩:=Option.isSome_iff_exists.1 c4
  have j:cm.opers ops (.last i p)= .last o (p.opers ops):=by simp only[cm.opers,e]
  rw[j] at h
  simp only[cm.len] at c
  obtain ⟨fuel,rfl⟩:∃f,fuel=f+1:=⟨fuel - 1,by omega⟩
  unfold cc at h
  refine BZ i c2 ?_
  split at h
  .rename_i hg
   unfold dQ
   simp only[e]
   rw[if_pos (cg hg)]
   refine lR (mX.s7 ?_ h)
   exact fun v F' k=>⟨fun aG _=>absurd (by simpa using c1) aG,xq d p fuel _ _ _ F' c3 (by omega) g k⟩
  .exact h.elim
 | .pure i p,fuel,L,go,a,F,ht,c,b,h=>by
  simp only[cm.len] at c
  obtain ⟨fuel,rfl⟩:∃f,fuel=f+1:=⟨fuel - 1,by omega⟩
  exact B3 d b (fun go v a c4 l=>xq d p fuel _ go _ F ht (by omega) c4 l) h
 | .rd _ _,_,_,_,_,_,ht,_,_,_=>by cases ht
 | .one _ _,_,_,_,_,_,ht,_,_,_=>by cases ht
 | .two ..,_,_,_,_,_,ht,_,_,_=>by cases ht
 | .three ..,_,_,_,_,_,ht,_,_,_=>by cases ht
theorem k3 (g:Region.noSelect ops=true):∀(p:cm) (fuel:Nat) (L:Array Bool) (go:Bool) (a:Act) (F:aa),Knows F0 F->p.len<=fuel->p.ok ops bX L=true->cc P J ops F0 Q (p.opers ops) go a F->er P J ops Q (Knows F0) bX fuel L a F
 | .done,fuel,L,go,a,F,b,e,c,h=>by
  simp only[cm.ok,decide_eq_true_eq] at c
  unfold cm.opers cc at h
  exact B1 c h _
 | .rd i p,fuel,L,go,a,F,b,e,c,h=>by
  simp only[cm.ok,Bool.and_eq_true] at c
  obtain ⟨⟨⟨⟨c1,c2⟩,c3⟩,l⟩,c4⟩:=c
  obtain ⟨o,d⟩:=Option.isSome_iff_exists.1 c3
  have y:(Region.noSelect ops&&Region.free .any ops L i&&(Region.ready .any ops L).contains i)=true:=by rw[g,c1,c2];rfl
  have m:cm.opers ops (.rd i p)= .rd o (p.opers ops):=by simp only[cm.opers,d]
  rw[m] at h
  simp only[cm.len] at e
  obtain ⟨fuel,rfl⟩:∃f,fuel=f+1:=⟨fuel - 1,by omega⟩
  have next:∀go v,cc P J ops F0 Q (p.opers ops) go (bf a o.dst v) F->er P J ops Q (Knows F0) bX fuel (L.setIfInBounds i true) (bf a o.dst v) F:=fun go v n=>
   k3 g p fuel _ go _ F b (by omega) c4 n
  unfold cc at h
  split at h
  .rename_i hg
   exact G3 i d y l hg b (next true undef h)
  .rename_i hg
   split at h
   .rename_i t x A
    split at h
    case h_2=>exact h.elim
    rename_i ad C
    split at h
    case h_2=>exact h.elim
    rename_i v n
    refine xp i v d y l hg (fun F R z u=>?_) b (next _ v h)
    unfold cN
    simp only[A,C,z.fC n]
    exact u
   .rename_i x args argTypes A
    split at h
    case h_2=>exact h.elim
    rename_i fn first captured s
    obtain ⟨D,v,E,h⟩:=h
    refine xp i v d y l hg (fun F R z u=>?_) b (next _ v h)
    unfold cN
    simp only[A,s]
    exact ⟨D,(E F z).mono fun K F' G=>by obtain ⟨rfl,rfl⟩:=G;exact u⟩
   .split at h
    case h_2=>exact h.elim
    rename_i v n
    exact xp i v d y l hg (fun F R z u=>s4 n u) b (next _ v h)
  .exact h.elim
 | .one i p,fuel,L,go,a,F,b,e,c,h=>by
  simp only[cm.ok,Bool.and_eq_true,decide_eq_true_eq] at c
  obtain ⟨⟨c1,c3⟩,c4⟩:=c
  obtain ⟨o,d⟩:=Option.isSome_iff_exists.1 c3
  have m:cm.opers ops (.one i p)= .one o (p.opers ops):=by simp only[cm.opers,d]
  rw[m] at h
  simp only[cm.len] at e
  obtain ⟨fuel,rfl⟩:∃f,fuel=f+1:=⟨fuel - 1,by omega⟩
  unfold cc at h
  exact BZ i c1 (oH d b (fun go a F b h=>k3 g p fuel _ go a F b (by omega) c4 h) h)
 | .two i p j q,fuel,L,go,a,F,b,e,c,h=>by
  simp only[cm.ok,Bool.and_eq_true,decide_eq_true_eq] at c
  obtain ⟨⟨⟨⟨c1,c2⟩,c3⟩,c4⟩,l⟩:=c
  obtain ⟨o,d⟩:=Option.isSome_iff_exists.1 c2
  obtain ⟨o',w⟩:=Option.isSome_iff_exists.1 c3
  have m:cm.opers ops (.two i p j q)= .two o (p.opers ops) o' (q.opers ops):=by simp only[cm.opers,d,w]
  rw[m] at h
  simp only[cm.len] at e
  obtain ⟨fuel,rfl⟩:∃f,fuel=f+1:=⟨fuel - 1,by omega⟩
  unfold cc at h
  refine xo c1 (by simp) fun x s=>?_
  simp only[List.mem_cons,List.not_mem_nil,or_false] at s
  rcases s with rfl|rfl
  .exact oH d b (fun go a F b h=>k3 g p fuel _ go a F b (by omega) c4 h) h.1
  .exact oH w b (fun go a F b h=>k3 g q fuel _ go a F b (by omega) l h) h.2
 | .three i p j q k r,fuel,L,go,a,F,b,e,c,h=>by
  simp only[cm.ok,Bool.and_eq_true,decide_eq_true_eq] at c
  obtain ⟨⟨⟨⟨⟨⟨c1,c2⟩,c3⟩,c4⟩,l⟩,H⟩,I⟩:=c
  obtain ⟨o,d⟩:=Option.isSome_iff_exists.1 c2
  obtain ⟨o',w⟩:=Option.isSome_iff_exists.1 c3
  obtain ⟨ki,B⟩:=Option.isSome_iff_exists.1 c4
  have m:cm.opers ops (.three i p j q k r)= .three o (p.opers ops) o' (q.opers ops) ki (r.opers ops):=by simp only[cm.opers,d,w,B]
  rw[m] at h
  simp only[cm.len] at e
  obtain ⟨fuel,rfl⟩:∃f,fuel=f+1:=⟨fuel - 1,by omega⟩
  unfold cc at h
  refine xo c1 (by simp) fun x s=>?_
  simp only[List.mem_cons,List.not_mem_nil,or_false] at s
  rcases s with rfl|rfl|rfl
  .exact oH d b (fun go a F b h=>k3 g p fuel _ go a F b (by omega) l h) h.1
  .exact oH w b (fun go a F b h=>k3 g q fuel _ go a F b (by omega) H h) h.2.1
  .exact oH B b (fun go a F b h=>k3 g r fuel _ go a F b (by omega) I h) h.2.2
 | .last i p,fuel,L,go,a,F,b,e,c,h=>xq g (.last i p) fuel L go a F (by simp only[cm.ok,Bool.and_eq_true] at c;exact c.1.1.2) e c h
 | .pure i p,fuel,L,go,a,F,b,e,c,h=>by
  simp only[cm.len] at e
  obtain ⟨fuel,rfl⟩:∃f,fuel=f+1:=⟨fuel - 1,by omega⟩
  exact B3 g c (fun go v a c4 n=>k3 g p fuel _ go _ F b (by omega) c4 n) h
theorem eI {Q:Ex->Act->aa->Prop}(hJ:Closed P main J)(d:P.follows .mixedOrders=true)(bX:List Nat)(p:cm){id:Nat}{a:Act}{F:aa}(F0:aa)(e:Knows F0 F)
  (c:(Region.noSelect ops&&decide (p.len<=ops.size)&&p.ok ops bX (Array.replicate ops.size false))=true)
  (h:cc P J ops F0 (Q .normal) (p.opers ops) true a F):Wp J (.region id ops true) Q a F:=by
 simp only[Bool.and_eq_true,decide_eq_true_eq] at c
 obtain ⟨⟨h1,h2⟩,h3⟩:=c
 intro b k cs hb f
 refine hJ.step fun w hw=>?_
 refine ⟨_,_,_,F,AG,.drawn _ _ _,hw.drawn _,by simp,?_⟩
 refine sH (K:=Q .normal) hJ (wv hb) (fun g F' i=>f .normal g F' i) _ _ _ ?_
 simp only[Region.schedule,d,Bool.true_or,if_true]
 exact G0 ops.size _ _ a F (k3 (bX:=bX) h1 p ops.size _ true a F e h2 h3 h)
end
theorem G4 {P:Program}{J:Goroutine->aa->Prop}{ops:Array Oper}{F0:aa}{Q:Act->aa->Prop}{go:Bool}{a:Act}{F:aa}:cc P J ops F0 Q .done go a F=Q a F:=rfl
theorem G5 {P:Program}{J:Goroutine->aa->Prop}{ops:Array Oper}{F0:aa}{Q:Act->aa->Prop}{o:Oper}{p:fZ}{a:Act}{F:aa}:cc P J ops F0 Q (.rd o p) true a F=match cD ops o a with
  |some false=>cc P J ops F0 Q p true (bf a o.dst undef) F
  |some true=>match o.op with
   | .load t x=>match ev a x with
    | .pointer (some ad)=>match fC P F0 t ad with
     |some v=>cc P J ops F0 Q p true (bf a o.dst v) F
     |none=>False
    |_=>False
   | .call {callee:=.value x,args, ..}=>match ev a x with
    | .func (.func fn) first captured=>aH P fn=true/\∃v,Plain P J F0 fn (first++args.map (ev a)++captured) v/\cc P J ops F0 Q p false (bf a o.dst v) F
    |_=>False
   |_=>match jz P o a with
    |some v=>cc P J ops F0 Q p true (bf a o.dst v) F
    |none=>False
  |none=>False:=(Eq.refl _).trans (Eq.refl _)
theorem B4 {P:Program}{J:Goroutine->aa->Prop}{ops:Array Oper}{F0:aa}{Q:Act->aa->Prop}{o:Oper}{p:fZ}{a:Act}{F:aa}:cc P J ops F0 Q (.one o p) true a F=match cD ops o a with
  |some true=>cN P J o (fun v F'=>Knows F0 F'/\cc P J ops F0 Q p (!Oper.calls o) (bf a o.dst v) F') a F
  |some false=>cc P J ops F0 Q p true (bf a o.dst undef) F
  |none=>False:=(Eq.refl _).trans (Eq.refl _)
theorem k4 {P:Program}{J:Goroutine->aa->Prop}{ops:Array Oper}{F0:aa}{Q:Act->aa->Prop}{o o':Oper}{p q:fZ}{go:Bool}{a:Act}{F:aa}(h1:cc P J ops F0 Q (.one o p) true a F)(h2:cc P J ops F0 Q (.one o' q) true a F):cc P J ops F0 Q (.two o p o' q) go a F:=by
 rw[B4] at h1 h2;unfold cc;exact ⟨h1,h2⟩
theorem G6 {P:Program}{J:Goroutine->aa->Prop}{ops:Array Oper}{F0:aa}{Q:Act->aa->Prop}{o:Oper}{p:fZ}{a:Act}{F:aa}:cc P J ops F0 Q (.last o p) true a F=match cD ops o a with
  |some true=>cN P J o (fun v F'=>cc P J ops F0 Q p (!Oper.calls o) (bf a o.dst v) F') a F
  |_=>False:=(Eq.refl _).trans (Eq.refl _)
theorem G7 {P:Program}{J:Goroutine->aa->Prop}{ops:Array Oper}{F0:aa}{Q:Act->aa->Prop}{o:Oper}{p:fZ}{a:Act}{F:aa}:cc P J ops F0 Q (.pure o p) true a F=match cD ops o a with
  |some false=>cc P J ops F0 Q p true (bf a o.dst undef) F
  |some true=>match jz P o a with
   |some v=>cc P J ops F0 Q p true (bf a o.dst v) F
   |none=>False
  |none=>False:=(Eq.refl _).trans (Eq.refl _)
theorem bV {P:Program}{J:Goroutine->aa->Prop}{ops:Array Oper}{F0:aa}{Q:Act->aa->Prop}:∀{p:fZ} {go:Bool} {a:Act} {F:aa},cc P J ops F0 Q p true a F->cc P J ops F0 Q p go a F
 | .done,_,_,_,h=>h
 | .bad,_,_,_,h=>h
 | .rd ..,_,_,_,h=>h
 | .one ..,_,_,_,h=>h
 | .two ..,_,_,_,h=>h
 | .three ..,_,_,_,h=>h
 | .last ..,_,_,_,h=>h
 | .pure ..,_,_,_,h=>h
attribute [irreducible] cc
attribute [go_sem] G4 G5 B4 G6 G7 cm.opers
theorem e9 {ro aN:Addr->Option Value}{l:List (Nat×Obj)}(a:Ext ro aN)(b:aD aN l)(own:List (Nat×Obj)):Knows ⟨ro,l⟩ ⟨aN,own⟩=jy l own:=
 propext ⟨fun h=>h.2.2,Ga a b⟩
section
variable {P:Program}{main:Bool}{J:Goroutine->aa->Prop}{a:Act}{F:aa}
def m4 (l:Nat)(R:Value->aa->Prop)(st:LoopState)(jump:Option Code)(F:aa):Prop:=
 ∃lo,F.fj l=some (.loop lo)/\R (.bool jump.isNone) (F.put l (.loop {lo with state:=st,pending:=jump}))
def tq (l:Nat)(R:Value->aa->Prop):Ex->Act->aa->Prop
 | .normal,_,F=>m4 l R .ready none F
 | .exit id,_,F=>m4 l R .done (some (.exit id)) F
 | .ret,_,F=>m4 l R .done (some .ret) F
def qS (J:Goroutine->aa->Prop)(l:Nat)(body:Code)(R:Value->aa->Prop):Ex->Act->aa->Prop
 | .normal,a,F=>∃lo,F.fj l=some (.loop lo)/\lo.state= .ready/\Wp J body (tq l R) a (F.put l (.loop {lo with state:=.busy}))
 |_,_,_=>False
theorem xu {l:Nat}{R:Value->aa->Prop}{st:LoopState}{jump:Option Code}(a:st=if jump.isNone then .ready else .done)(h:m4 l R st jump F):aX P (Instr.endRound l jump) R F:=by
 obtain ⟨lo,h1,h2⟩:=h;simp only[Instr.endRound,Instr.getLoop,bx,ow];refine ⟨_,h1,?_⟩;simp only[bK,bx,mM,h1,Option.isSome_some,Obj.isChan,true_and];rw[a] at h2;exact h2
theorem xw (hJ:Closed P main J){l:Nat}{b:Frame}{a:Act}{todo:List Item}{jump:Option Code}{c:Frame}{cs:List Frame}(f:b.kind= .normal)
  (hs:∀w,stepG P main (G (on b a todo) (c::cs)) w=GStep.after (seen P b.fn ((Instr.endRound l jump).runT P w #[]).2) (match ((Instr.endRound l jump).runT P w #[]).1 with
    | .ok v w=>doReturn P main (on b a todo) (c::cs) none v w
    | .halt _ w=>.ended (.stuck "range over a function: no such loop" ((on b a todo).pos P)) w))
  (h:aX P (Instr.endRound l jump) (fun v F'=>J (G (c.finish v) cs) F') F):J (G (on b a todo) (c::cs)) F:=by
 refine hJ.step fun w hw=>?_
 obtain ⟨v,w',F',es,H⟩:=lP _ F w #[] h hw
 have d:=H.run
 rw[Array.empty_append] at d
 refine ⟨G (c.finish v) cs,w',seen P b.fn es,F',?_,H.upd,H.has,fun e he=>H.iO e (mem_seen he),H.post⟩
 rw[hs w,d]
 have g:(on b a todo).kind= .normal:=f
 simp only[doReturn,g,GStep.after,G]
 simp
theorem j4.of_wp (hJ:Closed P main J){l:Nat}{f:FuncId}{tmps:Array Value}{assign body:Code}{R:Value->aa->Prop}(hd:fT assign=true)(o:fT body=true)
  (h:Wp J assign (qS J l body R) {tmps:=tmps,defers:=[]} F):j4 J l f tmps assign body F R:=by
 intro c cs d
 let b:Frame:={(default:Frame) with fn:=f,kind:=.normal,roundOf:=some l}
 have he:Frame.round l f tmps assign body .normal=on b {tmps:=tmps,defers:=[]} (.code assign::[.beginRound,.code body]):=rfl
 rw[he]
 refine h b [.beginRound,.code body] (c::cs) ⟨by simp[b],.inr hd⟩ fun e j F' a=>?_
 cases e with
 |exit i=>exact a.elim
 |ret=>exact a.elim
 |normal=>
  obtain ⟨lo,h1,h2,h3⟩:=a
  show J (G (on b j [.beginRound,.code body]) (c::cs)) F'
  have p:aX P (do Instr.beginRound l;pure Next.skip:Sem Next) (fun n g=>n= .skip/\g=F'.put l (.loop {lo with state:=.busy})) F':=by
   simp only[Instr.beginRound,Instr.getLoop,bx,ow]
   refine ⟨_,h1,?_⟩
   simp only[bK,bx,mM,h1,Option.isSome_some,Obj.isChan,true_and,h2]
   all_goals first|trivial|exact ⟨rfl,rfl⟩
  refine hJ.step fun w hw=>?_
  obtain ⟨n,w',g,es,H⟩:=lP _ F' w #[] p hw
  have k:=H.run
  rw[Array.empty_append] at k
  obtain ⟨rfl,rfl⟩:=H.post
  refine ⟨G (on b j [.code body]) (c::cs),w',seen P b.fn es,_,?_,H.upd,H.has,fun e he=>H.iO e (mem_seen he),?_⟩
  .have q:b.roundOf=some l:=rfl
   simp only[G,stepG,stepG.exec,on,q,Option.elim,stepG.apply,if_true]
   have r:(b.kind==CallKind.early)=false:=rfl
   simp only[k,r,Bool.false_eq_true,if_false,GStep.after]
   simp[Frame.finish,undef]
  .refine h3 b [] (c::cs) ⟨by simp[b],.inr o⟩ fun e a2 g a=>?_
   cases e with
   |normal=>
    refine xw hJ (l:=l) (jump:=none) rfl (fun w=>?_) (xu rfl (R:=fun v F'=>J (G (c.finish v) cs) F') ?_)
    .simp only[G,stepG,stepG.exec,on]
     rfl
    .obtain ⟨lo,h1,h2⟩:=a
     exact ⟨lo,h1,d _ _ h2⟩
   |exit i=>
    intro m s
    refine xw hJ (l:=l) (jump:=some (.exit i)) rfl (fun w=>?_) (xu rfl (R:=fun v F'=>J (G (c.finish v) cs) F') ?_)
    .have t:exitTo i m=none:=s
     simp only[G,stepG,stepG.exec,on,t,Option.elim]
     rfl
    .obtain ⟨lo,h1,h2⟩:=a
     exact ⟨lo,h1,d _ _ h2⟩
   |ret=>
    intro m
    refine xw hJ (l:=l) (jump:=some .ret) rfl (fun w=>?_) (xu rfl (R:=fun v F'=>J (G (c.finish v) cs) F') ?_)
    .simp only[G,stepG,stepG.exec,on]
     rfl
    .obtain ⟨lo,h1,h2⟩:=a
     exact ⟨lo,h1,d _ _ h2⟩
def tr (Q:Ex->Act->aa->Prop)(a:Act)(F:aa):Option Code->Prop
 |none=>Q .normal a F
 |some (.exit id)=>Q (.exit id) a F
 |some .ret=>Q .ret a F
 |_=>False
def oI (b:FuncId)(a:Act)(params:Array Tmp)(assign body:Code)(d:Nat):Loop:={state:=.ready,pending:=none,fn:=b,tmps:=a.tmps,params:=params,assign:=assign,body:=body,defers:=d}
theorem G8 (hJ:Closed P main J){x:Operand}{params:Array Tmp}{assign body:Code}{Q:Ex->Act->aa->Prop}{fn:FuncId}{first captured:Array Value}
  (E:ev a x= .func (.func fn) first captured) (I:aH P fn=true)
  (L:∀M d l,eg F d->eg (F.push d (.deferred (some []))) l->
   cY P J fn (first++#[.func (.yield l) #[] #[]]++captured) ((F.push d (.deferred (some []))).push l (.loop (oI M a params assign body d)))
    (fun _ F'=>∃lo,F'.fj l=some (.loop lo)/\lo.state≠ .busy/\tr Q {a with defers:=⟨.collected d,#[]⟩::a.defers} (F'.put l (.loop {lo with state:=.exhausted})) lo.pending)):
  Wp J (.rangeFunc x params assign body) Q a F:=by
 intro b k cs hb p
 have t:b.roundOf=none:=hb.round.elim id fun h=>by simp[fT] at h
 obtain ⟨u,N,O,R,S,q,a0⟩:=b
 simp only at t
 subst t
 let b:Frame:=⟨u,N,O,R,S,q,none⟩
 have T:a.eval x= .func (.func fn) first captured:=E
 have i:=I
 unfold aH at i
 split at i
 case h_2=>cases i
 rename_i a2 U
 simp only[Bool.not_eq_true',Bool.or_eq_false_iff] at i
 let K:Nat×List Deferred->aa->Prop:=fun r F'=>∃d l,r=(l,[⟨.collected d,#[]⟩])/\eg F d/\eg (F.push d (.deferred (some []))) l/\F'=(F.push d (.deferred (some []))).push l (.loop (oI b.fn a params assign body d))
 have h1:aX P (Instr.enterLoop b.fn a.tmps params assign body none) K F:=by
  simp only[Instr.enterLoop,bx,qs,bK]
  exact ⟨rfl,fun d hd=>⟨rfl,fun l s=>⟨d,l,rfl,hd,s,rfl⟩⟩⟩
 refine hJ.step fun w hw=>?_
 obtain ⟨r,w1,a3,z,H1⟩:=lP _ F w #[] h1 hw
 have A:=H1.run
 rw[Array.empty_append] at A
 obtain ⟨d,l,rfl,hd,s,rfl⟩:=H1.post
 let fr':Frame:={on b a (.inRangeFunc l::k) with defers:=[⟨.collected d,#[]⟩]++a.defers}
 have V:fr'=on b {a with defers:=⟨.collected d,#[]⟩::a.defers} (.inRangeFunc l::k):=rfl
 have W:fr'.eval x= .func (.func fn) first captured:=by rw[V,v9];exact T
 have h2:aX P (do let m<-resolve fr'.eval {callee:=.value x,args:=#[.const (.func (.yield l) #[] #[])],argTypes:=#[]} 0;invoke m.target m.args:Sem Next)
   (fun n o=>n= .enter fn (first++#[.func (.yield l) #[] #[]]++captured)/\o=(F.push d (.deferred (some []))).push l (.loop (oI b.fn a params assign body d))) ((F.push d (.deferred (some []))).push l (.loop (oI b.fn a params assign body d))):=by
  have X:fr'.eval (.const (.func (.yield l) #[] #[]))= .func (.yield l) #[] #[]:=rfl
  simp only[resolve,W,Deferred.ofValue,bx,bK,invoke,callFunc,kS,U,i.1,i.2,Bool.false_eq_true,if_false,List.map_toArray,List.map_cons,List.map_nil,X]
  simp
 obtain ⟨n,w2,o,Y,g⟩:=lP _ _ w1 #[] h2 H1.has
 have B:=g.run
 rw[Array.empty_append] at B
 obtain ⟨rfl,rfl⟩:=g.post
 refine ⟨G (Frame.enter P fn (first++#[.func (.yield l) #[] #[]]++captured) .normal) (fr'::cs),w2,seen P b.fn z++seen P b.fn Y,_,?_,H1.upd.trans g.upd,g.has,fun e he=>?_,?_⟩
 .have Z:(q==CallKind.early)=false:=by have:=hb.kind;cases q<;>simp_all
  have hs:∀e:Array Event,stepG P main (G (on b a (.code (.rangeFunc x params assign body)::k)) cs) w=GStep.after (seen P u z) (stepG.apply P true fr' cs none (do let m<-resolve fr'.eval {callee:=.value x,args:=#[.const (.func (.yield l) #[] #[])],argTypes:=#[]} 0;invoke m.target m.args) w1):=fun _=>by
   simp only[G,stepG,stepG.exec,on,b]
   rw[A]
   rfl
  show stepG P main (G (on b a (.code (.rangeFunc x params assign body)::k)) cs) w=_
  rw[hs #[]]
  unfold stepG.apply
  simp only[if_true,B]
  have ab:(fr'.kind==CallKind.early)=false:=Z
  simp only[ab,Bool.false_eq_true,if_false,GStep.after]
  rfl
 .rcases Array.mem_append.1 he with h|h
  .refine (H1.iO e (mem_seen h)).mono (fun _ x=>x) fun b hb=>hb.imp id fun y=>⟨y.1,Nat.lt_of_lt_of_le y.2 g.upd.size⟩
  .refine (g.iO e (mem_seen h)).mono (fun a ad=>ad) fun b hb=>?_
   rcases hb with hb|hb
   .rcases H1.upd.own b hb with x|x
    .exact .inl x
    .exact .inr ⟨x,Nat.lt_of_lt_of_le (H1.has.lt hb) g.upd.size⟩
   .exact .inr ⟨Nat.le_trans H1.upd.size hb.1,hb.2⟩
 .refine L b.fn d l hd s fr' cs fun v F' ae=>?_
  obtain ⟨lo,C,al,f⟩:=ae
  have ao:fr'.finish v=on b {a with defers:=⟨.collected d,#[]⟩::a.defers} (.endRangeFunc l::k):=rfl
  rw[ao]
  have h3:aX P (Instr.endLoop l) (fun j o=>j=lo.pending/\o=F'.put l (.loop {lo with state:=.exhausted})) F':=by
   simp only[Instr.endLoop,Instr.getLoop,bx,ow]
   refine ⟨_,C,?_⟩
   have ar:¬(lo.state== .busy)=true:=by simpa using al
   simp only[bK,bx,mM,C,Option.isSome_some,Obj.isChan,true_and,dz,ar]
   all_goals first|trivial|exact ⟨rfl,rfl⟩
  refine hJ.step fun w hw=>?_
  obtain ⟨j,w',a4,es,H⟩:=lP _ F' w #[] h3 hw
  have D:=H.run
  rw[Array.empty_append] at D
  obtain ⟨rfl,rfl⟩:=H.post
  refine ⟨G (on b {a with defers:=⟨.collected d,#[]⟩::a.defers} ((lo.pending.map Item.code).toList++k)) cs,w',seen P b.fn es,_,?_,H.upd,H.has,fun e he=>H.iO e (mem_seen he),?_⟩
  .simp only[G,stepG,stepG.exec,on,D,GStep.after]
   simp
  .revert f
   cases lo.pending with
   |none=>exact fun f=>p .normal _ _ f
   |some c=>
    intro f
    cases c<;>simp only[tr] at f<;>first
     |exact f.elim
     |exact p (.exit _) _ _ f k rfl
     |exact p .ret _ _ f k
end
def fo {H σ:Type}(step:σ->H->Option (Bool×σ)):List (Option H)->σ->Option (Bool×σ)
 |[],s=>some (true,s)
 |none::_,_=>none
 |some x::l,s=>match step s x with
  |some (true,s')=>fo step l s'
  |some (false,s')=>some (false,s')
  |none=>none
theorem B5 {H σ:Type}(step:σ->H->Option (Bool×σ)):∀(l l':List (Option H)) (s:σ),fo step (l++l') s=match fo step l s with
  |some (true,s')=>fo step l' s'
  |some (false,s')=>some (false,s')
  |none=>none
 |[],l',s=>rfl
 |none::l,l',s=>rfl
 |some x::l,l',s=>by
  simp only[List.cons_append,fo]
  split<;>first|rfl|exact B5 step l l' _
def gJ {H σ ρ:Type}(f:H->σ->Option (Fl σ ρ)):List (Option H)->σ->Option (Fl σ ρ)
 |[],s=>some (.nx s)
 |none::_,_=>none
 |some x::l,s=>af (f x s) fun o=>match o with
  | .nx s'=>gJ f l s'
  | .bk s'=>some (.nx s')
  | .br k s'=>some (.br k s')
  | .rt _=>none
def xx {H σ:Type}(P:Program)(y:Value)(enc:H->Value)(step:σ->H->Option (Bool×σ))(ro:Addr->Option Value)(I:σ->List (Nat×Obj)->Prop):Prop:=
 ∀s x b s',step s x=some (b,s')->∀(main:Bool) (J:Goroutine->aa->Prop),Closed P main J->∀own,I s own->
  gZ P J y #[enc x] ⟨ro,own⟩ (fun v F'=>∃a,Le ⟨ro,a⟩ F'/\v= .bool b/\I s' a)
def m5 {H:Type}(P:Program)(f:FuncId)(first cap:Array Value)(enc:H->Value)(L:List (Option H))(ro:Addr->Option Value):Prop:=
 aH P f=true/\∀(aN:Addr->Option Value),Ext ro aN->∀(σ:Type) (step:σ->H->Option (Bool×σ)) (I:σ->List (Nat×Obj)->Prop) (a:Fn) (c d:Array Value),xx P (.func a c d) enc step aN I->
  ∀s b s',fo step L s=some (b,s')->∀(main:Bool) (J:Goroutine->aa->Prop),Closed P main J->∀own,I s own->
   cY P J f (first++#[.func a c d]++cap) ⟨aN,own⟩ (fun _ F'=>∃e,Le ⟨aN,e⟩ F'/\I s' e)
theorem m5.mono {H:Type}{P:Program}{f:FuncId}{first cap:Array Value}{enc:H->Value}{L:List (Option H)}{ro a:Addr->Option Value}(h:m5 P f first cap enc L ro)(b:Ext ro a):m5 P f first cap enc L a:=
 ⟨h.1,fun aN c=>h.2 aN (b.trans c)⟩
def tu:Nat:=1000000000
def m6 (k:Nat):Code:=if k=tu then .ret else .exit k
def xy (Q:Ex->Act->aa->Prop)(k:Nat):Act->aa->Prop:=if k=tu then Q .ret else Q (.exit k)
def B6 {σ ρ:Type}(b:Nat)(ro:Addr->Option Value)(l d:Nat)(S:σ->List (Nat×Obj)->Prop)(lo:Loop)(fl:Fl σ ρ)(v:Value)(F:aa):Prop:=
 ∃a,Le ⟨ro,(l,.loop {lo with state:=(match fl with| .nx _=>.ready|_=>.done),pending:=(match fl with| .nx _=>none| .bk _=>some (m6 b)| .br k _=>some (m6 k)| .rt _=>none)})::(d,.deferred (some []))::a⟩ F/\
  match fl with
  | .nx s'=>v= .bool true/\S s' a
  | .bk s'=>v= .bool false/\S s' a
  | .br _ s'=>v= .bool false/\S s' a
  | .rt _=>False
section
variable {P:Program}{main:Bool}{J:Goroutine->aa->Prop}{a:Act}
theorem B7 {H σ ρ:Type}{f:H->σ->Option (Fl σ ρ)}(a:Nat):∀(L:List (Option H)) (s:σ) (o:Fl σ ρ),gJ f L s=some o->
  ∃b s' pend,fo (σ:=σ×Option Nat) (fun st x=>match st with
   |(s,none)=>match f x s with
    |some (.nx s')=>some (true,(s',none))
    |some (.bk s')=>some (false,(s',some a))
    |some (.br k s')=>some (false,(s',some k))
    |_=>none
   |_=>none) L (s,none)=some (b,(s',pend))/\((o= .nx s'/\(pend=none\/pend=some a))\/∃k,o= .br k s'/\pend=some k)
 |[],s,o,h=>by
  cases h
  exact ⟨true,s,none,rfl,.inl ⟨rfl,.inl rfl⟩⟩
 |none::L,s,o,h=>by cases h
 |some x::L,s,o,h=>by
  unfold gJ at h
  obtain ⟨fl,h1,h2⟩:=gf h
  cases fl with
  |nx s'=>
   obtain ⟨b,s2,pend,h3,c⟩:=B7 a L s' o h2
   refine ⟨b,s2,pend,?_,c⟩
   unfold fo
   simp only[h1]
   exact h3
  |bk s'=>
   cases h2
   refine ⟨false,s',some a,?_,.inl ⟨rfl,.inr rfl⟩⟩
   unfold fo
   simp only[h1]
  |br k s'=>
   cases h2
   refine ⟨false,s',some k,?_,.inr ⟨k,rfl,rfl⟩⟩
   unfold fo
   simp only[h1]
  |rt r=>cases h2
theorem B8 {ro:Addr->Option Value}{l:Nat}{o:Obj}{own:List (Nat×Obj)}(h1:Obj.qn o=false)(h2:o.isChan=false):aa.fj ⟨ro,(l,o)::own⟩ l=some o:=by
 simp[aa.fj,lk,h1,h2]
def qT (a:Act)(d:Nat):Act:={a with defers:=⟨.collected d,#[]⟩::a.defers}
theorem G9 (a:Act)(d i:Nat):slot (qT a d) i=slot a i:=rfl
theorem He (a:Act)(d:Nat):sz (qT a d)=sz a:=rfl
theorem Hf (a:Act)(d:Nat):(qT a d).defers=⟨.collected d,#[]⟩::a.defers:=rfl
def m7 (a:Act)(p:Tmp)(v:Value):Act:={tmps:=a.tmps.setIfInBounds p v,defers:=[]}
theorem oJ (a:Act)(p:Tmp)(v:Value)(i:Nat):slot (m7 a p v) i=slot (bf a (some p) v) i:=rfl
theorem xz (a:Act)(p:Tmp)(v:Value):sz (m7 a p v)=sz a:=by simp[sz,m7]
theorem xA {H σ ρ:Type}(hJ:Closed P main J){x:Operand}{p:Tmp}{assign body:Code}{Q:Ex->Act->aa->Prop}{fn:FuncId}{first captured:Array Value}{ro:Addr->Option Value}{own:List (Nat×Obj)}{g:Nat}
  (enc:H->Value) {L:List (Option H)} (T:ev a x= .func (.func fn) first captured) (G:m5 P fn first captured enc L ro)
  (U:fT assign=true) (V:fT body=true)
  (S:σ->List (Nat×Obj)->Prop) {f:H->σ->Option (Fl σ ρ)} {u:σ} {o:Fl σ ρ} (W:gJ f L u=some o) (X:S u own)
  (Y:∀(d l:Nat) (lo:Loop),lo.state= .ready->∀(s:σ) (y:H) (fl:Fl σ ρ),f y s=some fl->∀(main:Bool) (J:Goroutine->aa->Prop),Closed P main J->∀own,S s own->
   Wp J assign (qS J l body (B6 g ro l d S lo fl)) (m7 a p (enc y)) ⟨ro,(l,.loop lo)::(d,.deferred (some []))::own⟩)
  (Z:¬g=tu)
  (ab:∀d l lo j s',S s' j->aR (keys ((l,.loop lo)::(d,.deferred (some []))::j))->aD ro ((l,.loop lo)::(d,.deferred (some []))::j)->(o= .nx s'->Q .normal (qT a d) ⟨ro,(l,.loop lo)::(d,.deferred (some []))::j⟩)/\
   (∀k,o= .br k s'->xy Q k (qT a d) ⟨ro,(l,.loop lo)::(d,.deferred (some []))::j⟩))
  (ad:∀k s',o= .br k s'->¬k=g):Wp J (.block g (.rangeFunc x #[p] assign body)) Q a ⟨ro,own⟩:=by
 refine aT hJ (Wp.mono (Q:=fun e z F'=>match e with| .exit i=>if i=g then Q .normal z F' else Q (.exit i) z F'|e=>Q e z F') ?_ fun e a F h=>by cases e<;>exact h)
 obtain ⟨b,s',pend,ae,al⟩:=B7 g L u o W
 refine G8 hJ T G.1 fun A d l hd bb=>?_
 let lo:Loop:=oI A a #[p] assign body d
 let n:Option Nat->Loop:=fun pend=>{lo with state:=(match pend with|none=>.ready|some _=>.done),pending:=pend.map m6}
 let I:σ×Option Nat->List (Nat×Obj)->Prop:=fun st ao=>∃aW,ao=(l,.loop (n st.2))::(d,.deferred (some []))::aW/\S st.1 aW
 have ar:xx P (.func (.yield l) #[] #[]) enc (fun (st:σ×Option Nat) x=>match st with
   |(s,none)=>match f x s with
    |some (.nx s')=>some (true,(s',none))
    |some (.bk s')=>some (false,(s',some g))
    |some (.br k s')=>some (false,(s',some k))
    |_=>none
   |_=>none) ro I:=by
  rintro ⟨s,pend⟩ y bc ⟨s1,bd⟩ m a0 K M a2 ⟨aW,rfl,a3⟩
  cases pend with
  |some k=>cases m
  |none=>
   simp only at m
   refine ⟨rfl,rfl,lo,B8 rfl rfl,rfl,?_⟩
   cases B:f y s with
   |none=>rw[B] at m;cases m
   |some fl=>
    have C:=j4.of_wp M (R:=B6 g ro l d S lo fl) (f:=A) U V (Y d l lo rfl s y fl B a0 K M aW a3)
    rw[B] at m
    have a4:(lo.params.zip #[enc y]).foldl (fun tmps (t,a)=>tmps.setIfInBounds t a) lo.tmps=a.tmps.setIfInBounds p (enc y):=by simp[lo,oI]
    show j4 K l A ((lo.params.zip #[enc y]).foldl (fun tmps (t,a)=>tmps.setIfInBounds t a) lo.tmps) assign body _ _
    rw[a4]
    refine C.mono fun v F' D=>?_
    obtain ⟨j,hle,hm⟩:=D
    cases fl with
    |nx s2=>
     simp only[Option.some.injEq,Prod.mk.injEq] at m
     obtain ⟨rfl,rfl,rfl⟩:=m
     exact ⟨_,hle,hm.1,j,rfl,hm.2⟩
    |bk s2=>
     simp only[Option.some.injEq,Prod.mk.injEq] at m
     obtain ⟨rfl,rfl,rfl⟩:=m
     exact ⟨_,hle,hm.1,j,rfl,hm.2⟩
    |br k s2=>
     simp only[Option.some.injEq,Prod.mk.injEq] at m
     obtain ⟨rfl,rfl,rfl⟩:=m
     exact ⟨_,hle,hm.1,j,rfl,hm.2⟩
    |rt r=>exact hm.elim
 have a5:=G.2 ro (Ext.refl ro) _ _ I _ _ _ ar (u,none) b (s',pend) ae main J hJ ((l,.loop lo)::(d,.deferred (some []))::own) ⟨own,rfl,X⟩
 intro c cs a6
 refine a5 c cs fun v F' D=>?_
 obtain ⟨a2,hle,j,rfl,a7⟩:=D
 by_cases hw:∃w,Has F' w
 case neg=>exact hJ.step fun w a8=>absurd ⟨w,a8⟩ hw
 obtain ⟨w,hw⟩:=hw
 have N:=hle.has w hw
 refine hJ.mono hle (a6 v _ ⟨n pend,B8 rfl rfl,?_,?_⟩)
 .cases pend<;>simp[n]
 .obtain ⟨O,a9⟩:=ab d l {n pend with state:=.exhausted} j s' a7 ⟨N.nodup⟩ (fun b hb off sp=>by
   cases C:ro ⟨b,off,sp⟩ with
   |none=>rfl
   |some v=>exact absurd hb (N.apart _ v C))
  have ba:aa.put ⟨ro,(l,.loop (n pend))::(d,.deferred (some []))::j⟩ l (.loop {n pend with state:=.exhausted})=⟨ro,(l,.loop {n pend with state:=.exhausted})::(d,.deferred (some []))::j⟩:=by simp[aa.put,ju]
  rw[ba]
  rcases al with ⟨rfl,rfl|rfl⟩|⟨k,rfl,rfl⟩
  .exact O rfl
  .show tr _ _ _ (some (m6 g))
   have:m6 g= .exit g:=if_neg Z
   rw[this]
   show (if g=g then Q .normal _ _ else Q (.exit g) _ _)
   rw[if_pos rfl]
   exact O rfl
  .have q:=a9 k rfl
   show tr _ _ _ (some (m6 k))
   unfold xy at q
   unfold m6
   split
   .rename_i E
    rw[if_pos E] at q
    exact q
   .rename_i E
    rw[if_neg E] at q
    show (if k=g then Q .normal _ _ else Q (.exit k) _ _)
    rw[if_neg (ad k s' rfl)]
    exact q
theorem Hg {R:List Deferred->aa->Prop}{r:Nat}{F:aa}:aX P (Instr.takeDeferred r) R F=match F.fj r with
  |some (.deferred (some a))=>R a (F.put r (.deferred none))
  |_=>False:=by
 unfold Instr.takeDeferred
 rw[bx,ow]
 refine propext ⟨fun ⟨o,h1,h2⟩=>?_,fun h=>?_⟩
 .rw[h1]
  cases o<;>first|exact (show False from h2).elim|skip
  rename_i a
  cases a with
  |none=>exact (show False from h2).elim
  |some a=>
   simp only[bx,mM,bK] at h2
   exact h2.2.2
 .split at h
  .rename_i a b
   refine ⟨_,b,?_⟩
   simp only[bx,mM,bK]
   exact ⟨rfl,by rw[b];rfl,h⟩
  .exact h.elim
theorem Hh (hJ:Closed P main J){y:Value}{args:Array Value}{ro:Addr->Option Value}{own:List (Nat×Obj)}{R:Value->List (Nat×Obj)->Prop}(pre:List (Nat×Obj))
  (h:∀(main:Bool) (J:Goroutine->aa->Prop),Closed P main J->gZ P J y args ⟨ro,own⟩ (fun v F'=>∃a,Le ⟨ro,a⟩ F'/\R v a)) (j:aR (keys (pre++own))) {K:Value->aa->Prop}
  (k:∀v a,R v a->aR (keys (pre++a))->K v ⟨ro,pre++a⟩):gZ P J y args ⟨ro,pre++own⟩ K:=by
 have key:∀kg:Frame,(∀(main:Bool) (J:Goroutine->aa->Prop),Closed P main J->tj J kg ⟨ro,own⟩ (fun v F'=>∃a,Le ⟨ro,a⟩ F'/\R v a))->tj J kg ⟨ro,pre++own⟩ K:=fun kg h0=>
  BW hJ pre [] (by simp) R (fun m b d c cs n=>h0 m b d c cs fun v F' p=>n v F' (by obtain ⟨o,h1,h2⟩:=p;exact ⟨o,h2,h1⟩)) fun v s t a g e=>by
   rw[List.append_nil] at g
   subst g
   exact ⟨_,Le.refl _,k v s t e⟩
 have h0:=h main J hJ
 unfold gZ at h0 ⊢
 split at h0
 .rename_i fn first captured
  refine ⟨h0.1,key _ fun m b d=>?_⟩
  have:=h m b d
  unfold gZ at this
  exact this.2
 .rename_i l first captured
  obtain ⟨e1,e2,r,h1,h2,_⟩:=h0
  refine ⟨e1,e2,r,?_,h2,key _ fun m b d=>?_⟩
  .have hm:l∈keys own:=by
    unfold aa.fj at h1
    split at h1
    .rename_i o u;exact e6 (ia u)
    .cases h1
   have e:l∉keys pre:=fun w=>by
    have:=j.nd
    rw[cr] at this
    exact (List.nodup_append.1 this).2.2 l w l hm rfl
   have x:∀(pre:List (Nat×Obj)),l∉keys pre->lk (pre++own) l=lk own l:=fun pre=>by
    induction pre with
    |nil=>intro _;rfl
    |cons q pre ih=>
     intro f
     simp only[keys,List.map_cons,List.mem_cons,not_or] at f
     simp only[List.cons_append,lk,if_neg (Ne.symm f.1)]
     exact ih f.2
   unfold aa.fj at h1 ⊢
   simp only at h1 ⊢
   rw[x pre e]
   exact h1
  .have:=h m b d
   unfold gZ at this
   obtain ⟨_,_,A,i,B,z⟩:=this
   rw[h1] at i
   cases i
   exact z
 .exact h0.elim
theorem cY.less (hJ:Closed P main J){f:FuncId}{args:Array Value}{F:aa}{R:Value->aa->Prop}(h:cY P J f args F (fun v F'=>∃F0,Le F0 F'/\R v F0)):cY P J f args F R:=
 fun c cs a=>h c cs fun v F' ⟨F0,hle,b⟩=>hJ.mono hle (a v F0 b)
def B9 (P:Program)(rs:List ResultVar)(R:Value->aa->Prop):Ex->Act->aa->Prop
 | .exit _,_,_=>False
 |_,a,F=>iP P a.defers (fun F=>match mV P F a rs with|some v=>R v F|none=>False) F
theorem Ca {K b:aa->Prop}(h:∀F,K F->b F):∀(a:List Deferred) (F:aa),iP P a K F->iP P a b F
 |[],F,x=>h F x
 |d::a,F,⟨r,h1,h2⟩=>⟨r,h1,ij (fun calls F' c=>⟨c.1,Ca h a F' c.2⟩) _ _ h2⟩
theorem aF.xB {f:FuncId}{fn:Func}{c:Code}{n:Nat}{rs:List ResultVar}{args:Array Value}{F:aa}{R:Value->aa->Prop}(g:P.funcs[f]?=some fn)(hb:fn.body=some c)(j:fn.ntmps=n)(k:fn.results=rs.toArray)(l:args.size<=n)
  (h:∀main J,Closed P main J->∀A:Act,sz A=n->A.defers=[]->(∀i,slot A i=args.getD i undef)->Wp J c (B9 P rs R) A F):aF P f args F R:=
 aF.start g hb j l fun main J hJ A h1 h2 h3=>(h main J hJ A h1 h2 h3).mono fun e a F b=>by
  have key:iP P a.defers (fun F=>match mV P F a rs with|some v=>R v F|none=>False) F->iP P a.defers (fun F=>aX P (results fn a.tmps) R F) F:=Ca (fun F d=>by
   split at d
   .rename_i v m;exact s3 k m d
   .exact d.elim) _ _
  cases e with
  |exit i=>exact b
  |normal=>exact key b
  |ret=>exact key b
theorem cY.go (hJ:Closed P main J){f:FuncId}{fn:Func}{c:Code}{n:Nat}{rs:List ResultVar}{args:Array Value}{F:aa}{R:Value->aa->Prop}(j:P.funcs[f]?=some fn)(hb:fn.body=some c)(d:fn.ntmps=n)(k:fn.results=rs.toArray)(m:args.size<=n)
  (h:∀A:Act,sz A=n->A.defers=[]->(∀i,slot A i=args.getD i undef)->Wp J c (g5 P rs R) A F):cY P J f args F R:=by
 refine cY.of_wp hJ j hb ?_
 refine (h _ (by simp[sz,d];omega) rfl fun i=>?_).mono fun e a F g=>?_
 .simp only[slot,d,Array.getD_eq_getD_getElem?]
  rcases Nat.lt_or_ge i args.size with hi|hi
  .rw[Array.getElem?_append_left hi]
  .rw[Array.getElem?_append_right hi,Array.getElem?_replicate,Array.getElem?_eq_none hi]
   split<;>rfl
 .cases e with
  |exit i=>exact g
  |_=>
   obtain ⟨hd,b⟩:=g
   split at b
   .rename_i v l
    show iP P a.defers _ F
    rw[hd]
    exact s3 k l b
   .exact b.elim
theorem Hi {d:Nat}{X:Nat->Prop}:(∃r,Target.collected d=Target.collected r/\X r)=X d:=propext ⟨fun ⟨r,h1,h2⟩=>by cases h1;exact h2,fun h=>⟨d,rfl,h⟩⟩
attribute [go_sem] Hi G9 He Hf B9 Hg aa.fj Obj.qn Obj.isChan
end
section
variable {P:Program}
theorem Cb {argTypes:Array TypeId}{t e ty:TypeId}{R:Value->aa->Prop}{F:aa}{ad:Option Addr}{n c:Nat}(ht:argTypes[0]?=some t)(hu:P.underlying t=some (.slice e))(h:R (.int .i64 c) F):e7 P (Builtin.cap_ argTypes ty #[.slice ad n c]) R F:=by
 unfold e7;simp only[Builtin.cap_,ht,List.getElem?_toArray,List.getElem?_cons_zero,bx,dG,hu,bK];exact h
theorem Hj (z:Value)(n:Nat):(Builtin.zeroCells #[z] n).toList=List.replicate n z:=by
 simp only[Builtin.zeroCells,List.size_toArray,List.length_cons,List.length_nil,Nat.zero_add,Nat.mul_one,Nat.mod_one];rw[Array.toList_map,Array.toList_range];apply List.ext_getElem
 .simp
 .intro i h1 h2;simp
theorem Hl {ro:Addr->Option Value}{pre bp:List (Nat×Obj)}{argTypes:Array TypeId}{t e ty:TypeId}{R:Value->aa->Prop}{b off n c:Nat}{arr:Array Value}{z zc:Value}(ht:argTypes[0]?=some t)(hu:P.underlying t=some (.slice e))(a:zeroOf P e=some z)(d:z.cells=#[zc])(f:bJ zc=true)
  (l:0<n) (g:av pre b) (i:off+n<=arr.size)
  (h:R (.tuple #[]) ⟨ro,pre++((b,.cells (cM arr off (List.replicate n zc)) e)::bp)⟩):
  e7 P (Builtin.clear_ argTypes ty #[.slice (some ⟨b,off,none⟩) n c]) R ⟨ro,pre++((b,.cells arr e)::bp)⟩:=by
 unfold e7
 have m:n≠0:=by omega
 obtain ⟨k,rfl⟩:∃k,n=k+1:=⟨n - 1,by omega⟩
 simp only[Builtin.clear_,ht,List.getElem?_toArray,List.getElem?_cons_zero,bx,dG,hu,mN,a,d]
 refine sN _ _ 0 _ ⟨ro,pre++((b,.cells (cM arr off (List.replicate (k+1) zc)) e)::bp)⟩ ?_ ?_
 .rw[Hj]
  have:=xl (ro:=ro) (bp:=bp) (e:=e) g off (List.replicate (k+1) zc) arr 0 (fun v j=>by rw[List.eq_of_mem_replicate j];exact f) (by simpa using i)
  simpa using this
 .simp only[bK]
  exact h
end
theorem aQ.Cc {T:Type}{r:b8 T}{ro:Addr->Option Value}{e:TypeId}{v:Value}{l:List T}{aW:List (Nat×Obj)}(h:aQ r ro e v l aW){own:List (Nat×Obj)}(pre bp:List (Nat×Obj))(f:own=pre++(aW++bp))(g:aR (keys own)):az r (aa.cx ⟨ro,own⟩).ro v l:=by
 subst f;obtain ⟨ls,hg,c,hm,k⟩:=h;rcases hg with ⟨rfl,rfl,rfl⟩|⟨b,arr,cap,rfl,rfl,hs,hle,ht,d,m⟩
 .have:l=[]:=List.eq_nil_of_length_eq_zero (by simpa using c.symm);subst this;exact az.nil r _
 .have o:av pre b:=Nd.fresh g.nd b (by simp[keys]);refine ⟨some ⟨b,0,none⟩,cap,by rw[c],by omega,by omega,fun i x hi=>?_⟩;obtain ⟨cs,h1,h2⟩:=k i x hi;refine ⟨_,cs,rfl,r.mono aL h2,fun j v p=>?_⟩;have a:=qH ls i cs d h1 j v p;rw[lS,lT,Nat.zero_add];have q:i*r.n+j<ls.length*r.n:=by
   have:=(List.getElem?_eq_some_iff.1 a).1;rw[iQ d] at this;exact this
  rw[<-ht,List.getElem?_take_of_lt q] at a;show aa.get ⟨ro,pre++([(b,Obj.cells arr e)]++bp)⟩ ⟨b,i*r.n+j,none⟩=some v;simp only[aa.get,m,if_true,List.cons_append,List.nil_append,th o,Option.bind_some,cellOf];simpa using a
theorem az.two {T:Type}{r:b8 T}{ro:Addr->Option Value}{own:List (Nat×Obj)}{b:Nat}{x y:T}{v u:Value}{e:TypeId}(c:∀off sp,ro ⟨b,off,sp⟩=none)(d:lk own b=some (.cells #[v,u] e))(h1:r.n=1)(h:r.rel ro x [v])(k:r.rel ro y [u]):
  az r (bU ro b (.cells #[v,u] e)) (.slice (some ⟨b,0,none⟩) 2 2) [x,y]:=by
 refine ⟨some ⟨b,0,none⟩,2,rfl,Nat.le_refl _,by simp,fun i z hi=>?_⟩
 have:(i=0/\z=x)\/(i=1/\z=y):=by
  cases i with
  |zero=>simp at hi;exact .inl ⟨rfl,hi.symm⟩
  |succ i=>cases i with
   |zero=>simp at hi;exact .inr ⟨rfl,hi.symm⟩
   |succ i=>simp at hi
 rcases this with ⟨rfl,rfl⟩|⟨rfl,rfl⟩
 .refine ⟨_,_,rfl,r.mono (gH _ _ _) h,fun j w a=>?_⟩
  cases j with
  |zero=>
   rw[Nat.zero_mul,add_zero',lT,Nat.zero_add,jA c]
   simpa [cellOf] using a
  |succ j=>simp at a
 .refine ⟨_,_,rfl,r.mono (gH _ _ _) k,fun j w a=>?_⟩
  cases j with
  |zero=>
   rw[h1,lS,lT,jA c]
   simpa [cellOf] using a
  |succ j=>simp at a
theorem aQ.clear {ro:Addr->Option Value}{e:TypeId}{b n cap k:Nat}{x:List Int}{arr:Array Value}(h:aQ rI ro e (.slice (some ⟨b,0,none⟩) n cap) x [(b,.cells arr e)])(r:k<=x.length):
  aQ rI ro e (.slice (some ⟨b,0,none⟩) k cap) (x.take k) [(b,.cells (cM arr k (List.replicate (n - k) (.int .i64 0))) e)]:=by
 obtain ⟨ls,hg,s,hm,l⟩:=h
 rcases hg with ⟨a,_,_⟩|⟨t,u,m,a,o,hs,hle,ht,f,p⟩
 .cases a
 .cases o
  obtain ⟨rfl,rfl⟩:n=ls.length/\cap=m:=by cases a;exact ⟨rfl,rfl⟩
  have d:rI.n=1:=rfl
  rw[d] at hs ht f
  simp only[Nat.mul_one] at hs ht
  have c:(ls.take k).length=k:=by rw[List.length_take];omega
  refine ⟨ls.take k,.inr ⟨b,_,cap,by rw[c],rfl,by rw[sW];rw[d,Nat.mul_one];exact hs,by rw[c];omega,?_,?_,p⟩,by rw[c,List.length_take];omega,by rw[List.length_take];omega,?_⟩
  .rw[sX _ _ _ (by simp;omega),c,d,Nat.mul_one,List.append_assoc,List.take_append_of_le_length (by rw[List.length_take,Array.length_toList];omega),List.take_take,Nat.min_self]
   have e1:arr.toList.take k=(arr.toList.take ls.length).take k:=by rw[List.take_take,Nat.min_eq_left (by omega)]
   rw[e1,ht]
   have e2:ls.flatten=(ls.take k).flatten++(ls.drop k).flatten:=by rw[<-List.flatten_append,List.take_append_drop]
   have j:(ls.take k).flatten.length=k:=by rw[iQ (size:=1) (fun z g=>f z (List.mem_of_mem_take g)),c,Nat.mul_one]
   rw[e2,List.take_append_of_le_length (Nat.le_of_eq j.symm),List.take_of_length_le (Nat.le_of_eq j)]
  .intro z g
   rw[d];exact f z (List.mem_of_mem_take g)
  .intro i v a
   obtain ⟨hi,q⟩:i<k/\x[i]?=some v:=by
    rw[List.getElem?_take] at a
    split at a
    .exact ⟨‹_›,a⟩
    .cases a
   obtain ⟨cs,h1,h2⟩:=l i v q
   exact ⟨cs,by rw[List.getElem?_take,if_pos hi];exact h1,h2⟩
section
variable {P:Program}
theorem Ho {t:TypeId}{R:Value->aa->Prop}{F:aa}(h:∀b,eg F b->R (.map (some b)) (F.push b (.map #[] 0))):e7 P (Instr.makeMap t none) R F:=by
 unfold e7;simp only[Instr.makeMap,bx,qs,bK];exact ⟨rfl,h⟩
theorem Hp {argTypes:Array TypeId}{t a b ty:TypeId}{r:Nat}{es:Array MapEntry}{clock:Nat}{R:Value->aa->Prop}{F:aa}(ht:argTypes[0]?=some t)(hu:P.underlying t=some (.map a b))(c:F.fj r=some (.map es clock))(h:R (.int .i64 (es.size:Int)) F):
  e7 P (Builtin.len_ argTypes ty #[.map (some r)]) R F:=by
 unfold e7
 simp only[Builtin.len_,ht,List.getElem?_toArray,List.getElem?_cons_zero,bx,dG,hu,ow]
 exact ⟨_,c,h⟩
theorem Ce {c:TypeId}{key:Value}{F:aa}{Q:Option (Nat×Value)->aa->Prop}:∀(l:List MapEntry) (i:Nat),
  (∀e∈l,∃b,(∀(Q:Bool->aa->Prop),Q b F->aX P (Op.equal c key e.key) Q F)/\(b=true↔e.key=key))->
  (∀j e,l[j]?=some e->e.key=key->Q (some (i+j,e.val)) F)->((∀e∈l,¬e.key=key)->Q none F)->aX P (Instr.findAsking c key l i) Q F
 |[],i,_,_,h2=>h2 (by simp)
 |e::l,i,d,h1,h2=>by
  obtain ⟨b,hb,f⟩:=d e (by simp)
  simp only[Instr.findAsking,bx]
  refine hb _ ?_
  cases b with
  |true=>exact h1 0 e rfl (f.1 rfl)
  |false=>
   have aG:¬e.key=key:=fun x=>by have:=f.2 x;cases this
   refine Ce l (i+1) (fun x a=>d x (by simp[a])) (fun j x a he=>?_) (fun g=>h2 (by simpa [aG] using g))
   have:=h1 (j+1) x (by simpa using a) he
   rwa [show i+1+j=i+(j+1) by omega]
theorem modify_keys {es:Array MapEntry}{i:Nat}{key val:Value}{e:MapEntry}(hi:es[i]?=some e)(he:e.key=key):(es.modify i fun e=>{e with key:=key,val:=val}).toList.map (·.key)=es.toList.map (·.key):=by
 apply List.ext_getElem?;intro j;simp only[List.getElem?_map,Array.toList_modify,List.getElem?_modify];by_cases a:i=j
 .subst a;have:es.toList[i]?=some e:=by simpa using hi
  simp[this,he]
 .simp[a]
theorem Hq {t c q f n:TypeId}{r:Nat}{es:Array MapEntry}{clock:Nat}{key val:Value}{R:Value->aa->Prop}{F:aa}(hu:P.underlying t=some (.map c q))(g:F.fj r=some (.map es clock))
  (s:∀Q:Unit->aa->Prop,Q () F->aX P (Instr.checkKey false 10000 c key) Q F) (u:P.underlying c=some (.array n f))
  (v:∀e∈es.toList,∃b,(∀(Q:Bool->aa->Prop),Q b F->aX P (Op.equal c key e.key) Q F)/\(b=true↔e.key=key))
  (h:∀d w,((key∈es.toList.map (·.key)/\d.toList.map (·.key)=es.toList.map (·.key))\/(key∉es.toList.map (·.key)/\d.toList.map (·.key)=es.toList.map (·.key)++[key]))->R undef (F.put r (.map d w))):
  e7 P (Instr.mapUpdate t (.map (some r)) key val>>= fun _=>pure undef) R F:=by
 unfold e7
 simp only[Instr.mapUpdate,bx,dG,hu,ow]
 refine ⟨_,g,?_⟩
 simp only[bx]
 refine s _ ?_
 have k:(F.fj r).isSome=true:=by rw[g];rfl
 have step:aX P (Instr.findAsking c key es.toList) (fun a G=>aX P (match a with
   |some (i,_)=>do
    let key<-Instr.keyThatStays (((es[i]?).map (·.key)).getD key) key
    setObj r (.map (es.modify i fun e=>{e with key,val}) clock)
   |none=>setObj r (.map (es.push {key,val,born:=clock}) (clock+1))) (fun _ G=>aX P (pure undef) R G) G) F:=by
  refine Ce _ 0 v (fun j e m he=>?_) (fun x=>?_)
  .simp only[Nat.zero_add,bx]
   have o:es[j]?=some e:=by simpa using m
   rw[o]
   simp only[Option.map_some,Option.getD_some,he]
   have fin:aX P (setObj r (.map (es.modify j fun e=>{e with key:=key,val:=val}) clock)) (fun _ G=>aX P (pure undef) R G) F:=by
    simp only[mM,bK]
    refine ⟨rfl,k,h _ _ (.inl ⟨?_,modify_keys o he⟩)⟩
    rw[<-he]
    exact List.mem_map_of_mem (List.mem_of_getElem? m)
   unfold Instr.keyThatStays
   rw[dz]
   split
   .exact fin
   .simp only[bx,wD]
    split
    .simp only[bK,ite_self];exact fin
    .intro t;simp only[bK,ite_self];exact fin
  .simp only[mM,bK]
   refine ⟨rfl,k,h _ _ (.inr ⟨?_,by simp⟩)⟩
   intro hm
   obtain ⟨e,he,y⟩:=List.mem_map.1 hm
   exact x e he y
 unfold Instr.findKey
 simp only[bx,dG,u]
 cases p:es.toList with
 |nil=>
  rw[p] at step
  exact step
 |cons e l=>
  have:Instr.findNow (.array n f) key (e::l) 0=none:=rfl
  rw[this]
  rw[p] at step
  exact step
end
theorem bS {α β:Type}{x:Option α}{f:α->Option β}{r:β}{G:Prop}(k:∀a,x=some a->f a=some r->G)(h:af x f=some r):G:=by
 obtain ⟨a,h1,h2⟩:=gf h;exact k a h1 h2
def bu:Code->Code
 | .seq _ b=>b
 |c=>c
theorem sI {α:Type}{x r:α}(h:some x=some r):x=r:=Option.some.inj h
theorem aA {ro:Addr->Option Value}{own:List (Nat×Obj)}{G:Nat->Prop}(h:∀b,(∀off sp,ro ⟨b,off,sp⟩=none)->av own b->G b):∀b,eg ⟨ro,own⟩ b->G b:=fun b f=>h b (ez f) (fW f)
theorem bq:(∀(ro:Addr->Option Value) (b:Nat) (o:Obj) (l:List (Nat×Obj)),aD ro ((b,o)::l)=((∀off sp,ro ⟨b,off,sp⟩=none)/\aD ro l))/\(∀l:List (Nat×Obj),[]++l=l)/\(∀l:List (Nat×Obj),l++[]=l)/\
  (∀(x:Nat×Obj) (l m:List (Nat×Obj)),x::l++m=x::(l++m))/\∀l m n:List (Nat×Obj),l++m++n=l++(m++n):=
 ⟨fun _ _ _ _=>propext ⟨fun h=>⟨h.hd,h.tl⟩,fun h=>aD.cons h.1 h.2⟩,fun _=>rfl,List.append_nil,fun _ _ _=>rfl,List.append_assoc⟩
theorem az.el {T:Type}{r:b8 T}{ro:Addr->Option Value}{ad:Option Addr}{n cap:Nat}{l:List T}(h:az r ro (.slice ad n cap) l):
  ∀i x,l[i]?=some x->∃p cs,ad=some p/\r.rel ro x cs/\∀j v,cs[j]?=some v->ro ((p.add (i*r.n)).add j)=some v:=by
 obtain ⟨a,b,e,_,_,h⟩:=h
 cases e
 exact h
theorem aR.tl {b:Nat}{ks:List Nat}(h:aR (b::ks)):aR ks:=⟨(List.nodup_cons.1 h.nd).2⟩
theorem aR.cut {l:List (Nat×Obj)}(h:aR (keys l))(i n:Nat):aR (keys (l.take i++l.drop (i+n))):=
 ⟨(((List.Sublist.append_left (show (l.drop (i+n)).Sublist (l.drop i) by rw[<-List.drop_drop];exact List.drop_sublist _ _) (l.take i)).trans (by rw[List.take_append_drop];exact List.Sublist.refl _)).map _).nodup h.nd⟩
theorem aQ.eR {T:Type}{r:b8 T}{ro:Addr->Option Value}{e:TypeId}{v:Value}{l:List T}{aW:List (Nat×Obj)}(h:aQ r ro e v l aW){own:List (Nat×Obj)}(pre bp:List (Nat×Obj))(a:aR (keys own))(b:aD ro (pre++bp))
  (c:own=pre++(aW++bp):=by first|rfl|simp only[aV]|(simp only[aV];rfl)):
  ∃aN,Ext ro aN/\aD aN (pre++bp)/\az r aN v l/\Le ⟨aN,pre++bp⟩ ⟨ro,own⟩:=h.l5 _ pre bp c rfl a b
theorem az.oc {T:Type}{r:b8 T}{ro:Addr->Option Value}{s:Value}{l:List T}(h:az r ro s l):bJ s=true:=by
 obtain ⟨_,_,e,_⟩:=h;rw[e];rfl
theorem Hr {p:Nat->Prop}{a:Nat}{l:List Nat}:(∀i,i∈a::l->p i)=(p a/\∀i,i∈l->p i):=propext List.forall_mem_cons
theorem Hs {p:Nat->Prop}:(∀i,i∈([]:List Nat)->p i)=True:=propext ⟨fun _=>trivial,fun _ _ h=>(by cases h)⟩
section
variable {P:Program}{main:Bool}{J:Goroutine->aa->Prop}{Q:Ex->Act->aa->Prop}{a:Act}{F:aa}
theorem b6 (hJ:Closed P main J){f:FuncId}{args:Array Value}{ro:Addr->Option Value}{own:List (Nat×Obj)}{K:Value->aa->Prop}(R:Value->(Addr->Option Value)->Prop)(h:eW P f args ro R)
  (a:∀v aN,Ext ro aN->aD aN own->R v aN->K v ⟨aN,own⟩):cY P J f args ⟨ro,own⟩ K:=w7 hJ R h a
theorem oK {Φ:Goroutine->aa->Prop}{f:FuncId}{args:Array Value}{ro:Addr->Option Value}{own:List (Nat×Obj)}{K:Value->aa->Prop}(R:Value->(Addr->Option Value)->Prop)(h:qK P f args ro R)
  (a:∀v aN,Ext ro aN->aD aN own->R v aN->K v ⟨aN,own⟩):cY P (dH P Φ) f args ⟨ro,own⟩ K:=Gu R h a
theorem cS {α:Type}{b:Bool}{e1 e2:Option α}{r:α}{G:Prop}(h1:b=true->e1=some r->G)(h2:b=false->e2=some r->G)(h:cond b e1 e2=some r):G:=by
 rcases jB h with ⟨a,b⟩|⟨a,b⟩
 .exact h1 a b
 .exact h2 a b
theorem jC {α:Type}(hJ:Closed P main J){c:Operand}{x y:Code}{b:Bool}{e1 e2:Option α}{r:α}(d:ev a c= .bool b)(h1:b=true->e1=some r->Wp J x Q a F)(h2:b=false->e2=some r->Wp J y Q a F)(h:cond b e1 e2=some r):Wp J (.cond c x y) Q a F:=by
 refine Gf hJ b d (fun e=>h1 e ?_) fun e=>h2 e ?_
 .rw[e] at h;exact h
 .rw[e] at h;exact h
theorem cw (hJ:Closed P main J){c:Operand}{x y:Code}(h:Wp J x Q a F)(b:ev a c= .bool true:=by simp (maxSteps:=9^9) only[*,go_sem]):Wp J (.cond c x y) Q a F:=ei hJ b h
theorem cn (hJ:Closed P main J){c:Operand}{x y:Code}(h:Wp J y Q a F)(b:ev a c= .bool false:=by simp (maxSteps:=9^9) only[*,go_sem]):Wp J (.cond c x y) Q a F:=dV hJ b h
theorem aY {α:Type}(hJ:Closed P main J){c:Operand}{x y:Code}{b:Bool}{e1 e2:Option α}{r:α}(h1:b=true->e1=some r->Wp J x Q a F)(h2:b=false->e2=some r->Wp J y Q a F)(d:ev a c= .bool b:=by simp (maxSteps:=9^9) only[*,go_sem]):cond b e1 e2=some r->Wp J (.cond c x y) Q a F:=jC hJ d h1 h2
structure xC (Q:Ex->Act->aa->Prop)(K:Act->aa->Prop):Prop where
 go:∀{a F},Q .normal a F->K a F
theorem de (hJ:Closed P main J)(b:P.follows .mixedOrders=true)(m n:Nat){id:Nat}{ops:Array Oper}(c:Knows ⟨F.ro,F.own.take n⟩ F)(d:oF ops m=true)
  (h:eA P J ops ⟨F.ro,F.own.take n⟩ (fun e=>eP P J ops ⟨F.ro,F.own.take n⟩ (Q .normal) (ops.toList.drop m) true e F) (ops.toList.take m) true a):Wp J (.region id ops true) Q a F:=fE hJ b m _ c d h
theorem qU (hJ:Closed P main J)(b:P.follows .mixedOrders=true)(m n:Nat){id:Nat}{ops:Array Oper}(c:Knows ⟨F.ro,F.own.take n⟩ F)(d:oF ops m=true)
  (h:∀K,xC Q K->eA P J ops ⟨F.ro,F.own.take n⟩ (fun e=>eP P J ops ⟨F.ro,F.own.take n⟩ K (ops.toList.drop m) true e F) (ops.toList.take m) true a):Wp J (.region id ops true) Q a F:=fE hJ b m _ c d (h _ ⟨fun h=>h⟩)
theorem eJ (hJ:Closed P main J){id:Nat}{ops:Array Oper}(h:∀K,xC Q K->fD P J ops K ops.toList true a F):Wp J (.region id ops false) Q a F:=ak hJ (h _ ⟨fun h=>h⟩)
theorem k5 (hJ:Closed P main J)(b:P.follows .mixedOrders=true)(bX:List Nat)(p:cm){id:Nat}{ops:Array Oper}(F0:aa)(c:Knows F0 F)
  (d:(Region.noSelect ops&&decide (p.len<=ops.size)&&p.ok ops bX (Array.replicate ops.size false))=true)
  (h:∀K,xC Q K->cc P J ops F0 K (p.opers ops) true a F):Wp J (.region id ops true) Q a F:=eI hJ b bX p F0 c d (h _ ⟨fun h=>h⟩)
theorem eX {c:Code}(L:List Nat){a:Act}(h:∀A,sz A=sz a->A.defers=a.defers->(∀i∈L,slot A i=slot a i)->Wp J c Q A F):Wp J c Q a F:=h a rfl rfl fun _ _=>rfl
theorem cL.pick {ws:List Nat}{A a:Act}(h:cL ws A a)(L:List Nat)(b:(L.all fun i=>!iq ws i)=true):sz A=sz a/\A.defers=a.defers/\∀i∈L,slot A i=slot a i:=
 ⟨h.size,h.defers,fun i hi=>h.cP i fun x=>by
  have h1:=List.all_eq_true.1 b i hi
  have h2:iq ws i=true:=by
   unfold In at x
   exact x
  simp[h2] at h1⟩
theorem dW {T:Type}{r:b8 T}{ro:Addr->Option Value}{aW:List (Nat×Obj)}{R:Value->aa->Prop}{argTypes:Array TypeId}{d f e h e2:TypeId}{a b:Nat}{s z:Value}{l:List T}{x:T}{cs:Array Value}{own:List (Nat×Obj)}(pre bp:List (Nat×Obj))
  (hg:aQ r ro e s l aW) (i:aR (keys own)) (j:l.length+[x].length<=1000000) (k:r.rel ro x cs.toList) (m:lk pre b=some (.cells cs e2)) (o:∀off sp,ro ⟨b,off,sp⟩=none)
  (h0:argTypes[0]?=some d) (h1:argTypes[1]?=some f) (he:dm P d=some e) (p:dm P f=some h) (hs:bZ P e=some r.n) (q:zeroOf P e=some z) (t:z.cells.size=r.n) (hb:bytesOf P e=some a)
  (u:0<a) (w:a<=10000)
  (y:∀v g,aQ r ro e v (l++[x]) g->∀c,c=pre++(g++bp)->aR (keys c)->∃F0,Le F0 ⟨ro,c⟩/\R v F0)
  (A:own=pre++(aW++bp):=by first|rfl|simp only[aV]|(simp only[aV];rfl)):mT P argTypes s (.slice (some ⟨b,0,none⟩) 1 1) R ⟨ro,own⟩:=
 BV pre bp A hg i j k m o h0 h1 he p hs q t hb u w y
theorem qV {T:Type}{r:b8 T}{ro:Addr->Option Value}{aW:List (Nat×Obj)}{R:Value->aa->Prop}{argTypes:Array TypeId}{d f e h:TypeId}{a c:Nat}{ad:Option Addr}{s z:Value}{l xs:List T}{own:List (Nat×Obj)}(pre bp:List (Nat×Obj))
  (hg:aQ r ro e s l aW) (i:aR (keys own)) (j:l.length+xs.length<=1000000) (k:az r ro (.slice ad xs.length c) xs)
  (h0:argTypes[0]?=some d) (h1:argTypes[1]?=some f) (he:dm P d=some e) (m:dm P f=some h) (hs:bZ P e=some r.n) (o:zeroOf P e=some z) (p:z.cells.size=r.n) (hb:bytesOf P e=some a)
  (q:0<a) (t:a<=10000)
  (u:∀v g,aQ r ro e v (l++xs) g->∀b,b=pre++(g++bp)->aR (keys b)->∃F0,Le F0 ⟨ro,b⟩/\R v F0)
  (w:own=pre++(aW++bp):=by first|rfl|simp only[aV]|(simp only[aV];rfl)):mT P argTypes s (.slice ad xs.length c) R ⟨ro,own⟩:=
 GY pre bp w hg i j k h0 h1 he m hs o p hb q t u
theorem dX (hJ:Closed P main J){f:FuncId}{args:Array Value}{ro:Addr->Option Value}{aW:List (Nat×Obj)}{K:Value->aa->Prop}{own:List (Nat×Obj)}(pre bp:List (Nat×Obj))(R:Value->List (Nat×Obj)->Prop)(h:aF P f args ⟨ro,aW⟩ (fun v G=>∃a,R v a/\Le ⟨ro,a⟩ G))
  (c:∀v a,R v a->∀b,b=pre++(a++bp)->aR (keys b)->∃F0,Le F0 ⟨ro,b⟩/\K v F0)
  (d:own=pre++(aW++bp):=by first|rfl|simp only[aV]|(simp only[aV];rfl)):cY P J f args ⟨ro,own⟩ K:=GZ hJ pre bp d R h c
end
end Go.Sep
end
section
namespace Go.Proofs.YtnaejeiofbpbkaaGreatDoor
open Go Go.Sep Go.Proofs
set_option maxRecDepth 100000
attribute [go_sem] az.nil
theorem tv:rI.n=1:=rfl
theorem xD:rB.n=1:=rfl
theorem Ht {T:Type}(r:b8 T):(rL r).n=1:=rfl
attribute [go_sem] tv xD Ht
structure au where
 num:Int
 den:Int
 deriving DecidableEq
def au.v (x:au):Value:=.agg #[.int .i64 x.num,.int .i64 x.den]
def au.cells (x:au):List Value:=[.int .i64 x.num,.int .i64 x.den]
def l6:b8 au:=iS 2 au.cells (fun _=>rfl) (fun _ v a=>by simp only[au.cells,List.mem_cons,List.not_mem_nil,or_false] at a;rcases a with rfl|rfl<;>rfl)
theorem Hu:l6.n=2:=rfl
attribute [go_sem] au.v au.cells Hu
structure bY where
 aM:Int
 high:Int
 deriving DecidableEq
def bY.cells (x:bY):List Value:=[.int .i64 x.aM,.int .i64 x.high]
def eT:b8 bY:=iS 2 bY.cells (fun _=>rfl) (fun _ v a=>by simp only[bY.cells,List.mem_cons,List.not_mem_nil,or_false] at a;rcases a with rfl|rfl<;>rfl)
theorem Hv:eT.n=2:=rfl
attribute [go_sem] bY.cells Hv
structure bL where
 place:Int
 dg:Int
 deriving DecidableEq
def bL.cells (x:bL):List Value:=[.int .i64 x.place,.int .i64 x.dg]
def dI:b8 bL:=iS 2 bL.cells (fun _=>rfl) (fun _ v a=>by simp only[bL.cells,List.mem_cons,List.not_mem_nil,or_false] at a;rcases a with rfl|rfl<;>rfl)
theorem Hw:dI.n=2:=rfl
attribute [go_sem] bL.cells Hw
structure dn where
 low:Int
 high:Int
 deriving DecidableEq
def dn.v (x:dn):Value:=.agg #[.int .i64 x.low,.int .i64 x.high]
def dn.cells (x:dn):List Value:=[.int .i64 x.low,.int .i64 x.high]
def Hx:b8 dn:=iS 2 dn.cells (fun _=>rfl) (fun _ v a=>by simp only[dn.cells,List.mem_cons,List.not_mem_nil,or_false] at a;rcases a with rfl|rfl<;>rfl)
theorem Hy:Hx.n=2:=rfl
attribute [go_sem] dn.v dn.cells Hy
structure bO where
 back:Int
 high:dn
 deriving DecidableEq
def bO.cells (x:bO):List Value:=[.int .i64 x.back,.int .i64 x.high.low,.int .i64 x.high.high]
def ej:b8 bO:=iS 3 bO.cells (fun _=>rfl) (fun _ v a=>by simp only[bO.cells,List.mem_cons,List.not_mem_nil,or_false] at a;rcases a with rfl|rfl|rfl<;>rfl)
theorem Hz:ej.n=3:=rfl
attribute [go_sem] bO.cells Hz
structure bA where
 aS:Int
 bt:Bool
 deriving DecidableEq
def bA.v (x:bA):Value:=.agg #[.int .i64 x.aS,.bool x.bt]
def bA.cells (x:bA):List Value:=[.int .i64 x.aS,.bool x.bt]
def cU:b8 bA:=iS 2 bA.cells (fun _=>rfl) (fun _ v a=>by simp only[bA.cells,List.mem_cons,List.not_mem_nil,or_false] at a;rcases a with rfl|rfl<;>rfl)
theorem HA:cU.n=2:=rfl
attribute [go_sem] bA.v bA.cells HA
structure aj where
 bB:Int
 bH:Int
 aO:au
 ax:(List bY)
 props:(List bL)
 an:(List bO)
 told:(List bA)
 deriving DecidableEq
def aj.rel (ro:Addr->Option Value)(x:aj)(cs:List Value):Prop:=∃a b c d,cs=[.int .i64 x.bB,.int .i64 x.bH,.int .i64 x.aO.num,.int .i64 x.aO.den,a,b,c,d]/\az eT ro a x.ax/\az dI ro b x.props/\az ej ro c x.an/\az cU ro d x.told
theorem aj.qW {ro:Addr->Option Value}{x:aj}{cs:List Value}(h:aj.rel ro x cs):∀v∈cs,bJ v=true:=by
 obtain ⟨b,c,d,e,rfl,⟨_,_,rfl,_⟩,⟨_,_,rfl,_⟩,⟨_,_,rfl,_⟩,⟨_,_,rfl,_⟩⟩:=h;intro v a;simp only[List.mem_cons,List.not_mem_nil,or_false] at a;rcases a with rfl|rfl|rfl|rfl|rfl|rfl|rfl|rfl<;>rfl
def HB:b8 aj:=⟨8,aj.rel,fun a ⟨b,c,d,f,e,g,h,i,j⟩=>⟨b,c,d,f,e,g.mono a,h.mono a,i.mono a,j.mono a⟩,fun ⟨b,c,d,f,e,_⟩=>by rw[e];rfl,aj.qW⟩
theorem HC:HB.n=8:=rfl
attribute [go_sem] HC
structure aP where
 back:Int
 high:Int
 deriving DecidableEq
def aP.v (x:aP):Value:=.agg #[.int .i64 x.back,.int .i64 x.high]
def aP.cells (x:aP):List Value:=[.int .i64 x.back,.int .i64 x.high]
def jE:b8 aP:=iS 2 aP.cells (fun _=>rfl) (fun _ v a=>by simp only[aP.cells,List.mem_cons,List.not_mem_nil,or_false] at a;rcases a with rfl|rfl<;>rfl)
theorem HD:jE.n=2:=rfl
attribute [go_sem] aP.v aP.cells HD
structure aZ where
 e0:Int
 e1:Int
 e2:Int
 deriving DecidableEq
def aZ.v (x:aZ):Value:=.agg #[.int .i64 x.e0,.int .i64 x.e1,.int .i64 x.e2]
def aZ.cells (x:aZ):List Value:=[.int .i64 x.e0,.int .i64 x.e1,.int .i64 x.e2]
def iA:b8 aZ:=iS 3 aZ.cells (fun _=>rfl) (fun _ v a=>by simp only[aZ.cells,List.mem_cons,List.not_mem_nil,or_false] at a;rcases a with rfl|rfl|rfl<;>rfl)
theorem HE:iA.n=3:=rfl
attribute [go_sem] aZ.v aZ.cells HE
def aZ.get (x:aZ)(i:Int):Option Int:=if i=0 then some x.e0 else if i=1 then some x.e1 else if i=2 then some x.e2 else none
theorem aZ.get_some {x:aZ}{i:Int}{y:Int}(h:aZ.get x i=some y):0<=i/\i<((3:Nat):Int)/\([.int .i64 x.e0,.int .i64 x.e1,.int .i64 x.e2]:List Value)[i.toNat]?=some (.int .i64 y):=by
 unfold aZ.get at h;by_cases h0:i=0
 .subst h0;simp at h;subst h;exact ⟨by omega,by omega,rfl⟩
 by_cases h1:i=1
 .subst h1;simp at h;subst h;exact ⟨by omega,by omega,rfl⟩
 by_cases h2:i=2
 .subst h2;simp at h;subst h;exact ⟨by omega,by omega,rfl⟩
 simp[h0,h1,h2] at h
theorem aZ.HF {ro:Addr->Option Value}{b:Nat}{x:aZ}{i:Int}{y:Int}(h:aZ.get x i=some y)(g0:ro ⟨b,0,none⟩=some (.int .i64 x.e0))(a:ro ⟨b,1,none⟩=some (.int .i64 x.e1))(c:ro ⟨b,2,none⟩=some (.int .i64 x.e2)):ro ⟨b,i.toNat,none⟩=some (.int .i64 y):=by
 unfold aZ.get at h;by_cases h0:i=0
 .subst h0;simp at h;subst h;exact g0
 by_cases h1:i=1
 .subst h1;simp at h;subst h;exact a
 by_cases h2:i=2
 .subst h2;simp at h;subst h;exact c
 simp[h0,h1,h2] at h
structure cV where
 book:aj
 all:(List aZ)
 deriving DecidableEq
def cV.rel (ro:Addr->Option Value)(x:cV)(cs:List Value):Prop:=∃a b c d e,cs=[.int .i64 x.book.bB,.int .i64 x.book.bH,.int .i64 x.book.aO.num,.int .i64 x.book.aO.den,a,b,c,d,e]/\az eT ro a x.book.ax/\az dI ro b x.book.props/\az ej ro c x.book.an/\az cU ro d x.book.told/\az iA ro e x.all
theorem cV.qW {ro:Addr->Option Value}{x:cV}{cs:List Value}(h:cV.rel ro x cs):∀v∈cs,bJ v=true:=by
 obtain ⟨b,c,d,e,f,rfl,⟨_,_,rfl,_⟩,⟨_,_,rfl,_⟩,⟨_,_,rfl,_⟩,⟨_,_,rfl,_⟩,⟨_,_,rfl,_⟩⟩:=h;intro v a;simp only[List.mem_cons,List.not_mem_nil,or_false] at a;rcases a with rfl|rfl|rfl|rfl|rfl|rfl|rfl|rfl|rfl<;>rfl
def HG:b8 cV:=⟨9,cV.rel,fun a ⟨b,c,d,f,g,e,h,i,j,k,l⟩=>⟨b,c,d,f,g,e,h.mono a,i.mono a,j.mono a,k.mono a,l.mono a⟩,fun ⟨b,c,d,f,g,e,_⟩=>by rw[e];rfl,cV.qW⟩
theorem HH:HG.n=9:=rfl
attribute [go_sem] HH
structure iB where
 aM:Int
 high:au
 deriving DecidableEq
def iB.cells (x:iB):List Value:=[.int .i64 x.aM,.int .i64 x.high.num,.int .i64 x.high.den]
def HI:b8 iB:=iS 3 iB.cells (fun _=>rfl) (fun _ v a=>by simp only[iB.cells,List.mem_cons,List.not_mem_nil,or_false] at a;rcases a with rfl|rfl|rfl<;>rfl)
theorem HJ:HI.n=3:=rfl
attribute [go_sem] iB.cells HJ
structure bw where
 spot:iB
 at_:Int
 high:au
 deriving DecidableEq
def bw.v (x:bw):Value:=.agg #[.int .i64 x.spot.aM,.int .i64 x.spot.high.num,.int .i64 x.spot.high.den,.int .i64 x.at_,.int .i64 x.high.num,.int .i64 x.high.den]
def bw.cells (x:bw):List Value:=[.int .i64 x.spot.aM,.int .i64 x.spot.high.num,.int .i64 x.spot.high.den,.int .i64 x.at_,.int .i64 x.high.num,.int .i64 x.high.den]
def k6:b8 bw:=iS 6 bw.cells (fun _=>rfl) (fun _ v a=>by simp only[bw.cells,List.mem_cons,List.not_mem_nil,or_false] at a;rcases a with rfl|rfl|rfl|rfl|rfl|rfl<;>rfl)
theorem HK:k6.n=6:=rfl
attribute [go_sem] bw.v bw.cells HK
def dh.rel (ro:Addr->Option Value)(g:(aj->Option Int))(cs:List Value):Prop:=∃(b:FuncId) (c d:Array Value),cs=[.func (.func b) c d]/\aH Tryz.prog b=true/\∀(aN:Addr->Option Value),Ext ro aN->∀(a:aj) (e:Value) (f:Value) (h:Value) (i:Value) (z:Int),az eT aN e a.ax->az dI aN f a.props->az ej aN h a.an->az cU aN i a.told->g a=some z->aF Tryz.prog b (c++#[.agg #[.int .i64 a.bB,.int .i64 a.bH,.int .i64 a.aO.num,.int .i64 a.aO.den,e,f,h,i]]++d) ⟨aN,[]⟩ (fun v _=>v= .int .i64 z)
theorem dh.HL {ro aN:Addr->Option Value}{g:(aj->Option Int)}{cs:List Value}(b:Ext ro aN)(h:dh.rel ro g cs):dh.rel aN g cs:=by
 obtain ⟨f,a,c,e,h1,h2⟩:=h;exact ⟨f,a,c,e,h1,fun d i=>h2 d (b.trans i)⟩
theorem dh.HM {ro:Addr->Option Value}{g:(aj->Option Int)}{cs:List Value}(h:dh.rel ro g cs):cs.length=1:=by
 obtain ⟨f,a,c,e,_⟩:=h;rw[e];rfl
theorem dh.qW {ro:Addr->Option Value}{g:(aj->Option Int)}{cs:List Value}(h:dh.rel ro g cs):∀v∈cs,bJ v=true:=by
 obtain ⟨f,a,c,e,_⟩:=h;intro v b;rw[e] at b;simp at b;subst b;rfl
def dh:b8 (aj->Option Int):=⟨1,dh.rel,dh.HL,dh.HM,dh.qW⟩
theorem HN:dh.n=1:=rfl
attribute [go_sem] HN
abbrev sl {T:Type}(d:Option Addr)(l:List T)(c:Nat):Value:=.slice d l.length c
abbrev bk (x:aj)(a b c d:Value):Obj:=.cells #[.int .i64 x.bB,.int .i64 x.bH,.int .i64 x.aO.num,.int .i64 x.aO.den,a,b,c,d] 29
abbrev bl (x:aj)(a b c d:Value):Obj:=.cells #[.int .i64 x.bB,.int .i64 x.bH,.int .i64 x.aO.num,.int .i64 x.aO.den,a,b,c,d] 96
abbrev bz (t:Nat):Obj:=.cells #[.int .i64 0,.int .i64 0,.int .i64 0,.int .i64 0,.slice none 0 0,.slice none 0 0,.slice none 0 0,.slice none 0 0] t
abbrev kn (x:cV)(a b c d e:Value):Obj:=.cells #[.int .i64 x.book.bB,.int .i64 x.book.bH,.int .i64 x.book.aO.num,.int .i64 x.book.aO.den,a,b,c,d,e] 99
abbrev rt (a b:Int):Obj:=.cells #[.int .i64 a,.int .i64 b] 23
abbrev ic (a:Int):Obj:=.cells #[.int .i64 a] 3
abbrev bv (x:aj)(a b c d:Value):Value:=.agg #[.int .i64 x.bB,.int .i64 x.bH,.int .i64 x.aO.num,.int .i64 x.aO.den,a,b,c,d]
attribute [go_sem] sl bk bl bz kn rt ic bv Hr Hs List.cons_append List.nil_append List.append_nil List.append_assoc
structure bQ (ro:Addr->Option Value)(u:aj)(a b c d:Value):Prop where
 e:az eT ro a u.ax
 p:az dI ro b u.props
 y:az ej ro c u.an
 t:az cU ro d u.told
theorem bQ.oc {ro:Addr->Option Value}{u:aj}{a b c d:Value}(h:bQ ro u a b c d):bJ a=true/\bJ b=true/\bJ c=true/\bJ d=true:=⟨h.e.oc,h.p.oc,h.y.oc,h.t.oc⟩
theorem bQ.mono {ro aN:Addr->Option Value}{u:aj}{a b c d:Value}(h:bQ ro u a b c d)(f:Ext ro aN):bQ aN u a b c d:=⟨h.e.mono f,h.p.mono f,h.y.mono f,h.t.mono f⟩
end Go.Proofs.YtnaejeiofbpbkaaGreatDoor
end
section
namespace Go.Proofs.YtnaejeiofbpbkaaGreatDoor
open Go Go.Sep Go.Proofs
set_option maxRecDepth 100000
set_option maxHeartbeats 4000000
def ga (u0:Int)(a:Int)(b:Int):Option Bool:=
 cond (decide (a<=u0)) (some (decide (u0<=b))) (some false)
theorem g7 {ro:Addr->Option Value}(u0:Int)(a:Int)(b:Int){r:Bool}(h:ga u0 a b=some r):aF Tryz.prog 99 #[.int .i64 u0,.int .i64 a,.int .i64 b] ⟨ro,[]⟩ (fun v _=>v= .bool r):=by
 unfold ga at h;refine aF.go Tryz.func99 rfl Tryz.ntmps99 Tryz.results99 (by simp) fun main J hJ A d hd hs=>?_;have e:=hs 0;have k1:=hs 1;have f:=hs 2;clear hs;apply ah hJ;simp only[*,go_sem];apply ah hJ;revert h;refine cS (fun c h=>?_) fun c h=>?_
 .cases h;simp only[*,go_sem];apply aE;simp only[*,go_sem]
 cases h;simp only[*,go_sem];apply aE;simp only[*,go_sem]
def gk (u0:Int):Option au:=
 some (⟨u0,1⟩:au)
theorem ko {ro:Addr->Option Value}(u0:Int){r:au}(h:gk u0=some r):aF Tryz.prog 89 #[.int .i64 u0] ⟨ro,[]⟩ (fun v _=>v=r.v):=by
 unfold gk at h;cases h;refine aF.go Tryz.func89 rfl Tryz.ntmps89 Tryz.results89 (by simp) fun main J hJ A a hd hs=>?_;have b:=hs 0;clear hs;apply ah hJ;simp only[*,go_sem];refine aA fun c r1 n1=>?_;try simp only[av] at n1
 apply ah hJ;simp only[*,go_sem];apply aE;simp only[*,go_sem]
def eB (u0:au)(a:au):Option Bool:=
 some (decide ((IntKind.i64.wrap (u0.num*a.den))<(IntKind.i64.wrap (a.num*u0.den))))
theorem jF {ro:Addr->Option Value}(u0:au)(a:au){r:Bool}(h:eB u0 a=some r):aF Tryz.prog 63 #[.agg #[.int .i64 u0.num,.int .i64 u0.den],.agg #[.int .i64 a.num,.int .i64 a.den]] ⟨ro,[]⟩ (fun v _=>v= .bool r):=by
 unfold eB at h;cases h;refine aF.go Tryz.func63 rfl Tryz.ntmps63 Tryz.results63 (by simp) fun main J hJ A b hd hs=>?_;have c:=hs 0;have k1:=hs 1;clear hs;apply ah hJ;simp only[*,go_sem];refine aA fun d r1 n1=>?_;try simp only[av] at n1
 refine aA fun b2 r2 n2=>?_;try simp only[av] at n2
 apply ah hJ;simp only[*,go_sem];apply aE;simp only[*,go_sem]
def qX (u0:dn)(a:Int)(b:Int):Option Bool:=
 cond (decide (a<=u0.low)) (cond (decide (u0.low<=u0.high)) (some (decide (u0.high<=b))) (some false)) (some false)
theorem Cf {ro:Addr->Option Value}(u0:dn)(a:Int)(b:Int){r:Bool}(h:qX u0 a b=some r):aF Tryz.prog 120 #[.agg #[.int .i64 u0.low,.int .i64 u0.high],.int .i64 a,.int .i64 b] ⟨ro,[]⟩ (fun v _=>v= .bool r):=by
 unfold qX at h;refine aF.go Tryz.func120 rfl Tryz.ntmps120 Tryz.results120 (by simp) fun main J hJ A e hd hs=>?_;have f:=hs 0;have k1:=hs 1;have g:=hs 2;clear hs;apply ah hJ;simp only[*,go_sem];refine aA fun i r1 n1=>?_;try simp only[av] at n1
 apply ah hJ;revert h;refine cS (fun c h=>?_) fun c h=>?_
 .revert h;refine cS (fun d h=>?_) fun d h=>?_
  .cases h;simp only[*,go_sem];apply aE;simp only[*,go_sem]
  cases h;simp only[*,go_sem];apply aE;simp only[*,go_sem]
 cases h;simp only[*,go_sem];apply aE;simp only[*,go_sem]
def fG (u0:bw)(a:bw):Option Bool:=
 af (eB u0.high a.high) fun b=>some b
theorem tw {ro:Addr->Option Value}(u0:bw)(a:bw){r:Bool}(h:fG u0 a=some r):aF Tryz.prog 59 #[.agg #[.int .i64 u0.spot.aM,.int .i64 u0.spot.high.num,.int .i64 u0.spot.high.den,.int .i64 u0.at_,.int .i64 u0.high.num,.int .i64 u0.high.den],.agg #[.int .i64 a.spot.aM,.int .i64 a.spot.high.num,.int .i64 a.spot.high.den,.int .i64 a.at_,.int .i64 a.high.num,.int .i64 a.high.den]] ⟨ro,[]⟩ (fun v _=>v= .bool r):=by
 unfold fG at h;refine aF.go Tryz.func59 rfl Tryz.ntmps59 Tryz.results59 (by simp) fun main J hJ A c hd hs=>?_;have d:=hs 0;have k1:=hs 1;clear hs;apply ah hJ;simp only[*,go_sem];refine aA fun e r1 n1=>?_;try simp only[av] at n1
 refine aA fun b2 r2 n2=>?_;try simp only[av] at n2
 apply ah hJ;revert h;refine bS fun f b h=>?_;cases h;simp only[*,go_sem];refine bn hJ _ (jF u0.high a.high b) (aJ ?_);simp only[*,go_sem];apply aE;simp only[*,go_sem]
def gK (u0:Int)(b:aj):Option Int:=
 af (ga u0 1 20) fun a=>cond (!a) (some 1) (some 0)
theorem xE {ro:Addr->Option Value}(u0:Int)(b:aj){s1 c d f:Value}(a:bQ ro b s1 c d f){r:Int}(h:gK u0 b=some r):aF Tryz.prog 70 #[.int .i64 u0,bv b s1 c d f] ⟨ro,[]⟩ (fun v _=>v= .int .i64 r):=by
 obtain ⟨d3,c4,rfl,k,l,-⟩:=id a.e;obtain ⟨d10,m,rfl,n,o,-⟩:=id a.p;obtain ⟨d17,q,rfl,s,u,-⟩:=id a.y;obtain ⟨d24,w,rfl,x,z,-⟩:=id a.t;unfold gK at h;refine aF.go Tryz.func70 rfl Tryz.ntmps70 Tryz.results70 (by simp) fun main J hJ A B hd hs=>?_;have C:=hs 0;have k1:=hs 1;clear hs;apply ah hJ;simp only[*,go_sem];refine aA fun D E g=>?_;try simp only[av] at g
 refine ag hJ (ah hJ ?_);revert h;refine bS fun F i h=>?_;simp only[*,go_sem];refine bn hJ _ (g7 u0 1 20 i) (aJ ?_);simp only[*,go_sem];revert h;refine aY hJ (fun j h=>?_) fun j h=>?_
 .cases h;apply ah hJ;simp only[*,go_sem];apply aE;simp only[*,go_sem]
 cases h;refine aI hJ (ag hJ ?_);apply ak hJ;simp only[*,go_sem];apply aE;simp only[*,go_sem]
def eK (u0:aP)(c:aj):Option Int:=
 af (ga u0.back 1 20) fun a=>cond (!a) (some 1) (af (ga u0.high 0 60) fun b=>cond (!b) (some 1) (some 0))
theorem tA {ro:Addr->Option Value}(u0:aP)(b:aj){s1 c d f:Value}(a:bQ ro b s1 c d f){r:Int}(h:eK u0 b=some r):aF Tryz.prog 80 #[.agg #[.int .i64 u0.back,.int .i64 u0.high],bv b s1 c d f] ⟨ro,[]⟩ (fun v _=>v= .int .i64 r):=by
 obtain ⟨d3,c4,rfl,n,o,-⟩:=id a.e;obtain ⟨d10,q,rfl,s,u,-⟩:=id a.p;obtain ⟨d17,w,rfl,x,z,-⟩:=id a.y;obtain ⟨d24,B,rfl,C,D,-⟩:=id a.t;unfold eK at h;refine aF.go Tryz.func80 rfl Tryz.ntmps80 Tryz.results80 (by simp) fun main J hJ A E hd hs=>?_;have F:=hs 0;have k1:=hs 1;clear hs;apply ah hJ;simp only[*,go_sem];refine aA fun G H g=>?_;try simp only[av] at g
 refine aA fun I K i=>?_;try simp only[av] at i
 refine ag hJ (ah hJ ?_);revert h;refine bS fun L j h=>?_;simp only[*,go_sem];refine bn hJ _ (g7 u0.back 1 20 j) (aJ ?_);revert h;refine cS (fun k h=>?_) fun k h=>?_
 .cases h;simp only[*,go_sem];refine cw hJ ?_;apply ah hJ;simp only[*,go_sem];apply aE;simp only[*,go_sem]
 revert h;refine bS fun M l h=>?_;simp only[*,go_sem];refine bn hJ _ (g7 u0.high 0 60 l) (aJ ?_);simp only[*,go_sem];revert h;refine aY hJ (fun m h=>?_) fun m h=>?_
 .cases h;apply ah hJ;simp only[*,go_sem];apply aE;simp only[*,go_sem]
 cases h;refine aI hJ (ag hJ ?_);apply ak hJ;simp only[*,go_sem];apply aE;simp only[*,go_sem]
def oL (u0:aj)(a:Int):Option Bool:=
 af (ga a 0 (IntKind.i64.wrap ((u0.an.length:Int) - 1))) fun b=>some b
theorem Cg {ro:Addr->Option Value}(u0:aj){s1 c d f:Value}(a:bQ ro u0 s1 c d f)(b:Int){r:Bool}(h:oL u0 b=some r):aF Tryz.prog 142 #[bv u0 s1 c d f,.int .i64 b] ⟨ro,[]⟩ (fun v _=>v= .bool r):=by
 obtain ⟨d3,c4,rfl,j,k,-⟩:=id a.e;obtain ⟨d10,l,rfl,m,n,-⟩:=id a.p;obtain ⟨d17,o,rfl,q,s,-⟩:=id a.y;obtain ⟨d24,u,rfl,w,x,-⟩:=id a.t;unfold oL at h;refine aF.go Tryz.func142 rfl Tryz.ntmps142 Tryz.results142 (by simp) fun main J hJ A z hd hs=>?_;have B:=hs 0;have k1:=hs 1;clear hs;apply ah hJ;simp only[*,go_sem];refine aA fun C D g=>?_;try simp only[av] at g
 apply ah hJ;revert h;refine bS fun E i h=>?_;cases h;simp only[*,go_sem];refine bn hJ _ (g7 b 0 (IntKind.i64.wrap ((u0.an.length:Int) - 1)) i) (aJ ?_);simp only[*,go_sem];apply aE;simp only[*,go_sem]
def eL (u0:aj)(a:Int):Option Bool:=
 af (bh u0.ax 0) fun b=>af (bh u0.ax (IntKind.i64.wrap ((u0.ax.length:Int) - 1))) fun c=>af (ga a b.aM c.aM) fun d=>some d
theorem tB {ro:Addr->Option Value}(u0:aj){s1 f g i:Value}(a:bQ ro u0 s1 f g i)(b:Int){r:Bool}(h:eL u0 b=some r):aF Tryz.prog 136 #[bv u0 s1 f g i,.int .i64 b] ⟨ro,[]⟩ (fun v _=>v= .bool r):=by
 obtain ⟨d3,c4,rfl,E,G,-⟩:=id a.e;unfold eL at h;refine aF.go Tryz.func136 rfl Tryz.ntmps136 Tryz.results136 (by simp) fun main J hJ A H hd hs=>?_;have I:=hs 0;have k1:=hs 1;clear hs;apply ah hJ;simp only[*,go_sem];refine aA fun K L n=>?_;try simp only[av] at n
 apply ag hJ;refine de hJ mixed 20 1 (by simp only[*,go_sem]) (by kernel_rfl) ?_;revert h;refine bS fun j o h=>?_;obtain ⟨M,N,k⟩:=c5 o;obtain ⟨O,p,q,s,c⟩:=a.e.el _ _ k;obtain rfl:p=j.cells:=s;cases q;have t:=c 0 _ rfl;simp only[go_sem] at t;have u:=c 1 _ rfl;simp only[go_sem] at u;clear c k;revert h;refine bS fun l w h=>?_;obtain ⟨P,Q,m⟩:=c5 w;obtain ⟨R,x,y,z,d⟩:=a.e.el _ _ m;obtain rfl:x=l.cells:=z;cases y;have B:=d 0 _ rfl;simp only[go_sem] at B;have C:=d 1 _ rfl;simp only[go_sem] at C;clear d m;revert h;refine bS fun S D h=>?_;cases h;simp only[*,go_sem];refine ⟨_,bI hJ fun F T=>g7 b j.aM l.aM D,ck ?_⟩;simp only[*,go_sem];apply aE;simp only[*,go_sem]
def eY (u0:Int)(a:aj):Option Int:=
 af (oL a u0) fun b=>cond (!b) (some 6) (some 0)
theorem tC {ro:Addr->Option Value}(u0:Int)(b:aj){s1 c d f:Value}(a:bQ ro b s1 c d f){r:Int}(h:eY u0 b=some r):aF Tryz.prog 83 #[.int .i64 u0,bv b s1 c d f] ⟨ro,[]⟩ (fun v _=>v= .int .i64 r):=by
 obtain ⟨d3,c4,rfl,k,l,-⟩:=id a.e;obtain ⟨d10,m,rfl,n,o,-⟩:=id a.p;obtain ⟨d17,q,rfl,s,u,-⟩:=id a.y;obtain ⟨d24,w,rfl,x,z,-⟩:=id a.t;unfold eY at h;refine aF.go Tryz.func83 rfl Tryz.ntmps83 Tryz.results83 (by simp) fun main J hJ A B hd hs=>?_;have C:=hs 0;have k1:=hs 1;clear hs;apply ah hJ;simp only[*,go_sem];refine aA fun D E g=>?_;try simp only[av] at g
 refine ag hJ (ah hJ ?_);revert h;refine bS fun F i h=>?_;simp only[*,go_sem];refine bn hJ _ (Cg b (a.mono aL) u0 i) (aJ ?_);simp only[*,go_sem];revert h;refine aY hJ (fun j h=>?_) fun j h=>?_
 .cases h;apply ah hJ;simp only[*,go_sem];apply aE;simp only[*,go_sem]
 cases h;refine aI hJ (ag hJ ?_);apply ak hJ;simp only[*,go_sem];apply aE;simp only[*,go_sem]
def oM (u0:Int)(a:aj):Option Int:=
 af (eL a u0) fun b=>cond (!b) (some 6) (some 0)
theorem HO {ro:Addr->Option Value}(u0:Int)(b:aj){s1 c d f:Value}(a:bQ ro b s1 c d f){r:Int}(h:oM u0 b=some r):aF Tryz.prog 115 #[.int .i64 u0,bv b s1 c d f] ⟨ro,[]⟩ (fun v _=>v= .int .i64 r):=by
 obtain ⟨d3,c4,rfl,k,l,-⟩:=id a.e;obtain ⟨d10,m,rfl,n,o,-⟩:=id a.p;obtain ⟨d17,q,rfl,s,u,-⟩:=id a.y;obtain ⟨d24,w,rfl,x,z,-⟩:=id a.t;unfold oM at h;refine aF.go Tryz.func115 rfl Tryz.ntmps115 Tryz.results115 (by simp) fun main J hJ A B hd hs=>?_;have C:=hs 0;have k1:=hs 1;clear hs;apply ah hJ;simp only[*,go_sem];refine aA fun D E g=>?_;try simp only[av] at g
 refine ag hJ (ah hJ ?_);revert h;refine bS fun F i h=>?_;simp only[*,go_sem];refine bn hJ _ (tB b (a.mono aL) u0 i) (aJ ?_);simp only[*,go_sem];revert h;refine aY hJ (fun j h=>?_) fun j h=>?_
 .cases h;apply ah hJ;simp only[*,go_sem];apply aE;simp only[*,go_sem]
 cases h;refine aI hJ (ag hJ ?_);apply ak hJ;simp only[*,go_sem];apply aE;simp only[*,go_sem]
def qY (st:(Int×Int)):Option (Fl (Int×Int) au):=
 cond ((st.2 != 0)) (af (gI st.1 st.2) fun a=>some (.nx (st.2,a))) (some (.bk (st.1,st.2)))
def k7 (u0:Int)(a:Int):Option au:=
 af (aU (qY) fu ((if u0<IntKind.i64.wrap (0 - u0) then IntKind.i64.wrap (0 - u0) else u0),a)) fun o=>aC o (fun b=>af (fX u0 b.1) fun c=>af (fX a b.1) fun d=>some (⟨c,d⟩:au)) (fun _ _=>none) (fun r=>some r)
theorem qZ {ro:Addr->Option Value}(u0:Int)(c:Int){r:au}(h:k7 u0 c=some r):aF Tryz.prog 125 #[.int .i64 u0,.int .i64 c] ⟨ro,[]⟩ (fun v _=>v=r.v):=by
 unfold k7 at h;refine aF.go Tryz.func125 rfl Tryz.ntmps125 Tryz.results125 (by simp) fun main J hJ A l hd hs=>?_;have n:=hs 0;have k1:=hs 1;clear hs;apply ah hJ;simp only[*,go_sem];refine aA fun o r1 n1=>?_;try simp only[av] at n1
 apply ah hJ;simp only[*,go_sem];refine ag hJ (aT hJ ?_);revert h;refine bS fun o4 a p=>?_;refine bT hJ (rg 12 6 [5,6]) (fun m f F'=>∃(v2:Int) (b:Int),aU (qY) m (v2,b)=some o4/\F'=⟨ro,(o,rt 0 0)::[]⟩/\slot f 5= .int .i64 v2/\slot f 6= .int .i64 b) fu ?_ ?_
 .refine ⟨(if u0<IntKind.i64.wrap (0 - u0) then IntKind.i64.wrap (0 - u0) else u0),c,a,rfl,?_⟩;simp only[*,go_sem]
 rintro d x F' g ⟨v2,b,a,rfl,y,z⟩;obtain ⟨q,s,t⟩:=g.pick [0,1,4] (by decide);simp only[*,go_sem] at q s t;clear g l hd n k1;obtain _|d:=d
 .exact absurd a (by simp only[aU,reduceCtorEq,not_false_eq_true])
 revert a;refine bS fun B h e=>?_;unfold qY at h;try dsimp only at h
 refine ag hJ (ah hJ ?_);simp only[*,go_sem];revert h;refine aY hJ (fun u h=>?_) fun u h=>?_
 .refine aI hJ (aT hJ ?_);refine de hJ mixed 6 1 (by simp only[*,go_sem]) (by kernel_rfl) ?_;revert h;refine bS fun w i h=>?_;cases h;obtain ⟨C,D⟩:=mZ i;clear i;simp only[*,go_sem];refine ⟨d,Nat.lt_succ_self _,_,Le.sub (List.Sublist.refl _),b,w,e,rfl,?_⟩;simp only[*,go_sem]
 cases h;apply bR;simp only[go_sem];obtain rfl:=sI e;clear e;have h:=p;dsimp only[aC] at h;apply ag hJ;refine de hJ mixed 7 0 (by simp only[*,go_sem]) (by kernel_rfl) ?_;revert h;refine bS fun E j h=>?_;obtain ⟨F,G⟩:=kW j;clear j;revert h;refine bS fun H k h=>?_;cases h;obtain ⟨I,K⟩:=kW k;clear k;simp only[*,go_sem];apply aE;simp only[*,go_sem]
def jG (u0:au)(a:au):Option au:=
 af (k7 (IntKind.i64.wrap ((IntKind.i64.wrap (u0.num*a.den))+(IntKind.i64.wrap (a.num*u0.den)))) (IntKind.i64.wrap (u0.den*a.den))) fun b=>some b
theorem q2 {ro:Addr->Option Value}(u0:au)(a:au){r:au}(h:jG u0 a=some r):aF Tryz.prog 62 #[.agg #[.int .i64 u0.num,.int .i64 u0.den],.agg #[.int .i64 a.num,.int .i64 a.den]] ⟨ro,[]⟩ (fun v _=>v=r.v):=by
 unfold jG at h;refine aF.go Tryz.func62 rfl Tryz.ntmps62 Tryz.results62 (by simp) fun main J hJ A c hd hs=>?_;have d:=hs 0;have k1:=hs 1;clear hs;apply ah hJ;simp only[*,go_sem];refine aA fun e r1 n1=>?_;try simp only[av] at n1
 refine aA fun b2 r2 n2=>?_;try simp only[av] at n2
 refine aA fun b3 r3 n3=>?_;try simp only[av] at n3
 apply ah hJ;revert h;refine bS fun f b h=>?_;cases h;simp only[*,go_sem];refine bn hJ _ (qZ (IntKind.i64.wrap ((IntKind.i64.wrap (u0.num*a.den))+(IntKind.i64.wrap (a.num*u0.den)))) (IntKind.i64.wrap (u0.den*a.den)) b) (aJ ?_);simp only[*,go_sem];apply aE;simp only[*,go_sem]
def jH (u0:au)(a:au):Option au:=
 af (jG u0 (⟨IntKind.i64.wrap (0 - a.num),a.den⟩:au)) fun b=>some b
theorem q3 {ro:Addr->Option Value}(u0:au)(a:au){r:au}(h:jH u0 a=some r):aF Tryz.prog 61 #[.agg #[.int .i64 u0.num,.int .i64 u0.den],.agg #[.int .i64 a.num,.int .i64 a.den]] ⟨ro,[]⟩ (fun v _=>v=r.v):=by
 unfold jH at h;refine aF.go Tryz.func61 rfl Tryz.ntmps61 Tryz.results61 (by simp) fun main J hJ A c hd hs=>?_;have d:=hs 0;have k1:=hs 1;clear hs;apply ah hJ;simp only[*,go_sem];refine aA fun e r1 n1=>?_;try simp only[av] at n1
 refine aA fun b2 r2 n2=>?_;try simp only[av] at n2
 refine aA fun b3 r3 n3=>?_;try simp only[av] at n3
 apply ah hJ;revert h;refine bS fun f b h=>?_;cases h;simp only[*,go_sem];refine bn hJ _ (q2 u0 (⟨IntKind.i64.wrap (0 - a.num),a.den⟩:au) b) (aJ ?_);simp only[*,go_sem];apply aE;simp only[*,go_sem]
def k8 (u0:aj)(a:aP)(e:Int)(b:iB):Option bw:=
 af (gk a.high) fun f=>af (jH b.high f) fun c=>af (k7 (IntKind.i64.wrap (u0.bB+a.back)) (IntKind.i64.wrap (b.aM+a.back))) fun d=>af (gk a.high) fun g=>af (k7 (IntKind.i64.wrap (c.num*d.num)) (IntKind.i64.wrap (c.den*d.den))) fun h=>af (jG g h) fun i=>some (⟨b,e,i⟩:bw)
theorem Ch {ro:Addr->Option Value}(u0:aj){s1 c d e:Value}(K:bQ ro u0 s1 c d e)(b:aP)(j:Int)(a:iB){r:bw}(h:k8 u0 b j a=some r):aF Tryz.prog 124 #[bv u0 s1 c d e,.agg #[.int .i64 b.back,.int .i64 b.high],.int .i64 j,.agg #[.int .i64 a.aM,.int .i64 a.high.num,.int .i64 a.high.den]] ⟨ro,[]⟩ (fun v _=>v=r.v):=by
 unfold k8 at h;refine aF.go Tryz.func124 rfl Tryz.ntmps124 Tryz.results124 (by simp) fun main J hJ A L hd hs=>?_;have M:=hs 0;have k1:=hs 1;have N:=hs 2;have O:=hs 3;clear hs;apply ah hJ;simp only[*,go_sem];refine aA fun k P n=>?_;try simp only[av] at n
 refine aA fun l Q o=>?_;try simp only[av] at o
 refine aA fun m R p=>?_;try simp only[av] at p
 refine aA fun q S s=>?_;try simp only[av] at s
 apply ag hJ;refine fE hJ mixed 6 ⟨ro,[(q,.cells #[.int .i64 0,.int .i64 0,.int .i64 0,.int .i64 0,.int .i64 0,.int .i64 0] 109),(m,.cells #[.int .i64 a.aM,.int .i64 a.high.num,.int .i64 a.high.den] 107),(l,.cells #[.int .i64 b.back,.int .i64 b.high] 105),(k,bl u0 s1 c d e)]⟩ (by simp only[*,go_sem]) (by kernel_rfl) ?_;revert h;refine bS fun t u h=>?_;simp only[*,go_sem];refine ⟨_,bI hJ fun F f=>ko b.high u,ck ?_⟩;revert h;refine bS fun g w h=>?_;simp only[*,go_sem];refine ⟨_,bI hJ fun F f=>q3 a.high t w,?_⟩;simp only[*,go_sem];refine aA fun x T y=>?_;try simp only[av] at y
 simp only[*,go_sem];apply ah hJ;revert h;refine bS fun i z h=>?_;simp only[*,go_sem];refine bn hJ _ (qZ (IntKind.i64.wrap (u0.bB+b.back)) (IntKind.i64.wrap (a.aM+b.back)) z) (aJ ?_);simp only[*,go_sem];refine aA fun B U C=>?_;try simp only[av] at C
 apply ag hJ;refine fE hJ mixed 18 ⟨ro,[(B,rt i.num i.den),(x,rt g.num g.den),(m,.cells #[.int .i64 a.aM,.int .i64 a.high.num,.int .i64 a.high.den] 107),(l,.cells #[.int .i64 b.back,.int .i64 b.high] 105),(k,bl u0 s1 c d e)]⟩ (by simp only[*,go_sem]) (by kernel_rfl) ?_;revert h;refine bS fun D E h=>?_;simp only[*,go_sem];refine ⟨_,bI hJ fun F f=>ko b.high E,ck ?_⟩;revert h;refine bS fun G H h=>?_;simp only[*,go_sem];refine ⟨_,bI hJ fun F f=>qZ (IntKind.i64.wrap (g.num*i.num)) (IntKind.i64.wrap (g.den*i.den)) H,ck ?_⟩;revert h;refine bS fun V I h=>?_;cases h;simp only[*,go_sem];refine ⟨_,bI hJ fun F f=>q2 D G I,ck ?_⟩;simp only[*,go_sem];apply aE;simp only[*,go_sem]
def iC (u0:aj)(a:Int)(b:Int):Option aP:=
 af (bh u0.an a) fun c=>some (⟨c.back,b⟩:aP)
theorem m8 {ro:Addr->Option Value}(u0:aj){s1 c d f:Value}(a:bQ ro u0 s1 c d f)(g:Int)(i:Int){r:aP}(h:iC u0 g i=some r):aF Tryz.prog 86 #[bv u0 s1 c d f,.int .i64 g,.int .i64 i] ⟨ro,[]⟩ (fun v _=>v=r.v):=by
 obtain ⟨d3,c4,rfl,z,B,-⟩:=id a.e;obtain ⟨d10,C,rfl,D,E,-⟩:=id a.p;obtain ⟨d17,F,rfl,G,H,-⟩:=id a.y;obtain ⟨d24,I,rfl,K,L,-⟩:=id a.t;unfold iC at h;refine aF.go Tryz.func86 rfl Tryz.ntmps86 Tryz.results86 (by simp) fun main J hJ A M hd hs=>?_;have N:=hs 0;have k1:=hs 1;have O:=hs 2;clear hs;apply ah hJ;simp only[*,go_sem];refine aA fun P Q k=>?_;try simp only[av] at k
 refine aA fun R S l=>?_;try simp only[av] at l
 apply ah hJ;revert h;refine bS fun m n h=>?_;cases h;obtain ⟨T,U,j⟩:=c5 n;obtain ⟨V,o,q,s,b⟩:=a.y.el _ _ j;obtain rfl:o=m.cells:=s;cases q;have u:=b 0 _ rfl;simp only[go_sem] at u;have w:=b 1 _ rfl;simp only[go_sem] at w;have x:=b 2 _ rfl;simp only[go_sem] at x;clear b j;simp only[*,go_sem];apply aE;simp only[*,go_sem]
def jI (u0:(bw->bw->Option Bool))(i11:Nat)(a:bw)(st:bw):Option (Fl bw bw):=
 af (u0 st a) fun b=>cond (b) (some (.nx a)) (some (.nx st))
def iD (u0:(bw->bw->Option Bool))(a:bw)(b:(List bw)):Option bw:=
 af (bE (jI u0) 0 b a) fun o=>aC o (fun c=>some c) (fun _ _=>none) (fun r=>some r)
theorem tD {ro:Addr->Option Value}(u0:(bw->bw->Option Bool)){dY:FuncId}{eC eD:Array Value}(s:aH Tryz.prog dY=true/\∀(aN:Addr->Option Value),Ext ro aN->∀(i:bw) (j:bw) (z:Bool),u0 i j=some z->aF Tryz.prog dY (eC++#[i.v,j.v]++eD) ⟨aN,[]⟩ (fun v _=>v= .bool z))(c:bw)(b:(List bw)){s1:Value}(k:az k6 ro s1 b){r:bw}(h:iD u0 c b=some r):aF Tryz.prog 58 #[.func (.func dY) eC eD,.agg #[.int .i64 c.spot.aM,.int .i64 c.spot.high.num,.int .i64 c.spot.high.den,.int .i64 c.at_,.int .i64 c.high.num,.int .i64 c.high.den],s1] ⟨ro,[]⟩ (fun v _=>v=r.v):=by
 obtain ⟨d3,c4,rfl,Z,l,-⟩:=id k;unfold iD at h;refine aF.go Tryz.func58 rfl Tryz.ntmps58 Tryz.results58 (by simp) fun main J hJ A t hd hs=>?_;have u:=hs 0;have k1:=hs 1;have w:=hs 2;clear hs;apply ah hJ;simp only[*,go_sem];refine aA fun y ab B=>?_;try simp only[av] at B
 refine aA fun C ad D=>?_;try simp only[av] at D
 refine ag hJ (ah hJ ?_);simp only[*,go_sem];apply aT hJ;revert h;refine bS fun E d F=>?_;refine bT hJ (rg 11 10 [8]) (fun m G F'=>∃(i11:Nat) (v10:bw),m=b.length - i11/\i11<=b.length/\bE (jI u0) i11 (b.drop i11) v10=some E/\F'=⟨ro,(C,.cells #[.int .i64 0,.int .i64 0,.int .i64 0,.int .i64 0,.int .i64 0,.int .i64 0] 109)::(y,.cells #[.int .i64 v10.spot.aM,.int .i64 v10.spot.high.num,.int .i64 v10.spot.high.den,.int .i64 v10.at_,.int .i64 v10.high.num,.int .i64 v10.high.den] 109)::[]⟩/\slot G 11= .int .i64 (i11:Int)) b.length ?_ ?_
 .refine ⟨0,c,(Nat.sub_zero _).symm,Nat.zero_le _,d,rfl,?_⟩;simp only[*,go_sem]
 rintro ae al F' o ⟨i11,v10,rfl,ao,d,rfl,ar⟩;obtain ⟨H,I,K⟩:=o.pick [0,4,6,9,10] (by decide);simp only[*,go_sem] at H I K;clear o t hd u k1 w;apply ah hJ;simp only[*,go_sem];apply ag hJ;rcases Nat.lt_or_ge i11 b.length with L|p
 .refine cw hJ ?_;apply aI hJ;obtain ⟨f,g⟩:∃x,b[i11]?=some x:=⟨_,List.getElem?_eq_getElem L⟩
  rw[dw g] at d;revert d;refine bS fun a0 h q=>?_;unfold jI at h;try dsimp only at h
  obtain ⟨a2,M,N,O,e⟩:=k.el _ _ g;obtain rfl:M=f.cells:=O;cases N;have P:=e 0 _ rfl;simp only[go_sem] at P;have Q:=e 1 _ rfl;simp only[go_sem] at Q;have R:=e 2 _ rfl;simp only[go_sem] at R;have S:=e 3 _ rfl;simp only[go_sem] at S;have T:=e 4 _ rfl;simp only[go_sem] at T;have U:=e 5 _ rfl;simp only[go_sem] at U;clear e g;refine ag hJ (aT hJ (ag hJ ?_));apply ak hJ;simp only[*,go_sem];refine aA fun a3 a4 V=>?_;try simp only[av] at V
  apply ah hJ;revert h;refine bS fun a5 W h=>?_;simp only[*,go_sem];refine bn hJ _ (s.2 _ (fun a v h=>aL a v h) v10 f _ W) ?_;revert h;refine aY hJ (fun X h=>?_) fun X h=>?_
  .cases h;apply ak hJ;simp only[*,go_sem];have Y:=cv (n:=i11) (by have:=l;omega);apply ak hJ;simp only[*,go_sem];refine ⟨b.length - (i11+1),by omega,_,Le.sub (List.Sublist.cons _ (List.Sublist.refl _)),i11+1,f,rfl,by omega,q,rfl,?_⟩;simp only[*,go_sem]
  cases h;apply aI hJ;have Y:=cv (n:=i11) (by have:=l;omega);apply ak hJ;simp only[*,go_sem];refine ⟨b.length - (i11+1),by omega,_,Le.sub (List.Sublist.cons _ (List.Sublist.refl _)),i11+1,v10,rfl,by omega,q,rfl,?_⟩;simp only[*,go_sem]
 have a6:=Nat.not_lt.2 p;refine cn hJ ?_;rw[List.drop_eq_nil_of_le p] at d;obtain rfl:=sI d;clear d;have h:=F;dsimp only[aC] at h;cases h;apply bR;simp only[go_sem];apply ah hJ;simp only[*,go_sem];apply aE;simp only[*,go_sem]
def k9 (u0:(au->au->Option Bool))(i11:Nat)(a:au)(st:au):Option (Fl au au):=
 af (u0 st a) fun b=>cond (b) (some (.nx a)) (some (.nx st))
def gm (u0:(au->au->Option Bool))(a:au)(b:(List au)):Option au:=
 af (bE (k9 u0) 0 b a) fun o=>aC o (fun c=>some c) (fun _ _=>none) (fun r=>some r)
theorem oN {ro:Addr->Option Value}(u0:(au->au->Option Bool)){dY:FuncId}{eC eD:Array Value}(s:aH Tryz.prog dY=true/\∀(aN:Addr->Option Value),Ext ro aN->∀(i:au) (j:au) (z:Bool),u0 i j=some z->aF Tryz.prog dY (eC++#[i.v,j.v]++eD) ⟨aN,[]⟩ (fun v _=>v= .bool z))(d:au)(b:(List au)){s1:Value}(k:az l6 ro s1 b){r:au}(h:gm u0 d b=some r):aF Tryz.prog 88 #[.func (.func dY) eC eD,.agg #[.int .i64 d.num,.int .i64 d.den],s1] ⟨ro,[]⟩ (fun v _=>v=r.v):=by
 obtain ⟨d3,c4,rfl,V,l,-⟩:=id k;unfold gm at h;refine aF.go Tryz.func88 rfl Tryz.ntmps88 Tryz.results88 (by simp) fun main J hJ A t hd hs=>?_;have u:=hs 0;have k1:=hs 1;have w:=hs 2;clear hs;apply ah hJ;simp only[*,go_sem];refine aA fun y W B=>?_;try simp only[av] at B
 refine aA fun C X D=>?_;try simp only[av] at D
 refine ag hJ (ah hJ ?_);simp only[*,go_sem];apply aT hJ;revert h;refine bS fun E c F=>?_;refine bT hJ (rg 11 10 [8]) (fun m G F'=>∃(i11:Nat) (v10:au),m=b.length - i11/\i11<=b.length/\bE (k9 u0) i11 (b.drop i11) v10=some E/\F'=⟨ro,(C,rt 0 0)::(y,rt v10.num v10.den)::[]⟩/\slot G 11= .int .i64 (i11:Int)) b.length ?_ ?_
 .refine ⟨0,d,(Nat.sub_zero _).symm,Nat.zero_le _,c,rfl,?_⟩;simp only[*,go_sem]
 rintro Y Z F' o ⟨i11,v10,rfl,ab,c,rfl,ad⟩;obtain ⟨H,I,K⟩:=o.pick [0,4,6,9,10] (by decide);simp only[*,go_sem] at H I K;clear o t hd u k1 w;apply ah hJ;simp only[*,go_sem];apply ag hJ;rcases Nat.lt_or_ge i11 b.length with L|p
 .refine cw hJ ?_;apply aI hJ;obtain ⟨e,f⟩:∃x,b[i11]?=some x:=⟨_,List.getElem?_eq_getElem L⟩
  rw[dw f] at c;revert c;refine bS fun ae h q=>?_;unfold k9 at h;try dsimp only at h
  obtain ⟨al,M,N,O,g⟩:=k.el _ _ f;obtain rfl:M=e.cells:=O;cases N;have P:=g 0 _ rfl;simp only[go_sem] at P;have Q:=g 1 _ rfl;simp only[go_sem] at Q;clear g f;refine ag hJ (aT hJ (ag hJ ?_));apply ak hJ;simp only[*,go_sem];refine aA fun ao ar R=>?_;try simp only[av] at R
  apply ah hJ;revert h;refine bS fun a0 S h=>?_;simp only[*,go_sem];refine bn hJ _ (s.2 _ (fun a v h=>aL a v h) v10 e _ S) ?_;revert h;refine aY hJ (fun T h=>?_) fun T h=>?_
  .cases h;apply ak hJ;simp only[*,go_sem];have U:=cv (n:=i11) (by have:=l;omega);apply ak hJ;simp only[*,go_sem];refine ⟨b.length - (i11+1),by omega,_,Le.sub (List.Sublist.cons _ (List.Sublist.refl _)),i11+1,e,rfl,by omega,q,rfl,?_⟩;simp only[*,go_sem]
  cases h;apply aI hJ;have U:=cv (n:=i11) (by have:=l;omega);apply ak hJ;simp only[*,go_sem];refine ⟨b.length - (i11+1),by omega,_,Le.sub (List.Sublist.cons _ (List.Sublist.refl _)),i11+1,v10,rfl,by omega,q,rfl,?_⟩;simp only[*,go_sem]
 have a2:=Nat.not_lt.2 p;refine cn hJ ?_;rw[List.drop_eq_nil_of_le p] at c;obtain rfl:=sI c;clear c;have h:=F;dsimp only[aC] at h;cases h;apply bR;simp only[go_sem];apply ah hJ;simp only[*,go_sem];apply aE;simp only[*,go_sem]
def m9 (u0:bw)(a:bw):Option Bool:=
 af (fG a u0) fun b=>some b
theorem HP {ro:Addr->Option Value}(u0:bw)(a:bw){r:Bool}(h:m9 u0 a=some r):aF Tryz.prog 60 #[.agg #[.int .i64 u0.spot.aM,.int .i64 u0.spot.high.num,.int .i64 u0.spot.high.den,.int .i64 u0.at_,.int .i64 u0.high.num,.int .i64 u0.high.den],.agg #[.int .i64 a.spot.aM,.int .i64 a.spot.high.num,.int .i64 a.spot.high.den,.int .i64 a.at_,.int .i64 a.high.num,.int .i64 a.high.den]] ⟨ro,[]⟩ (fun v _=>v= .bool r):=by
 unfold m9 at h;refine aF.go Tryz.func60 rfl Tryz.ntmps60 Tryz.results60 (by simp) fun main J hJ A c hd hs=>?_;have d:=hs 0;have k1:=hs 1;clear hs;apply ah hJ;simp only[*,go_sem];refine aA fun e r1 n1=>?_;try simp only[av] at n1
 refine aA fun b2 r2 n2=>?_;try simp only[av] at n2
 apply ah hJ;revert h;refine bS fun f b h=>?_;cases h;simp only[*,go_sem];refine bn hJ _ (tw a u0 b) (aJ ?_);simp only[*,go_sem];apply aE;simp only[*,go_sem]
def nc (u0:au)(a:au):Option Bool:=
 af (eB a u0) fun b=>some b
theorem HQ {ro:Addr->Option Value}(u0:au)(a:au){r:Bool}(h:nc u0 a=some r):aF Tryz.prog 87 #[.agg #[.int .i64 u0.num,.int .i64 u0.den],.agg #[.int .i64 a.num,.int .i64 a.den]] ⟨ro,[]⟩ (fun v _=>v= .bool r):=by
 unfold nc at h;refine aF.go Tryz.func87 rfl Tryz.ntmps87 Tryz.results87 (by simp) fun main J hJ A c hd hs=>?_;have d:=hs 0;have k1:=hs 1;clear hs;apply ah hJ;simp only[*,go_sem];refine aA fun e r1 n1=>?_;try simp only[av] at n1
 refine aA fun b2 r2 n2=>?_;try simp only[av] at n2
 apply ah hJ;revert h;refine bS fun f b h=>?_;cases h;simp only[*,go_sem];refine bn hJ _ (jF a u0 b) (aJ ?_);simp only[*,go_sem];apply aE;simp only[*,go_sem]
def tE (u0:aj)(i32:Nat)(a:bA)(st:Int):Option (Fl Int Int):=
 af (oL u0 a.aS) fun b=>cond (!b) (some (.rt 6)) (some (.nx st))
def ng (u0:aj):Option Int:=
 cond (decide (3<(u0.told.length:Int))) (some 2) (af (bE (tE u0) 0 u0.told 0) fun o=>aC o (fun a=>some 0) (fun _ _=>none) (fun r=>some r))
theorem HR {ro:Addr->Option Value}(u0:aj){s1 c d j:Value}(e:bQ ro u0 s1 c d j){r:Int}(h:ng u0=some r):aF Tryz.prog 237 #[bv u0 s1 c d j] ⟨ro,[]⟩ (fun v _=>v= .int .i64 r):=by
 obtain ⟨d24,s,rfl,R,u,-⟩:=id e.t;unfold ng at h;refine aF.go Tryz.func237 rfl Tryz.ntmps237 Tryz.results237 (by simp) fun main J hJ A w hd hs=>?_;have y:=hs 0;clear hs;apply ah hJ;simp only[*,go_sem];refine aA fun z S B=>?_;try simp only[av] at B
 refine ag hJ (ah hJ ?_);simp only[*,go_sem];revert h;refine aY hJ (fun C h=>?_) fun C h=>?_
 .cases h;apply ah hJ;simp only[*,go_sem];apply aE;simp only[*,go_sem]
 refine aI hJ (ag hJ ?_);apply ah hJ;simp only[*,go_sem];apply aT hJ;revert h;refine bS fun D a k=>?_;refine bT hJ (rg 14 10 [2,4]) (fun m l F'=>∃(i32:Nat) (b:Int),m=u0.told.length - i32/\i32<=u0.told.length/\bE (tE u0) i32 (u0.told.drop i32) b=some D/\F'=⟨ro,(z,bl u0 s1 c d (sl d24 u0.told s))::[]⟩/\slot l 14= .int .i64 (i32:Int)/\slot l 2= .int .i64 b) u0.told.length ?_ ?_
 .refine ⟨0,0,(Nat.sub_zero _).symm,Nat.zero_le _,a,rfl,?_⟩;simp only[*,go_sem]
 rintro T U F' o ⟨i32,b,rfl,V,a,rfl,W,X⟩;obtain ⟨E,F,G⟩:=o.pick [1,12,13] (by decide);simp only[*,go_sem] at E F G;clear o w hd y;apply ah hJ;simp only[*,go_sem];apply ag hJ;rcases Nat.lt_or_ge i32 u0.told.length with H|p
 .refine cw hJ ?_;apply aI hJ;obtain ⟨q,f⟩:∃x,u0.told[i32]?=some x:=⟨_,List.getElem?_eq_getElem H⟩
  rw[dw f] at a;revert a;refine bS fun Y h g=>?_;unfold tE at h;try dsimp only at h
  obtain ⟨Z,I,K,L,i⟩:=e.t.el _ _ f;obtain rfl:I=q.cells:=L;cases K;have M:=i 0 _ rfl;simp only[go_sem] at M;have N:=i 1 _ rfl;simp only[go_sem] at N;clear i f;refine ag hJ (aT hJ (ag hJ ?_));apply ak hJ;simp only[*,go_sem];refine aA fun ab ad O=>?_;try simp only[av] at O
  apply ah hJ;revert h;refine bS fun ae P h=>?_;simp only[*,go_sem];refine bn hJ _ (Cg u0 (e.mono aL) q.aS P) (aJ ?_);simp only[*,go_sem];revert h;refine aY hJ (fun Q h=>?_) fun Q h=>?_
  .cases h;apply ah hJ;simp only[*,go_sem];obtain rfl:=sI g;clear g;have h:=k;dsimp only[aC] at h;cases h;apply aE;simp only[*,go_sem]
  cases h;apply aI hJ;have al:=cv (n:=i32) (by have:=u;omega);apply ak hJ;simp only[*,go_sem];refine ⟨u0.told.length - (i32+1),by omega,_,Le.sub (List.Sublist.cons _ (List.Sublist.refl _)),i32+1,b,rfl,by omega,g,rfl,?_⟩;simp only[*,go_sem]
 have ao:=Nat.not_lt.2 p;refine cn hJ ?_;rw[List.drop_eq_nil_of_le p] at a;obtain rfl:=sI a;clear a;have h:=k;dsimp only[aC] at h;cases h;apply bR;simp only[go_sem];apply ah hJ;simp only[*,go_sem];apply aE;simp only[*,go_sem]
def tF (i34:Nat)(a:bO)(st:Int):Option (Fl Int Int):=
 af (ga a.back 1 20) fun b=>cond (!b) (some (.rt 1)) (af (qX a.high 0 60) fun c=>cond (!c) (some (.rt 1)) (cond (decide (3<=(IntKind.i64.wrap (a.high.high - a.high.low)))) (some (.rt 1)) (some (.nx st))))
def nh (u0:aj):Option Int:=
 af (ga (u0.an.length:Int) 1 3) fun a=>cond (!a) (some 2) (af (bE (tF) 0 u0.an 0) fun o=>aC o (fun b=>some 0) (fun _ _=>none) (fun r=>some r))
theorem HS {ro:Addr->Option Value}(u0:aj){s1 f k g:Value}(l:bQ ro u0 s1 f k g){r:Int}(h:nh u0=some r):aF Tryz.prog 236 #[bv u0 s1 f k g] ⟨ro,[]⟩ (fun v _=>v= .int .i64 r):=by
 obtain ⟨d17,s,rfl,W,t,-⟩:=id l.y;unfold nh at h;refine aF.go Tryz.func236 rfl Tryz.ntmps236 Tryz.results236 (by simp) fun main J hJ A u hd hs=>?_;have w:=hs 0;clear hs;apply ah hJ;simp only[*,go_sem];refine aA fun z X B=>?_;try simp only[av] at B
 refine ag hJ (ah hJ ?_);revert h;refine bS fun Y C h=>?_;simp only[*,go_sem];refine bn hJ _ (g7 (u0.an.length:Int) 1 3 C) (aJ ?_);simp only[*,go_sem];revert h;refine aY hJ (fun D h=>?_) fun D h=>?_
 .cases h;apply ah hJ;simp only[*,go_sem];apply aE;simp only[*,go_sem]
 refine aI hJ (ag hJ ?_);apply ah hJ;simp only[*,go_sem];apply aT hJ;revert h;refine bS fun E a c=>?_;refine bT hJ (rg 15 25 [2,4]) (fun m o F'=>∃(i34:Nat) (d:Int),m=u0.an.length - i34/\i34<=u0.an.length/\bE (tF) i34 (u0.an.drop i34) d=some E/\F'=⟨ro,(z,bl u0 s1 f (sl d17 u0.an s) g)::[]⟩/\slot o 15= .int .i64 (i34:Int)/\slot o 2= .int .i64 d) u0.an.length ?_ ?_
 .refine ⟨0,0,(Nat.sub_zero _).symm,Nat.zero_le _,a,rfl,?_⟩;simp only[*,go_sem]
 rintro Z ab F' p ⟨i34,d,rfl,ad,a,rfl,ae,al⟩;obtain ⟨F,G,H⟩:=p.pick [13,14] (by decide);simp only[*,go_sem] at F G H;clear p u hd w;apply ah hJ;simp only[*,go_sem];apply ag hJ;rcases Nat.lt_or_ge i34 u0.an.length with I|q
 .refine cw hJ ?_;apply aI hJ;obtain ⟨i,j⟩:∃x,u0.an[i34]?=some x:=⟨_,List.getElem?_eq_getElem I⟩
  rw[dw j] at a;revert a;refine bS fun ao h b=>?_;unfold tF at h;try dsimp only at h
  obtain ⟨ar,K,L,M,e⟩:=l.y.el _ _ j;obtain rfl:K=i.cells:=M;cases L;have N:=e 0 _ rfl;simp only[go_sem] at N;have O:=e 1 _ rfl;simp only[go_sem] at O;have P:=e 2 _ rfl;simp only[go_sem] at P;clear e j;refine ag hJ (aT hJ (ag hJ ?_));apply ak hJ;simp only[*,go_sem];refine aA fun a0 a2 Q=>?_;try simp only[av] at Q
  apply ah hJ;revert h;refine bS fun a3 R h=>?_;simp only[*,go_sem];refine bn hJ _ (g7 i.back 1 20 R) (aJ ?_);revert h;refine cS (fun S h=>?_) fun S h=>?_
  .cases h;simp only[*,go_sem];refine cw hJ ?_;apply ah hJ;simp only[*,go_sem];obtain rfl:=sI b;clear b;have h:=c;dsimp only[aC] at h;cases h;apply aE;simp only[*,go_sem]
  revert h;refine bS fun a4 T h=>?_;simp only[*,go_sem];refine bn hJ _ (Cf i.high 0 60 T) (aJ ?_);revert h;refine cS (fun U h=>?_) fun U h=>?_
  .cases h;simp only[*,go_sem];refine cw hJ ?_;apply ah hJ;simp only[*,go_sem];obtain rfl:=sI b;clear b;have h:=c;dsimp only[aC] at h;cases h;apply aE;simp only[*,go_sem]
  simp only[*,go_sem];revert h;refine aY hJ (fun V h=>?_) fun V h=>?_
  .cases h;apply ah hJ;simp only[*,go_sem];obtain rfl:=sI b;clear b;have h:=c;dsimp only[aC] at h;cases h;apply aE;simp only[*,go_sem]
  cases h;apply aI hJ;have a5:=cv (n:=i34) (by have:=t;omega);apply ak hJ;simp only[*,go_sem];refine ⟨u0.an.length - (i34+1),by omega,_,Le.sub (List.Sublist.cons _ (List.Sublist.refl _)),i34+1,d,rfl,by omega,b,rfl,?_⟩;simp only[*,go_sem]
 have a6:=Nat.not_lt.2 q;refine cn hJ ?_;rw[List.drop_eq_nil_of_le q] at a;obtain rfl:=sI a;clear a;have h:=c;dsimp only[aC] at h;cases h;apply bR;simp only[go_sem];apply ah hJ;simp only[*,go_sem];apply aE;simp only[*,go_sem]
def tG (u0:aj)(i32:Nat)(a:bL)(st:Int):Option (Fl Int Int):=
 af (eL u0 a.place) fun c=>cond (!c) (some (.rt 6)) (af (gK a.dg u0) fun b=>cond ((b != 0)) (some (.rt b)) (some (.nx st)))
def ni (u0:aj):Option Int:=
 cond (decide (3<(u0.props.length:Int))) (some 2) (af (bE (tG u0) 0 u0.props 0) fun o=>aC o (fun a=>some 0) (fun _ _=>none) (fun r=>some r))
theorem HT {ro:Addr->Option Value}(u0:aj){s1 l e f:Value}(c:bQ ro u0 s1 l e f){r:Int}(h:ni u0=some r):aF Tryz.prog 235 #[bv u0 s1 l e f] ⟨ro,[]⟩ (fun v _=>v= .int .i64 r):=by
 obtain ⟨d10,t,rfl,T,u,-⟩:=id c.p;unfold ni at h;refine aF.go Tryz.func235 rfl Tryz.ntmps235 Tryz.results235 (by simp) fun main J hJ A w hd hs=>?_;have y:=hs 0;clear hs;apply ah hJ;simp only[*,go_sem];refine aA fun z U B=>?_;try simp only[av] at B
 refine ag hJ (ah hJ ?_);simp only[*,go_sem];revert h;refine aY hJ (fun C h=>?_) fun C h=>?_
 .cases h;apply ah hJ;simp only[*,go_sem];apply aE;simp only[*,go_sem]
 refine aI hJ (ag hJ ?_);apply ah hJ;simp only[*,go_sem];apply aT hJ;revert h;refine bS fun D a g=>?_;refine bT hJ (rg 15 17 [2,4,5]) (fun m o F'=>∃(i32:Nat) (d:Int),m=u0.props.length - i32/\i32<=u0.props.length/\bE (tG u0) i32 (u0.props.drop i32) d=some D/\F'=⟨ro,(z,bl u0 s1 (sl d10 u0.props t) e f)::[]⟩/\slot o 15= .int .i64 (i32:Int)/\slot o 2= .int .i64 d) u0.props.length ?_ ?_
 .refine ⟨0,0,(Nat.sub_zero _).symm,Nat.zero_le _,a,rfl,?_⟩;simp only[*,go_sem]
 rintro V W F' q ⟨i32,d,rfl,X,a,rfl,Y,Z⟩;obtain ⟨E,F,G⟩:=q.pick [1,13,14] (by decide);simp only[*,go_sem] at E F G;clear q w hd y;apply ah hJ;simp only[*,go_sem];apply ag hJ;rcases Nat.lt_or_ge i32 u0.props.length with H|s
 .refine cw hJ ?_;apply aI hJ;obtain ⟨i,j⟩:∃x,u0.props[i32]?=some x:=⟨_,List.getElem?_eq_getElem H⟩
  rw[dw j] at a;revert a;refine bS fun ab h b=>?_;unfold tG at h;try dsimp only at h
  obtain ⟨ad,I,K,L,k⟩:=c.p.el _ _ j;obtain rfl:I=i.cells:=L;cases K;have M:=k 0 _ rfl;simp only[go_sem] at M;have N:=k 1 _ rfl;simp only[go_sem] at N;clear k j;refine ag hJ (aT hJ (ag hJ ?_));apply ak hJ;simp only[*,go_sem];refine aA fun ae al O=>?_;try simp only[av] at O
  refine ag hJ (ah hJ ?_);revert h;refine bS fun ao P h=>?_;simp only[*,go_sem];refine bn hJ _ (tB u0 (c.mono aL) i.place P) (aJ ?_);simp only[*,go_sem];revert h;refine aY hJ (fun Q h=>?_) fun Q h=>?_
  .cases h;apply ah hJ;simp only[*,go_sem];obtain rfl:=sI b;clear b;have h:=g;dsimp only[aC] at h;cases h;apply aE;simp only[*,go_sem]
  refine aI hJ (ag hJ ?_);apply ak hJ;revert h;refine bS fun ar R h=>?_;simp only[*,go_sem];refine bn hJ _ (xE i.dg u0 (c.mono aL) R) (aJ ?_);simp only[*,go_sem];apply ah hJ;simp only[*,go_sem];revert h;refine aY hJ (fun S h=>?_) fun S h=>?_
  .cases h;apply ah hJ;simp only[*,go_sem];obtain rfl:=sI b;clear b;have h:=g;dsimp only[aC] at h;cases h;apply aE;simp only[*,go_sem]
  cases h;apply aI hJ;have a0:=cv (n:=i32) (by have:=u;omega);apply ak hJ;simp only[*,go_sem];refine ⟨u0.props.length - (i32+1),by omega,_,Le.sub (List.Sublist.cons _ (List.Sublist.refl _)),i32+1,d,rfl,by omega,b,rfl,?_⟩;simp only[*,go_sem]
 have a2:=Nat.not_lt.2 s;refine cn hJ ?_;rw[List.drop_eq_nil_of_le s] at a;obtain rfl:=sI a;clear a;have h:=g;dsimp only[aC] at h;cases h;apply bR;simp only[go_sem];apply ah hJ;simp only[*,go_sem];apply aE;simp only[*,go_sem]
def tH (u0:aj)(i34:Nat)(a:bY)(st:Int):Option (Fl Int Int):=
 af (ga a.aM 0 (IntKind.i64.wrap (u0.bB - 1))) fun b=>cond (!b) (some (.rt 1)) (af (ga a.high 0 60) fun c=>cond (!c) (some (.rt 1)) (cond (decide (0<(i34:Int))) (af (bh u0.ax (IntKind.i64.wrap ((i34:Int) - 1))) fun d=>cond (decide (a.aM<=d.aM)) (some (.rt 7)) (some (.nx st))) (some (.nx st))))
def l7 (u0:aj):Option Int:=
 af (ga (u0.ax.length:Int) 2 5) fun a=>cond (!a) (some 2) (af (bE (tH u0) 0 u0.ax 0) fun o=>aC o (fun b=>some 0) (fun _ _=>none) (fun r=>some r))
theorem HU {ro:Addr->Option Value}(u0:aj){s1 f g i:Value}(j:bQ ro u0 s1 f g i){r:Int}(h:l7 u0=some r):aF Tryz.prog 234 #[bv u0 s1 f g i] ⟨ro,[]⟩ (fun v _=>v= .int .i64 r):=by
 obtain ⟨d3,c4,rfl,ar,q,-⟩:=id j.e;unfold l7 at h;refine aF.go Tryz.func234 rfl Tryz.ntmps234 Tryz.results234 (by simp) fun main J hJ A y hd hs=>?_;have z:=hs 0;clear hs;apply ah hJ;simp only[*,go_sem];refine aA fun B a0 C=>?_;try simp only[av] at C
 refine ag hJ (ah hJ ?_);revert h;refine bS fun a2 D h=>?_;simp only[*,go_sem];refine bn hJ _ (g7 (u0.ax.length:Int) 2 5 D) (aJ ?_);simp only[*,go_sem];revert h;refine aY hJ (fun E h=>?_) fun E h=>?_
 .cases h;apply ah hJ;simp only[*,go_sem];apply aE;simp only[*,go_sem]
 refine aI hJ (ag hJ ?_);apply ah hJ;simp only[*,go_sem];apply aT hJ;revert h;refine bS fun F b d=>?_;refine bT hJ (rg 15 35 [2,3,4]) (fun m s F'=>∃(i34:Nat) (c:Int),m=u0.ax.length - i34/\i34<=u0.ax.length/\bE (tH u0) i34 (u0.ax.drop i34) c=some F/\F'=⟨ro,(B,bl u0 (sl d3 u0.ax c4) f g i)::[]⟩/\slot s 15= .int .i64 (i34:Int)/\slot s 2= .int .i64 c) u0.ax.length ?_ ?_
 .refine ⟨0,0,(Nat.sub_zero _).symm,Nat.zero_le _,b,rfl,?_⟩;simp only[*,go_sem]
 rintro a3 a4 F' t ⟨i34,c,rfl,a5,b,rfl,a6,a7⟩;obtain ⟨G,H,I⟩:=t.pick [1,13,14] (by decide);simp only[*,go_sem] at G H I;clear t y hd z;apply ah hJ;simp only[*,go_sem];apply ag hJ;rcases Nat.lt_or_ge i34 u0.ax.length with K|u
 .refine cw hJ ?_;apply aI hJ;obtain ⟨k,l⟩:∃x,u0.ax[i34]?=some x:=⟨_,List.getElem?_eq_getElem K⟩
  rw[dw l] at b;revert b;refine bS fun a8 h a=>?_;unfold tH at h;try dsimp only at h
  obtain ⟨a9,L,M,N,o⟩:=j.e.el _ _ l;obtain rfl:L=k.cells:=N;cases M;have O:=o 0 _ rfl;simp only[go_sem] at O;have P:=o 1 _ rfl;simp only[go_sem] at P;clear o l;refine ag hJ (aT hJ (ag hJ ?_));apply ak hJ;simp only[*,go_sem];refine aA fun ba bb Q=>?_;try simp only[av] at Q
  refine aT hJ (ag hJ ?_);apply ah hJ;revert h;refine bS fun bc R h=>?_;simp only[*,go_sem];refine bn hJ _ (g7 k.aM 0 (IntKind.i64.wrap (u0.bB - 1)) R) (aJ ?_);simp only[*,go_sem];revert h;refine aY hJ (fun S h=>?_) fun S h=>?_
  .cases h;apply aI hJ;refine cw hJ ?_;apply ah hJ;simp only[*,go_sem];obtain rfl:=sI a;clear a;have h:=d;dsimp only[aC] at h;cases h;apply aE;simp only[*,go_sem]
  apply ak hJ;revert h;refine bS fun bd T h=>?_;simp only[*,go_sem];refine bn hJ _ (g7 k.high 0 60 T) (aJ ?_);simp only[*,go_sem];revert h;refine aY hJ (fun U h=>?_) fun U h=>?_
  .cases h;apply ah hJ;simp only[*,go_sem];obtain rfl:=sI a;clear a;have h:=d;dsimp only[aC] at h;cases h;apply aE;simp only[*,go_sem]
  apply ag hJ;refine de hJ mixed 16 2 (by simp only[*,go_sem]) (by kernel_rfl) ?_;revert h;refine cS (fun V h=>?_) fun V h=>?_
  .revert h;refine bS fun W X h=>?_;obtain ⟨bj,bk,w⟩:=c5 X;obtain ⟨bm,Y,Z,ab,p⟩:=j.e.el _ _ w;obtain rfl:Y=W.cells:=ab;cases Z;have ad:=p 0 _ rfl;simp only[go_sem] at ad;have ae:=p 1 _ rfl;simp only[go_sem] at ae;clear p w;simp only[*,go_sem];revert h;refine aY hJ (fun al h=>?_) fun al h=>?_
   .cases h;apply ah hJ;simp only[*,go_sem];obtain rfl:=sI a;clear a;have h:=d;dsimp only[aC] at h;cases h;apply aE;simp only[*,go_sem]
   cases h;apply aI hJ;have ao:=cv (n:=i34) (by have:=q;omega);apply ak hJ;simp only[*,go_sem];refine ⟨u0.ax.length - (i34+1),by omega,_,Le.sub (List.Sublist.cons _ (List.Sublist.refl _)),i34+1,c,rfl,by omega,a,rfl,?_⟩;simp only[*,go_sem]
  cases h;simp only[*,go_sem];refine cn hJ ?_;apply aI hJ;have ao:=cv (n:=i34) (by have:=q;omega);apply ak hJ;simp only[*,go_sem];refine ⟨u0.ax.length - (i34+1),by omega,_,Le.sub (List.Sublist.cons _ (List.Sublist.refl _)),i34+1,c,rfl,by omega,a,rfl,?_⟩;simp only[*,go_sem]
 have bo:=Nat.not_lt.2 u;refine cn hJ ?_;rw[List.drop_eq_nil_of_le u] at b;obtain rfl:=sI b;clear b;have h:=d;dsimp only[aC] at h;cases h;apply bR;simp only[go_sem];apply ah hJ;simp only[*,go_sem];apply aE;simp only[*,go_sem]
def oO (u0:aj):Option Int:=
 af (ga u0.bB 2 60) fun b=>cond (!b) (some 1) (af (ga u0.bH 0 60) fun c=>cond (!c) (some 1) (af (ga u0.aO.den 1 20) fun d=>cond (!d) (some 1) (af (ga u0.aO.num 0 20) fun e=>cond (!e) (some 1) (af (k7 u0.aO.num u0.aO.den) fun a=>cond (!((a.num==u0.aO.num)&&(a.den==u0.aO.den))) (some 3) (some 0)))))
theorem HV {ro:Addr->Option Value}(u0:aj){s1 a b c:Value}(z:bQ ro u0 s1 a b c){r:Int}(h:oO u0=some r):aF Tryz.prog 233 #[bv u0 s1 a b c] ⟨ro,[]⟩ (fun v _=>v= .int .i64 r):=by
 unfold oO at h;refine aF.go Tryz.func233 rfl Tryz.ntmps233 Tryz.results233 (by simp) fun main J hJ A d hd hs=>?_;have e:=hs 0;clear hs;apply ah hJ;simp only[*,go_sem];refine aA fun B C f=>?_;try simp only[av] at f
 refine ag hJ (aT hJ (ag hJ ?_));apply ah hJ;revert h;refine bS fun D g h=>?_;simp only[*,go_sem];refine bn hJ _ (g7 u0.bB 2 60 g) (aJ ?_);simp only[*,go_sem];revert h;refine aY hJ (fun i h=>?_) fun i h=>?_
 .cases h;apply aI hJ;refine cw hJ ?_;apply ah hJ;simp only[*,go_sem];apply aE;simp only[*,go_sem]
 apply ah hJ;revert h;refine bS fun E j h=>?_;simp only[*,go_sem];refine bn hJ _ (g7 u0.bH 0 60 j) (aJ ?_);simp only[*,go_sem];revert h;refine aY hJ (fun k h=>?_) fun k h=>?_
 .cases h;apply aI hJ;refine cw hJ ?_;apply ah hJ;simp only[*,go_sem];apply aE;simp only[*,go_sem]
 apply ah hJ;revert h;refine bS fun G l h=>?_;simp only[*,go_sem];refine bn hJ _ (g7 u0.aO.den 1 20 l) (aJ ?_);simp only[*,go_sem];revert h;refine aY hJ (fun m h=>?_) fun m h=>?_
 .cases h;apply aI hJ;refine cw hJ ?_;apply ah hJ;simp only[*,go_sem];apply aE;simp only[*,go_sem]
 apply ak hJ;revert h;refine bS fun H n h=>?_;simp only[*,go_sem];refine bn hJ _ (g7 u0.aO.num 0 20 n) (aJ ?_);simp only[*,go_sem];revert h;refine aY hJ (fun o h=>?_) fun o h=>?_
 .cases h;apply ah hJ;simp only[*,go_sem];apply aE;simp only[*,go_sem]
 apply ag hJ;refine de hJ mixed 14 1 (by simp only[*,go_sem]) (by kernel_rfl) ?_;revert h;refine bS fun I p h=>?_;simp only[*,go_sem];refine ⟨_,bI hJ fun F K=>qZ u0.aO.num u0.aO.den p,ck ?_⟩;simp only[*,go_sem];revert h;refine aY hJ (fun q h=>?_) fun q h=>?_
 .cases h;apply ag hJ;refine eX [2] fun L s t u=>?_;simp only[*,go_sem] at s t u;clear d hd e;apply ak hJ;simp only[*,go_sem];apply aE;simp only[*,go_sem]
 cases h;refine aI hJ (ag hJ ?_);refine eX [2] fun M w x y=>?_;simp only[*,go_sem] at w x y;clear d hd e;apply ak hJ;simp only[*,go_sem];apply aE;simp only[*,go_sem]
def di (ro:Addr->Option Value):Prop:=
 ro ⟨0,0,none⟩=some (.func (.func 233) #[] #[])/\ro ⟨0,1,none⟩=some (.func (.func 234) #[] #[])/\ro ⟨0,2,none⟩=some (.func (.func 235) #[] #[])/\ro ⟨0,3,none⟩=some (.func (.func 236) #[] #[])/\ro ⟨0,4,none⟩=some (.func (.func 237) #[] #[])
theorem di.mono {ro aN:Addr->Option Value}(h:di ro)(a:Ext ro aN):di aN:=
 ⟨a _ _ h.1,a _ _ h.2.1,a _ _ h.2.2.1,a _ _ h.2.2.2.1,a _ _ h.2.2.2.2⟩
def oP (_:aj):Option Int:=some 0
def l8 (b:aj):Option Int:=af (ng b) fun x=>cond (x != 0) (some x) (oP b)
def l9 (b:aj):Option Int:=af (nh b) fun x=>cond (x != 0) (some x) (l8 b)
def mb (b:aj):Option Int:=af (ni b) fun x=>cond (x != 0) (some x) (l9 b)
def mc (b:aj):Option Int:=af (l7 b) fun x=>cond (x != 0) (some x) (mb b)
def jJ (b:aj):Option Int:=af (oO b) fun x=>cond (x != 0) (some x) (mc b)
def dZ (b:aj):Option Int:=jJ b
def tJ:Nat->aj->Option Int
 |0=>jJ|1=>mc|2=>mb|3=>l9|4=>l8|_=>oP
theorem Ci {ro:Addr->Option Value}(o:di ro)(u0:aj){s1:Value}(e:az eT ro s1 u0.ax){s2:Value}(f:az dI ro s2 u0.props){g:Value}(j:az ej ro g u0.an){k:Value}(l:az cU ro k u0.told){r:Int}(h:dZ u0=some r):
  aF Tryz.prog 117 #[.agg #[.int .i64 u0.bB,.int .i64 u0.bH,.int .i64 u0.aO.num,.int .i64 u0.aO.den,s1,s2,g,k]] ⟨ro,[]⟩ (fun v _=>v= .int .i64 r):=by
 obtain ⟨s,t,u,w,y⟩:=o
 replace h:tJ 0 u0=some r:=h
 refine aF.go Tryz.func117 rfl Tryz.ntmps117 Tryz.results117 (by simp) fun main J hJ A p hd hs=>?_
 have h0:=hs 0
 clear hs
 first|refine ak hJ ?_|refine ah hJ ?_|refine ag hJ (ah hJ ?_)|refine ag hJ (ag hJ (ah hJ ?_))
 simp only[*,go_sem]
 intro d f1;have r1:=ez f1;have n1:=fW f1;simp only[av] at n1
 first|refine ak hJ ?_|refine ah hJ ?_|refine ag hJ (ah hJ ?_)|refine ag hJ (ag hJ (ah hJ ?_))
 simp only[*,go_sem]
 first|refine aT hJ (w5 hJ (fun m a F=>∃i:Nat,F=⟨ro,[(d,.cells #[.int .i64 u0.bB,.int .i64 u0.bH,.int .i64 u0.aO.num,.int .i64 u0.aO.den,s1,s2,g,k] 29)]⟩/\m=5 - i/\sz a=18/\a.defers=[]/\slot a 1= .pointer (some ⟨d,0,none⟩)/\slot a 6= .agg #[.func (.func 233) #[] #[],.func (.func 234) #[] #[],.func (.func 235) #[] #[],.func (.func 236) #[] #[],.func (.func 237) #[] #[]]/\slot a 7= .int .i64 i/\i<=5/\tJ i u0=some r) (5) ?_ ?_)|refine ag hJ (aT hJ (w5 hJ (fun m a F=>∃i:Nat,F=⟨ro,[(d,.cells #[.int .i64 u0.bB,.int .i64 u0.bH,.int .i64 u0.aO.num,.int .i64 u0.aO.den,s1,s2,g,k] 29)]⟩/\m=5 - i/\sz a=18/\a.defers=[]/\slot a 1= .pointer (some ⟨d,0,none⟩)/\slot a 6= .agg #[.func (.func 233) #[] #[],.func (.func 234) #[] #[],.func (.func 235) #[] #[],.func (.func 236) #[] #[],.func (.func 237) #[] #[]]/\slot a 7= .int .i64 i/\i<=5/\tJ i u0=some r) (5) ?_ ?_))|refine ag hJ (ag hJ (aT hJ (w5 hJ (fun m a F=>∃i:Nat,F=⟨ro,[(d,.cells #[.int .i64 u0.bB,.int .i64 u0.bH,.int .i64 u0.aO.num,.int .i64 u0.aO.den,s1,s2,g,k] 29)]⟩/\m=5 - i/\sz a=18/\a.defers=[]/\slot a 1= .pointer (some ⟨d,0,none⟩)/\slot a 6= .agg #[.func (.func 233) #[] #[],.func (.func 234) #[] #[],.func (.func 235) #[] #[],.func (.func 236) #[] #[],.func (.func 237) #[] #[]]/\slot a 7= .int .i64 i/\i<=5/\tJ i u0=some r) (5) ?_ ?_)))
 .refine ⟨0,rfl,rfl,?_⟩
  simp only[*,go_sem,-h]
  first|exact ⟨Nat.zero_le _,h⟩|exact h
 .clear h
  rintro m a F ⟨i,rfl,rfl,p,hd,h1,z,B,hi,h⟩
  rcases i with _|_|_|_|_|i
  .replace h:af (oO u0) (fun x=>cond (x != 0) (some x) (mc u0))=some r:=h
   have b:=gf h;clear h;obtain ⟨x,q,h⟩:=b
   have n:((0:Nat):Int)=0:=rfl
   first|refine ak hJ ?_|refine ah hJ ?_|refine ag hJ (ah hJ ?_)|refine ag hJ (ag hJ (ah hJ ?_))
   simp only[*,go_sem,-h]
   apply ag hJ
   refine ei hJ (by simp only[*,go_sem,-h]) ?_
   apply aI hJ
   refine ag hJ (aT hJ ?_)
   first|refine ak hJ ?_|refine ah hJ ?_|refine ag hJ (ah hJ ?_)|refine ag hJ (ag hJ (ah hJ ?_))
   simp only[*,go_sem,-h]
   first|refine ak hJ ?_|refine ah hJ ?_|refine ag hJ (ah hJ ?_)|refine ag hJ (ag hJ (ah hJ ?_))
   simp only[*,go_sem,-h]
   refine bn hJ _ (HV u0 ⟨(e.mono aL),(f.mono aL),(j.mono aL),(l.mono aL)⟩ q) (aJ ?_)
   simp only[*,go_sem,-h]
   first|refine ak hJ ?_|refine ah hJ ?_|refine ag hJ (ah hJ ?_)|refine ag hJ (ag hJ (ah hJ ?_))
   simp only[*,go_sem,-h]
   have b:=jB h;clear h;rcases b with ⟨c,h⟩|⟨c,h⟩
   .refine ei hJ (by simp only[*,go_sem,-h]) ?_
    first|refine ak hJ ?_|refine ah hJ ?_|refine ag hJ (ah hJ ?_)|refine ag hJ (ag hJ (ah hJ ?_))
    simp only[*,go_sem,-h]
    have b:=Option.some.inj h;clear h;subst b
    apply aE
    simp only[*,go_sem]
   .refine dV hJ (by simp only[*,go_sem,-h]) ?_
    apply aI hJ
    apply ak hJ
    simp only[*,go_sem,-h]
    refine ⟨5 - 1,by omega,_,Le.refl _,1,rfl,rfl,?_⟩
    have hw:IntKind.i64.wrap (0+1)=((1:Nat):Int):=by decide
    simp only[*,go_sem,-h]
    first|exact ⟨by omega,h⟩|exact h
  .replace h:af (l7 u0) (fun x=>cond (x != 0) (some x) (mb u0))=some r:=h
   have b:=gf h;clear h;obtain ⟨x,q,h⟩:=b
   have n:((0+1:Nat):Int)=1:=rfl
   first|refine ak hJ ?_|refine ah hJ ?_|refine ag hJ (ah hJ ?_)|refine ag hJ (ag hJ (ah hJ ?_))
   simp only[*,go_sem,-h]
   apply ag hJ
   refine ei hJ (by simp only[*,go_sem,-h]) ?_
   apply aI hJ
   refine ag hJ (aT hJ ?_)
   first|refine ak hJ ?_|refine ah hJ ?_|refine ag hJ (ah hJ ?_)|refine ag hJ (ag hJ (ah hJ ?_))
   simp only[*,go_sem,-h]
   first|refine ak hJ ?_|refine ah hJ ?_|refine ag hJ (ah hJ ?_)|refine ag hJ (ag hJ (ah hJ ?_))
   simp only[*,go_sem,-h]
   refine bn hJ _ (HU u0 ⟨(e.mono aL),(f.mono aL),(j.mono aL),(l.mono aL)⟩ q) (aJ ?_)
   simp only[*,go_sem,-h]
   first|refine ak hJ ?_|refine ah hJ ?_|refine ag hJ (ah hJ ?_)|refine ag hJ (ag hJ (ah hJ ?_))
   simp only[*,go_sem,-h]
   have b:=jB h;clear h;rcases b with ⟨c,h⟩|⟨c,h⟩
   .refine ei hJ (by simp only[*,go_sem,-h]) ?_
    first|refine ak hJ ?_|refine ah hJ ?_|refine ag hJ (ah hJ ?_)|refine ag hJ (ag hJ (ah hJ ?_))
    simp only[*,go_sem,-h]
    have b:=Option.some.inj h;clear h;subst b
    apply aE
    simp only[*,go_sem]
   .refine dV hJ (by simp only[*,go_sem,-h]) ?_
    apply aI hJ
    apply ak hJ
    simp only[*,go_sem,-h]
    refine ⟨5 - 2,by omega,_,Le.refl _,2,rfl,rfl,?_⟩
    have hw:IntKind.i64.wrap (1+1)=((2:Nat):Int):=by decide
    simp only[*,go_sem,-h]
    first|exact ⟨by omega,h⟩|exact h
  .replace h:af (ni u0) (fun x=>cond (x != 0) (some x) (l9 u0))=some r:=h
   have b:=gf h;clear h;obtain ⟨x,q,h⟩:=b
   have n:((0+1+1:Nat):Int)=2:=rfl
   first|refine ak hJ ?_|refine ah hJ ?_|refine ag hJ (ah hJ ?_)|refine ag hJ (ag hJ (ah hJ ?_))
   simp only[*,go_sem,-h]
   apply ag hJ
   refine ei hJ (by simp only[*,go_sem,-h]) ?_
   apply aI hJ
   refine ag hJ (aT hJ ?_)
   first|refine ak hJ ?_|refine ah hJ ?_|refine ag hJ (ah hJ ?_)|refine ag hJ (ag hJ (ah hJ ?_))
   simp only[*,go_sem,-h]
   first|refine ak hJ ?_|refine ah hJ ?_|refine ag hJ (ah hJ ?_)|refine ag hJ (ag hJ (ah hJ ?_))
   simp only[*,go_sem,-h]
   refine bn hJ _ (HT u0 ⟨(e.mono aL),(f.mono aL),(j.mono aL),(l.mono aL)⟩ q) (aJ ?_)
   simp only[*,go_sem,-h]
   first|refine ak hJ ?_|refine ah hJ ?_|refine ag hJ (ah hJ ?_)|refine ag hJ (ag hJ (ah hJ ?_))
   simp only[*,go_sem,-h]
   have b:=jB h;clear h;rcases b with ⟨c,h⟩|⟨c,h⟩
   .refine ei hJ (by simp only[*,go_sem,-h]) ?_
    first|refine ak hJ ?_|refine ah hJ ?_|refine ag hJ (ah hJ ?_)|refine ag hJ (ag hJ (ah hJ ?_))
    simp only[*,go_sem,-h]
    have b:=Option.some.inj h;clear h;subst b
    apply aE
    simp only[*,go_sem]
   .refine dV hJ (by simp only[*,go_sem,-h]) ?_
    apply aI hJ
    apply ak hJ
    simp only[*,go_sem,-h]
    refine ⟨5 - 3,by omega,_,Le.refl _,3,rfl,rfl,?_⟩
    have hw:IntKind.i64.wrap (2+1)=((3:Nat):Int):=by decide
    simp only[*,go_sem,-h]
    first|exact ⟨by omega,h⟩|exact h
  .replace h:af (nh u0) (fun x=>cond (x != 0) (some x) (l8 u0))=some r:=h
   have b:=gf h;clear h;obtain ⟨x,q,h⟩:=b
   have n:((0+1+1+1:Nat):Int)=3:=rfl
   first|refine ak hJ ?_|refine ah hJ ?_|refine ag hJ (ah hJ ?_)|refine ag hJ (ag hJ (ah hJ ?_))
   simp only[*,go_sem,-h]
   apply ag hJ
   refine ei hJ (by simp only[*,go_sem,-h]) ?_
   apply aI hJ
   refine ag hJ (aT hJ ?_)
   first|refine ak hJ ?_|refine ah hJ ?_|refine ag hJ (ah hJ ?_)|refine ag hJ (ag hJ (ah hJ ?_))
   simp only[*,go_sem,-h]
   first|refine ak hJ ?_|refine ah hJ ?_|refine ag hJ (ah hJ ?_)|refine ag hJ (ag hJ (ah hJ ?_))
   simp only[*,go_sem,-h]
   refine bn hJ _ (HS u0 ⟨(e.mono aL),(f.mono aL),(j.mono aL),(l.mono aL)⟩ q) (aJ ?_)
   simp only[*,go_sem,-h]
   first|refine ak hJ ?_|refine ah hJ ?_|refine ag hJ (ah hJ ?_)|refine ag hJ (ag hJ (ah hJ ?_))
   simp only[*,go_sem,-h]
   have b:=jB h;clear h;rcases b with ⟨c,h⟩|⟨c,h⟩
   .refine ei hJ (by simp only[*,go_sem,-h]) ?_
    first|refine ak hJ ?_|refine ah hJ ?_|refine ag hJ (ah hJ ?_)|refine ag hJ (ag hJ (ah hJ ?_))
    simp only[*,go_sem,-h]
    have b:=Option.some.inj h;clear h;subst b
    apply aE
    simp only[*,go_sem]
   .refine dV hJ (by simp only[*,go_sem,-h]) ?_
    apply aI hJ
    apply ak hJ
    simp only[*,go_sem,-h]
    refine ⟨5 - 4,by omega,_,Le.refl _,4,rfl,rfl,?_⟩
    have hw:IntKind.i64.wrap (3+1)=((4:Nat):Int):=by decide
    simp only[*,go_sem,-h]
    first|exact ⟨by omega,h⟩|exact h
  .replace h:af (ng u0) (fun x=>cond (x != 0) (some x) (oP u0))=some r:=h
   have b:=gf h;clear h;obtain ⟨x,q,h⟩:=b
   have n:((0+1+1+1+1:Nat):Int)=4:=rfl
   first|refine ak hJ ?_|refine ah hJ ?_|refine ag hJ (ah hJ ?_)|refine ag hJ (ag hJ (ah hJ ?_))
   simp only[*,go_sem,-h]
   apply ag hJ
   refine ei hJ (by simp only[*,go_sem,-h]) ?_
   apply aI hJ
   refine ag hJ (aT hJ ?_)
   first|refine ak hJ ?_|refine ah hJ ?_|refine ag hJ (ah hJ ?_)|refine ag hJ (ag hJ (ah hJ ?_))
   simp only[*,go_sem,-h]
   first|refine ak hJ ?_|refine ah hJ ?_|refine ag hJ (ah hJ ?_)|refine ag hJ (ag hJ (ah hJ ?_))
   simp only[*,go_sem,-h]
   refine bn hJ _ (HR u0 ⟨(e.mono aL),(f.mono aL),(j.mono aL),(l.mono aL)⟩ q) (aJ ?_)
   simp only[*,go_sem,-h]
   first|refine ak hJ ?_|refine ah hJ ?_|refine ag hJ (ah hJ ?_)|refine ag hJ (ag hJ (ah hJ ?_))
   simp only[*,go_sem,-h]
   have b:=jB h;clear h;rcases b with ⟨c,h⟩|⟨c,h⟩
   .refine ei hJ (by simp only[*,go_sem,-h]) ?_
    first|refine ak hJ ?_|refine ah hJ ?_|refine ag hJ (ah hJ ?_)|refine ag hJ (ag hJ (ah hJ ?_))
    simp only[*,go_sem,-h]
    have b:=Option.some.inj h;clear h;subst b
    apply aE
    simp only[*,go_sem]
   .refine dV hJ (by simp only[*,go_sem,-h]) ?_
    apply aI hJ
    apply ak hJ
    simp only[*,go_sem,-h]
    refine ⟨5 - 5,by omega,_,Le.refl _,5,rfl,rfl,?_⟩
    have hw:IntKind.i64.wrap (4+1)=((5:Nat):Int):=by decide
    simp only[*,go_sem,-h]
    first|exact ⟨by omega,h⟩|exact h
  .have:i=0:=by omega
   subst this
   replace h:some 0=some r:=h
   have n:((0+1+1+1+1+1:Nat):Int)=5:=rfl
   first|refine ak hJ ?_|refine ah hJ ?_|refine ag hJ (ah hJ ?_)|refine ag hJ (ag hJ (ah hJ ?_))
   simp only[*,go_sem,-h]
   apply ag hJ
   refine dV hJ (by simp only[*,go_sem,-h]) ?_
   apply bR
   simp only[go_sem]
   first|refine ak hJ ?_|refine ah hJ ?_|refine ag hJ (ah hJ ?_)|refine ag hJ (ag hJ (ah hJ ?_))
   simp only[*,go_sem,-h]
   have b:=Option.some.inj h;clear h;subst b
   apply aE
   simp only[*,go_sem]
def oQ (u0:aj)(b:aP)(i39:Nat)(a:bY)(st:(List bw)):Option (Fl (List bw) bw):=
 af (gk a.high) fun c=>af (k8 u0 b (i39:Int) (⟨a.aM,c⟩:iB)) fun d=>af (cG st ([d])) fun e=>some (.nx e)
def kq (u0:aj)(b:aP):Option bw:=
 af (bE (oQ u0 b) 0 u0.ax ([]:List bw)) fun o=>aC o (fun a=>af (bh a 0) fun c=>af (e8 a 1 (a.length:Int)) fun d=>af (iD fG c d) fun e=>some e) (fun _ _=>none) (fun r=>some r)
theorem tK {ro:Addr->Option Value}(u0:aj){s1 f g i:Value}(u:bQ ro u0 s1 f g i)(b:aP){r:bw}(h:kq u0 b=some r):aF Tryz.prog 57 #[bv u0 s1 f g i,.agg #[.int .i64 b.back,.int .i64 b.high]] ⟨ro,[]⟩ (fun v _=>v=r.v):=by
 obtain ⟨d3,c4,rfl,dT,W,-⟩:=id u.e;unfold kq at h;refine aF.go Tryz.func57 rfl Tryz.ntmps57 Tryz.results57 (by simp) fun main J hJ A X hd hs=>?_;have Y:=hs 0;have k1:=hs 1;clear hs;apply ah hJ;simp only[*,go_sem];refine aA fun o Z ab=>?_;try simp only[av] at ab
 refine aA fun p ad ae=>?_;try simp only[av] at ae
 refine aA fun q al ao=>?_;try simp only[av] at ao
 apply ah hJ;simp only[*,go_sem];refine ag hJ (ah hJ ?_);simp only[*,go_sem];apply aT hJ;revert h;refine bS fun ar j a0=>?_;refine bT hJ (rg 12 19 [5,6,7]) (fun m G F'=>∃(i39:Nat) (d33:Option Addr) (s:Nat) (w:List (Nat×Obj)) (c:(List bw)),m=u0.ax.length - i39/\i39<=u0.ax.length/\bE (oQ u0 b) i39 (u0.ax.drop i39) c=some ar/\F'=⟨ro,(q,.cells #[.int .i64 0,.int .i64 0,.int .i64 0,.int .i64 0,.int .i64 0,.int .i64 0] 109)::(p,.cells #[.int .i64 b.back,.int .i64 b.high] 105)::(o,bl u0 (sl d3 u0.ax c4) f g i)::w⟩/\aQ k6 ro 109 (.slice d33 c.length s) c w/\c.length<=s/\slot G 12= .int .i64 (i39:Int)/\slot G 5= .slice d33 c.length s) u0.ax.length ?_ ?_
 .refine ⟨0,none,0,[],([]:List bw),(Nat.sub_zero _).symm,Nat.zero_le _,j,rfl,aQ.nil _ _ _,Nat.le_refl _,?_⟩;simp only[*,go_sem]
 rintro ea eb F' H ⟨i39,d33,s,w,c,rfl,ec,j,rfl,I,ed,eh,et⟩;obtain ⟨a2,a3,a4⟩:=H.pick [2,3,4,10,11] (by decide);simp only[*,go_sem] at a2 a3 a4;clear H X hd Y k1;apply ah hJ;simp only[*,go_sem];apply ag hJ;rcases Nat.lt_or_ge i39 u0.ax.length with a5|K
 .refine cw hJ ?_;apply aI hJ;obtain ⟨d,y⟩:∃x,u0.ax[i39]?=some x:=⟨_,List.getElem?_eq_getElem a5⟩
  rw[dw y] at j;revert j;refine bS fun ev h a6=>?_;unfold oQ at h;try dsimp only at h
  obtain ⟨z,a7,a8,a9,B⟩:=u.e.el _ _ y;obtain rfl:a7=d.cells:=a9;cases a8;have ba:=B 0 _ rfl;simp only[go_sem] at ba;have bb:=B 1 _ rfl;simp only[go_sem] at bb;clear B y;refine ag hJ (aT hJ (ag hJ ?_));refine ay hJ fun bc=>?_;apply ak hJ;simp only[*,go_sem];refine aA fun C eQ L=>?_;have eS:=aR.cons L bc;try simp only[av] at L
  refine ay hJ fun bd=>?_;refine fE hJ mixed 11 ⟨ro,[(C,.cells #[.int .i64 d.aM,.int .i64 d.high] 129),(q,.cells #[.int .i64 0,.int .i64 0,.int .i64 0,.int .i64 0,.int .i64 0,.int .i64 0] 109),(p,.cells #[.int .i64 b.back,.int .i64 b.high] 105),(o,bl u0 (sl (some z) u0.ax c4) f g i)]⟩ (by simp only[*,go_sem]) (by kernel_rfl) ?_;revert h;refine bS fun bj bk h=>?_;simp only[*,go_sem];refine ⟨_,bI hJ fun F t=>ko d.high bk,ck ?_⟩;revert h;refine bS fun a bm h=>?_;simp only[*,go_sem];refine ⟨_,bI hJ fun F t=>Ch u0 (u.mono (cp t)) b (i39:Int) (⟨d.aM,bj⟩:iB) bm,?_⟩;revert h;refine bS fun bo br h=>?_;cases h;obtain ⟨bs,M⟩:=dr br;simp only[*,go_sem];refine aA fun N bz O=>?_;have b0:=aR.cons O bd;try simp only[av] at O
  simp only[*,go_sem];refine dW (r:=k6) (l:=c) (x:=a) (cs:=#[.int .i64 a.spot.aM,.int .i64 a.spot.high.num,.int .i64 a.spot.high.den,.int .i64 a.at_,.int .i64 a.high.num,.int .i64 a.high.den]) (e2:=109) [(N,.cells #[.int .i64 a.spot.aM,.int .i64 a.spot.high.num,.int .i64 a.spot.high.den,.int .i64 a.at_,.int .i64 a.high.num,.int .i64 a.high.den] 109),(C,.cells #[.int .i64 d.aM,.int .i64 d.high] 129),(q,.cells #[.int .i64 0,.int .i64 0,.int .i64 0,.int .i64 0,.int .i64 0,.int .i64 0] 109),(p,.cells #[.int .i64 b.back,.int .i64 b.high] 105),(o,bl u0 (sl (some z) u0.ax c4) f g i)] [] I b0 bs rfl (by simp only[*,go_sem]) bz rfl rfl oG oG xd xg rfl xe (by decide) (by decide) (fun e0 P D b1 b2 e1=>?_);simp only[aV] at b2;subst b1;rw[<-M] at D;clear M;obtain ⟨d63,b3,rfl,b4⟩:=D.len;refine ⟨⟨ro,(N,.cells #[.int .i64 a.spot.aM,.int .i64 a.spot.high.num,.int .i64 a.spot.high.den,.int .i64 a.at_,.int .i64 a.high.num,.int .i64 a.high.den] 109)::(C,.cells #[.int .i64 d.aM,.int .i64 d.high] 129)::(q,.cells #[.int .i64 0,.int .i64 0,.int .i64 0,.int .i64 0,.int .i64 0,.int .i64 0] 109)::(p,.cells #[.int .i64 b.back,.int .i64 b.high] 105)::(o,bl u0 (sl (some z) u0.ax c4) f g i)::P⟩,Le.refl _,?_⟩;refine ⟨by simp only[*,go_sem],mW ?_⟩;simp only[*,go_sem];have e3:=cv (n:=i39) (by have:=W;omega);apply ak hJ;simp only[*,go_sem];refine ⟨u0.ax.length - (i39+1),by omega,_,Le.sub (List.Sublist.cons _ (List.Sublist.cons _ (List.Sublist.refl _))),i39+1,d63,b3,P,bo,rfl,by omega,a6,rfl,D,b4,?_⟩;simp only[*,go_sem]
 have fa:=Nat.not_lt.2 K;refine cn hJ ?_;rw[List.drop_eq_nil_of_le K] at j;obtain rfl:=sI j;clear j;have h:=a0;dsimp only[aC] at h;apply bR;simp only[go_sem];apply ag hJ;refine ay hJ fun Q=>?_;obtain ⟨b5,fb,ca,E,cb⟩:=I.eR [(q,.cells #[.int .i64 0,.int .i64 0,.int .i64 0,.int .i64 0,.int .i64 0,.int .i64 0] 109),(p,.cells #[.int .i64 b.back,.int .i64 b.high] 105),(o,bl u0 (sl d3 u0.ax c4) f g i)] [] Q (aD.cons al (aD.cons ad (aD.cons Z (aD.nil _))));clear Q;refine cz hJ cb ?_;obtain ⟨ff,fg,-⟩:=E.op;simp only[bq] at ca;refine fE hJ mixed 6 ⟨b5,[(p,.cells #[.int .i64 b.back,.int .i64 b.high] 105),(o,bl u0 (sl d3 u0.ax c4) f g i)]⟩ (by simp only[*,go_sem]) (by kernel_rfl) ?_;revert h;refine bS fun R cd h=>?_;obtain ⟨fi,fl,S⟩:=c5 cd;obtain ⟨fp,cf,cl,cy,k⟩:=E.el _ _ S;obtain rfl:cf=R.cells:=cy;cases cl;have cS:=k 0 _ rfl;simp only[go_sem] at cS;have c0:=k 1 _ rfl;simp only[go_sem] at c0;have da:=k 2 _ rfl;simp only[go_sem] at da;have db:=k 3 _ rfl;simp only[go_sem] at db;have dd:=k 4 _ rfl;simp only[go_sem] at dd;have df:=k 5 _ rfl;simp only[go_sem] at df;clear k S;revert h;refine bS fun dk dp h=>?_;obtain ⟨fq,fr,fs,T⟩:=qF dp;have U:(1:Int).toNat<=((c.length:Int)).toNat:=by omega
 have dq:((c.length:Int)).toNat<=s:=by omega
 have ft:0<=((c.length:Int)):=by omega
 obtain ⟨d80,ds,dt,V⟩:=az.qI E (1:Int).toNat ((c.length:Int)).toNat U (by omega) T;simp only[go_sem] at ds dt U dq;obtain ⟨_,_,du,fu,fv,fw⟩:=id V;cases du;clear T;revert h;refine bS fun fx dv h=>?_;cases h;simp only[*,go_sem];refine ⟨_,bI hJ fun F t=>tD (dY:=59) (eC:=#[]) (eD:=#[]) fG ⟨by simp only[go_sem],fun fz fP dC dE _ h=>by simp only[go_sem];exact tw dC dE h⟩ R dk (V.mono (cp t)) dv,?_⟩;simp only[*,go_sem];apply aE;simp only[*,go_sem]
def nj (u0:aj)(a:aP):Option au:=
 af (gk u0.bH) fun b=>af (kq u0 a) fun c=>af (jH b c.high) fun d=>some d
theorem Cj {ro:Addr->Option Value}(u0:aj){s1 b c d:Value}(f:bQ ro u0 s1 b c d)(a:aP){r:au}(h:nj u0 a=some r):aF Tryz.prog 85 #[bv u0 s1 b c d,.agg #[.int .i64 a.back,.int .i64 a.high]] ⟨ro,[]⟩ (fun v _=>v=r.v):=by
 unfold nj at h;refine aF.go Tryz.func85 rfl Tryz.ntmps85 Tryz.results85 (by simp) fun main J hJ A s hd hs=>?_;have t:=hs 0;have k1:=hs 1;clear hs;apply ah hJ;simp only[*,go_sem];refine aA fun g u i=>?_;try simp only[av] at i
 refine aA fun j w k=>?_;try simp only[av] at k
 refine aA fun x y l=>?_;try simp only[av] at l
 apply ag hJ;refine fE hJ mixed 9 ⟨ro,[(j,.cells #[.int .i64 a.back,.int .i64 a.high] 105),(g,bl u0 s1 b c d)]⟩ (by simp only[*,go_sem]) (by kernel_rfl) ?_;revert h;refine bS fun m n h=>?_;simp only[*,go_sem];refine ⟨_,bI hJ fun F e=>ko u0.bH n,ck ?_⟩;revert h;refine bS fun o p h=>?_;simp only[*,go_sem];refine ⟨_,bI hJ fun F e=>tK u0 (f.mono (cp e)) a p,ck ?_⟩;revert h;refine bS fun z q h=>?_;cases h;simp only[*,go_sem];refine ⟨_,bI hJ fun F e=>q3 m o.high q,?_⟩;simp only[*,go_sem];apply aE;simp only[*,go_sem]
def oR (u0:aj)(a:Int)(st:Int):Option (Fl Int au):=
 af (bh u0.ax st) fun b=>cond (decide (b.aM<a)) (some (.nx (IntKind.i64.wrap (st+1)))) (some (.bk st))
def jK (u0:aj)(b:Int):Option au:=
 af (aU (oR u0 b) fu 1) fun o=>aC o (fun c=>af (bh u0.ax (IntKind.i64.wrap (c - 1))) fun a=>af (bh u0.ax c) fun d=>af (gk a.high) fun e=>af (k7 (IntKind.i64.wrap ((IntKind.i64.wrap (d.high - a.high))*(IntKind.i64.wrap (b - a.aM)))) (IntKind.i64.wrap (d.aM - a.aM))) fun f=>af (jG e f) fun g=>some g) (fun _ _=>none) (fun r=>some r)
theorem Ck {ro:Addr->Option Value}(u0:aj){s1 b c d:Value}(g:bQ ro u0 s1 b c d)(i:Int){r:au}(h:jK u0 i=some r):aF Tryz.prog 116 #[bv u0 s1 b c d,.int .i64 i] ⟨ro,[]⟩ (fun v _=>v=r.v):=by
 obtain ⟨d3,c4,rfl,bc,bd,-⟩:=id g.e;unfold jK at h;refine aF.go Tryz.func116 rfl Tryz.ntmps116 Tryz.results116 (by simp) fun main J hJ A E hd hs=>?_;have G:=hs 0;have k1:=hs 1;clear hs;apply ah hJ;simp only[*,go_sem];refine aA fun l bj H=>?_;try simp only[av] at H
 refine aA fun t bk I=>?_;try simp only[av] at I
 apply ah hJ;simp only[*,go_sem];refine ag hJ (aT hJ ?_);revert h;refine bS fun K j L=>?_;refine bT hJ (rg 8 11 [5]) (fun m M F'=>∃(k:Int),aU (oR u0 i) m k=some K/\F'=⟨ro,(t,rt 0 0)::(l,bl u0 (sl d3 u0.ax c4) b c d)::[]⟩/\slot M 5= .int .i64 k) fu ?_ ?_
 .refine ⟨1,j,rfl,?_⟩;simp only[*,go_sem]
 rintro n bm F' u ⟨k,j,rfl,bo⟩;obtain ⟨N,O,P⟩:=u.pick [1,2,4] (by decide);simp only[*,go_sem] at N O P;clear u E hd G k1;obtain _|n:=n
 .exact absurd j (by simp only[aU,reduceCtorEq,not_false_eq_true])
 revert j;refine bS fun br h o=>?_;unfold oR at h;try dsimp only at h
 refine ag hJ (ah hJ ?_);revert h;refine bS fun Q R h=>?_;obtain ⟨bs,bz,w⟩:=c5 R;obtain ⟨x,S,T,U,p⟩:=g.e.el _ _ w;obtain rfl:S=Q.cells:=U;cases T;have y:=p 0 _ rfl;simp only[go_sem] at y;have z:=p 1 _ rfl;simp only[go_sem] at z;clear p w;simp only[*,go_sem];revert h;refine aY hJ (fun V h=>?_) fun V h=>?_
 .cases h;refine aI hJ (aT hJ ?_);apply ak hJ;simp only[*,go_sem];refine ⟨n,Nat.lt_succ_self _,_,Le.sub (List.Sublist.refl _),(IntKind.i64.wrap (k+1)),o,rfl,?_⟩;simp only[*,go_sem]
 cases h;apply bR;simp only[go_sem];obtain rfl:=sI o;clear o;have h:=L;dsimp only[aC] at h;clear y z;apply ag hJ;refine BJ hJ mixed 13 ⟨ro,[(t,rt 0 0),(l,bl u0 (sl (some x) u0.ax c4) b c d)]⟩ (by simp only[*,go_sem]) (by kernel_rfl) 129 rfl BB ?_;revert h;refine bS fun a W h=>?_;obtain ⟨b0,b1,B⟩:=c5 W;obtain ⟨b2,X,Y,Z,q⟩:=g.e.el _ _ B;obtain rfl:X=a.cells:=Z;cases Y;have ab:=q 0 _ rfl;simp only[go_sem] at ab;have ad:=q 1 _ rfl;simp only[go_sem] at ad;clear q B;revert h;refine bS fun f ae h=>?_;obtain ⟨b3,b4,C⟩:=c5 ae;obtain ⟨b5,al,ao,ar,s⟩:=g.e.el _ _ C;obtain rfl:al=f.cells:=ar;cases ao;have a0:=s 0 _ rfl;simp only[go_sem] at a0;have a2:=s 1 _ rfl;simp only[go_sem] at a2;clear s C;simp only[*,go_sem];refine aA fun a3 ca a4=>?_;try simp only[av] at a4
 simp only[*,go_sem];refine aA fun a5 cb a6=>?_;try simp only[av] at a6
 simp only[*,go_sem];apply ag hJ;refine fE hJ mixed 20 ⟨ro,[(a5,.cells #[.int .i64 f.aM,.int .i64 f.high] 129),(a3,.cells #[.int .i64 a.aM,.int .i64 a.high] 129),(l,bl u0 (sl (some x) u0.ax c4) b c d)]⟩ (by simp only[*,go_sem]) (by kernel_rfl) ?_;revert h;refine bS fun a7 a8 h=>?_;simp only[*,go_sem];refine ⟨_,bI hJ fun F D=>ko a.high a8,ck ?_⟩;revert h;refine bS fun a9 ba h=>?_;simp only[*,go_sem];refine ⟨_,bI hJ fun F D=>qZ (IntKind.i64.wrap ((IntKind.i64.wrap (f.high - a.high))*(IntKind.i64.wrap (i - a.aM)))) (IntKind.i64.wrap (f.aM - a.aM)) ba,ck ?_⟩;revert h;refine bS fun cd bb h=>?_;cases h;simp only[*,go_sem];refine ⟨_,bI hJ fun F D=>q2 a7 a9 bb,?_⟩;simp only[*,go_sem];apply aE;simp only[*,go_sem]
def q4 (c:bL)(b:au)(i59:Nat)(a:bw)(st:Unit):Option (Fl Unit (List bw)):=
 cond (((a.spot.aM==c.place)&&((a.spot.high.num==b.num)&&(a.spot.high.den==b.den)))) (some (.br 1 ())) (some (.nx ()))
def q5 (u0:aj)(c:aP)(i38:Nat)(a:bL)(st:(List bw)):Option (Fl (List bw) (List bw)):=
 af (jK u0 a.place) fun d=>af (gk a.dg) fun e=>af (jG d e) fun b=>af (bE (q4 a b) 0 st ()) fun o=>aC o (fun h=>af (k8 u0 c (i38:Int) (⟨a.place,b⟩:iB)) fun f=>af (cG st ([f])) fun g=>some (.nx g)) (fun _ i=>some (.nx st)) (fun r=>some (.rt r))
def kr (u0:aj)(a:aP):Option (List bw):=
 af (bE (q5 u0 a) 0 u0.props ([]:List bw)) fun o=>aC o (fun b=>some b) (fun _ _=>none) (fun r=>some r)
theorem xF {ro:Addr->Option Value}(u0:aj){s1 O f g:Value}(w:bQ ro u0 s1 O f g)(b:aP){r:(List bw)}(h:kr u0 b=some r):eW Tryz.prog 81 #[bv u0 s1 O f g,.agg #[.int .i64 b.back,.int .i64 b.high]] ro (fun v aN=>∃P,v=P/\az k6 aN P r):=by
 obtain ⟨d10,o,rfl,fg,Q,-⟩:=id w.p;unfold kr at h;refine aF.go Tryz.func81 rfl Tryz.ntmps81 Tryz.results81 (by simp) fun main J hJ A ba hd hs=>?_;have bb:=hs 0;have k1:=hs 1;clear hs;apply ah hJ;simp only[*,go_sem];refine aA fun q bc bj=>?_;try simp only[av] at bj
 refine aA fun s bk bm=>?_;try simp only[av] at bm
 refine FF hJ (ag hJ ?_);apply ak hJ;simp only[*,go_sem];apply ag hJ;refine FE hJ ?_;refine ag hJ (ah hJ ?_);simp only[*,go_sem];apply aT hJ;revert h;refine bS fun bo i br=>?_;refine bT hJ (rg 15 36 [5,6,7,8,10]) (fun m y F'=>∃(i38:Nat) (d32:Option Addr) (t:Nat) (z:List (Nat×Obj)) (c:(List bw)),m=u0.props.length - i38/\i38<=u0.props.length/\bE (q5 u0 b) i38 (u0.props.drop i38) c=some bo/\F'=⟨ro,(s,.cells #[.int .i64 b.back,.int .i64 b.high] 105)::(q,bl u0 s1 (sl d10 u0.props o) f g)::z⟩/\aQ k6 ro 109 (.slice d32 c.length t) c z/\c.length<=t/\slot y 15= .int .i64 (i38:Int)/\slot y 5= .slice d32 c.length t) u0.props.length ?_ ?_
 .refine ⟨0,none,0,[],([]:List bw),(Nat.sub_zero _).symm,Nat.zero_le _,i,rfl,aQ.nil _ _ _,Nat.le_refl _,?_⟩;simp only[*,go_sem]
 rintro fi bs F' R ⟨i38,d32,t,z,c,rfl,fl,i,rfl,u,bz,b0,b1⟩;obtain ⟨S,T,U⟩:=R.pick [2,3,4,13,14] (by decide);simp only[*,go_sem] at S T U;clear R ba hd bb k1;apply ah hJ;simp only[*,go_sem];apply ag hJ;rcases Nat.lt_or_ge i38 u0.props.length with b2|V
 .refine cw hJ ?_;apply aI hJ;obtain ⟨d,B⟩:∃x,u0.props[i38]?=some x:=⟨_,List.getElem?_eq_getElem b2⟩
  rw[dw B] at i;revert i;refine bS fun fp h W=>?_;unfold q5 at h;try dsimp only at h
  obtain ⟨C,b3,b4,b5,D⟩:=w.p.el _ _ B;obtain rfl:b3=d.cells:=b5;cases b4;have ca:=D 0 _ rfl;simp only[go_sem] at ca;have cb:=D 1 _ rfl;simp only[go_sem] at cb;clear D B;refine ag hJ (aT hJ (ag hJ ?_));refine ay hJ fun cd=>?_;apply ak hJ;simp only[*,go_sem];refine aA fun E fq X=>?_;have fr:=aR.cons X cd;try simp only[av] at X
  apply ag hJ;refine ay hJ fun cf=>?_;refine de hJ mixed 11 3 (by simp only[*,go_sem]) (by kernel_rfl) ?_;revert h;refine bS fun cl cy h=>?_;simp only[*,go_sem];refine ⟨_,bI hJ fun F G=>Ck u0 (w.mono (cp G)) d.place cy,ck ?_⟩;revert h;refine bS fun cS c0 h=>?_;simp only[*,go_sem];refine ⟨_,bI hJ fun F G=>ko d.dg c0,ck ?_⟩;revert h;refine bS fun e da h=>?_;simp only[*,go_sem];refine ⟨_,bI hJ fun F G=>q2 cl cS da,ck ?_⟩;simp only[*,go_sem];refine aA fun H fs Y=>?_;have ft:=aR.cons Y cf;try simp only[av] at Y
  simp only[*,go_sem];refine ag hJ (ag hJ ?_);refine ay hJ fun fu=>?_;apply ak hJ;simp only[*,go_sem];apply aT hJ;revert h;refine bS fun db j Z=>?_;refine bT hJ (rg 33 9 [10]) (fun m y F'=>∃(i59:Nat),m=c.length - i59/\i59<=c.length/\bE (q4 d e) i59 (c.drop i59) ()=some db/\F'=⟨ro,(H,.cells #[.int .i64 d.place,.int .i64 e.num,.int .i64 e.den] 107)::(E,.cells #[.int .i64 d.place,.int .i64 d.dg] 43)::(s,.cells #[.int .i64 b.back,.int .i64 b.high] 105)::(q,bl u0 s1 (sl (some C) u0.props o) f g)::z⟩/\slot y 33= .int .i64 (i59:Int)) c.length ?_ ?_
  .refine ⟨0,(Nat.sub_zero _).symm,Nat.zero_le _,j,rfl,?_⟩;simp only[*,go_sem]
  rintro fv dd F' I ⟨i59,rfl,fw,j,rfl,fx⟩;obtain ⟨df,dk,dp⟩:=I.pick [2,3,4,5,6,7,8,13,14,15,16,17,19,20,21,22,23,24,25,26,27,28,29,30,31,32] (by decide);simp only[*,go_sem] at df dk dp;have fz:cL (rg 15 36 [5,6,7,8,10]) dd bs:=(I.gG (by decide)).trans (by simp only[*,go_sem]);clear I S T U b1 b0;apply ah hJ;simp only[*,go_sem];apply ag hJ;rcases Nat.lt_or_ge i59 c.length with dq|ab
  .refine cw hJ ?_;apply aI hJ;obtain ⟨ds,K⟩:∃x,c[i59]?=some x:=⟨_,List.getElem?_eq_getElem dq⟩
   rw[dw K] at j;revert j;refine bS fun fP h L=>?_;unfold q4 at h;(try dsimp only at h);refine ay hJ fun M=>?_;obtain ⟨ad,dt,fQ,du,dv,rfl,fS,dC,k⟩:=u.elem K;obtain rfl:du=ds.cells:=dC;cases dv;replace M:=M.nd;simp only[keys,List.map_cons,List.map_nil,List.map_append,List.cons_append,List.nil_append,List.nodup_cons,List.mem_cons,List.mem_append,List.not_mem_nil,or_false,not_or] at M;have ae:=k 0 _ rfl;simp only[go_sem] at ae;have al:=k 1 _ rfl;simp only[go_sem] at al;have ao:=k 2 _ rfl;simp only[go_sem] at ao;have ar:=k 3 _ rfl;simp only[go_sem] at ar;have a0:=k 4 _ rfl;simp only[go_sem] at a0;have a2:=k 5 _ rfl;simp only[go_sem] at a2;clear k K;refine ag hJ (aT hJ (ag hJ ?_));refine ay hJ fun dE=>?_;apply ak hJ;simp only[*,go_sem];refine aA fun fU gg a3=>?_;have gl:=aR.cons a3 dE;try simp only[av] at a3
   apply ag hJ;refine ay hJ fun gn=>?_;apply ak hJ;simp only[*,go_sem];revert h;refine aY hJ (fun dT h=>?_) fun dT h=>?_
   .cases h;apply bR;simp only[go_sem];obtain rfl:=sI L;clear L;have h:=Z;dsimp only[aC] at h;cases h;clear ae al ao ar a0 a2;have ea:=cv (n:=i38) (by have:=Q;omega);apply ak hJ;simp only[*,go_sem];refine ⟨u0.props.length - (i38+1),by omega,_,Le.sub (List.Sublist.cons _ (List.Sublist.cons _ (List.Sublist.cons _ (List.Sublist.refl _)))),i38+1,(some ⟨ad,0,none⟩),t,[(ad,Obj.cells dt 109)],c,rfl,by omega,W,rfl,u,bz,?_⟩;simp only[*,go_sem]
   cases h;apply aI hJ;have gp:=cv (n:=i59) (by have:=u.bd;omega);apply ak hJ;simp only[*,go_sem];refine ⟨c.length - (i59+1),by omega,_,Le.sub (List.Sublist.cons _ (List.Sublist.refl _)),i59+1,rfl,by omega,L,rfl,?_⟩;simp only[*,go_sem]
  have gB:=Nat.not_lt.2 ab;refine cn hJ ?_;rw[List.drop_eq_nil_of_le ab] at j;obtain rfl:=sI j;clear j;have h:=Z;dsimp only[aC] at h;apply bR;simp only[go_sem];refine ay hJ fun eb=>?_;apply ak hJ;revert h;refine bS fun a ec h=>?_;simp only[*,go_sem];refine bn hJ _ (Ch u0 (w.mono aL) b (i38:Int) (⟨d.place,e⟩:iB) ec) (aJ ?_);revert h;refine bS fun ed eh h=>?_;cases h;obtain ⟨et,a4⟩:=dr eh;simp only[*,go_sem];refine aA fun a5 ev a6=>?_;have eQ:=aR.cons a6 eb;try simp only[av] at a6
  refine dW (r:=k6) (l:=c) (x:=a) (cs:=#[.int .i64 a.spot.aM,.int .i64 a.spot.high.num,.int .i64 a.spot.high.den,.int .i64 a.at_,.int .i64 a.high.num,.int .i64 a.high.den]) (e2:=109) [(a5,.cells #[.int .i64 a.spot.aM,.int .i64 a.spot.high.num,.int .i64 a.spot.high.den,.int .i64 a.at_,.int .i64 a.high.num,.int .i64 a.high.den] 109),(H,.cells #[.int .i64 d.place,.int .i64 e.num,.int .i64 e.den] 107),(E,.cells #[.int .i64 d.place,.int .i64 d.dg] 43),(s,.cells #[.int .i64 b.back,.int .i64 b.high] 105),(q,bl u0 s1 (sl (some C) u0.props o) f g)] [] u eQ et rfl (by simp only[*,go_sem]) ev rfl rfl oG oG xd xg rfl xe (by decide) (by decide) (fun gC a7 N eS e0 gM=>?_);simp only[aV] at e0;subst eS;rw[<-a4] at N;clear a4;obtain ⟨d83,e1,rfl,e3⟩:=N.len;refine ⟨⟨ro,(a5,.cells #[.int .i64 a.spot.aM,.int .i64 a.spot.high.num,.int .i64 a.spot.high.den,.int .i64 a.at_,.int .i64 a.high.num,.int .i64 a.high.den] 109)::(H,.cells #[.int .i64 d.place,.int .i64 e.num,.int .i64 e.den] 107)::(E,.cells #[.int .i64 d.place,.int .i64 d.dg] 43)::(s,.cells #[.int .i64 b.back,.int .i64 b.high] 105)::(q,bl u0 s1 (sl (some C) u0.props o) f g)::a7⟩,Le.refl _,?_⟩;apply aJ;simp only[*,go_sem];have ea:=cv (n:=i38) (by have:=Q;omega);apply ak hJ;simp only[*,go_sem];refine ⟨u0.props.length - (i38+1),by omega,_,Le.sub (List.Sublist.cons _ (List.Sublist.cons _ (List.Sublist.cons _ (List.Sublist.refl _)))),i38+1,d83,e1,a7,ed,rfl,by omega,W,rfl,N,e3,?_⟩;simp only[*,go_sem]
 have gT:=Nat.not_lt.2 V;refine cn hJ ?_;rw[List.drop_eq_nil_of_le V] at i;obtain rfl:=sI i;clear i;have h:=br;dsimp only[aC] at h;cases h;apply bR;simp only[go_sem];apply ag hJ;refine ay hJ fun gV=>?_;apply ak hJ;simp only[*,go_sem];refine ay hJ fun a8=>?_;obtain ⟨g0,fa,fb,a9,ff⟩:=u.eR [(s,.cells #[.int .i64 b.back,.int .i64 b.high] 105),(q,bl u0 s1 (sl d10 u0.props o) f g)] [] a8 (aD.cons bk (aD.cons bc (aD.nil _)));clear a8;refine cz hJ ff ?_;obtain ⟨g1,g2,-⟩:=a9.op;simp only[bq] at fb;apply aE;simp only[*,go_sem];exact ⟨_,fa,Le.sub (List.nil_sublist _),_,rfl,a9⟩
def nk (i54:Nat)(a:bw)(st:au):Option (Fl au au):=
 af (gm eB st ([a.high])) fun b=>some (.nx b)
def nq (i100:Nat)(a:bw)(st:au):Option (Fl au au):=
 af (gm eB st ([a.high])) fun b=>some (.nx b)
def lf (u0:aj)(a:aP):Option au:=
 af (gk u0.bH) fun b=>af (kq u0 a) fun c=>af (eB c.high b) fun d=>cond (d) (af (kr u0 a) fun e=>af (bE (nk) 0 e c.high) fun o=>aC o (fun f=>af (jH b f) fun g=>af (gk 0) fun h=>af (gm eB g ([h])) fun i=>some i) (fun _ _=>none) (fun r=>some r)) (af (kr u0 a) fun j=>af (bE (nq) 0 j b) fun o=>aC o (fun k=>af (jH c.high k) fun l=>af (gk 0) fun m=>af (gm eB l ([m])) fun n=>some n) (fun _ _=>none) (fun r=>some r))
theorem tL {ro:Addr->Option Value}(u0:aj){s1 p q s:Value}(t:bQ ro u0 s1 p q s)(a:aP){r:au}(h:lf u0 a=some r):aF Tryz.prog 91 #[bv u0 s1 p q s,.agg #[.int .i64 a.back,.int .i64 a.high]] ⟨ro,[]⟩ (fun v _=>v=r.v):=by
 unfold lf at h;refine aF.go Tryz.func91 rfl Tryz.ntmps91 Tryz.results91 (by simp) fun main J hJ A O hd hs=>?_;have P:=hs 0;have k1:=hs 1;clear hs;apply ah hJ;simp only[*,go_sem];refine aA fun D fr al=>?_;try simp only[av] at al
 refine aA fun E fs ao=>?_;try simp only[av] at ao
 refine aA fun G ft ar=>?_;try simp only[av] at ar
 apply ag hJ;refine BJ hJ mixed 8 ⟨ro,[(G,rt 0 0),(E,.cells #[.int .i64 a.back,.int .i64 a.high] 105),(D,bl u0 s1 p q s)]⟩ (by simp only[*,go_sem]) (by kernel_rfl) 23 rfl Bu ?_;revert h;refine bS fun u a0 h=>?_;simp only[*,go_sem];refine ⟨_,bI hJ fun F Q=>ko u0.bH a0,ck ?_⟩;revert h;refine bS fun w a2 h=>?_;simp only[*,go_sem];refine ⟨_,bI hJ fun F Q=>tK u0 (t.mono (cp Q)) a a2,ck ?_⟩;simp only[*,go_sem];refine aA fun R fu a3=>?_;try simp only[av] at a3
 simp only[*,go_sem];refine aA fun S fv a4=>?_;try simp only[av] at a4
 simp only[*,go_sem];refine ag hJ (ah hJ ?_);revert h;refine bS fun fw a5 h=>?_;simp only[*,go_sem];refine bn hJ _ (jF w.high u a5) ?_;revert h;refine aY hJ (fun a6 h=>?_) fun a6 h=>?_
 .apply ak hJ;simp only[*,go_sem];refine ag hJ (ah hJ ?_);revert h;refine bS fun b a7 h=>?_;simp only[*,go_sem];refine b6 hJ _ (xF u0 t a a7) fun v a8 a9 ba H=>?_;obtain ⟨fx,rfl,T⟩:=H;replace t:=t.mono a9;simp only[bq] at ba;obtain ⟨d48,fz,rfl,fP,bb,-⟩:=id T;apply aJ;simp only[*,go_sem];apply aT hJ;revert h;refine bS fun bc c bd=>?_;refine bT hJ (rg 26 10 [8]) (fun m I F'=>∃(i54:Nat) (l:au),m=b.length - i54/\i54<=b.length/\bE (nk) i54 (b.drop i54) l=some bc/\F'=⟨a8,(S,rt u.num u.den)::(R,rt l.num l.den)::(G,rt 0 0)::(E,.cells #[.int .i64 a.back,.int .i64 a.high] 105)::(D,bl u0 s1 p q s)::[]⟩/\slot I 26= .int .i64 (i54:Int)) b.length ?_ ?_
  .refine ⟨0,w.high,(Nat.sub_zero _).symm,Nat.zero_le _,c,rfl,?_⟩;simp only[*,go_sem]
  rintro fQ fS F' U ⟨i54,l,rfl,fU,c,rfl,gg⟩;obtain ⟨bj,bk,bm⟩:=U.pick [4,5,6,24,25] (by decide);simp only[*,go_sem] at bj bk bm;clear U O hd P k1;apply ah hJ;simp only[*,go_sem];apply ag hJ;rcases Nat.lt_or_ge i54 b.length with bo|V
  .refine cw hJ ?_;apply aI hJ;obtain ⟨y,K⟩:∃x,b[i54]?=some x:=⟨_,List.getElem?_eq_getElem bo⟩
   rw[dw K] at c;revert c;refine bS fun gl h br=>?_;unfold nk at h;(try dsimp only at h);obtain ⟨gn,bs,bz,b0,d⟩:=T.el _ _ K;obtain rfl:bs=y.cells:=b0;cases bz;have b1:=d 0 _ rfl;simp only[go_sem] at b1;have b2:=d 1 _ rfl;simp only[go_sem] at b2;have b3:=d 2 _ rfl;simp only[go_sem] at b3;have b4:=d 3 _ rfl;simp only[go_sem] at b4;have b5:=d 4 _ rfl;simp only[go_sem] at b5;have ca:=d 5 _ rfl;simp only[go_sem] at ca;clear d K;refine ag hJ (aT hJ (ag hJ ?_));apply ak hJ;simp only[*,go_sem];refine aA fun gp gB cb=>?_;try simp only[av] at cb
   refine ay hJ fun cd=>?_;apply ak hJ;revert h;refine bS fun cf cl h=>?_;cases h;simp only[*,go_sem];refine aA fun gC cy W=>?_;have gM:=aR.cons W cd;try simp only[av] at W
   refine bn hJ _ (oN (dY:=63) (eC:=#[]) (eD:=#[]) eB ⟨by simp only[go_sem],fun L M f g _ h=>by simp only[go_sem];exact jF f g h⟩ l ([y.high]) ((az.flat (r:=l6) (e:=23) (cs:=#[.int .i64 y.high.num,.int .i64 y.high.den]) au.cells ([y.high]) (fun _=>rfl) cy rfl (by simp)).mono (kX (by simp only[*,go_sem]))) cl) (aJ ?_);simp only[*,go_sem];have gT:=cv (n:=i54) (by have:=bb;omega);apply ak hJ;simp only[*,go_sem];refine ⟨b.length - (i54+1),by omega,_,Le.sub (List.Sublist.cons _ (List.Sublist.cons _ (List.Sublist.refl _))),i54+1,cf,rfl,by omega,br,rfl,?_⟩;simp only[*,go_sem]
  have gV:=Nat.not_lt.2 V;refine cn hJ ?_;rw[List.drop_eq_nil_of_le V] at c;obtain rfl:=sI c;clear c;have h:=bd;dsimp only[aC] at h;apply bR;simp only[go_sem];apply ag hJ;refine ay hJ fun cS=>?_;apply ak hJ;revert h;refine bS fun c0 da h=>?_;simp only[*,go_sem];refine bn hJ _ (q3 u l da) (aJ ?_);revert h;refine bS fun B db h=>?_;simp only[*,go_sem];refine bn hJ _ (ko 0 db) (aJ ?_);revert h;refine bS fun g0 dd h=>?_;cases h;simp only[*,go_sem];refine aA fun g1 df X=>?_;have g2:=aR.cons X cS;try simp only[av] at X
  refine bn hJ _ (oN (dY:=63) (eC:=#[]) (eD:=#[]) eB ⟨by simp only[go_sem],fun L M f g _ h=>by simp only[go_sem];exact jF f g h⟩ c0 ([B]) ((az.flat (r:=l6) (e:=23) (cs:=#[.int .i64 B.num,.int .i64 B.den]) au.cells ([B]) (fun _=>rfl) df rfl (by simp)).mono (kX (by simp only[*,go_sem]))) dd) (aJ ?_);simp only[*,go_sem];apply aE;simp only[*,go_sem]
 refine aI hJ (ag hJ ?_);apply ah hJ;revert h;refine bS fun i dk h=>?_;simp only[*,go_sem];refine b6 hJ _ (xF u0 t a dk) fun v dp g3 dq H=>?_;obtain ⟨g4,rfl,Y⟩:=H;simp only[bq] at dq;obtain ⟨d94,ha,rfl,hc,ds,-⟩:=id Y;apply aJ;simp only[*,go_sem];apply aT hJ;revert h;refine bS fun dt j du=>?_;refine bT hJ (rg 26 10 [8]) (fun m I F'=>∃(i100:Nat) (o:au),m=i.length - i100/\i100<=i.length/\bE (nq) i100 (i.drop i100) o=some dt/\F'=⟨dp,(S,rt w.high.num w.high.den)::(R,rt o.num o.den)::(G,rt 0 0)::(E,.cells #[.int .i64 a.back,.int .i64 a.high] 105)::(D,bl u0 s1 p q s)::[]⟩/\slot I 26= .int .i64 (i100:Int)) i.length ?_ ?_
 .refine ⟨0,u,(Nat.sub_zero _).symm,Nat.zero_le _,j,rfl,?_⟩;simp only[*,go_sem]
 rintro hf hg F' Z ⟨i100,o,rfl,hh,j,rfl,hi⟩;obtain ⟨dv,dC,dE⟩:=Z.pick [4,5,6,24,25] (by decide);simp only[*,go_sem] at dv dC dE;clear Z O hd P k1;apply ah hJ;simp only[*,go_sem];apply ag hJ;rcases Nat.lt_or_ge i100 i.length with dT|ab
 .refine cw hJ ?_;apply aI hJ;obtain ⟨z,N⟩:∃x,i[i100]?=some x:=⟨_,List.getElem?_eq_getElem dT⟩
  rw[dw N] at j;revert j;refine bS fun hj h ea=>?_;unfold nq at h;try dsimp only at h
  obtain ⟨hk,eb,ec,ed,k⟩:=Y.el _ _ N;obtain rfl:eb=z.cells:=ed;cases ec;have eh:=k 0 _ rfl;simp only[go_sem] at eh;have et:=k 1 _ rfl;simp only[go_sem] at et;have ev:=k 2 _ rfl;simp only[go_sem] at ev;have eQ:=k 3 _ rfl;simp only[go_sem] at eQ;have eS:=k 4 _ rfl;simp only[go_sem] at eS;have e0:=k 5 _ rfl;simp only[go_sem] at e0;clear k N;refine ag hJ (aT hJ (ag hJ ?_));apply ak hJ;simp only[*,go_sem];refine aA fun hl hn e1=>?_;try simp only[av] at e1
  refine ay hJ fun e2=>?_;apply ak hJ;revert h;refine bS fun e3 fa h=>?_;cases h;simp only[*,go_sem];refine aA fun ho fb ad=>?_;have hp:=aR.cons ad e2;try simp only[av] at ad
  refine bn hJ _ (oN (dY:=63) (eC:=#[]) (eD:=#[]) eB ⟨by simp only[go_sem],fun L M f g _ h=>by simp only[go_sem];exact jF f g h⟩ o ([z.high]) ((az.flat (r:=l6) (e:=23) (cs:=#[.int .i64 z.high.num,.int .i64 z.high.den]) au.cells ([z.high]) (fun _=>rfl) fb rfl (by simp)).mono (kX (by simp only[*,go_sem]))) fa) (aJ ?_);simp only[*,go_sem];have hq:=cv (n:=i100) (by have:=ds;omega);apply ak hJ;simp only[*,go_sem];refine ⟨i.length - (i100+1),by omega,_,Le.sub (List.Sublist.cons _ (List.Sublist.cons _ (List.Sublist.refl _))),i100+1,e3,rfl,by omega,ea,rfl,?_⟩;simp only[*,go_sem]
 have hr:=Nat.not_lt.2 ab;refine cn hJ ?_;rw[List.drop_eq_nil_of_le ab] at j;obtain rfl:=sI j;clear j;have h:=du;dsimp only[aC] at h;apply bR;simp only[go_sem];apply ag hJ;refine ay hJ fun ff=>?_;apply ak hJ;revert h;refine bS fun fg fi h=>?_;simp only[*,go_sem];refine bn hJ _ (q3 w.high o fi) (aJ ?_);revert h;refine bS fun C fl h=>?_;simp only[*,go_sem];refine bn hJ _ (ko 0 fl) (aJ ?_);revert h;refine bS fun ht fp h=>?_;cases h;simp only[*,go_sem];refine aA fun hv fq ae=>?_;have hx:=aR.cons ae ff;try simp only[av] at ae
 refine bn hJ _ (oN (dY:=63) (eC:=#[]) (eD:=#[]) eB ⟨by simp only[go_sem],fun L M f g _ h=>by simp only[go_sem];exact jF f g h⟩ fg ([C]) ((az.flat (r:=l6) (e:=23) (cs:=#[.int .i64 C.num,.int .i64 C.den]) au.cells ([C]) (fun _=>rfl) fq rfl (by simp)).mono (kX (by simp only[*,go_sem]))) fp) (aJ ?_);simp only[*,go_sem];apply aE;simp only[*,go_sem]
def gq (u0:aj)(a:aP):Option Bool:=
 af (lf u0 a) fun b=>af (eB u0.aO b) fun c=>some c
theorem nt {ro:Addr->Option Value}(u0:aj){s1 b c d:Value}(f:bQ ro u0 s1 b c d)(a:aP){r:Bool}(h:gq u0 a=some r):aF Tryz.prog 90 #[bv u0 s1 b c d,.agg #[.int .i64 a.back,.int .i64 a.high]] ⟨ro,[]⟩ (fun v _=>v= .bool r):=by
 unfold gq at h;refine aF.go Tryz.func90 rfl Tryz.ntmps90 Tryz.results90 (by simp) fun main J hJ A m hd hs=>?_;have n:=hs 0;have k1:=hs 1;clear hs;apply ah hJ;simp only[*,go_sem];refine aA fun o p g=>?_;try simp only[av] at g
 refine aA fun q s i=>?_;try simp only[av] at i
 apply ag hJ;refine de hJ mixed 8 2 (by simp only[*,go_sem]) (by kernel_rfl) ?_;revert h;refine bS fun j k h=>?_;simp only[*,go_sem];refine ⟨_,bI hJ fun F e=>tL u0 (f.mono (cp e)) a k,ck ?_⟩;revert h;refine bS fun t l h=>?_;cases h;simp only[*,go_sem];refine ⟨_,bI hJ fun F e=>jF u0.aO j l,ck ?_⟩;simp only[*,go_sem];apply aE;simp only[*,go_sem]
end Go.Proofs.YtnaejeiofbpbkaaGreatDoor
end

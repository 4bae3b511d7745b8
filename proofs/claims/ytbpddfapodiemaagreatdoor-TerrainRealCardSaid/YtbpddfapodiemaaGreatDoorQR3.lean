/- A part of the proof: QR3. -/
import Derived.Test.YtbpddfapodiemaaGreatDoorQR2
set_option linter.all false
section
namespace Go.Sep
open Go Go.Conc
theorem tA:∀{pre bC:List (Nat×Obj)} {b:Nat} {o:Obj},av pre b->lk (pre++((b,o)::bC)) b=some o
 |[],bC,b,o,_=>by simp[lk]
 |(c,x)::pre,bC,b,o,h=>by
  have hc:¬c=b:=fun e=>h.1 e.symm
  simp[lk,hc,tA h.2]
theorem Bx:∀{pre bC:List (Nat×Obj)} {b:Nat} {o x:Obj},av pre b->jw (pre++((b,o)::bC)) b x=pre++((b,x)::bC)
 |[],bC,b,o,x,_=>by simp[jw]
 |(c,y)::pre,bC,b,o,x,h=>by
  have hc:¬c=b:=fun e=>h.1 e.symm
  simp[jw,hc,Bx h.2]
theorem tB {ro:Addr->Option Value}{pre bC:List (Nat×Obj)}{b:Nat}{e:TypeId}(a:av pre b)(o:Nat):∀(vs:List Value) (arr:Array Value) (i:Nat),(∀v∈vs,bP v=true)->o+i+vs.length<=arr.size->
  af.jy ⟨ro,pre++((b,.cells arr e)::bC)⟩ ⟨b,o,none⟩ i vs=some ⟨ro,pre++((b,.cells (cZ arr (o+i) vs) e)::bC)⟩
 |[],arr,i,_,_=>rfl
 |v::vs,arr,i,c,h=>by
  simp only[List.length_cons] at h
  have d:(⟨b,o,none⟩:Addr).add i=⟨b,o+i,none⟩:=by
   unfold Addr.add
   split
   .rename_i hi;subst hi;rfl
   .rfl
  unfold af.jy
  have:af.mS ⟨ro,pre++((b,.cells arr e)::bC)⟩ ((⟨b,o,none⟩:Addr).add i) v=some ⟨ro,pre++((b,.cells (arr.setIfInBounds (o+i) v) e)::bC)⟩:=by
   have f:o+i<arr.size:=aa
   simp[af.mS,d,tA a,c v au,f,frozenAt,af.put,Bx a]
  rw[this]
  simp only
  rw[tB a o vs _ (i+1) (fun x g=>c x (by simp[g])) (by simp;omega)]
  rw[cZ]
  congr 1
theorem By {ro:Addr->Option Value}{pre bC:List (Nat×Obj)}{b:Nat}{e:TypeId}{arr:Array Value}(a:av pre b)(c:∀off sp,ro ⟨b,off,sp⟩=none):∀(n i:Nat),i+n<=arr.size->
  af.dJ ⟨ro,pre++((b,.cells arr e)::bC)⟩ ⟨b,0,none⟩ i n=some ((arr.toList.drop i).take n)
 |0,i,_=>by simp[af.dJ]
 |n+1,i,h=>by
  have f:(⟨b,0,none⟩:Addr).add i=⟨b,i,none⟩:=by
   unfold Addr.add
   split
   .rename_i hi;subst hi;rfl
   .simp
  have d:i<arr.size:=aa
  unfold af.dJ
  have ih:=By (e:=e) (arr:=arr) (bC:=bC) a c n (i+1) aa
  simp only[af.get,f,c,if_true,tA a,Option.bind_some,cellOf,Array.getElem?_eq_getElem d,ih]
  have g:i<arr.toList.length:=by simpa using d
  rw[List.drop_eq_getElem_cons g,List.take_succ_cons]
  simp
theorem Gr.Gy {ro:Addr->Option Value}{e:TypeId}{size:Nat}{v:Value}{l:List (List Value)}{bx pre bC:List (Nat×Obj)}(h:Gr ro e size v l bx)(a:∀k∈keys bx,av pre k):
  Go.Sep.gL ⟨ro,pre++(bx++bC)⟩ size v=some l.flatten:=by
 rcases h with ⟨rfl,rfl,rfl⟩|⟨b,arr,cap,rfl,rfl,hs,c,ht,f,d⟩
 .rfl
 .simp only[Go.Sep.gL,List.cons_append,List.nil_append]
  have hle:l.length*size<=arr.size:=by rw[hs];exact Nat.mul_le_mul_right _ c
  rw[By (a b (by simp[keys])) d _ _ aa]
  simp[ht]
theorem Le.ps {ro:Addr->Option Value}{l m l':List (Nat×Obj)}(e:l.Perm m)(hs:m.Sublist l'):Le ⟨ro,l⟩ ⟨ro,l'⟩:=by
 have c:(keys m).Sublist (keys l'):=hs.map _;have d:(keys l).Perm (keys m):=e.map _;exact ⟨fun w hw=>⟨hw.ro,fun b o hb=>hw.own b o (hs.subset (e.subset hb)),d.nodup_iff.2 (c.nodup hw.nodup),fun a v f hm=>hw.apart a v f (c.subset (d.subset hm))⟩,fun b hb=>c.subset (d.subset hb),fun a g=>.inl g⟩
structure aZ (ks:List Nat):Prop where
 nd:ks.Nodup
abbrev Nd (l:List (Nat×Obj)):Prop:=(keys l).Nodup
theorem Nd.fresh {pre bx bC:List (Nat×Obj)}(h:Nd (pre++(bx++bC))):∀k∈keys bx,av pre k:=fun k a=>by
 refine ng fun hm=>?_
 simp only[Nd,cH] at h
 exact (List.nodup_append.1 h).2.2 k hm k (List.mem_append_left _ a) rfl
theorem Nd.push {l:List (Nat×Obj)}{b:Nat}{o:Obj}(h:Nd l)(hb:av l b):Nd ((b,o)::l):=by
 simp only[Nd,keys,List.map_cons,List.nodup_cons];exact ⟨l7 hb,h⟩
theorem Nd.drop {pre bx bC:List (Nat×Obj)}(h:Nd (pre++(bx++bC))):Nd (pre++bC):=
 ((List.Sublist.append_left (List.sublist_append_right bx bC) pre).map _).nodup h
theorem Nd.ins {pre bx bC:List (Nat×Obj)}{b:Nat}{o:Obj}(h:Nd (pre++(bx++bC)))(hb:av (pre++(bx++bC)) b):Nd (pre++([(b,o)]++bC)):=by
 have a:Nd ((b,o)::(pre++bC)):=h.drop.push (ng fun hm=>l7 hb (((List.Sublist.append_left (List.sublist_append_right bx bC) pre).map _).subset hm));have:(pre++([(b,o)]++bC)).Perm ((b,o)::(pre++bC)):=List.perm_middle;exact (this.map _).nodup_iff.2 a
section
variable {P:Program}
theorem Bz {ro:Addr->Option Value}{pre bx bC:List (Nat×Obj)}{R:Value->af->Prop}{argTypes:Array TypeId}{ty A B e O:TypeId}{size o n c:Nat}{C:Option Addr}{s z:Value}{l xs:List (List Value)}
  (D:argTypes[0]?=some A) (E:argTypes[1]?=some B) (he:dD P A=some e) (d:dD P B=some O) (hs:cj P e=some size) (G:zeroOf P e=some z) (Q:z.cells.size=size) (hb:bytesOf P e=some o)
  (H:0<o) (I:o<=10000) (hg:Gr ro e size s l bx) (i:Nd (pre++(bx++bC))) (S:n=xs.length) (J:∀x∈xs,x.length=size/\∀v∈x,bP v=true) (K:gL ⟨ro,pre++(bx++bC)⟩ size (.slice C n c)=some xs.flatten)
  (L:l.length+xs.length<=1000000)
  (p:∀v q,Gr ro e size v (l++xs) q->Nd (pre++(q++bC))->∃F0,Le F0 ⟨ro,pre++(q++bC)⟩/\R v F0):
  bu P (Builtin.append_ argTypes ty #[s,.slice C n c]) (fun v F=>∃F0,Le F0 F/\R v F0) ⟨ro,pre++(bx++bC)⟩:=by
 subst S
 have M:=i.fresh
 have hold:=hg.Gy (bC:=bC) M
 have r:∀x∈xs,x.length=size:=fun x h=>(J x h).1
 have a:=iY r
 have out:∀(k b:Nat) (old:List Value),old=l.flatten->(∀x∈l,x.length=size)->l.length+xs.length<=k->eB ⟨ro,pre++(bx++bC)⟩ b->
   ∃F0,Le F0 (af.push ⟨ro,pre++(bx++bC)⟩ b (.cells (old.toArray++xs.flatten.toArray++Builtin.zeroCells z.cells (k - (l.length+xs.length))) e))/\R (.slice (some ⟨b,0,none⟩) (l.length+xs.length) k) F0:=by
  intro k b old T t g f
  subst T
  have u:=iY t
  have w:=p (.slice (some ⟨b,0,none⟩) (l.length+xs.length) k) [(b,.cells (l.flatten.toArray++xs.flatten.toArray++Builtin.zeroCells z.cells (k - (l.length+xs.length))) e)] (.inr ⟨b,_,k,au,rfl,?_,by simpa using g,?_,?_,f.ro⟩) (i.ins f.own)
  .obtain ⟨F0,hle,w⟩:=w
   refine ⟨F0,hle.trans ?_,w⟩
   exact Le.ps (m:=(b,.cells (l.flatten.toArray++xs.flatten.toArray++Builtin.zeroCells z.cells (k - (l.length+xs.length))) e)::(pre++bC)) List.perm_middle (.cons₂ _ (List.Sublist.append_left (List.sublist_append_right bx bC) pre))
  .simp only[Array.size_append,List.size_toArray,Builtin.zeroCells,Array.size_map,Array.size_range,u,a,Q]
   rw[<-Nat.add_mul,<-Nat.add_mul]
   congr 1;omega
  .simp only[Array.toList_append,List.length_append,List.flatten_append]
   rw[List.take_append_of_le_length (by simp[u,a,Nat.add_mul])]
   rw[List.take_of_length_le (by simp[u,a,Nat.add_mul])]
  .intro x d
   rcases List.mem_append.1 d with h|h
   .exact t x h
   .exact r x h
 rcases id hg with ⟨rfl,rfl,rfl⟩|⟨b,arr,cap,rfl,rfl,y,t,ht,j,U⟩
 .refine wE D E he d hs G hb H I (by simpa using L) hold K (fun hc=>.inr ⟨rfl,?_⟩) (fun hc k b g f=>?_)
  .have:xs=[]:=List.eq_nil_of_length_eq_zero aa
   subst this
   exact p _ _ (.inl ⟨rfl,rfl,rfl⟩) i
  .have:=out k b [] rfl au (by simpa using g) f
   simpa using this
 .refine wE D E he d hs G hb H I L hold K (fun hc=>.inl ⟨_,⟨ro,pre++([(b,.cells (cZ arr (l.length*size) xs.flatten) e)]++bC)⟩,rfl,?_,?_⟩) (fun hc k V g f=>out k V _ rfl j g f)
  .have W:(⟨b,0,none⟩:Addr).add (l.length*size)=⟨b,l.length*size,none⟩:=by
    unfold Addr.add
    split
    .rename_i hi;rw[hi]
    .simp
   rw[W]
   have N:l.length*size+xs.length*size<=arr.size:=by rw[y,<-Nat.add_mul];exact Nat.mul_le_mul_right _ hc
   have:=tB (ro:=ro) (e:=e) (bC:=bC) (M b (by simp[keys])) (l.length*size) xs.flatten arr 0 (fun v X=>by
    obtain ⟨x,Y,Z⟩:=List.mem_flatten.1 X
    exact (J x Y).2 v Z) (by rw[a];omega)
   simpa using this
  .refine p _ _ (.inr ⟨b,_,cap,au,rfl,by rw[s0];exact y,by simpa using hc,?_,?_,U⟩) (by simpa [Nd,keys] using i)
   .have N:l.length*size+xs.length*size<=arr.size:=by rw[y,<-Nat.add_mul];exact Nat.mul_le_mul_right _ hc
    rw[s3 _ _ _ (by rw[a];exact N),ht,List.length_append,List.flatten_append,a]
    rw[List.take_append_of_le_length (by simp[iY j,a,Nat.add_mul])]
    rw[List.take_of_length_le (by simp[iY j,a,Nat.add_mul])]
   .intro x d
    rcases List.mem_append.1 d with h|h
    .exact j x h
    .exact r x h
theorem BA:∀{pre own:List (Nat×Obj)} {b:Nat} {o:Obj},lk pre b=some o->lk (pre++own) b=some o
 |(c,x)::pre,own,b,o,h=>by
  simp only[List.cons_append,lk] at h ⊢
  split
  .rename_i hc;rw[if_pos hc] at h;exact h
  .rename_i hc;rw[if_neg hc] at h;exact BA h
theorem BB {ro:Addr->Option Value}{own:List (Nat×Obj)}{b:Nat}{cs:Array Value}{e:TypeId}(a:lk own b=some (.cells cs e))(c:∀off sp,ro ⟨b,off,sp⟩=none):∀n i,i+n<=cs.toList.length->af.dJ ⟨ro,own⟩ ⟨b,0,none⟩ i n=some ((cs.toList.drop i).take n)
 |0,i,_=>by simp[af.dJ]
 |n+1,i,hi=>by
  have d:i<cs.toList.length:=aa
  unfold af.dJ
  have f:(⟨b,0,none⟩:Addr).add i=⟨b,i,none⟩:=by
   unfold Addr.add
   split
   .rename_i hi;subst hi;rfl
   .simp
  have g:i<cs.size:=by simpa using d
  simp only[af.get,f,c,if_true,a,Option.bind_some,cellOf,Array.getElem?_eq_getElem g,BB a c n (i+1) aa]
  rw[List.drop_eq_getElem_cons d,List.take_succ_cons]
  simp
theorem bg.more {T:Type}{r:cu T}{ro:Addr->Option Value}{e:TypeId}{l xs:List T}{ls ys:List (List Value)}{v:Value}{a:List (Nat×Obj)}(hg:Gr ro e r.n v (ls++ys) a)(b:ls.length=l.length)(c:ys.length=xs.length)
  (d:∀(i:Nat) (x:T),l[i]?=some x->∃cs:List Value,ls[i]?=some cs/\r.rel ro x cs) (f:∀(i:Nat) (x:T),xs[i]?=some x->∃cs:List Value,ys[i]?=some cs/\r.rel ro x cs) (g:l.length+xs.length<=1000000):bg r ro e v (l++xs) a:=by
 refine ⟨_,hg,by simp[b,c],by simpa using g,fun i y hi=>?_⟩
 rcases Nat.lt_or_ge i l.length with h|h
 .rw[List.getElem?_append_left h] at hi
  rw[List.getElem?_append_left aa]
  exact d i y hi
 .rw[List.getElem?_append_right h] at hi
  rw[List.getElem?_append_right aa,b]
  exact f _ y hi
theorem BC {T:Type}{r:cu T}{ro:Addr->Option Value}{bx:List (Nat×Obj)}{R:Value->af->Prop}{argTypes:Array TypeId}{g h e p e2:TypeId}{b c:Nat}{s z:Value}{l:List T}{x:T}{cs:Array Value}{own:List (Nat×Obj)}(pre bC:List (Nat×Obj))(q:own=pre++(bx++bC))
  (hg:bg r ro e s l bx) (t:aZ (keys own)) (j:l.length+[x].length<=1000000) (d:r.rel ro x cs.toList) (u:lk pre c=some (.cells cs e2)) (w:∀off sp,ro ⟨c,off,sp⟩=none)
  (A:argTypes[0]?=some g) (B:argTypes[1]?=some h) (he:dD P g=some e) (C:dD P h=some p) (hs:cj P e=some r.n) (D:zeroOf P e=some z) (E:z.cells.size=r.n) (hb:bytesOf P e=some b)
  (F:0<b) (G:b<=10000)
  (H:∀v a,bg r ro e v (l++[x]) a->∀f,f=pre++(a++bC)->aZ (keys f)->∃F0,Le F0 ⟨ro,f⟩/\R v F0):m6 P argTypes s (.slice (some ⟨c,0,none⟩) 1 1) R ⟨ro,own⟩:=by
 subst q
 obtain ⟨ls,I,k,hm,J⟩:=hg
 have K:=t.nd
 intro ty
 have hlen:cs.toList.length=r.n:=r.len d
 refine Bz (xs:=[cs.toList]) (e:=e) (size:=r.n) (z:=z) (l:=ls) A B he C hs D E hb F G I K rfl (fun y o=>?_) ?_ (by simpa [k] using j) (fun v a L M=>H v a (bg.more L k rfl J (fun i y hi=>?_) j) _ rfl ⟨M⟩)
 .simp only[List.mem_singleton] at o;subst o;exact ⟨hlen,r.one d⟩
 .simp only[gL,Nat.one_mul]
  rw[BB (BA u) w _ _ aa]
  rw[List.drop_zero,List.take_of_length_le aa]
  simp
 .cases i with
  |zero=>simp at hi;subst hi;exact ⟨cs.toList,rfl,d⟩
  |succ m=>simp at hi
theorem Gz {T:Type}{r:cu T}{ro:Addr->Option Value}{bx:List (Nat×Obj)}{R:Value->af->Prop}{argTypes:Array TypeId}{g i e m:TypeId}{d c:Nat}{ad:Option Addr}{s z:Value}{l xs:List T}{own:List (Nat×Obj)}(pre bC:List (Nat×Obj))(o:own=pre++(bx++bC))
  (hg:bg r ro e s l bx) (p:aZ (keys own)) (j:l.length+xs.length<=1000000) (q:aH r ro (.slice ad xs.length c) xs)
  (t:argTypes[0]?=some g) (u:argTypes[1]?=some i) (he:dD P g=some e) (w:dD P i=some m) (hs:cj P e=some r.n) (x:zeroOf P e=some z) (y:z.cells.size=r.n) (hb:bytesOf P e=some d)
  (A:0<d) (B:d<=10000)
  (C:∀v b,bg r ro e v (l++xs) b->∀f,f=pre++(b++bC)->aZ (keys f)->∃F0,Le F0 ⟨ro,f⟩/\R v F0):m6 P argTypes s (.slice ad xs.length c) R ⟨ro,own⟩:=by
 subst o
 obtain ⟨ls,D,k,hm,E⟩:=hg
 have F:=p.nd
 intro ty
 obtain ⟨G,k1,H,I,J⟩:=q.cells ⟨ro,pre++(bx++bC)⟩ (fun a v h=>by simp[af.get,h])
 exact Bz (xs:=G) (e:=e) (size:=r.n) (z:=z) (l:=ls) t u he w hs x y hb A B D F k1.symm H J (by rw[k,k1];exact j) (fun v b K L=>C v b (bg.more K k k1 E I j) _ rfl ⟨L⟩)
theorem bg.mc {T:Type}{r:cu T}{ro:Addr->Option Value}{e:TypeId}{v:Value}{l:List T}{bx:List (Nat×Obj)}(h:bg r ro e v l bx){own:List (Nat×Obj)}(a pre bC:List (Nat×Obj))(f:own=pre++(bx++bC))(g:a=pre++bC)(i:aZ (keys own))(j:aK ro a):
  ∃aW,Ext ro aW/\aK aW a/\aH r aW v l/\Le ⟨aW,a⟩ ⟨ro,own⟩:=by
 subst f g
 have c:Nd (pre++(bx++bC)):=i.nd
 have m:Apart (keys (pre++bC)) bx:=fun k d hm=>by
  simp only[Nd,cH] at c
  have b:=List.nodup_append.1 c
  simp only[cH,List.mem_append] at hm
  rcases hm with hm|hm
  .exact b.2.2 k hm k (List.mem_append_left _ d) rfl
  .exact (List.nodup_append.1 b.2.1).2.2 k d k hm rfl
 obtain ⟨aW,n,b,o,p⟩:=h.Ba (pre++bC) m rfl j
 refine ⟨aW,n,b,o,p.trans ?_⟩
 have q:((pre++bC)++bx).Perm (pre++(bx++bC)):=by
  rw[List.append_assoc]
  exact List.Perm.append_left pre List.perm_append_comm
 exact Le.ps q (List.Sublist.refl _)
theorem bg.setAt {T:Type}{r:cu T}{ro:Addr->Option Value}{e:TypeId}{l:List T}{b n cap:Nat}{arr:Array Value}(h:bg r ro e (.slice (some ⟨b,0,none⟩) n cap) l [(b,.cells arr e)]){i:Nat}{x y:T}(hi:l[i]?=some x){cs:List Value}(m:r.rel ro y cs):
  bg r ro e (.slice (some ⟨b,0,none⟩) n cap) (l.set i y) [(b,.cells (cZ arr (i*r.n) cs) e)]:=by
 obtain ⟨ls,hg,o,hm,p⟩:=h
 have D:i<l.length:=(List.getElem?_eq_some_iff.1 hi).1
 have a:=r.len m
 rcases hg with ⟨k,_,_⟩|⟨E,F,q,k,s,hs,hle,ht,c,t⟩
 .cases k
 .cases s
  obtain ⟨rfl,rfl⟩:n=ls.length/\cap=q:=by cases k;exact ⟨rfl,rfl⟩
  have u:i*r.n+cs.length<=arr.size:=by
   rw[hs,a,<-Nat.succ_mul]
   exact Nat.mul_le_mul_right _ aa
  refine ⟨ls.set i cs,.inr ⟨b,_,cap,au,rfl,by rw[s0];exact hs,by simpa using hle,?_,?_,t⟩,by simp[o],by simpa using hm,fun j z d=>?_⟩
  .rw[s3 _ _ _ u]
   have G:=iY c
   have f:i<ls.length:=aa
   have e1:(ls.set i cs).flatten=(ls.take i).flatten++cs++(ls.drop (i+1)).flatten:=by
    rw[List.set_eq_take_append_cons_drop,if_pos f]
    simp
   have e2:ls.flatten=(ls.take i).flatten++(ls.drop i).flatten:=by rw[<-List.flatten_append,List.take_append_drop]
   have t1:((ls.take i).flatten).length=i*r.n:=by rw[iY (fun x h=>c x (List.mem_of_mem_take h)),List.length_take,Nat.min_eq_left aa]
   have v:(ls.drop i).flatten=ls[i]++(ls.drop (i+1)).flatten:=by rw[List.drop_eq_getElem_cons f,List.flatten_cons]
   have t2:ls[i].length=r.n:=c _ (List.getElem_mem f)
   have a1:arr.toList.take (i*r.n)=(ls.take i).flatten:=by
    have:=congrArg (List.take (i*r.n)) ht
    rw[List.take_take,Nat.min_eq_left (Nat.mul_le_mul_right _ aa),e2,List.take_append_of_le_length (Nat.le_of_eq t1.symm),List.take_of_length_le (Nat.le_of_eq t1)] at this
    exact this
   have a2:(arr.toList.take (ls.length*r.n)).drop (i*r.n+cs.length)=(ls.drop (i+1)).flatten:=by
    have t3:((ls.take i).flatten++ls[i]).length=i*r.n+cs.length:=by rw[List.length_append,t1,t2,a]
    rw[ht,e2,v,<-List.append_assoc,List.drop_append_of_le_length (Nat.le_of_eq t3.symm),List.drop_eq_nil_of_le (Nat.le_of_eq t3),List.nil_append]
   rw[a1,e1]
   simp only[List.length_set]
   have w:ls.length*r.n=(i*r.n+cs.length)+(ls.length*r.n - (i*r.n+cs.length)):=by
    have:i*r.n+cs.length<=ls.length*r.n:=by rw[a,<-Nat.succ_mul];exact Nat.mul_le_mul_right _ f
    omega
   rw[w,List.take_append]
   rw[List.take_of_length_le (by rw[List.length_append,t1];omega)]
   congr 1
   have:i*r.n+cs.length+(ls.length*r.n - (i*r.n+cs.length)) - ((ls.take i).flatten++cs).length=ls.length*r.n - (i*r.n+cs.length):=by simp only[List.length_append,t1];omega
   rw[this,<-a2,List.drop_take]
  .intro z A
   rcases List.mem_or_eq_of_mem_set A with h|h
   .exact c z h
   .rw[h];exact a
  .rcases Nat.decEq i j with g|g
   .rw[List.getElem?_set_ne g] at d
    obtain ⟨cs',B,C⟩:=p j z d
    exact ⟨cs',by rw[List.getElem?_set_ne g];exact B,C⟩
   .subst g
    rw[List.getElem?_set_self aa] at d
    obtain rfl:=Option.some.inj d
    exact ⟨cs,List.getElem?_set_self aa,m⟩
end
section
variable {P:Program}{main:Bool}{J:Goroutine->af->Prop}
theorem aG (hJ:Closed P main J){c:Code}{Q:Ex->Act->af->Prop}{a:Act}{F:af}(h:aZ (keys F.own)->Wp J c Q a F):Wp J c Q a F:=by
 intro b k cs hb d;by_cases hw:∃w,Has F w
 .obtain ⟨w,hw⟩:=hw;exact h ⟨hw.nodup⟩ b k cs hb d
 .exact hJ.step fun w e=>absurd ⟨w,e⟩ hw
end
theorem aZ.cons {l:List (Nat×Obj)}{b:Nat}(hb:av l b)(h:aZ (keys l)):aZ (b::keys l):=⟨List.nodup_cons.2 ⟨l7 hb,h.nd⟩⟩
theorem aK.nil (ro:Addr->Option Value):aK ro []:=fun b h=>by cases h
theorem aK.cons {ro:Addr->Option Value}{b:Nat}{o:Obj}{l:List (Nat×Obj)}(hb:∀off sp,ro ⟨b,off,sp⟩=none)(h:aK ro l):aK ro ((b,o)::l):=fun c hc=>by
 simp only[keys,List.map_cons,List.mem_cons] at hc
 rcases hc with rfl|hc
 .exact hb
 .exact h c hc
theorem aK.app {ro:Addr->Option Value}{l l':List (Nat×Obj)}(h:aK ro l)(a:aK ro l'):aK ro (l++l'):=fun c hc=>by
 rw[cH] at hc
 exact (List.mem_append.1 hc).elim (h c) (a c)
theorem aK.hd {ro:Addr->Option Value}{b:Nat}{o:Obj}{l:List (Nat×Obj)}(h:aK ro ((b,o)::l)):∀off sp,ro ⟨b,off,sp⟩=none:=h b (by simp[keys])
theorem aK.tl {ro:Addr->Option Value}{x:Nat×Obj}{l:List (Nat×Obj)}(h:aK ro (x::l)):aK ro l:=fun c hc=>h c (by simp only[keys,List.map_cons,List.mem_cons];exact .inr hc)
theorem aK.l {ro:Addr->Option Value}{l l':List (Nat×Obj)}(h:aK ro (l++l')):aK ro l:=fun c hc=>h c (by rw[cH];exact List.mem_append_left _ hc)
theorem aK.r {ro:Addr->Option Value}{l l':List (Nat×Obj)}(h:aK ro (l++l')):aK ro l':=fun c hc=>h c (by rw[cH];exact List.mem_append_right _ hc)
theorem bg.j5 {T:Type}{r:cu T}{ro:Addr->Option Value}{e:TypeId}{v:Value}{l:List T}{bx:List (Nat×Obj)}(h:bg r ro e v l bx):aK ro bx:=by
 obtain ⟨ls,hg,-⟩:=h;rcases hg with ⟨_,_,rfl⟩|⟨b,arr,cap,_,rfl,_,_,_,_,a⟩
 .exact aK.nil _
 .exact aK.cons a (aK.nil _)
theorem Le.back {ro:Addr->Option Value}{l l':List (Nat×Obj)}(A B O S:List (Nat×Obj))(a:l=A++(B++(O++S)))(b:l'=A++(O++(B++S))):Le ⟨ro,l⟩ ⟨ro,l'⟩:=by
 subst a b;refine Le.ps (m:=A++(O++(B++S))) (List.Perm.append_left A ?_) (List.Sublist.refl _);rw[<-List.append_assoc,<-List.append_assoc];exact List.Perm.append_right S List.perm_append_comm
section
variable {P:Program}{main:Bool}{J:Goroutine->af->Prop}
def tC (J:Goroutine->af->Prop)(j6:Frame)(F:af)(R:Value->af->Prop):Prop:=
 ∀(c:Frame) (cs:List Frame),(∀v F',R v F'->J (G (c.finish v) cs) F')->J (G j6 (c::cs)) F
theorem BD (hJ:Closed P main J){j6:Frame}{ro:Addr->Option Value}{bx:List (Nat×Obj)}{K:Value->af->Prop}{own:List (Nat×Obj)}(pre bC:List (Nat×Obj))(q:own=pre++(bx++bC))(R:Value->List (Nat×Obj)->Prop)(h:∀(main:Bool) (J:Goroutine->af->Prop),Closed P main J->tC J j6 ⟨ro,bx⟩ (fun v G=>∃d,R v d/\Le ⟨ro,d⟩ G))
  (M:∀v d,R v d->∀r,r=pre++(d++bC)->aZ (keys r)->∃F0,Le F0 ⟨ro,r⟩/\K v F0):tC J j6 ⟨ro,own⟩ K:=by
 subst q
 intro c cs hK
 by_cases hw:∃w,Has ⟨ro,pre++(bx++bC)⟩ w
 .obtain ⟨s,k⟩:=hw
  let F:af:=⟨fun _=>none,pre++bC⟩
  have t:(pre++bC).Sublist (pre++(bx++bC)):=List.Sublist.append_left (List.sublist_append_right bx bC) pre
  have u:bx.Sublist (pre++(bx++bC)):=(List.sublist_append_left bx bC).trans (List.sublist_append_right pre _)
  have B:∀w,Has ⟨ro,pre++(bx++bC)⟩ w->Has F w:=fun w hw=>⟨fun a v h=>(by cases h),fun b o hb=>hw.own b o (t.subset hb),(t.map _).nodup hw.nodup,fun a v h=>(by cases h)⟩
  have C:∀w,Has ⟨ro,pre++(bx++bC)⟩ w->Has ⟨ro,bx⟩ w:=fun w hw=>⟨hw.ro,fun b o hb=>hw.own b o (u.subset hb),(u.map _).nodup hw.nodup,fun a v i hm=>hw.apart a v i ((u.map _).subset hm)⟩
  have hd:∀b,b∈keys bx->b∉keys (pre++bC):=fun b hb hm=>by
   have l:=k.nodup
   simp only[cH] at l
   have D:=List.nodup_append.1 l
   simp only[cH,List.mem_append] at hm
   rcases hm with hm|hm
   .exact D.2.2 b hm b (List.mem_append_left _ hb) rfl
   .exact (List.nodup_append.1 D.2.1).2.2 b hb b hm rfl
  have E:Fits F ⟨ro,bx⟩:=⟨⟨s,C s k,B s k⟩,hd,fun a f hm=>(by cases f)⟩
  have N:nc F ⟨ro,bx⟩:=fun a f hm=>by
   obtain ⟨v,O⟩:=Option.isSome_iff_exists.1 f
   exact k.apart a v O ((t.map _).subset hm)
  have q:wO J F (G j6 (c::cs)) ⟨ro,bx⟩:=by
   refine h main _ (A8 hJ F) c cs fun v H A m l=>?_
   obtain ⟨d,A,hle⟩:=A
   have I:Le ⟨ro,pre++(d++bC)⟩ (H.star F):=by
    refine ⟨fun w hw=>?_,fun b hb=>?_,fun a f=>?_⟩
    .have n:=hle.has w (m.right hw)
     have g:=m.left hw
     have Q:∀b,b∈keys d->b∉keys (pre++bC):=fun b hb=>m.own b (hle.own b hb)
     have j:(pre++(d++bC)).Perm (d++(pre++bC)):=by
      rw[<-List.append_assoc,<-List.append_assoc]
      exact List.Perm.append_right bC List.perm_append_comm
     refine ⟨n.ro,fun b o hb=>?_,?_,fun a v i hm=>?_⟩
     .rcases List.mem_append.1 (j.subset hb) with x|x
      .exact n.own b o x
      .exact g.own b o x
     .refine (j.map _).nodup_iff.2 ?_
      rw[List.map_append]
      exact List.nodup_append.2 ⟨n.nodup,g.nodup,fun a f b hb e=>Q a f (e▸hb)⟩
     .have L:=(j.map (·.1)).subset hm
      rw[List.map_append] at L
      rcases List.mem_append.1 L with x|x
      .exact n.apart a v i x
      .rcases hle.ro a (by simp only at i;simp[i]) with y|y
       .exact l a y x
       .exact m.own _ y x
    .simp only[af.star,cH,List.mem_append] at hb ⊢
     rcases hb with x|x|x
     .exact .inr (show b∈keys (pre++bC) by rw[cH];exact List.mem_append_left _ x)
     .exact .inl (hle.own b x)
     .exact .inr (show b∈keys (pre++bC) by rw[cH];exact List.mem_append_right _ x)
    .rcases hle.ro a f with x|x
     .exact (g9 (.inr x)).imp id (fun z=>by simp only[af.star,cH,List.mem_append];exact .inr z)
     .exact .inr (by simp only[af.star,cH,List.mem_append];exact .inl x)
   have S:∃fr cs',G (c.finish v) cs=G fr cs':=⟨_,_,rfl⟩
   obtain ⟨fr,cs',T⟩:=S
   by_cases p:∃w,Has (H.star F) w
   .obtain ⟨w1,p⟩:=p
    obtain ⟨F0,U,V⟩:=M v d A _ rfl ⟨(I.has w1 p).nodup⟩
    exact hJ.mono (U.trans I) (hK v F0 V)
   .rw[T]
    exact hJ.step fun w g=>absurd ⟨w,g⟩ p
  refine hJ.mono ⟨fun w hw=>E.both (C w hw) (B w hw),fun b hb=>?_,fun a f=>?_⟩ (q E N)
  .have j:(bx++(pre++bC)).Perm (pre++(bx++bC)):=by
    rw[<-List.append_assoc,<-List.append_assoc]
    exact List.Perm.append_right bC List.perm_append_comm
   exact (j.map _).subset hb
  .rcases kQ f with x|x
   .cases x
   .exact .inl x
 .exact hJ.step fun w g=>absurd ⟨w,g⟩ hw
theorem GA (hJ:Closed P main J){f:FuncId}{args:Array Value}{ro:Addr->Option Value}{bx:List (Nat×Obj)}{K:Value->af->Prop}{own:List (Nat×Obj)}(pre bC:List (Nat×Obj))(c:own=pre++(bx++bC))(R:Value->List (Nat×Obj)->Prop)(h:aD P f args ⟨ro,bx⟩ (fun v G=>∃a,R v a/\Le ⟨ro,a⟩ G))
  (d:∀v a,R v a->∀b,b=pre++(a++bC)->aZ (keys b)->∃F0,Le F0 ⟨ro,b⟩/\K v F0):dn P J f args ⟨ro,own⟩ K:=
 BD hJ (j6:=Frame.enter P f args .normal) pre bC c R h d
end
attribute [go_sem] Array.size_setIfInBounds
theorem aH.op {T:Type}{r:cu T}{ro:Addr->Option Value}{ad:Option Addr}{n cap:Nat}{l:List T}(h:aH r ro (.slice ad n cap) l):
  l.length<=cap/\l.length<=1000000000000000/\∀i x,l[i]?=some x->∃p cs,ad=some p/\r.rel ro x cs/\∀j v,cs[j]?=some v->ro ((p.add (i*r.n)).add j)=some v:=by
 obtain ⟨d,f,e,a,b,c⟩:=h
 cases e
 exact ⟨a,b,c⟩
theorem aZ.sub {l l':List (Nat×Obj)}(A O S:List (Nat×Obj))(a:l=A++S)(b:l'=A++(O++S))(h:aZ (keys l')):aZ (keys l):=by
 subst a b;exact
 ⟨((List.Sublist.append_left (List.sublist_append_right O S) A).map _).nodup h.nd⟩
theorem aZ.back {l l':List (Nat×Obj)}(A B O S:List (Nat×Obj))(a:l=A++(B++(O++S)))(b:l'=A++(O++(B++S)))(h:aZ (keys l')):aZ (keys l):=by
 subst a b;refine ⟨(List.Perm.map _ (List.Perm.append_left A ?_)).nodup_iff.2 h.nd⟩;rw[<-List.append_assoc,<-List.append_assoc];exact List.Perm.append_right S List.perm_append_comm
theorem fM {ro:Addr->Option Value}{b:Nat}{o:Obj}(pre bC:List (Nat×Obj))(d:aZ (keys (pre++((b,o)::bC))))(_hr:∀off sp,ro ⟨b,off,sp⟩=none)(f:aK ro (pre++bC)):
  Ext ro (b7 ro b o)/\aK (b7 ro b o) (pre++bC)/\Le ⟨b7 ro b o,pre++bC⟩ ⟨ro,pre++((b,o)::bC)⟩:=by
 have a:(pre++((b,o)::bC)).Perm ((b,o)::(pre++bC)):=List.perm_middle
 have g:Nd ((b,o)::(pre++bC)):=(a.map _).nodup_iff.1 d.nd
 have hb:b∉keys (pre++bC):=(List.nodup_cons.1 g).1
 refine ⟨gO _ _ _,fun c hc off sp=>?_,?_⟩
 .have aL:¬c=b:=fun e=>hb (e▸hc)
  simp[b7,f c hc,aL]
 .have h:Le ⟨b7 ro b o,pre++bC⟩ ⟨ro,(b,o)::(pre++bC)⟩:=kU (by simp[lk]) (.cons _ (List.Sublist.refl _)) (ng hb)
  exact h.trans (Le.ps a.symm (List.Sublist.refl _))
section
variable {P:Program}{main:Bool}{J:Goroutine->af->Prop}
theorem fX (hJ:Closed P main J){c:Code}{Q:Ex->Act->af->Prop}{a:Act}{F:af}(h:aZ (keys F.own)->aK F.ro F.own->Wp J c Q a F):Wp J c Q a F:=by
 intro b k cs hb d;by_cases hw:∃w,Has F w
 .obtain ⟨w,hw⟩:=hw;refine h ⟨hw.nodup⟩ (fun b hb off sp=>?_) b k cs hb d;cases e:F.ro ⟨b,off,sp⟩ with
  |none=>rfl
  |some v=>exact absurd hb (hw.apart _ v e)
 .exact hJ.step fun w f=>absurd ⟨w,f⟩ hw
end
theorem w6:∀(vs:List Value) (arr:Array Value) (k:Nat),k+vs.length<=arr.size->∀q,(cZ arr k vs)[q]?=if k<=q/\q<k+vs.length then vs[q - k]? else arr[q]?
 |[],arr,k,h,q=>by
  have:¬(k<=q/\q<k+([]:List Value).length):=au
  rw[if_neg this];rfl
 |v::vs,arr,k,h,q=>by
  simp only[List.length_cons] at h
  rw[cZ,w6 vs _ (k+1) (by simp;omega)]
  simp only[List.length_cons]
  by_cases a:k=q
  .subst a
   rw[if_neg aa,if_pos aa,Array.getElem?_setIfInBounds_self_of_lt aa]
   simp
  .by_cases b:k+1<=q/\q<k+1+vs.length
   .rw[if_pos b,if_pos aa]
    rw[show q - k=(q - (k+1))+1 by omega]
    simp
   .rw[if_neg b,if_neg aa,Array.getElem?_setIfInBounds_ne a]
theorem bg.part {T:Type}{r:cu T}{ro:Addr->Option Value}{e:TypeId}{l:List T}{b n cap:Nat}{arr:Array Value}(h:bg r ro e (.slice (some ⟨b,0,none⟩) n cap) l [(b,.cells arr e)]){i:Nat}{x y:T}(hi:l[i]?=some x)(o:Nat)(vs cs cs':List Value)
  (hm:∀j v,cs[j]?=some v->arr[i*r.n+j]?=some v) (hlen:cs.length=r.n) (f:cs'=cs.take o++vs++cs.drop (o+vs.length)) (w:o+vs.length<=cs.length) (g:r.rel ro y cs'):
  bg r ro e (.slice (some ⟨b,0,none⟩) n cap) (l.set i y) [(b,.cells (cZ arr (i*r.n+o) vs) e)]:=by
 have k:=h.setAt hi g
 have c:=r.len g
 have s:i*r.n+r.n<=arr.size:=by
  rcases Nat.eq_zero_or_pos r.n with t|z
  .rw[t];omega
  .have a:r.n - 1<cs.length:=aa
   have:=hm (r.n - 1) cs[r.n - 1] (List.getElem?_eq_getElem a)
   have:=(Array.getElem?_eq_some_iff.1 this).1
   omega
 have e1:cZ arr (i*r.n) cs'=cZ arr (i*r.n+o) vs:=by
  apply Array.ext_getElem?
  intro q
  rw[w6 cs' arr _ (by rw[c];exact s),w6 vs arr _ aa]
  by_cases m:i*r.n+o<=q/\q<i*r.n+o+vs.length
  .rw[if_pos m,if_pos (by rw[c];omega),f]
   rw[List.append_assoc,List.getElem?_append_right (by simp;omega),List.getElem?_append_left (by simp;omega)]
   congr 1
   simp;omega
  .rw[if_neg m]
   by_cases d:i*r.n<=q/\q<i*r.n+cs'.length
   .rw[if_pos d]
    rw[c] at d
    have u:arr[q]?=cs[q - i*r.n]?:=by
     have a:q - i*r.n<cs.length:=aa
     have:=hm (q - i*r.n) _ (List.getElem?_eq_getElem a)
     rw[show i*r.n+(q - i*r.n)=q by omega] at this
     rw[this,List.getElem?_eq_getElem a]
    rw[u,f]
    rcases Nat.lt_or_ge (q - i*r.n) o with p|p
    .rw[List.append_assoc,List.getElem?_append_left (by simp;omega),List.getElem?_take_of_lt p]
    .have A:o+vs.length<=q - i*r.n:=aa
     rw[List.getElem?_append_right (by simp;omega),List.getElem?_drop]
     congr 1
     simp;omega
   .rw[if_neg d]
 rw[e1] at k
 exact k
theorem bg.elemAt {T:Type}{r:cu T}{ro:Addr->Option Value}{e:TypeId}{b n cap:Nat}{l:List T}{bx:List (Nat×Obj)}(h:bg r ro e (.slice (some ⟨b,0,none⟩) n cap) l bx){i:Nat}{x:T}(hi:l[i]?=some x):
  ∃arr cs,bx=[(b,.cells arr e)]/\(∀off sp,ro ⟨b,off,sp⟩=none)/\r.rel ro x cs/\∀j v,cs[j]?=some v->arr[i*r.n+j]?=some v:=by
 obtain ⟨f,arr,g,cs,a,c,d,hc,hm⟩:=h.elem hi
 cases a
 exact ⟨arr,cs,c,d,hc,hm⟩
theorem bg.BE {T:Type}{r:cu T}{ro:Addr->Option Value}{e:TypeId}{ad:Option Addr}{n cap:Nat}{l:List T}{bx:List (Nat×Obj)}(h:bg r ro e (.slice ad n cap) l bx){i:Nat}{x:T}(hi:l[i]?=some x):
  ∃b arr cs,ad=some ⟨b,0,none⟩/\bx=[(b,.cells arr e)]/\(∀off sp,ro ⟨b,off,sp⟩=none)/\r.rel ro x cs/\∀j v,cs[j]?=some v->arr[i*r.n+j]?=some v:=by
 obtain ⟨a,arr,k,cs,c,d,f,hc,hm⟩:=h.elem hi
 injection c with g m o
 exact ⟨a,arr,cs,g,d,f,hc,hm⟩
theorem bg.jF {T:Type}{r:cu T}{ro:Addr->Option Value}{e:TypeId}{b n cap:Nat}{l:List T}{arr:Array Value}(h:bg r ro e (.slice (some ⟨b,0,none⟩) n cap) l [(b,.cells arr e)]){i:Nat}{x:T}(hi:l[i]?=some x):
  ∃cs,r.rel ro x cs/\∀j v,cs[j]?=some v->arr[i*r.n+j]?=some v:=by
 obtain ⟨c,cs,a,d,hc,hm⟩:=h.elemAt hi
 simp only[List.cons.injEq,Prod.mk.injEq,Obj.cells.injEq,true_and,and_true] at a
 subst a
 exact ⟨cs,hc,hm⟩
theorem bg.tD {T:Type}{r:cu T}{ro:Addr->Option Value}{e:TypeId}{l:List T}{b n cap:Nat}{arr:Array Value}(h:bg r ro e (.slice (some ⟨b,0,none⟩) n cap) l [(b,.cells arr e)]){i:Nat}{y:T}(hi:i<l.length){cs:List Value}(a:r.rel ro y cs):
  bg r ro e (.slice (some ⟨b,0,none⟩) n cap) (l.set i y) [(b,.cells (cZ arr (i*r.n) cs) e)]:=h.setAt (List.getElem?_eq_getElem hi) a
theorem bg.jb {T:Type}{r:cu T}{ro:Addr->Option Value}{e:TypeId}{ad:Option Addr}{n cap:Nat}{l:List T}{bx:List (Nat×Obj)}(h:bg r ro e (.slice ad n cap) l bx)(a:l.isEmpty=false):
  ∃b arr,ad=some ⟨b,0,none⟩/\bx=[(b,.cells arr e)]/\(∀off sp,ro ⟨b,off,sp⟩=none):=by
 cases l with
 |nil=>cases a
 |cons x l=>
  obtain ⟨b,arr,cs,c,d,f,_⟩:=h.BE (i:=0) rfl
  exact ⟨b,arr,c,d,f⟩
theorem bg.ia {T:Type}{r:cu T}{ro:Addr->Option Value}{e:TypeId}{b n cap:Nat}{l:List T}{bx:List (Nat×Obj)}(h:bg r ro e (.slice (some ⟨b,0,none⟩) n cap) l bx):∃arr,bx=[(b,.cells arr e)]:=by
 obtain ⟨ls,hg,-⟩:=h;rcases hg with ⟨a,_,_⟩|⟨d,arr,f,a,c,_⟩
 .cases a
 .cases a;exact ⟨arr,c⟩
theorem bg.count {T:Type}{r:cu T}{ro:Addr->Option Value}{e:TypeId}{ad:Option Addr}{n cap:Nat}{l:List T}{bx:List (Nat×Obj)}(h:bg r ro e (.slice ad n cap) l bx):l.length=n:=by
 obtain ⟨b,c,a,_⟩:=h.len;cases a;rfl
def qT (ops:Array Oper)(cn:List Nat)(i:Nat):Bool:=cn.all fun j=>match ops[j]? with
 |some o=>o.after.any fun e=>Region.binds .any e&&e.on==i
 |none=>true
section
variable {P:Program}{main:Bool}{J:Goroutine->af->Prop}{ops:Array Oper}{Q:Act->af->Prop}{S:af->Prop}{cn:List Nat}
def eH (P:Program)(J:Goroutine->af->Prop)(ops:Array Oper)(Q:Act->af->Prop)(S:af->Prop)(cn:List Nat):Nat->Array Bool->Act->af->Prop
 |0,listed,a,F=>Region.ready .any ops listed=[]/\Q a F
 |fuel+1,listed,a,F=>(Region.ready .any ops listed=[]->Q a F)/\
  ∀i∈Region.ready .any ops listed,ek P J ops i (fun b F'=>(¬i∈cn->S F->S F')/\eH P J ops Q S cn fuel (listed.setIfInBounds i true) b F') a F
theorem GB:∀(fuel t:Nat) (listed:Array Bool) (a:Act) (F:af),eH P J ops Q S cn fuel listed a F->
  gx P J ops Q (Region.linearise.go .any ops fuel t listed []) a F:=by
 intro fuel
 induction fuel with
 |zero=>intro t listed a F h;simpa [Region.linearise.go,gx] using h.2
 |succ fuel ih=>
  intro t listed a F h
  obtain ⟨b,c⟩:=h
  simp only[Region.linearise.go]
  change gx P J ops Q (match (Region.ready .any ops listed)[t % (Region.ready .any ops listed).length]? with
   |some i=>Region.linearise.go .any ops fuel (t/(Region.ready .any ops listed).length) (listed.setIfInBounds i true) [i]
   |none=>[].reverse) a F
  cases hi:(Region.ready .any ops listed)[t % (Region.ready .any ops listed).length]? with
  |none=>
   have d:Region.ready .any ops listed=[]:=by
    cases e:Region.ready .any ops listed with
    |nil=>rfl
    |cons x xs=>
     rw[e] at hi
     have f:t % (x::xs).length<(x::xs).length:=Nat.mod_lt _ au
     simp at hi
     simp at f
     omega
   simpa [gx] using b d
  |some i=>
   simp only[]
   rw[linearise_go_acc,List.reverse_singleton,List.singleton_append]
   exact qs (fun a F h=>ih _ _ a F h.2) (c i (List.mem_of_getElem? hi))
theorem GC {i:Nat}{l:Oper}{v:Value}(hi:ops[i]?=some l)(m:qT ops cn i=true)(w:∀(j:Nat) (o:Oper) cs b,ops[j]?=some o->o.op≠ .select cs b):
  ∀(fuel:Nat) (listed:Array Bool) (a:Act) (F:af),
   (∀j f,ops[j]?=some f->j≠i->listed.getD j true=false->(∀e∈f.after,Region.binds .any e=true->e.on≠i)->l.apart ops f=true)->
   i∈Region.ready .any ops listed->gk P J ops S l v a->S F->
   eH P J ops Q S cn fuel (listed.setIfInBounds i true) (a.put l.dst v) F->eH P J ops Q S cn (fuel+1) listed a F:=by
 intro fuel
 induction fuel with
 |zero=>
  intro listed a F _ g n p H
  refine ⟨fun h=>(by rw[h] at g;cases g),fun j q=>?_⟩
  by_cases d:j=i
  .subst d;exact n.oC hi p ⟨fun _ h=>h,H⟩
  .have:=ready_mono q d
   rw[H.1] at this
   cases this
 |succ fuel ih=>
  intro listed a F y g n p H
  refine ⟨fun h=>(by rw[h] at g;cases g),fun j q=>?_⟩
  by_cases d:j=i
  .subst d;exact n.oC hi p ⟨fun _ h=>h,H⟩
  .have c:=H.2 j (ready_mono q d)
   obtain ⟨z,f,r,E⟩:=mem_ready.1 q
   have A:∀e∈f.after,Region.binds .any e=true->e.on≠i:=fun e he hb heq=>by
    have c:=E e he hb
    have B:=(mem_ready.1 g).1
    rw[heq] at c
    rcases Nat.lt_or_ge i listed.size with t|t
    .simp[t] at B c;rw[B] at c;cases c
    .simp[Array.getElem?_eq_none t] at c
   have G:¬j∈cn:=fun e=>by
    have m:=List.all_eq_true.1 m j e
    simp only[r,Array.any_eq_true,Bool.and_eq_true,beq_iff_eq] at m
    obtain ⟨x,I,c,u⟩:=m
    exact A _ (Array.getElem_mem I) c u
   have u:=vV r (y j f r d z A) (fun cs b=>w i l cs b hi) (fun cs b=>w j f cs b r) n c
   have K:∀k ok,ops[k]?=some ok->k≠i->(listed.setIfInBounds j true).getD k true=false->
     (∀e∈ok.after,Region.binds .any e=true->e.on≠i)->l.apart ops ok=true:=fun k ok L M C N=>by
    refine y k ok L M ?_ N
    by_cases D:j=k
    .subst D;exact z
    .rw[getD_set_ne true D] at C;exact C
   refine qs (fun O F' s=>⟨s.2.1,ih (listed.setIfInBounds j true) O F' K (ready_mono g (Ne.symm d)) s.1 (s.2.1 G p) ?_⟩) u
   rw[Array.setIfInBounds_comm _ _ d]
   exact s.2.2
theorem GD {i:Nat}{l:Oper}{v:Value}(hi:ops[i]?=some l)(s:∀(j:Nat) (o:Oper) cs b,ops[j]?=some o->o.op≠ .select cs b):
  ∀(fuel:Nat) (listed:Array Bool) (a:Act) (F:af),
   (∀j d,ops[j]?=some d->j≠i->listed.getD j true=false->(∀e∈d.after,Region.binds .any e=true->e.on≠i)->l.apart ops d=true)->
   i∈Region.ready .any ops listed->gk P J ops (fun _=>True) l v a->
   eH P J ops Q S cn fuel (listed.setIfInBounds i true) (a.put l.dst v) F->eH P J ops Q S cn (fuel+1) listed a F:=by
 intro fuel
 induction fuel with
 |zero=>
  intro listed a F _ f m H
  refine ⟨fun h=>(by rw[h] at f;cases f),fun j n=>?_⟩
  by_cases c:j=i
  .subst c;exact m.oC hi trivial ⟨fun _ h=>h,H⟩
  .have:=ready_mono n c
   rw[H.1] at this
   cases this
 |succ fuel ih=>
  intro listed a F t f m H
  refine ⟨fun h=>(by rw[h] at f;cases f),fun j n=>?_⟩
  by_cases c:j=i
  .subst c;exact m.oC hi trivial ⟨fun _ h=>h,H⟩
  .have g:=H.2 j (ready_mono n c)
   obtain ⟨u,d,p,z⟩:=mem_ready.1 n
   have A:∀e∈d.after,Region.binds .any e=true->e.on≠i:=fun e he hb heq=>by
    have g:=z e he hb
    have w:=(mem_ready.1 f).1
    rw[heq] at g
    rcases Nat.lt_or_ge i listed.size with q|q
    .simp[q] at w g;rw[w] at g;cases g
    .simp[Array.getElem?_eq_none q] at g
   have B:=vV p (t j d p c u A) (fun cs b=>s i l cs b hi) (fun cs b=>s j d cs b p) m g
   have C:∀k ok,ops[k]?=some ok->k≠i->(listed.setIfInBounds j true).getD k true=false->
     (∀e∈ok.after,Region.binds .any e=true->e.on≠i)->l.apart ops ok=true:=fun k ok D E x G=>by
    refine t k ok D E ?_ G
    by_cases y:j=k
    .subst y;exact u
    .rw[getD_set_ne true y] at x;exact x
   refine qs (fun I F' r=>⟨r.2.1,ih (listed.setIfInBounds j true) I F' C (ready_mono f (Ne.symm c)) r.1 ?_⟩) B
   rw[Array.setIfInBounds_comm _ _ c]
   exact r.2.2
theorem BG (i:Nat){c:Oper}(v:Value){fuel:Nat}{listed:Array Bool}{a:Act}{F:af}(hi:ops[i]?=some c)
  (b:(Region.noSelect ops&&Region.free .any ops listed i&&(Region.ready .any ops listed).contains i)=true)
  (d:qT ops cn i=true) (e:gk P J ops S c v a) (f:S F)
  (h:eH P J ops Q S cn fuel (listed.setIfInBounds i true) (a.put c.dst v) F):eH P J ops Q S cn (fuel+1) listed a F:=by
 simp only[Bool.and_eq_true] at b
 exact GC hi d (Region.noSelect_spec b.1.1) fuel listed a F (Region.free_spec hi b.1.2) (by simpa using b.2) e f h
theorem w7 {rs:List Nat}{fuel:Nat}{listed:Array Bool}{a:Act}{F:af}(b:Region.ready .any ops listed=rs)(aL:rs≠[])
  (h:∀i∈rs,ek P J ops i (fun c F'=>(¬i∈cn->S F->S F')/\eH P J ops Q S cn fuel (listed.setIfInBounds i true) c F') a F):eH P J ops Q S cn (fuel+1) listed a F:=
 ⟨fun d=>absurd (b▸d) aL,b▸h⟩
theorem BH (i:Nat){fuel:Nat}{listed:Array Bool}{a:Act}{F:af}(b:Region.ready .any ops listed=[i])
  (h:ek P J ops i (fun c F'=>(¬i∈cn->S F->S F')/\eH P J ops Q S cn fuel (listed.setIfInBounds i true) c F') a F):eH P J ops Q S cn (fuel+1) listed a F:=
 w7 b au (by simpa using h)
theorem BI {listed:Array Bool}{a:Act}{F:af}(b:Region.ready .any ops listed=[])(h:Q a F):∀fuel,eH P J ops Q S cn fuel listed a F
 |0=>⟨b,h⟩
 |_+1=>⟨fun _=>h,by rw[b];simp⟩
end
theorem w8 {P:Program}{J:Goroutine->af->Prop}{ops:Array Oper}{Q:Act->af->Prop}{S:af->Prop}{cn:List Nat}(i:Nat){b:Oper}(v:Value){fuel:Nat}{listed:Array Bool}{a:Act}{F:af}(hi:ops[i]?=some b)
  (d:(Region.noSelect ops&&Region.free .any ops listed i&&(Region.ready .any ops listed).contains i)=true)
  (e:qT ops cn i=true) (hg:cT ops b a=some true) (f:∀F R,S F->R v F->c7 P J b R a F) (c:S F)
  (h:eH P J ops Q S cn fuel (listed.setIfInBounds i true) (bB a b.dst v) F):eH P J ops Q S cn (fuel+1) listed a F:=
 BG i v hi d e (.inl ⟨cA hg,fun F R c g=>lY (f F R c g)⟩) c h
theorem GF {P:Program}{J:Goroutine->af->Prop}{ops:Array Oper}{Q:Act->af->Prop}{S:af->Prop}{cn:List Nat}(i:Nat){b:Oper}{fuel:Nat}{listed:Array Bool}{a:Act}{F:af}(hi:ops[i]?=some b)
  (c:(Region.noSelect ops&&Region.free .any ops listed i&&(Region.ready .any ops listed).contains i)=true)
  (d:qT ops cn i=true) (hg:cT ops b a=some false) (e:S F)
  (h:eH P J ops Q S cn fuel (listed.setIfInBounds i true) (bB a b.dst undef) F):eH P J ops Q S cn (fuel+1) listed a F:=
 BG i undef hi c d (.inr ⟨cA hg,rfl⟩) e h
theorem BJ {P:Program}{J:Goroutine->af->Prop}{ops:Array Oper}{Q:Act->af->Prop}{S:af->Prop}{cn:List Nat}(i:Nat){c:Oper}(v:Value){fuel:Nat}{listed:Array Bool}{a:Act}{F:af}(hi:ops[i]?=some c)
  (b:(Region.noSelect ops&&Region.free .any ops listed i&&(Region.ready .any ops listed).contains i)=true)
  (d:gk P J ops (fun _=>True) c v a)
  (h:eH P J ops Q S cn fuel (listed.setIfInBounds i true) (bB a c.dst v) F):eH P J ops Q S cn (fuel+1) listed a F:=by
 simp only[Bool.and_eq_true] at b
 exact GD hi (Region.noSelect_spec b.1.1) fuel listed a F (Region.free_spec hi b.1.2) (by simpa using b.2) d h
inductive cD where
 |done
 |rd (i:Nat) (p:cD)
 |one (i:Nat) (p:cD)
 |two (i:Nat) (p:cD) (j:Nat) (q:cD)
 |three (i:Nat) (p:cD) (j:Nat) (q:cD) (k:Nat) (r:cD)
 |last (i:Nat) (p:cD)
 |pure (i:Nat) (p:cD)
inductive gw where
 |done
 |rd (o:Oper) (p:gw)
 |one (o:Oper) (p:gw)
 |two (o:Oper) (p:gw) (o':Oper) (q:gw)
 |three (o:Oper) (p:gw) (o':Oper) (q:gw) (j7:Oper) (r:gw)
 |last (o:Oper) (p:gw)
 |pure (o:Oper) (p:gw)
 |bad
def cD.opers (ops:Array Oper):cD->gw
 | .done=>.done
 | .rd i p=>match ops[i]? with
  |some o=>.rd o (p.opers ops)
  |none=>.bad
 | .one i p=>match ops[i]? with
  |some o=>.one o (p.opers ops)
  |none=>.bad
 | .two i p j q=>match ops[i]?,ops[j]? with
  |some o,some o'=>.two o (p.opers ops) o' (q.opers ops)
  |_,_=>.bad
 | .three i p j q k r=>match ops[i]?,ops[j]?,ops[k]? with
  |some o,some o',some j7=>.three o (p.opers ops) o' (q.opers ops) j7 (r.opers ops)
  |_,_,_=>.bad
 | .last i p=>match ops[i]? with
  |some o=>.last o (p.opers ops)
  |none=>.bad
 | .pure i p=>match ops[i]? with
  |some o=>.pure o (p.opers ops)
  |none=>.bad
def cD.tl:cD->Bool
 | .done=>true
 | .last _ p=>p.tl
 | .pure _ p=>p.tl
 |_=>false
def cD.ok (ops:Array Oper)(cn:List Nat):cD->Array Bool->Bool
 | .done,L=>decide (Region.ready .any ops L=[])
 | .rd i p,L=>Region.free .any ops L i&&(Region.ready .any ops L).contains i&&(ops[i]?).isSome&&qT ops cn i&&p.ok ops cn (L.setIfInBounds i true)
 | .one i p,L=>decide (Region.ready .any ops L=[i])&&(ops[i]?).isSome&&p.ok ops cn (L.setIfInBounds i true)
 | .two i p j q,L=>decide (Region.ready .any ops L=[i,j])&&(ops[i]?).isSome&&(ops[j]?).isSome&&p.ok ops cn (L.setIfInBounds i true)&&q.ok ops cn (L.setIfInBounds j true)
 | .three i p j q k r,L=>decide (Region.ready .any ops L=[i,j,k])&&(ops[i]?).isSome&&(ops[j]?).isSome&&(ops[k]?).isSome&&p.ok ops cn (L.setIfInBounds i true)&&q.ok ops cn (L.setIfInBounds j true)&&r.ok ops cn (L.setIfInBounds k true)
 | .pure i p,L=>Region.free .any ops L i&&(Region.ready .any ops L).contains i&&(ops[i]?).isSome&&p.ok ops cn (L.setIfInBounds i true)
 | .last i p,L=>cn.contains i&&decide (Region.ready .any ops L=[i])&&p.tl&&(ops[i]?).isSome&&p.ok ops cn (L.setIfInBounds i true)
def cD.len:cD->Nat
 | .done=>0
 | .rd _ p=>p.len+1
 | .one _ p=>p.len+1
 | .two _ p _ q=>max p.len q.len+1
 | .three _ p _ q _ r=>max p.len (max q.len r.len)+1
 | .last _ p=>p.len+1
 | .pure _ p=>p.len+1
def cz (P:Program)(J:Goroutine->af->Prop)(ops:Array Oper)(F0:af)(Q:Act->af->Prop):gw->Bool->Act->af->Prop
 | .done,_,a,F=>Q a F
 | .bad,_,_,_=>False
 | .rd o p,_,a,F=>match cT ops o a with
  |some false=>cz P J ops F0 Q p true (bB a o.dst undef) F
  |some true=>match o.op with
   | .load t x=>match ev a x with
    | .pointer (some ad)=>match fV P F0 t ad with
     |some v=>cz P J ops F0 Q p true (bB a o.dst v) F
     |none=>False
    |_=>False
   | .call {callee:=.value x,args, ..}=>match ev a x with
    | .func (.func fn) first captured=>aR P fn=true/\∃v,Plain P J F0 fn (first++args.map (ev a)++captured) v/\cz P J ops F0 Q p false (bB a o.dst v) F
    |_=>False
   |_=>match jD P o a with
    |some v=>cz P J ops F0 Q p true (bB a o.dst v) F
    |none=>False
  |none=>False
 | .one o p,_,a,F=>match cT ops o a with
  |some true=>c7 P J o (fun v F'=>Knows F0 F'/\cz P J ops F0 Q p (!Oper.calls o) (bB a o.dst v) F') a F
  |some false=>cz P J ops F0 Q p true (bB a o.dst undef) F
  |none=>False
 | .two o p o' q,_,a,F=>(match cT ops o a with
  |some true=>c7 P J o (fun v F'=>Knows F0 F'/\cz P J ops F0 Q p (!Oper.calls o) (bB a o.dst v) F') a F
  |some false=>cz P J ops F0 Q p true (bB a o.dst undef) F
  |none=>False)/\(match cT ops o' a with
  |some true=>c7 P J o' (fun v F'=>Knows F0 F'/\cz P J ops F0 Q q (!Oper.calls o') (bB a o'.dst v) F') a F
  |some false=>cz P J ops F0 Q q true (bB a o'.dst undef) F
  |none=>False)
 | .three o p o' q j7 r,_,a,F=>(match cT ops o a with
  |some true=>c7 P J o (fun v F'=>Knows F0 F'/\cz P J ops F0 Q p (!Oper.calls o) (bB a o.dst v) F') a F
  |some false=>cz P J ops F0 Q p true (bB a o.dst undef) F
  |none=>False)/\(match cT ops o' a with
  |some true=>c7 P J o' (fun v F'=>Knows F0 F'/\cz P J ops F0 Q q (!Oper.calls o') (bB a o'.dst v) F') a F
  |some false=>cz P J ops F0 Q q true (bB a o'.dst undef) F
  |none=>False)/\(match cT ops j7 a with
  |some true=>c7 P J j7 (fun v F'=>Knows F0 F'/\cz P J ops F0 Q r (!Oper.calls j7) (bB a j7.dst v) F') a F
  |some false=>cz P J ops F0 Q r true (bB a j7.dst undef) F
  |none=>False)
 | .pure o p,_,a,F=>match cT ops o a with
  |some false=>cz P J ops F0 Q p true (bB a o.dst undef) F
  |some true=>match jD P o a with
   |some v=>cz P J ops F0 Q p true (bB a o.dst v) F
   |none=>False
  |none=>False
 | .last o p,_,a,F=>match cT ops o a with
  |some true=>c7 P J o (fun v F'=>cz P J ops F0 Q p (!Oper.calls o) (bB a o.dst v) F') a F
  |_=>False
section
variable {P:Program}{main:Bool}{J:Goroutine->af->Prop}{ops:Array Oper}{Q:Act->af->Prop}{F0:af}{cn:List Nat}
theorem oK {p:cD}{i:Nat}{o:Oper}{fuel:Nat}{L:Array Bool}{a:Act}{F:af}(b:ops[i]?=some o)(d:Knows F0 F)
  (ih:∀go a F,Knows F0 F->cz P J ops F0 Q (p.opers ops) go a F->eH P J ops Q (Knows F0) cn fuel (L.setIfInBounds i true) a F)
  (h:match cT ops o a with
   |some true=>c7 P J o (fun v F'=>Knows F0 F'/\cz P J ops F0 Q (p.opers ops) (!Oper.calls o) (bB a o.dst v) F') a F
   |some false=>cz P J ops F0 Q (p.opers ops) true (bB a o.dst undef) F
   |none=>False):ek P J ops i (fun e F'=>(¬i∈cn->Knows F0 F->Knows F0 F')/\eH P J ops Q (Knows F0) cn fuel (L.setIfInBounds i true) e F') a F:=by
 split at h
 .rename_i hg
  unfold ek
  simp only[b]
  rw[if_pos (cA hg)]
  refine lY (m9.td ?_ h)
  rintro v F' ⟨c,f⟩
  exact ⟨fun _ _=>c,ih _ _ F' c f⟩
 .rename_i hg
  unfold ek
  simp only[b]
  rw[if_neg (by rw[cA hg];exact Bool.false_ne_true)]
  exact ⟨fun _ g=>g,ih _ _ F d h⟩
 .exact h.elim
theorem BK {p:cD}{i:Nat}{fuel:Nat}{L:Array Bool}{go:Bool}{a:Act}{F:af}(d:Region.noSelect ops=true)(hc:(cD.pure i p).ok ops cn L=true)
  (ih:∀go v a,p.ok ops cn (L.setIfInBounds i true)=true->cz P J ops F0 Q (p.opers ops) go (bB a ((ops[i]?).bind (·.dst)) v) F->eH P J ops Q (Knows F0) cn fuel (L.setIfInBounds i true) (bB a ((ops[i]?).bind (·.dst)) v) F)
  (h:cz P J ops F0 Q ((cD.pure i p).opers ops) go a F):eH P J ops Q (Knows F0) cn (fuel+1) L a F:=by
 simp only[cD.ok,Bool.and_eq_true] at hc
 obtain ⟨⟨⟨c1,c2⟩,c3⟩,c4⟩:=hc
 obtain ⟨o,b⟩:=Option.isSome_iff_exists.1 c3
 have c:(Region.noSelect ops&&Region.free .any ops L i&&(Region.ready .any ops L).contains i)=true:=by rw[d,c1,c2];rfl
 have e:cD.opers ops (.pure i p)= .pure o (p.opers ops):=by simp only[cD.opers,b]
 rw[e] at h
 have hd:(ops[i]?).bind (·.dst)=o.dst:=by rw[b];rfl
 rw[hd] at ih
 unfold cz at h
 split at h
 .rename_i hg
  exact BJ i undef b c (.inr ⟨cA hg,rfl⟩) (ih _ _ _ c4 h)
 .rename_i hg
  split at h
  .rename_i v f
   exact BJ i v b c (.inl ⟨cA hg,fun F R _ g=>lY (s8 f g)⟩) (ih _ _ _ c4 h)
  .exact h.elim
 .exact h.elim
theorem w9 (c:Region.noSelect ops=true):∀(p:cD) (fuel:Nat) (L:Array Bool) (go:Bool) (a:Act) (F:af),p.tl=true->p.len<=fuel->p.ok ops cn L=true->cz P J ops F0 Q (p.opers ops) go a F->eH P J ops Q (Knows F0) cn fuel L a F
 | .done,fuel,L,go,a,F,_,b,hc,h=>by
  simp only[cD.ok,decide_eq_true_eq] at hc
  unfold cD.opers cz at h
  exact BI hc h _
 | .last i p,fuel,L,go,a,F,ht,b,hc,h=>by
  simp only[cD.ok,Bool.and_eq_true,decide_eq_true_eq] at hc
  obtain ⟨⟨⟨⟨c1,c2⟩,c3⟩,c4⟩,e⟩:=hc
  obtain ⟨o,d⟩:=Option.isSome_iff_exists.1 c4
  have g:cD.opers ops (.last i p)= .last o (p.opers ops):=by simp only[cD.opers,d]
  rw[g] at h
  simp only[cD.len] at b
  obtain ⟨fuel,rfl⟩:∃f,fuel=f+1:=⟨fuel - 1,aa⟩
  unfold cz at h
  refine BH i c2 ?_
  split at h
  .rename_i hg
   unfold ek
   simp only[d]
   rw[if_pos (cA hg)]
   refine lY (m9.td ?_ h)
   exact fun v F' j=>⟨fun aL _=>absurd (by simpa using c1) aL,w9 c p fuel _ _ _ F' c3 aa e j⟩
  .exact h.elim
 | .pure i p,fuel,L,go,a,F,ht,b,hc,h=>by
  simp only[cD.len] at b
  obtain ⟨fuel,rfl⟩:∃f,fuel=f+1:=⟨fuel - 1,aa⟩
  exact BK c hc (fun go v a c4 k=>w9 c p fuel _ go _ F ht aa c4 k) h
 | .rd _ _,_,_,_,_,_,ht,_,_,_=>by cases ht
 | .one _ _,_,_,_,_,_,ht,_,_,_=>by cases ht
 | .two ..,_,_,_,_,_,ht,_,_,_=>by cases ht
 | .three ..,_,_,_,_,_,ht,_,_,_=>by cases ht
theorem k5 (e:Region.noSelect ops=true):∀(p:cD) (fuel:Nat) (L:Array Bool) (go:Bool) (a:Act) (F:af),Knows F0 F->p.len<=fuel->p.ok ops cn L=true->cz P J ops F0 Q (p.opers ops) go a F->eH P J ops Q (Knows F0) cn fuel L a F
 | .done,fuel,L,go,a,F,b,d,hc,h=>by
  simp only[cD.ok,decide_eq_true_eq] at hc
  unfold cD.opers cz at h
  exact BI hc h _
 | .rd i p,fuel,L,go,a,F,b,d,hc,h=>by
  simp only[cD.ok,Bool.and_eq_true] at hc
  obtain ⟨⟨⟨⟨c1,c2⟩,c3⟩,g⟩,c4⟩:=hc
  obtain ⟨o,c⟩:=Option.isSome_iff_exists.1 c3
  have w:(Region.noSelect ops&&Region.free .any ops L i&&(Region.ready .any ops L).contains i)=true:=by rw[e,c1,c2];rfl
  have l:cD.opers ops (.rd i p)= .rd o (p.opers ops):=by simp only[cD.opers,c]
  rw[l] at h
  simp only[cD.len] at d
  obtain ⟨fuel,rfl⟩:∃f,fuel=f+1:=⟨fuel - 1,aa⟩
  have next:∀go v,cz P J ops F0 Q (p.opers ops) go (bB a o.dst v) F->eH P J ops Q (Knows F0) cn fuel (L.setIfInBounds i true) (bB a o.dst v) F:=fun go v m=>
   k5 e p fuel _ go _ F b aa c4 m
  unfold cz at h
  split at h
  .rename_i hg
   exact GF i c w g hg b (next true undef h)
  .rename_i hg
   split at h
   .rename_i t x z
    split at h
    case h_2=>exact h.elim
    rename_i ad B
    split at h
    case h_2=>exact h.elim
    rename_i v m
    refine w8 i v c w g hg (fun F R y s=>?_) b (next _ v h)
    unfold c7
    simp only[z,B,y.fV m]
    exact s
   .rename_i x args argTypes z
    split at h
    case h_2=>exact h.elim
    rename_i fn first captured n
    obtain ⟨C,v,D,h⟩:=h
    refine w8 i v c w g hg (fun F R y s=>?_) b (next _ v h)
    unfold c7
    simp only[z,n]
    exact ⟨C,(D F y).mono fun I F' E=>by obtain ⟨rfl,rfl⟩:=E;exact s⟩
   .split at h
    case h_2=>exact h.elim
    rename_i v m
    exact w8 i v c w g hg (fun F R y s=>s8 m s) b (next _ v h)
  .exact h.elim
 | .one i p,fuel,L,go,a,F,b,d,hc,h=>by
  simp only[cD.ok,Bool.and_eq_true,decide_eq_true_eq] at hc
  obtain ⟨⟨c1,c3⟩,c4⟩:=hc
  obtain ⟨o,c⟩:=Option.isSome_iff_exists.1 c3
  have l:cD.opers ops (.one i p)= .one o (p.opers ops):=by simp only[cD.opers,c]
  rw[l] at h
  simp only[cD.len] at d
  obtain ⟨fuel,rfl⟩:∃f,fuel=f+1:=⟨fuel - 1,aa⟩
  unfold cz at h
  exact BH i c1 (oK c b (fun go a F b h=>k5 e p fuel _ go a F b aa c4 h) h)
 | .two i p j q,fuel,L,go,a,F,b,d,hc,h=>by
  simp only[cD.ok,Bool.and_eq_true,decide_eq_true_eq] at hc
  obtain ⟨⟨⟨⟨c1,c2⟩,c3⟩,c4⟩,g⟩:=hc
  obtain ⟨o,c⟩:=Option.isSome_iff_exists.1 c2
  obtain ⟨o',u⟩:=Option.isSome_iff_exists.1 c3
  have l:cD.opers ops (.two i p j q)= .two o (p.opers ops) o' (q.opers ops):=by simp only[cD.opers,c,u]
  rw[l] at h
  simp only[cD.len] at d
  obtain ⟨fuel,rfl⟩:∃f,fuel=f+1:=⟨fuel - 1,aa⟩
  unfold cz at h
  refine w7 c1 au fun x n=>?_
  simp only[List.mem_cons,List.not_mem_nil,or_false] at n
  rcases n with rfl|rfl
  .exact oK c b (fun go a F b h=>k5 e p fuel _ go a F b aa c4 h) h.1
  .exact oK u b (fun go a F b h=>k5 e q fuel _ go a F b aa g h) h.2
 | .three i p j q k r,fuel,L,go,a,F,b,d,hc,h=>by
  simp only[cD.ok,Bool.and_eq_true,decide_eq_true_eq] at hc
  obtain ⟨⟨⟨⟨⟨⟨c1,c2⟩,c3⟩,c4⟩,g⟩,G⟩,H⟩:=hc
  obtain ⟨o,c⟩:=Option.isSome_iff_exists.1 c2
  obtain ⟨o',u⟩:=Option.isSome_iff_exists.1 c3
  obtain ⟨j7,A⟩:=Option.isSome_iff_exists.1 c4
  have l:cD.opers ops (.three i p j q k r)= .three o (p.opers ops) o' (q.opers ops) j7 (r.opers ops):=by simp only[cD.opers,c,u,A]
  rw[l] at h
  simp only[cD.len] at d
  obtain ⟨fuel,rfl⟩:∃f,fuel=f+1:=⟨fuel - 1,aa⟩
  unfold cz at h
  refine w7 c1 au fun x n=>?_
  simp only[List.mem_cons,List.not_mem_nil,or_false] at n
  rcases n with rfl|rfl|rfl
  .exact oK c b (fun go a F b h=>k5 e p fuel _ go a F b aa g h) h.1
  .exact oK u b (fun go a F b h=>k5 e q fuel _ go a F b aa G h) h.2.1
  .exact oK A b (fun go a F b h=>k5 e r fuel _ go a F b aa H h) h.2.2
 | .last i p,fuel,L,go,a,F,b,d,hc,h=>w9 e (.last i p) fuel L go a F (by simp only[cD.ok,Bool.and_eq_true] at hc;exact hc.1.1.2) d hc h
 | .pure i p,fuel,L,go,a,F,b,d,hc,h=>by
  simp only[cD.len] at d
  obtain ⟨fuel,rfl⟩:∃f,fuel=f+1:=⟨fuel - 1,aa⟩
  exact BK e hc (fun go v a c4 m=>k5 e p fuel _ go _ F b aa c4 m) h
theorem fc {Q:Ex->Act->af->Prop}(hJ:Closed P main J)(d:P.follows .mixedOrders=true)(cn:List Nat)(p:cD){id:Nat}{a:Act}{F:af}(F0:af)(e:Knows F0 F)
  (c:(Region.noSelect ops&&decide (p.len<=ops.size)&&p.ok ops cn (Array.replicate ops.size false))=true)
  (h:cz P J ops F0 (Q .normal) (p.opers ops) true a F):Wp J (.region id ops true) Q a F:=by
 simp only[Bool.and_eq_true,decide_eq_true_eq] at c
 obtain ⟨⟨f,g⟩,i⟩:=c
 intro b k cs hb j
 refine hJ.step fun w hw=>?_
 refine ⟨_,_,_,F,Aq,.drawn _ _ _,hw.drawn _,au,?_⟩
 refine sN (K:=Q .normal) hJ (vY hb) (fun l F' m=>j .normal l F' m) _ _ _ ?_
 simp only[Region.schedule,d,Bool.true_or,if_true]
 exact GB ops.size _ _ a F (k5 (cn:=cn) f p ops.size _ true a F e g i h)
end
theorem GG {P:Program}{J:Goroutine->af->Prop}{ops:Array Oper}{F0:af}{Q:Act->af->Prop}{go:Bool}{a:Act}{F:af}:cz P J ops F0 Q .done go a F=Q a F:=rfl
theorem GH {P:Program}{J:Goroutine->af->Prop}{ops:Array Oper}{F0:af}{Q:Act->af->Prop}{o:Oper}{p:gw}{a:Act}{F:af}:cz P J ops F0 Q (.rd o p) true a F=match cT ops o a with
  |some false=>cz P J ops F0 Q p true (bB a o.dst undef) F
  |some true=>match o.op with
   | .load t x=>match ev a x with
    | .pointer (some ad)=>match fV P F0 t ad with
     |some v=>cz P J ops F0 Q p true (bB a o.dst v) F
     |none=>False
    |_=>False
   | .call {callee:=.value x,args, ..}=>match ev a x with
    | .func (.func fn) first captured=>aR P fn=true/\∃v,Plain P J F0 fn (first++args.map (ev a)++captured) v/\cz P J ops F0 Q p false (bB a o.dst v) F
    |_=>False
   |_=>match jD P o a with
    |some v=>cz P J ops F0 Q p true (bB a o.dst v) F
    |none=>False
  |none=>False:=(Eq.refl _).trans (Eq.refl _)
theorem BL {P:Program}{J:Goroutine->af->Prop}{ops:Array Oper}{F0:af}{Q:Act->af->Prop}{o:Oper}{p:gw}{a:Act}{F:af}:cz P J ops F0 Q (.one o p) true a F=match cT ops o a with
  |some true=>c7 P J o (fun v F'=>Knows F0 F'/\cz P J ops F0 Q p (!Oper.calls o) (bB a o.dst v) F') a F
  |some false=>cz P J ops F0 Q p true (bB a o.dst undef) F
  |none=>False:=(Eq.refl _).trans (Eq.refl _)
theorem k6 {P:Program}{J:Goroutine->af->Prop}{ops:Array Oper}{F0:af}{Q:Act->af->Prop}{o o':Oper}{p q:gw}{go:Bool}{a:Act}{F:af}(b:cz P J ops F0 Q (.one o p) true a F)(c:cz P J ops F0 Q (.one o' q) true a F):cz P J ops F0 Q (.two o p o' q) go a F:=by
 rw[BL] at b c;unfold cz;exact ⟨b,c⟩
theorem GI {P:Program}{J:Goroutine->af->Prop}{ops:Array Oper}{F0:af}{Q:Act->af->Prop}{o:Oper}{p:gw}{a:Act}{F:af}:cz P J ops F0 Q (.last o p) true a F=match cT ops o a with
  |some true=>c7 P J o (fun v F'=>cz P J ops F0 Q p (!Oper.calls o) (bB a o.dst v) F') a F
  |_=>False:=(Eq.refl _).trans (Eq.refl _)
theorem GJ {P:Program}{J:Goroutine->af->Prop}{ops:Array Oper}{F0:af}{Q:Act->af->Prop}{o:Oper}{p:gw}{a:Act}{F:af}:cz P J ops F0 Q (.pure o p) true a F=match cT ops o a with
  |some false=>cz P J ops F0 Q p true (bB a o.dst undef) F
  |some true=>match jD P o a with
   |some v=>cz P J ops F0 Q p true (bB a o.dst v) F
   |none=>False
  |none=>False:=(Eq.refl _).trans (Eq.refl _)
theorem cp {P:Program}{J:Goroutine->af->Prop}{ops:Array Oper}{F0:af}{Q:Act->af->Prop}:∀{p:gw} {go:Bool} {a:Act} {F:af},cz P J ops F0 Q p true a F->cz P J ops F0 Q p go a F
 | .done,_,_,_,h=>h
 | .bad,_,_,_,h=>h
 | .rd ..,_,_,_,h=>h
 | .one ..,_,_,_,h=>h
 | .two ..,_,_,_,h=>h
 | .three ..,_,_,_,h=>h
 | .last ..,_,_,_,h=>h
 | .pure ..,_,_,_,h=>h
attribute [irreducible] cz
attribute [go_sem] GG GH BL GI GJ cD.opers
theorem fG {ro aW:Addr->Option Value}{l:List (Nat×Obj)}(a:Ext ro aW)(b:aK aW l)(own:List (Nat×Obj)):Knows ⟨ro,l⟩ ⟨aW,own⟩=jB l own:=
 propext ⟨fun h=>h.2.2,FJ a b⟩
section
variable {P:Program}{main:Bool}{J:Goroutine->af->Prop}{a:Act}{F:af}
def k7 (l:Nat)(R:Value->af->Prop)(st:LoopState)(jump:Option Code)(F:af):Prop:=
 ∃lo,F.fL l=some (.loop lo)/\R (.bool jump.isNone) (F.put l (.loop {lo with state:=st,pending:=jump}))
def oL (l:Nat)(R:Value->af->Prop):Ex->Act->af->Prop
 | .normal,_,F=>k7 l R .ready none F
 | .exit id,_,F=>k7 l R .done (some (.exit id)) F
 | .ret,_,F=>k7 l R .done (some .ret) F
def oM (J:Goroutine->af->Prop)(l:Nat)(body:Code)(R:Value->af->Prop):Ex->Act->af->Prop
 | .normal,a,F=>∃lo,F.fL l=some (.loop lo)/\lo.state= .ready/\Wp J body (oL l R) a (F.put l (.loop {lo with state:=.busy}))
 |_,_,_=>False
theorem xb {l:Nat}{R:Value->af->Prop}{st:LoopState}{jump:Option Code}(c:st=if jump.isNone then .ready else .done)(h:k7 l R st jump F):bu P (Instr.endRound l jump) R F:=by
 obtain ⟨lo,a,b⟩:=h;simp only[Instr.endRound,Instr.getLoop,bH,oD];refine ⟨_,a,?_⟩;simp only[bT,bH,mV,a,Option.isSome_some,Obj.isChan,true_and];rw[c] at b;exact b
theorem xd (hJ:Closed P main J){l:Nat}{b:Frame}{a:Act}{todo:List Item}{jump:Option Code}{c:Frame}{cs:List Frame}(f:b.kind= .normal)
  (hs:∀w,stepG P main (G (on b a todo) (c::cs)) w=GStep.after (seen P b.fn ((Instr.endRound l jump).runT P w #[]).2) (match ((Instr.endRound l jump).runT P w #[]).1 with
    | .ok v w=>doReturn P main (on b a todo) (c::cs) none v w
    | .halt _ w=>.ended (.stuck "range over a function: no such loop" ((on b a todo).pos P)) w))
  (h:bu P (Instr.endRound l jump) (fun v F'=>J (G (c.finish v) cs) F') F):J (G (on b a todo) (c::cs)) F:=by
 refine hJ.step fun w hw=>?_
 obtain ⟨v,w',F',es,H⟩:=lV _ F w #[] h hw
 have d:=H.run
 rw[Array.empty_append] at d
 refine ⟨G (c.finish v) cs,w',seen P b.fn es,F',?_,H.upd,H.has,fun e he=>H.iW e (mem_seen he),H.post⟩
 rw[hs w,d]
 have g:(on b a todo).kind= .normal:=f
 simp only[doReturn,g,GStep.after,G]
 simp
theorem j0.of_wp (hJ:Closed P main J){l:Nat}{f:FuncId}{tmps:Array Value}{assign body:Code}{R:Value->af->Prop}(hd:gm assign=true)(q:gm body=true)
  (h:Wp J assign (oM J l body R) {tmps:=tmps,defers:=[]} F):j0 J l f tmps assign body F R:=by
 intro c cs j
 let b:Frame:={(default:Frame) with fn:=f,kind:=.normal,roundOf:=some l}
 have he:Frame.round l f tmps assign body .normal=on b {tmps:=tmps,defers:=[]} (.code assign::[.beginRound,.code body]):=rfl
 rw[he]
 refine h b [.beginRound,.code body] (c::cs) ⟨by simp[b],.inr hd⟩ fun e m F' d=>?_
 cases e with
 |exit i=>exact d.elim
 |ret=>exact d.elim
 |normal=>
  obtain ⟨lo,a,g,r⟩:=d
  show J (G (on b m [.beginRound,.code body]) (c::cs)) F'
  have s:bu P (do Instr.beginRound l;pure Next.skip:Sem Next) (fun n k=>n= .skip/\k=F'.put l (.loop {lo with state:=.busy})) F':=by
   simp only[Instr.beginRound,Instr.getLoop,bH,oD]
   refine ⟨_,a,?_⟩
   simp only[bT,bH,mV,a,Option.isSome_some,Obj.isChan,true_and,g]
   all_goals first|trivial|exact ⟨rfl,rfl⟩
  refine hJ.step fun w hw=>?_
  obtain ⟨n,w',k,es,H⟩:=lV _ F' w #[] s hw
  have o:=H.run
  rw[Array.empty_append] at o
  obtain ⟨rfl,rfl⟩:=H.post
  refine ⟨G (on b m [.code body]) (c::cs),w',seen P b.fn es,_,?_,H.upd,H.has,fun e he=>H.iW e (mem_seen he),?_⟩
  .have t:b.roundOf=some l:=rfl
   simp only[G,stepG,stepG.exec,on,t,Option.elim,stepG.apply,if_true]
   have u:(b.kind==CallKind.early)=false:=rfl
   simp only[o,u,Bool.false_eq_true,if_false,GStep.after]
   simp[Frame.finish,undef]
  .refine r b [] (c::cs) ⟨by simp[b],.inr q⟩ fun e a2 k d=>?_
   cases e with
   |normal=>
    refine xd hJ (l:=l) (jump:=none) rfl (fun w=>?_) (xb rfl (R:=fun v F'=>J (G (c.finish v) cs) F') ?_)
    .simp only[G,stepG,stepG.exec,on]
     rfl
    .obtain ⟨lo,a,g⟩:=d
     exact ⟨lo,a,j _ _ g⟩
   |exit i=>
    intro p x
    refine xd hJ (l:=l) (jump:=some (.exit i)) rfl (fun w=>?_) (xb rfl (R:=fun v F'=>J (G (c.finish v) cs) F') ?_)
    .have y:exitTo i p=none:=x
     simp only[G,stepG,stepG.exec,on,y,Option.elim]
     rfl
    .obtain ⟨lo,a,g⟩:=d
     exact ⟨lo,a,j _ _ g⟩
   |ret=>
    intro p
    refine xd hJ (l:=l) (jump:=some .ret) rfl (fun w=>?_) (xb rfl (R:=fun v F'=>J (G (c.finish v) cs) F') ?_)
    .simp only[G,stepG,stepG.exec,on]
     rfl
    .obtain ⟨lo,a,g⟩:=d
     exact ⟨lo,a,j _ _ g⟩
def tE (Q:Ex->Act->af->Prop)(a:Act)(F:af):Option Code->Prop
 |none=>Q .normal a F
 |some (.exit id)=>Q (.exit id) a F
 |some .ret=>Q .ret a F
 |_=>False
def oN (b:FuncId)(a:Act)(params:Array Tmp)(assign body:Code)(d:Nat):Loop:={state:=.ready,pending:=none,fn:=b,tmps:=a.tmps,params:=params,assign:=assign,body:=body,defers:=d}
theorem GK (hJ:Closed P main J){x:Operand}{params:Array Tmp}{assign body:Code}{Q:Ex->Act->af->Prop}{fn:FuncId}{first captured:Array Value}
  (E:ev a x= .func (.func fn) first captured) (I:aR P fn=true)
  (L:∀M d l,eB F d->eB (F.push d (.deferred (some []))) l->
   dn P J fn (first++#[.func (.yield l) #[] #[]]++captured) ((F.push d (.deferred (some []))).push l (.loop (oN M a params assign body d)))
    (fun _ F'=>∃lo,F'.fL l=some (.loop lo)/\lo.state≠ .busy/\tE Q {a with defers:=⟨.collected d,#[]⟩::a.defers} (F'.put l (.loop {lo with state:=.exhausted})) lo.pending)):
  Wp J (.rangeFunc x params assign body) Q a F:=by
 intro b k cs hb p
 have t:b.roundOf=none:=hb.round.elim id fun h=>by simp[gm] at h
 obtain ⟨u,N,O,R,S,q,a4⟩:=b
 simp only at t
 subst t
 let b:Frame:=⟨u,N,O,R,S,q,none⟩
 have T:a.eval x= .func (.func fn) first captured:=E
 have i:=I
 unfold aR at i
 split at i
 case h_2=>cases i
 rename_i a5 U
 simp only[Bool.not_eq_true',Bool.or_eq_false_iff] at i
 let K:Nat×List Deferred->af->Prop:=fun r F'=>∃d l,r=(l,[⟨.collected d,#[]⟩])/\eB F d/\eB (F.push d (.deferred (some []))) l/\F'=(F.push d (.deferred (some []))).push l (.loop (oN b.fn a params assign body d))
 have V:bu P (Instr.enterLoop b.fn a.tmps params assign body none) K F:=by
  simp only[Instr.enterLoop,bH,qu,bT]
  exact ⟨rfl,fun d hd=>⟨rfl,fun l s=>⟨d,l,rfl,hd,s,rfl⟩⟩⟩
 refine hJ.step fun w hw=>?_
 obtain ⟨r,w1,a6,z,H1⟩:=lV _ F w #[] V hw
 have A:=H1.run
 rw[Array.empty_append] at A
 obtain ⟨d,l,rfl,hd,s,rfl⟩:=H1.post
 let fr':Frame:={on b a (.inRangeFunc l::k) with defers:=[⟨.collected d,#[]⟩]++a.defers}
 have W:fr'=on b {a with defers:=⟨.collected d,#[]⟩::a.defers} (.inRangeFunc l::k):=rfl
 have X:fr'.eval x= .func (.func fn) first captured:=by rw[W,vR];exact T
 have Y:bu P (do let m<-resolve fr'.eval {callee:=.value x,args:=#[.const (.func (.yield l) #[] #[])],argTypes:=#[]} 0;invoke m.target m.args:Sem Next)
   (fun n o=>n= .enter fn (first++#[.func (.yield l) #[] #[]]++captured)/\o=(F.push d (.deferred (some []))).push l (.loop (oN b.fn a params assign body d))) ((F.push d (.deferred (some []))).push l (.loop (oN b.fn a params assign body d))):=by
  have Z:fr'.eval (.const (.func (.yield l) #[] #[]))= .func (.yield l) #[] #[]:=rfl
  simp only[resolve,X,Deferred.ofValue,bH,bT,invoke,callFunc,kR,U,i.1,i.2,Bool.false_eq_true,if_false,List.map_toArray,List.map_cons,List.map_nil,Z]
  simp
 obtain ⟨n,w2,o,ab,g⟩:=lV _ _ w1 #[] Y H1.has
 have B:=g.run
 rw[Array.empty_append] at B
 obtain ⟨rfl,rfl⟩:=g.post
 refine ⟨G (Frame.enter P fn (first++#[.func (.yield l) #[] #[]]++captured) .normal) (fr'::cs),w2,seen P b.fn z++seen P b.fn ab,_,?_,H1.upd.trans g.upd,g.has,fun e he=>?_,?_⟩
 .have ad:(q==CallKind.early)=false:=by have:=hb.kind;cases q<;>simp_all
  have hs:∀e:Array Event,stepG P main (G (on b a (.code (.rangeFunc x params assign body)::k)) cs) w=GStep.after (seen P u z) (stepG.apply P true fr' cs none (do let m<-resolve fr'.eval {callee:=.value x,args:=#[.const (.func (.yield l) #[] #[])],argTypes:=#[]} 0;invoke m.target m.args) w1):=fun _=>by
   simp only[G,stepG,stepG.exec,on,b]
   rw[A]
   rfl
  show stepG P main (G (on b a (.code (.rangeFunc x params assign body)::k)) cs) w=_
  rw[hs #[]]
  unfold stepG.apply
  simp only[if_true,B]
  have ae:(fr'.kind==CallKind.early)=false:=ad
  simp only[ae,Bool.false_eq_true,if_false,GStep.after]
  rfl
 .rcases Array.mem_append.1 he with h|h
  .refine (H1.iW e (mem_seen h)).mono (fun _ x=>x) fun b hb=>hb.imp id fun y=>⟨y.1,Nat.lt_of_lt_of_le y.2 g.upd.size⟩
  .refine (g.iW e (mem_seen h)).mono (fun a al=>al) fun b hb=>?_
   rcases hb with hb|hb
   .rcases H1.upd.own b hb with x|x
    .exact .inl x
    .exact .inr ⟨x,Nat.lt_of_lt_of_le (H1.has.lt hb) g.upd.size⟩
   .exact .inr ⟨Nat.le_trans H1.upd.size hb.1,hb.2⟩
 .refine L b.fn d l hd s fr' cs fun v F' ao=>?_
  obtain ⟨lo,C,ar,f⟩:=ao
  have a0:fr'.finish v=on b {a with defers:=⟨.collected d,#[]⟩::a.defers} (.endRangeFunc l::k):=rfl
  rw[a0]
  have a2:bu P (Instr.endLoop l) (fun j o=>j=lo.pending/\o=F'.put l (.loop {lo with state:=.exhausted})) F':=by
   simp only[Instr.endLoop,Instr.getLoop,bH,oD]
   refine ⟨_,C,?_⟩
   have a3:¬(lo.state== .busy)=true:=by simpa using ar
   simp only[bT,bH,mV,C,Option.isSome_some,Obj.isChan,true_and,dO,a3]
   all_goals first|trivial|exact ⟨rfl,rfl⟩
  refine hJ.step fun w hw=>?_
  obtain ⟨j,w',a7,es,H⟩:=lV _ F' w #[] a2 hw
  have D:=H.run
  rw[Array.empty_append] at D
  obtain ⟨rfl,rfl⟩:=H.post
  refine ⟨G (on b {a with defers:=⟨.collected d,#[]⟩::a.defers} ((lo.pending.map Item.code).toList++k)) cs,w',seen P b.fn es,_,?_,H.upd,H.has,fun e he=>H.iW e (mem_seen he),?_⟩
  .simp only[G,stepG,stepG.exec,on,D,GStep.after]
   simp
  .revert f
   cases lo.pending with
   |none=>exact fun f=>p .normal _ _ f
   |some c=>
    intro f
    cases c<;>simp only[tE] at f<;>first
     |exact f.elim
     |exact p (.exit _) _ _ f k rfl
     |exact p .ret _ _ f k
end
def fN {H σ:Type}(step:σ->H->Option (Bool×σ)):List (Option H)->σ->Option (Bool×σ)
 |[],s=>some (true,s)
 |none::_,_=>none
 |some x::l,s=>match step s x with
  |some (true,s')=>fN step l s'
  |some (false,s')=>some (false,s')
  |none=>none
theorem BM {H σ:Type}(step:σ->H->Option (Bool×σ)):∀(l l':List (Option H)) (s:σ),fN step (l++l') s=match fN step l s with
  |some (true,s')=>fN step l' s'
  |some (false,s')=>some (false,s')
  |none=>none
 |[],l',s=>rfl
 |none::l,l',s=>rfl
 |some x::l,l',s=>by
  simp only[List.cons_append,fN]
  split<;>first|rfl|exact BM step l l' _
def ie {H σ ρ:Type}(f:H->σ->Option (Fl σ ρ)):List (Option H)->σ->Option (Fl σ ρ)
 |[],s=>some (.nx s)
 |none::_,_=>none
 |some x::l,s=>ai (f x s) fun o=>match o with
  | .nx s'=>ie f l s'
  | .bk s'=>some (.nx s')
  | .br k s'=>some (.br k s')
  | .rt _=>none
def xe {H σ:Type}(P:Program)(y:Value)(enc:H->Value)(step:σ->H->Option (Bool×σ))(ro:Addr->Option Value)(I:σ->List (Nat×Obj)->Prop):Prop:=
 ∀s x b s',step s x=some (b,s')->∀(main:Bool) (J:Goroutine->af->Prop),Closed P main J->∀own,I s own->
  hO P J y #[enc x] ⟨ro,own⟩ (fun v F'=>∃a,Le ⟨ro,a⟩ F'/\v= .bool b/\I s' a)
def ni {H:Type}(P:Program)(f:FuncId)(first cap:Array Value)(enc:H->Value)(L:List (Option H))(ro:Addr->Option Value):Prop:=
 aR P f=true/\∀(aW:Addr->Option Value),Ext ro aW->∀(σ:Type) (step:σ->H->Option (Bool×σ)) (I:σ->List (Nat×Obj)->Prop) (a:Fn) (c d:Array Value),xe P (.func a c d) enc step aW I->
  ∀s b s',fN step L s=some (b,s')->∀(main:Bool) (J:Goroutine->af->Prop),Closed P main J->∀own,I s own->
   dn P J f (first++#[.func a c d]++cap) ⟨aW,own⟩ (fun _ F'=>∃e,Le ⟨aW,e⟩ F'/\I s' e)
theorem ni.mono {H:Type}{P:Program}{f:FuncId}{first cap:Array Value}{enc:H->Value}{L:List (Option H)}{ro a:Addr->Option Value}(h:ni P f first cap enc L ro)(b:Ext ro a):ni P f first cap enc L a:=
 ⟨h.1,fun aW c=>h.2 aW (b.trans c)⟩
def qU:Nat:=1000000000
def nj (k:Nat):Code:=if k=qU then .ret else .exit k
def tF (Q:Ex->Act->af->Prop)(k:Nat):Act->af->Prop:=if k=qU then Q .ret else Q (.exit k)
def BN {σ ρ:Type}(b:Nat)(ro:Addr->Option Value)(l d:Nat)(S:σ->List (Nat×Obj)->Prop)(lo:Loop)(fl:Fl σ ρ)(v:Value)(F:af):Prop:=
 ∃a,Le ⟨ro,(l,.loop {lo with state:=(match fl with| .nx _=>.ready|_=>.done),pending:=(match fl with| .nx _=>none| .bk _=>some (nj b)| .br k _=>some (nj k)| .rt _=>none)})::(d,.deferred (some []))::a⟩ F/\
  match fl with
  | .nx s'=>v= .bool true/\S s' a
  | .bk s'=>v= .bool false/\S s' a
  | .br _ s'=>v= .bool false/\S s' a
  | .rt _=>False
section
variable {P:Program}{main:Bool}{J:Goroutine->af->Prop}{a:Act}
theorem BO {H σ ρ:Type}{f:H->σ->Option (Fl σ ρ)}(a:Nat):∀(L:List (Option H)) (s:σ) (o:Fl σ ρ),ie f L s=some o->
  ∃b s' pend,fN (σ:=σ×Option Nat) (fun st x=>match st with
   |(s,none)=>match f x s with
    |some (.nx s')=>some (true,(s',none))
    |some (.bk s')=>some (false,(s',some a))
    |some (.br k s')=>some (false,(s',some k))
    |_=>none
   |_=>none) L (s,none)=some (b,(s',pend))/\((o= .nx s'/\(pend=none\/pend=some a))\/∃k,o= .br k s'/\pend=some k)
 |[],s,o,h=>by
  cases h
  exact ⟨true,s,none,rfl,.inl ⟨rfl,.inl rfl⟩⟩
 |none::L,s,o,h=>by cases h
 |some x::L,s,o,h=>by
  unfold ie at h
  obtain ⟨fl,d,c⟩:=gy h
  cases fl with
  |nx s'=>
   obtain ⟨b,s2,pend,e,g⟩:=BO a L s' o c
   refine ⟨b,s2,pend,?_,g⟩
   unfold fN
   simp only[d]
   exact e
  |bk s'=>
   cases c
   refine ⟨false,s',some a,?_,.inl ⟨rfl,.inr rfl⟩⟩
   unfold fN
   simp only[d]
  |br k s'=>
   cases c
   refine ⟨false,s',some k,?_,.inr ⟨k,rfl,rfl⟩⟩
   unfold fN
   simp only[d]
  |rt r=>cases c
theorem BP {ro:Addr->Option Value}{l:Nat}{o:Obj}{own:List (Nat×Obj)}(a:Obj.qp o=false)(b:o.isChan=false):af.fL ⟨ro,(l,o)::own⟩ l=some o:=by
 simp[af.fL,lk,a,b]
def qV (a:Act)(d:Nat):Act:={a with defers:=⟨.collected d,#[]⟩::a.defers}
theorem GL (a:Act)(d i:Nat):slot (qV a d) i=slot a i:=rfl
theorem GM (a:Act)(d:Nat):sz (qV a d)=sz a:=rfl
theorem GN (a:Act)(d:Nat):(qV a d).defers=⟨.collected d,#[]⟩::a.defers:=rfl
def me (a:Act)(p:Tmp)(v:Value):Act:={tmps:=a.tmps.setIfInBounds p v,defers:=[]}
theorem j8 (a:Act)(p:Tmp)(v:Value)(i:Nat):slot (me a p v) i=slot (bB a (some p) v) i:=rfl
theorem tG (a:Act)(p:Tmp)(v:Value):sz (me a p v)=sz a:=by simp[sz,me]
theorem tH {H σ ρ:Type}(hJ:Closed P main J){x:Operand}{p:Tmp}{assign body:Code}{Q:Ex->Act->af->Prop}{fn:FuncId}{first captured:Array Value}{ro:Addr->Option Value}{own:List (Nat×Obj)}{g:Nat}
  (enc:H->Value) {L:List (Option H)} (T:ev a x= .func (.func fn) first captured) (G:ni P fn first captured enc L ro)
  (U:gm assign=true) (V:gm body=true)
  (S:σ->List (Nat×Obj)->Prop) {f:H->σ->Option (Fl σ ρ)} {u:σ} {o:Fl σ ρ} (W:ie f L u=some o) (X:S u own)
  (Y:∀(d l:Nat) (lo:Loop),lo.state= .ready->∀(s:σ) (y:H) (fl:Fl σ ρ),f y s=some fl->∀(main:Bool) (J:Goroutine->af->Prop),Closed P main J->∀own,S s own->
   Wp J assign (oM J l body (BN g ro l d S lo fl)) (me a p (enc y)) ⟨ro,(l,.loop lo)::(d,.deferred (some []))::own⟩)
  (Z:¬g=qU)
  (ab:∀d l lo j s',S s' j->aZ (keys ((l,.loop lo)::(d,.deferred (some []))::j))->aK ro ((l,.loop lo)::(d,.deferred (some []))::j)->(o= .nx s'->Q .normal (qV a d) ⟨ro,(l,.loop lo)::(d,.deferred (some []))::j⟩)/\
   (∀k,o= .br k s'->tF Q k (qV a d) ⟨ro,(l,.loop lo)::(d,.deferred (some []))::j⟩))
  (ad:∀k s',o= .br k s'->¬k=g):Wp J (.block g (.rangeFunc x #[p] assign body)) Q a ⟨ro,own⟩:=by
 refine aX hJ (Wp.mono (Q:=fun e z F'=>match e with| .exit i=>if i=g then Q .normal z F' else Q (.exit i) z F'|e=>Q e z F') ?_ fun e a F h=>by cases e<;>exact h)
 obtain ⟨b,s',pend,ae,al⟩:=BO g L u o W
 refine GK hJ T G.1 fun A d l hd a9=>?_
 let lo:Loop:=oN A a #[p] assign body d
 let n:Option Nat->Loop:=fun pend=>{lo with state:=(match pend with|none=>.ready|some _=>.done),pending:=pend.map nj}
 let I:σ×Option Nat->List (Nat×Obj)->Prop:=fun st ao=>∃bx,ao=(l,.loop (n st.2))::(d,.deferred (some []))::bx/\S st.1 bx
 have ar:xe P (.func (.yield l) #[] #[]) enc (fun (st:σ×Option Nat) x=>match st with
   |(s,none)=>match f x s with
    |some (.nx s')=>some (true,(s',none))
    |some (.bk s')=>some (false,(s',some g))
    |some (.br k s')=>some (false,(s',some k))
    |_=>none
   |_=>none) ro I:=by
  rintro ⟨s,pend⟩ y ba ⟨s1,bb⟩ m a0 K M a2 ⟨bx,rfl,a3⟩
  cases pend with
  |some k=>cases m
  |none=>
   simp only at m
   refine ⟨rfl,rfl,lo,BP rfl rfl,rfl,?_⟩
   cases B:f y s with
   |none=>rw[B] at m;cases m
   |some fl=>
    have C:=j0.of_wp M (R:=BN g ro l d S lo fl) (f:=A) U V (Y d l lo rfl s y fl B a0 K M bx a3)
    rw[B] at m
    have a4:(lo.params.zip #[enc y]).foldl (fun tmps (t,a)=>tmps.setIfInBounds t a) lo.tmps=a.tmps.setIfInBounds p (enc y):=by simp[lo,oN]
    show j0 K l A ((lo.params.zip #[enc y]).foldl (fun tmps (t,a)=>tmps.setIfInBounds t a) lo.tmps) assign body _ _
    rw[a4]
    refine C.mono fun v F' D=>?_
    obtain ⟨j,hle,hm⟩:=D
    cases fl with
    |nx s2=>
     simp only[Option.some.injEq,Prod.mk.injEq] at m
     obtain ⟨rfl,rfl,rfl⟩:=m
     exact ⟨_,hle,hm.1,j,rfl,hm.2⟩
    |bk s2=>
     simp only[Option.some.injEq,Prod.mk.injEq] at m
     obtain ⟨rfl,rfl,rfl⟩:=m
     exact ⟨_,hle,hm.1,j,rfl,hm.2⟩
    |br k s2=>
     simp only[Option.some.injEq,Prod.mk.injEq] at m
     obtain ⟨rfl,rfl,rfl⟩:=m
     exact ⟨_,hle,hm.1,j,rfl,hm.2⟩
    |rt r=>exact hm.elim
 have hc:=G.2 ro (Ext.refl ro) _ _ I _ _ _ ar (u,none) b (s',pend) ae main J hJ ((l,.loop lo)::(d,.deferred (some []))::own) ⟨own,rfl,X⟩
 intro c cs hK
 refine hc c cs fun v F' D=>?_
 obtain ⟨a2,hle,j,rfl,a5⟩:=D
 by_cases hw:∃w,Has F' w
 case neg=>exact hJ.step fun w a6=>absurd ⟨w,a6⟩ hw
 obtain ⟨w,hw⟩:=hw
 have N:=hle.has w hw
 refine hJ.mono hle (hK v _ ⟨n pend,BP rfl rfl,?_,?_⟩)
 .cases pend<;>simp[n]
 .obtain ⟨O,a7⟩:=ab d l {n pend with state:=.exhausted} j s' a5 ⟨N.nodup⟩ (fun b hb off sp=>by
   cases C:ro ⟨b,off,sp⟩ with
   |none=>rfl
   |some v=>exact absurd hb (N.apart _ v C))
  have a8:af.put ⟨ro,(l,.loop (n pend))::(d,.deferred (some []))::j⟩ l (.loop {n pend with state:=.exhausted})=⟨ro,(l,.loop {n pend with state:=.exhausted})::(d,.deferred (some []))::j⟩:=by simp[af.put,jw]
  rw[a8]
  rcases al with ⟨rfl,rfl|rfl⟩|⟨k,rfl,rfl⟩
  .exact O rfl
  .show tE _ _ _ (some (nj g))
   have:nj g= .exit g:=if_neg Z
   rw[this]
   show (if g=g then Q .normal _ _ else Q (.exit g) _ _)
   rw[if_pos rfl]
   exact O rfl
  .have q:=a7 k rfl
   show tE _ _ _ (some (nj k))
   unfold tF at q
   unfold nj
   split
   .rename_i E
    rw[if_pos E] at q
    exact q
   .rename_i E
    rw[if_neg E] at q
    show (if k=g then Q .normal _ _ else Q (.exit k) _ _)
    rw[if_neg (ad k s' rfl)]
    exact q
theorem GO {R:List Deferred->af->Prop}{r:Nat}{F:af}:bu P (Instr.takeDeferred r) R F=match F.fL r with
  |some (.deferred (some a))=>R a (F.put r (.deferred none))
  |_=>False:=by
 unfold Instr.takeDeferred
 rw[bH,oD]
 refine propext ⟨fun ⟨o,d,b⟩=>?_,fun h=>?_⟩
 .rw[d]
  cases o<;>first|exact (show False from b).elim|skip
  rename_i a
  cases a with
  |none=>exact (show False from b).elim
  |some a=>
   simp only[bH,mV,bT] at b
   exact b.2.2
 .split at h
  .rename_i a c
   refine ⟨_,c,?_⟩
   simp only[bH,mV,bT]
   exact ⟨rfl,by rw[c];rfl,h⟩
  .exact h.elim
theorem GP (hJ:Closed P main J){y:Value}{args:Array Value}{ro:Addr->Option Value}{own:List (Nat×Obj)}{R:Value->List (Nat×Obj)->Prop}(pre:List (Nat×Obj))
  (h:∀(main:Bool) (J:Goroutine->af->Prop),Closed P main J->hO P J y args ⟨ro,own⟩ (fun v F'=>∃a,Le ⟨ro,a⟩ F'/\R v a)) (p:aZ (keys (pre++own))) {K:Value->af->Prop}
  (s:∀v a,R v a->aZ (keys (pre++a))->K v ⟨ro,pre++a⟩):hO P J y args ⟨ro,pre++own⟩ K:=by
 have key:∀j6:Frame,(∀(main:Bool) (J:Goroutine->af->Prop),Closed P main J->tC J j6 ⟨ro,own⟩ (fun v F'=>∃a,Le ⟨ro,a⟩ F'/\R v a))->tC J j6 ⟨ro,pre++own⟩ K:=fun j6 d=>
  BD hJ pre [] au R (fun m e f c cs hK=>d m e f c cs fun v F' t=>hK v F' (by obtain ⟨o,b,g⟩:=t;exact ⟨o,g,b⟩)) fun v u w a k i=>by
   rw[List.append_nil] at k
   subst k
   exact ⟨_,Le.refl _,s v u w i⟩
 have d:=h main J hJ
 unfold hO at d ⊢
 split at d
 .rename_i fn first captured
  refine ⟨d.1,key _ fun m e f=>?_⟩
  have:=h m e f
  unfold hO at this
  exact this.2
 .rename_i l first captured
  obtain ⟨e1,e2,r,b,g,_⟩:=d
  refine ⟨e1,e2,r,?_,g,key _ fun m e f=>?_⟩
  .have hm:l∈keys own:=by
    unfold af.fL at b
    split at b
    .rename_i o x;exact fD (iz x)
    .cases b
   have i:l∉keys pre:=fun z=>by
    have:=p.nd
    rw[cH] at this
    exact (List.nodup_append.1 this).2.2 l z l hm rfl
   have A:∀(pre:List (Nat×Obj)),l∉keys pre->lk (pre++own) l=lk own l:=fun pre=>by
    induction pre with
    |nil=>intro _;rfl
    |cons q pre ih=>
     intro j
     simp only[keys,List.map_cons,List.mem_cons,not_or] at j
     simp only[List.cons_append,lk,if_neg (Ne.symm j.1)]
     exact ih j.2
   unfold af.fL at b ⊢
   simp only at b ⊢
   rw[A pre i]
   exact b
  .have:=h m e f
   unfold hO at this
   obtain ⟨_,_,C,n,D,B⟩:=this
   rw[b] at n
   cases n
   exact B
 .exact d.elim
theorem dn.less (hJ:Closed P main J){f:FuncId}{args:Array Value}{F:af}{R:Value->af->Prop}(h:dn P J f args F (fun v F'=>∃F0,Le F0 F'/\R v F0)):dn P J f args F R:=
 fun c cs hK=>h c cs fun v F' ⟨F0,hle,a⟩=>hJ.mono hle (hK v F0 a)
def BQ (P:Program)(rs:List ResultVar)(R:Value->af->Prop):Ex->Act->af->Prop
 | .exit _,_,_=>False
 |_,a,F=>iX P a.defers (fun F=>match m8 P F a rs with|some v=>R v F|none=>False) F
theorem BR {K b:af->Prop}(h:∀F,K F->b F):∀(a:List Deferred) (F:af),iX P a K F->iX P a b F
 |[],F,x=>h F x
 |d::a,F,⟨r,e,f⟩=>⟨r,e,iC (fun calls F' c=>⟨c.1,BR h a F' c.2⟩) _ _ f⟩
theorem aD.tJ {f:FuncId}{fn:Func}{c:Code}{n:Nat}{rs:List ResultVar}{args:Array Value}{F:af}{R:Value->af->Prop}(g:P.funcs[f]?=some fn)(hb:fn.body=some c)(j:fn.ntmps=n)(k:fn.results=rs.toArray)(l:args.size<=n)
  (h:∀main J,Closed P main J->∀A:Act,sz A=n->A.defers=[]->(∀i,slot A i=args.getD i undef)->Wp J c (BQ P rs R) A F):aD P f args F R:=
 aD.start g hb j l fun main J hJ A m o p=>(h main J hJ A m o p).mono fun e a F b=>by
  have key:iX P a.defers (fun F=>match m8 P F a rs with|some v=>R v F|none=>False) F->iX P a.defers (fun F=>bu P (results fn a.tmps) R F) F:=BR (fun F d=>by
   split at d
   .rename_i v q;exact s7 k q d
   .exact d.elim) _ _
  cases e with
  |exit i=>exact b
  |normal=>exact key b
  |ret=>exact key b
theorem dn.go (hJ:Closed P main J){f:FuncId}{fn:Func}{c:Code}{n:Nat}{rs:List ResultVar}{args:Array Value}{F:af}{R:Value->af->Prop}(j:P.funcs[f]?=some fn)(hb:fn.body=some c)(d:fn.ntmps=n)(k:fn.results=rs.toArray)(m:args.size<=n)
  (h:∀A:Act,sz A=n->A.defers=[]->(∀i,slot A i=args.getD i undef)->Wp J c (iD P rs R) A F):dn P J f args F R:=by
 refine dn.of_wp hJ j hb ?_
 refine (h _ (by simp[sz,d];omega) rfl fun i=>?_).mono fun e a F g=>?_
 .simp only[slot,d,Array.getD_eq_getD_getElem?]
  rcases Nat.lt_or_ge i args.size with hi|hi
  .rw[Array.getElem?_append_left hi]
  .rw[Array.getElem?_append_right hi,Array.getElem?_replicate,Array.getElem?_eq_none hi]
   split<;>rfl
 .cases e with
  |exit i=>exact g
  |_=>
   obtain ⟨hd,b⟩:=g
   split at b
   .rename_i v l
    show iX P a.defers _ F
    rw[hd]
    exact s7 k l b
   .exact b.elim
theorem GQ {d:Nat}{X:Nat->Prop}:(∃r,Target.collected d=Target.collected r/\X r)=X d:=propext ⟨fun ⟨r,a,b⟩=>by cases a;exact b,fun h=>⟨d,rfl,h⟩⟩
attribute [go_sem] GQ GL GM GN BQ GO af.fL Obj.qp Obj.isChan
end
section
variable {P:Program}
theorem BS {argTypes:Array TypeId}{t e ty:TypeId}{R:Value->af->Prop}{F:af}{ad:Option Addr}{n c:Nat}(ht:argTypes[0]?=some t)(hu:P.underlying t=some (.slice e))(h:R (.int .i64 c) F):e7 P (Builtin.cap_ argTypes ty #[.slice ad n c]) R F:=by
 unfold e7;simp only[Builtin.cap_,ht,List.getElem?_toArray,List.getElem?_cons_zero,bH,dP,hu,bT];exact h
theorem GR (z:Value)(n:Nat):(Builtin.zeroCells #[z] n).toList=List.replicate n z:=by
 simp only[Builtin.zeroCells,List.size_toArray,List.length_cons,List.length_nil,Nat.zero_add,Nat.mul_one,Nat.mod_one];rw[Array.toList_map,Array.toList_range];apply List.ext_getElem
 .simp
 .intro i a b;simp
theorem GU {ro:Addr->Option Value}{pre bC:List (Nat×Obj)}{argTypes:Array TypeId}{t e ty:TypeId}{R:Value->af->Prop}{b off n c:Nat}{arr:Array Value}{z zc:Value}(ht:argTypes[0]?=some t)(hu:P.underlying t=some (.slice e))(a:zeroOf P e=some z)(d:z.cells=#[zc])(f:bP zc=true)
  (l:0<n) (g:av pre b) (i:off+n<=arr.size)
  (h:R (.tuple #[]) ⟨ro,pre++((b,.cells (cZ arr off (List.replicate n zc)) e)::bC)⟩):
  e7 P (Builtin.clear_ argTypes ty #[.slice (some ⟨b,off,none⟩) n c]) R ⟨ro,pre++((b,.cells arr e)::bC)⟩:=by
 unfold e7
 have m:n≠0:=aa
 obtain ⟨k,rfl⟩:∃k,n=k+1:=⟨n - 1,aa⟩
 simp only[Builtin.clear_,ht,List.getElem?_toArray,List.getElem?_cons_zero,bH,dP,hu,mW,a,d]
 refine qw _ _ 0 _ ⟨ro,pre++((b,.cells (cZ arr off (List.replicate (k+1) zc)) e)::bC)⟩ ?_ ?_
 .rw[GR]
  have:=tB (ro:=ro) (bC:=bC) (e:=e) g off (List.replicate (k+1) zc) arr 0 (fun v j=>by rw[List.eq_of_mem_replicate j];exact f) (by simpa using i)
  simpa using this
 .simp only[bT]
  exact h
end
theorem bg.BT {T:Type}{r:cu T}{ro:Addr->Option Value}{e:TypeId}{v:Value}{l:List T}{bx:List (Nat×Obj)}(h:bg r ro e v l bx){own:List (Nat×Obj)}(pre bC:List (Nat×Obj))(f:own=pre++(bx++bC))(g:aZ (keys own)):aH r (af.cN ⟨ro,own⟩).ro v l:=by
 subst f;obtain ⟨ls,hg,c,hm,k⟩:=h;rcases hg with ⟨rfl,rfl,rfl⟩|⟨b,arr,cap,rfl,rfl,hs,hle,ht,d,m⟩
 .have:l=[]:=List.eq_nil_of_length_eq_zero (by simpa using c.symm);subst this;exact aH.nil r _
 .have o:av pre b:=Nd.fresh g.nd b (by simp[keys]);refine ⟨some ⟨b,0,none⟩,cap,by rw[c],aa,aa,fun i x hi=>?_⟩;obtain ⟨cs,p,q⟩:=k i x hi;refine ⟨_,cs,rfl,r.mono bn q,fun j v s=>?_⟩;have a:=qM ls i cs d p j v s;rw[lZ,l5,Nat.zero_add];have t:i*r.n+j<ls.length*r.n:=by
   have:=(List.getElem?_eq_some_iff.1 a).1;rw[iY d] at this;exact this
  rw[<-ht,List.getElem?_take_of_lt t] at a;show af.get ⟨ro,pre++([(b,Obj.cells arr e)]++bC)⟩ ⟨b,i*r.n+j,none⟩=some v;simp only[af.get,m,if_true,List.cons_append,List.nil_append,tA o,Option.bind_some,cellOf];simpa using a
theorem aH.two {T:Type}{r:cu T}{ro:Addr->Option Value}{own:List (Nat×Obj)}{b:Nat}{x y:T}{v u:Value}{e:TypeId}(c:∀off sp,ro ⟨b,off,sp⟩=none)(f:lk own b=some (.cells #[v,u] e))(d:r.n=1)(h:r.rel ro x [v])(k:r.rel ro y [u]):
  aH r (b7 ro b (.cells #[v,u] e)) (.slice (some ⟨b,0,none⟩) 2 2) [x,y]:=by
 refine ⟨some ⟨b,0,none⟩,2,rfl,Nat.le_refl _,au,fun i z hi=>?_⟩
 have:(i=0/\z=x)\/(i=1/\z=y):=by
  cases i with
  |zero=>simp at hi;exact .inl ⟨rfl,hi.symm⟩
  |succ i=>cases i with
   |zero=>simp at hi;exact .inr ⟨rfl,hi.symm⟩
   |succ i=>simp at hi
 rcases this with ⟨rfl,rfl⟩|⟨rfl,rfl⟩
 .refine ⟨_,_,rfl,r.mono (gO _ _ _) h,fun j w a=>?_⟩
  cases j with
  |zero=>
   rw[Nat.zero_mul,add_zero',l5,Nat.zero_add,fF c]
   simpa [cellOf] using a
  |succ j=>simp at a
 .refine ⟨_,_,rfl,r.mono (gO _ _ _) k,fun j w a=>?_⟩
  cases j with
  |zero=>
   rw[d,lZ,l5,fF c]
   simpa [cellOf] using a
  |succ j=>simp at a
theorem bg.clear {ro:Addr->Option Value}{e:TypeId}{b n cap k:Nat}{x:List Int}{arr:Array Value}(h:bg rI ro e (.slice (some ⟨b,0,none⟩) n cap) x [(b,.cells arr e)])(t:k<=x.length):
  bg rI ro e (.slice (some ⟨b,0,none⟩) k cap) (x.take k) [(b,.cells (cZ arr k (List.replicate (n - k) (.int .i64 0))) e)]:=by
 obtain ⟨ls,hg,u,hm,l⟩:=h
 rcases hg with ⟨a,_,_⟩|⟨w,y,m,a,o,hs,hle,ht,f,p⟩
 .cases a
 .cases o
  obtain ⟨rfl,rfl⟩:n=ls.length/\cap=m:=by cases a;exact ⟨rfl,rfl⟩
  have d:rI.n=1:=rfl
  rw[d] at hs ht f
  simp only[Nat.mul_one] at hs ht
  have c:(ls.take k).length=k:=by rw[List.length_take];omega
  refine ⟨ls.take k,.inr ⟨b,_,cap,by rw[c],rfl,by rw[s0];rw[d,Nat.mul_one];exact hs,by rw[c];omega,?_,?_,p⟩,by rw[c,List.length_take];omega,by rw[List.length_take];omega,?_⟩
  .rw[s3 _ _ _ (by simp;omega),c,d,Nat.mul_one,List.append_assoc,List.take_append_of_le_length (by rw[List.length_take,Array.length_toList];omega),List.take_take,Nat.min_self]
   have e1:arr.toList.take k=(arr.toList.take ls.length).take k:=by rw[List.take_take,Nat.min_eq_left aa]
   rw[e1,ht]
   have e2:ls.flatten=(ls.take k).flatten++(ls.drop k).flatten:=by rw[<-List.flatten_append,List.take_append_drop]
   have j:(ls.take k).flatten.length=k:=by rw[iY (size:=1) (fun z g=>f z (List.mem_of_mem_take g)),c,Nat.mul_one]
   rw[e2,List.take_append_of_le_length (Nat.le_of_eq j.symm),List.take_of_length_le (Nat.le_of_eq j)]
  .intro z g
   rw[d];exact f z (List.mem_of_mem_take g)
  .intro i v a
   obtain ⟨hi,q⟩:i<k/\x[i]?=some v:=by
    rw[List.getElem?_take] at a
    split at a
    .exact ⟨‹_›,a⟩
    .cases a
   obtain ⟨cs,r,s⟩:=l i v q
   exact ⟨cs,by rw[List.getElem?_take,if_pos hi];exact r,s⟩
section
variable {P:Program}
theorem GV {t:TypeId}{R:Value->af->Prop}{F:af}(h:∀b,eB F b->R (.map (some b)) (F.push b (.map #[] 0))):e7 P (Instr.makeMap t none) R F:=by
 unfold e7;simp only[Instr.makeMap,bH,qu,bT];exact ⟨rfl,h⟩
theorem GW {argTypes:Array TypeId}{t a b ty:TypeId}{r:Nat}{es:Array MapEntry}{clock:Nat}{R:Value->af->Prop}{F:af}(ht:argTypes[0]?=some t)(hu:P.underlying t=some (.map a b))(c:F.fL r=some (.map es clock))(h:R (.int .i64 (es.size:Int)) F):
  e7 P (Builtin.len_ argTypes ty #[.map (some r)]) R F:=by
 unfold e7
 simp only[Builtin.len_,ht,List.getElem?_toArray,List.getElem?_cons_zero,bH,dP,hu,oD]
 exact ⟨_,c,h⟩
theorem BU {d:TypeId}{key:Value}{F:af}{Q:Option (Nat×Value)->af->Prop}:∀(l:List MapEntry) (i:Nat),
  (∀e∈l,∃b,(∀(Q:Bool->af->Prop),Q b F->bu P (Op.equal d key e.key) Q F)/\(b=true↔e.key=key))->
  (∀j e,l[j]?=some e->e.key=key->Q (some (i+j,e.val)) F)->((∀e∈l,¬e.key=key)->Q none F)->bu P (Instr.findAsking d key l i) Q F
 |[],i,_,_,a=>a au
 |e::l,i,f,g,a=>by
  obtain ⟨b,hb,h⟩:=f e au
  simp only[Instr.findAsking,bH]
  refine hb _ ?_
  cases b with
  |true=>exact g 0 e rfl (h.1 rfl)
  |false=>
   have aL:¬e.key=key:=fun x=>by have:=h.2 x;cases this
   refine BU l (i+1) (fun x c=>f x (by simp[c])) (fun j x c he=>?_) (fun k=>a (by simpa [aL] using k))
   have:=g (j+1) x (by simpa using c) he
   rwa [show i+1+j=i+(j+1) by omega]
theorem modify_keys {es:Array MapEntry}{i:Nat}{key val:Value}{e:MapEntry}(hi:es[i]?=some e)(he:e.key=key):(es.modify i fun e=>{e with key:=key,val:=val}).toList.map (·.key)=es.toList.map (·.key):=by
 apply List.ext_getElem?;intro j;simp only[List.getElem?_map,Array.toList_modify,List.getElem?_modify];by_cases a:i=j
 .subst a;have:es.toList[i]?=some e:=by simpa using hi
  simp[this,he]
 .simp[a]
theorem GX {t c q f n:TypeId}{r:Nat}{es:Array MapEntry}{clock:Nat}{key val:Value}{R:Value->af->Prop}{F:af}(hu:P.underlying t=some (.map c q))(g:F.fL r=some (.map es clock))
  (s:∀Q:Unit->af->Prop,Q () F->bu P (Instr.checkKey false 10000 c key) Q F) (u:P.underlying c=some (.array n f))
  (v:∀e∈es.toList,∃b,(∀(Q:Bool->af->Prop),Q b F->bu P (Op.equal c key e.key) Q F)/\(b=true↔e.key=key))
  (h:∀d w,((key∈es.toList.map (·.key)/\d.toList.map (·.key)=es.toList.map (·.key))\/(key∉es.toList.map (·.key)/\d.toList.map (·.key)=es.toList.map (·.key)++[key]))->R undef (F.put r (.map d w))):
  e7 P (Instr.mapUpdate t (.map (some r)) key val>>= fun _=>pure undef) R F:=by
 unfold e7
 simp only[Instr.mapUpdate,bH,dP,hu,oD]
 refine ⟨_,g,?_⟩
 simp only[bH]
 refine s _ ?_
 have k:(F.fL r).isSome=true:=by rw[g];rfl
 have step:bu P (Instr.findAsking c key es.toList) (fun a G=>bu P (match a with
   |some (i,_)=>do
    let key<-Instr.keyThatStays (((es[i]?).map (·.key)).getD key) key
    setObj r (.map (es.modify i fun e=>{e with key,val}) clock)
   |none=>setObj r (.map (es.push {key,val,born:=clock}) (clock+1))) (fun _ G=>bu P (pure undef) R G) G) F:=by
  refine BU _ 0 v (fun j e m he=>?_) (fun x=>?_)
  .simp only[Nat.zero_add,bH]
   have o:es[j]?=some e:=by simpa using m
   rw[o]
   simp only[Option.map_some,Option.getD_some,he]
   have fin:bu P (setObj r (.map (es.modify j fun e=>{e with key:=key,val:=val}) clock)) (fun _ G=>bu P (pure undef) R G) F:=by
    simp only[mV,bT]
    refine ⟨rfl,k,h _ _ (.inl ⟨?_,modify_keys o he⟩)⟩
    rw[<-he]
    exact List.mem_map_of_mem (List.mem_of_getElem? m)
   unfold Instr.keyThatStays
   rw[dO]
   split
   .exact fin
   .simp only[bH,v9]
    split
    .simp only[bT,ite_self];exact fin
    .intro t;simp only[bT,ite_self];exact fin
  .simp only[mV,bT]
   refine ⟨rfl,k,h _ _ (.inr ⟨?_,au⟩)⟩
   intro hm
   obtain ⟨e,he,y⟩:=List.mem_map.1 hm
   exact x e he y
 unfold Instr.findKey
 simp only[bH,dP,u]
 cases p:es.toList with
 |nil=>
  rw[p] at step
  exact step
 |cons e l=>
  have:Instr.findNow (.array n f) key (e::l) 0=none:=rfl
  rw[this]
  rw[p] at step
  exact step
end
theorem bS {α β:Type}{x:Option α}{f:α->Option β}{r:β}{G:Prop}(k:∀a,x=some a->f a=some r->G)(h:ai x f=some r):G:=by
 obtain ⟨a,b,c⟩:=gy h;exact k a b c
def bG:Code->Code
 | .seq _ b=>b
 |c=>c
theorem sI {α:Type}{x r:α}(h:some x=some r):x=r:=Option.some.inj h
theorem aA {ro:Addr->Option Value}{own:List (Nat×Obj)}{G:Nat->Prop}(h:∀b,(∀off sp,ro ⟨b,off,sp⟩=none)->av own b->G b):∀b,eB ⟨ro,own⟩ b->G b:=fun b f=>h b (e8 f) (gr f)
theorem bF:(∀(ro:Addr->Option Value) (b:Nat) (o:Obj) (l:List (Nat×Obj)),aK ro ((b,o)::l)=((∀off sp,ro ⟨b,off,sp⟩=none)/\aK ro l))/\(∀l:List (Nat×Obj),[]++l=l)/\(∀l:List (Nat×Obj),l++[]=l)/\
  (∀(x:Nat×Obj) (l m:List (Nat×Obj)),x::l++m=x::(l++m))/\∀l m n:List (Nat×Obj),l++m++n=l++(m++n):=
 ⟨fun _ _ _ _=>propext ⟨fun h=>⟨h.hd,h.tl⟩,fun h=>aK.cons h.1 h.2⟩,fun _=>rfl,List.append_nil,fun _ _ _=>rfl,List.append_assoc⟩
theorem aH.el {T:Type}{r:cu T}{ro:Addr->Option Value}{ad:Option Addr}{n cap:Nat}{l:List T}(h:aH r ro (.slice ad n cap) l):
  ∀i x,l[i]?=some x->∃p cs,ad=some p/\r.rel ro x cs/\∀j v,cs[j]?=some v->ro ((p.add (i*r.n)).add j)=some v:=by
 obtain ⟨a,b,e,_,_,h⟩:=h
 cases e
 exact h
theorem aZ.tl {b:Nat}{ks:List Nat}(h:aZ (b::ks)):aZ ks:=⟨(List.nodup_cons.1 h.nd).2⟩
theorem aZ.cut {l:List (Nat×Obj)}(h:aZ (keys l))(i n:Nat):aZ (keys (l.take i++l.drop (i+n))):=
 ⟨(((List.Sublist.append_left (show (l.drop (i+n)).Sublist (l.drop i) by rw[<-List.drop_drop];exact List.drop_sublist _ _) (l.take i)).trans (by rw[List.take_append_drop];exact List.Sublist.refl _)).map _).nodup h.nd⟩
theorem bg.fj {T:Type}{r:cu T}{ro:Addr->Option Value}{e:TypeId}{v:Value}{l:List T}{bx:List (Nat×Obj)}(h:bg r ro e v l bx){own:List (Nat×Obj)}(pre bC:List (Nat×Obj))(a:aZ (keys own))(b:aK ro (pre++bC))
  (c:own=pre++(bx++bC):=by first|rfl|simp only[bw]|(simp only[bw];rfl)):
  ∃aW,Ext ro aW/\aK aW (pre++bC)/\aH r aW v l/\Le ⟨aW,pre++bC⟩ ⟨ro,own⟩:=h.mc _ pre bC c rfl a b
theorem aH.oc {T:Type}{r:cu T}{ro:Addr->Option Value}{s:Value}{l:List T}(h:aH r ro s l):bP s=true:=by
 obtain ⟨_,_,e,_⟩:=h;rw[e];rfl
theorem GY {p:Nat->Prop}{a:Nat}{l:List Nat}:(∀i,i∈a::l->p i)=(p a/\∀i,i∈l->p i):=propext List.forall_mem_cons
theorem GZ {p:Nat->Prop}:(∀i,i∈([]:List Nat)->p i)=True:=propext ⟨fun _=>trivial,fun _ _ h=>(by cases h)⟩
section
variable {P:Program}{main:Bool}{J:Goroutine->af->Prop}{Q:Ex->Act->af->Prop}{a:Act}{F:af}
theorem cw (hJ:Closed P main J){f:FuncId}{args:Array Value}{ro:Addr->Option Value}{own:List (Nat×Obj)}{K:Value->af->Prop}(R:Value->(Addr->Option Value)->Prop)(h:e4 P f args ro R)
  (a:∀v aW,Ext ro aW->aK aW own->R v aW->K v ⟨aW,own⟩):dn P J f args ⟨ro,own⟩ K:=wP hJ R h a
theorem tK {Φ:Goroutine->af->Prop}{f:FuncId}{args:Array Value}{ro:Addr->Option Value}{own:List (Nat×Obj)}{K:Value->af->Prop}(R:Value->(Addr->Option Value)->Prop)(h:qP P f args ro R)
  (a:∀v aW,Ext ro aW->aK aW own->R v aW->K v ⟨aW,own⟩):dn P (en P Φ) f args ⟨ro,own⟩ K:=F2 R h a
theorem cS {α:Type}{b:Bool}{e1 e2:Option α}{r:α}{G:Prop}(c:b=true->e1=some r->G)(d:b=false->e2=some r->G)(h:cond b e1 e2=some r):G:=by
 rcases jE h with ⟨a,b⟩|⟨a,b⟩
 .exact c a b
 .exact d a b
theorem jC {α:Type}(hJ:Closed P main J){c:Operand}{x y:Code}{b:Bool}{e1 e2:Option α}{r:α}(hc:ev a c= .bool b)(d:b=true->e1=some r->Wp J x Q a F)(f:b=false->e2=some r->Wp J y Q a F)(h:cond b e1 e2=some r):Wp J (.cond c x y) Q a F:=by
 refine FO hJ b hc (fun e=>d e ?_) fun e=>f e ?_
 .rw[e] at h;exact h
 .rw[e] at h;exact h
theorem cB (hJ:Closed P main J){c:Operand}{x y:Code}(h:Wp J x Q a F)(hc:ev a c= .bool true:=by simp (maxSteps:=9^9) only[*,go_sem]):Wp J (.cond c x y) Q a F:=eC hJ hc h
theorem cx (hJ:Closed P main J){c:Operand}{x y:Code}(h:Wp J y Q a F)(hc:ev a c= .bool false:=by simp (maxSteps:=9^9) only[*,go_sem]):Wp J (.cond c x y) Q a F:=eu hJ hc h
theorem bh {α:Type}(hJ:Closed P main J){c:Operand}{x y:Code}{b:Bool}{e1 e2:Option α}{r:α}(d:b=true->e1=some r->Wp J x Q a F)(e:b=false->e2=some r->Wp J y Q a F)(hc:ev a c= .bool b:=by simp (maxSteps:=9^9) only[*,go_sem]):cond b e1 e2=some r->Wp J (.cond c x y) Q a F:=jC hJ hc d e
structure xg (Q:Ex->Act->af->Prop)(K:Act->af->Prop):Prop where
 go:∀{a F},Q .normal a F->K a F
theorem dh (hJ:Closed P main J)(b:P.follows .mixedOrders=true)(m n:Nat){id:Nat}{ops:Array Oper}(c:Knows ⟨F.ro,F.own.take n⟩ F)(d:oI ops m=true)
  (h:eI P J ops ⟨F.ro,F.own.take n⟩ (fun e=>e9 P J ops ⟨F.ro,F.own.take n⟩ (Q .normal) (ops.toList.drop m) true e F) (ops.toList.take m) true a):Wp J (.region id ops true) Q a F:=eJ hJ b m _ c d h
theorem qW (hJ:Closed P main J)(b:P.follows .mixedOrders=true)(m n:Nat){id:Nat}{ops:Array Oper}(c:Knows ⟨F.ro,F.own.take n⟩ F)(d:oI ops m=true)
  (h:∀K,xg Q K->eI P J ops ⟨F.ro,F.own.take n⟩ (fun e=>e9 P J ops ⟨F.ro,F.own.take n⟩ K (ops.toList.drop m) true e F) (ops.toList.take m) true a):Wp J (.region id ops true) Q a F:=eJ hJ b m _ c d (h _ ⟨fun h=>h⟩)
theorem eT (hJ:Closed P main J){id:Nat}{ops:Array Oper}(h:∀K,xg Q K->fE P J ops K ops.toList true a F):Wp J (.region id ops false) Q a F:=aS hJ (h _ ⟨fun h=>h⟩)
theorem k8 (hJ:Closed P main J)(b:P.follows .mixedOrders=true)(cn:List Nat)(p:cD){id:Nat}{ops:Array Oper}(F0:af)(c:Knows F0 F)
  (d:(Region.noSelect ops&&decide (p.len<=ops.size)&&p.ok ops cn (Array.replicate ops.size false))=true)
  (h:∀K,xg Q K->cz P J ops F0 K (p.opers ops) true a F):Wp J (.region id ops true) Q a F:=fc hJ b cn p F0 c d (h _ ⟨fun h=>h⟩)
theorem fY {c:Code}(L:List Nat){a:Act}(h:∀A,sz A=sz a->A.defers=a.defers->(∀i∈L,slot A i=slot a i)->Wp J c Q A F):Wp J c Q a F:=h a rfl rfl fun _ _=>rfl
theorem c6.pick {ws:List Nat}{A a:Act}(h:c6 ws A a)(L:List Nat)(b:(L.all fun i=>!iE ws i)=true):sz A=sz a/\A.defers=a.defers/\∀i∈L,slot A i=slot a i:=
 ⟨h.size,h.defers,fun i hi=>h.eK i fun x=>by
  have c:=List.all_eq_true.1 b i hi
  have d:iE ws i=true:=by
   unfold In at x
   exact x
  simp[d] at c⟩
theorem eD {T:Type}{r:cu T}{ro:Addr->Option Value}{bx:List (Nat×Obj)}{R:Value->af->Prop}{argTypes:Array TypeId}{d f e h e2:TypeId}{a b:Nat}{s z:Value}{l:List T}{x:T}{cs:Array Value}{own:List (Nat×Obj)}(pre bC:List (Nat×Obj))
  (hg:bg r ro e s l bx) (i:aZ (keys own)) (j:l.length+[x].length<=1000000) (k:r.rel ro x cs.toList) (m:lk pre b=some (.cells cs e2)) (o:∀off sp,ro ⟨b,off,sp⟩=none)
  (p:argTypes[0]?=some d) (q:argTypes[1]?=some f) (he:dD P d=some e) (t:dD P f=some h) (hs:cj P e=some r.n) (u:zeroOf P e=some z) (w:z.cells.size=r.n) (hb:bytesOf P e=some a)
  (y:0<a) (A:a<=10000)
  (B:∀v g,bg r ro e v (l++[x]) g->∀c,c=pre++(g++bC)->aZ (keys c)->∃F0,Le F0 ⟨ro,c⟩/\R v F0)
  (C:own=pre++(bx++bC):=by first|rfl|simp only[bw]|(simp only[bw];rfl)):m6 P argTypes s (.slice (some ⟨b,0,none⟩) 1 1) R ⟨ro,own⟩:=
 BC pre bC C hg i j k m o p q he t hs u w hb y A B
theorem qX {T:Type}{r:cu T}{ro:Addr->Option Value}{bx:List (Nat×Obj)}{R:Value->af->Prop}{argTypes:Array TypeId}{d f e h:TypeId}{a c:Nat}{ad:Option Addr}{s z:Value}{l xs:List T}{own:List (Nat×Obj)}(pre bC:List (Nat×Obj))
  (hg:bg r ro e s l bx) (i:aZ (keys own)) (j:l.length+xs.length<=1000000) (k:aH r ro (.slice ad xs.length c) xs)
  (m:argTypes[0]?=some d) (o:argTypes[1]?=some f) (he:dD P d=some e) (p:dD P f=some h) (hs:cj P e=some r.n) (q:zeroOf P e=some z) (t:z.cells.size=r.n) (hb:bytesOf P e=some a)
  (u:0<a) (w:a<=10000)
  (x:∀v g,bg r ro e v (l++xs) g->∀b,b=pre++(g++bC)->aZ (keys b)->∃F0,Le F0 ⟨ro,b⟩/\R v F0)
  (y:own=pre++(bx++bC):=by first|rfl|simp only[bw]|(simp only[bw];rfl)):m6 P argTypes s (.slice ad xs.length c) R ⟨ro,own⟩:=
 Gz pre bC y hg i j k m o he p hs q t hb u w x
theorem ew (hJ:Closed P main J){f:FuncId}{args:Array Value}{ro:Addr->Option Value}{bx:List (Nat×Obj)}{K:Value->af->Prop}{own:List (Nat×Obj)}(pre bC:List (Nat×Obj))(R:Value->List (Nat×Obj)->Prop)(h:aD P f args ⟨ro,bx⟩ (fun v G=>∃a,R v a/\Le ⟨ro,a⟩ G))
  (c:∀v a,R v a->∀b,b=pre++(a++bC)->aZ (keys b)->∃F0,Le F0 ⟨ro,b⟩/\K v F0)
  (d:own=pre++(bx++bC):=by first|rfl|simp only[bw]|(simp only[bw];rfl)):dn P J f args ⟨ro,own⟩ K:=GA hJ pre bC d R h c
end
end Go.Sep
end
section
namespace Go.Proofs.YtbpddfapodiemaaGreatDoor
open Go Go.Sep Go.Proofs
set_option maxRecDepth 100000
attribute [go_sem] aH.nil
theorem tL:rI.n=1:=rfl
theorem xh:rB.n=1:=rfl
theorem G0 {T:Type}(r:cu T):(rL r).n=1:=rfl
attribute [go_sem] tL xh G0
structure ax where
 num:Int
 den:Int
 deriving DecidableEq
def ax.v (x:ax):Value:=.agg #[.int .i64 x.num,.int .i64 x.den]
def ax.cells (x:ax):List Value:=[.int .i64 x.num,.int .i64 x.den]
def mg:cu ax:=gP 2 ax.cells (fun _=>rfl) (fun _ v a=>by simp only[ax.cells,List.mem_cons,List.not_mem_nil,or_false] at a;rcases a with rfl|rfl<;>rfl)
theorem G1:mg.n=2:=rfl
attribute [go_sem] ax.v ax.cells G1
structure cv where
 aV:Int
 high:Int
 deriving DecidableEq
def cv.cells (x:cv):List Value:=[.int .i64 x.aV,.int .i64 x.high]
def fH:cu cv:=gP 2 cv.cells (fun _=>rfl) (fun _ v a=>by simp only[cv.cells,List.mem_cons,List.not_mem_nil,or_false] at a;rcases a with rfl|rfl<;>rfl)
theorem G2:fH.n=2:=rfl
attribute [go_sem] cv.cells G2
structure cF where
 place:Int
 dS:Int
 deriving DecidableEq
def cF.cells (x:cF):List Value:=[.int .i64 x.place,.int .i64 x.dS]
def eU:cu cF:=gP 2 cF.cells (fun _=>rfl) (fun _ v a=>by simp only[cF.cells,List.mem_cons,List.not_mem_nil,or_false] at a;rcases a with rfl|rfl<;>rfl)
theorem G3:eU.n=2:=rfl
attribute [go_sem] cF.cells G3
structure dF where
 low:Int
 high:Int
 deriving DecidableEq
def dF.v (x:dF):Value:=.agg #[.int .i64 x.low,.int .i64 x.high]
def dF.cells (x:dF):List Value:=[.int .i64 x.low,.int .i64 x.high]
def G4:cu dF:=gP 2 dF.cells (fun _=>rfl) (fun _ v a=>by simp only[dF.cells,List.mem_cons,List.not_mem_nil,or_false] at a;rcases a with rfl|rfl<;>rfl)
theorem G5:G4.n=2:=rfl
attribute [go_sem] dF.v dF.cells G5
structure cq where
 back:Int
 high:dF
 deriving DecidableEq
def cq.cells (x:cq):List Value:=[.int .i64 x.back,.int .i64 x.high.low,.int .i64 x.high.high]
def fo:cu cq:=gP 3 cq.cells (fun _=>rfl) (fun _ v a=>by simp only[cq.cells,List.mem_cons,List.not_mem_nil,or_false] at a;rcases a with rfl|rfl|rfl<;>rfl)
theorem G6:fo.n=3:=rfl
attribute [go_sem] cq.cells G6
structure bM where
 aY:Int
 bI:Bool
 deriving DecidableEq
def bM.v (x:bM):Value:=.agg #[.int .i64 x.aY,.bool x.bI]
def bM.cells (x:bM):List Value:=[.int .i64 x.aY,.bool x.bI]
def dG:cu bM:=gP 2 bM.cells (fun _=>rfl) (fun _ v a=>by simp only[bM.cells,List.mem_cons,List.not_mem_nil,or_false] at a;rcases a with rfl|rfl<;>rfl)
theorem G7:dG.n=2:=rfl
attribute [go_sem] bM.v bM.cells G7
structure an where
 bV:Int
 bU:Int
 bq:ax
 aE:(List cv)
 props:(List cF)
 aF:(List cq)
 told:(List bM)
 deriving DecidableEq
def an.rel (ro:Addr->Option Value)(x:an)(cs:List Value):Prop:=∃a b c d,cs=[.int .i64 x.bV,.int .i64 x.bU,.int .i64 x.bq.num,.int .i64 x.bq.den,a,b,c,d]/\aH fH ro a x.aE/\aH eU ro b x.props/\aH fo ro c x.aF/\aH dG ro d x.told
theorem an.qY {ro:Addr->Option Value}{x:an}{cs:List Value}(h:an.rel ro x cs):∀v∈cs,bP v=true:=by
 obtain ⟨b,c,d,e,rfl,⟨_,_,rfl,_⟩,⟨_,_,rfl,_⟩,⟨_,_,rfl,_⟩,⟨_,_,rfl,_⟩⟩:=h;intro v a;simp only[List.mem_cons,List.not_mem_nil,or_false] at a;rcases a with rfl|rfl|rfl|rfl|rfl|rfl|rfl|rfl<;>rfl
def G8:cu an:=⟨8,an.rel,fun a ⟨b,c,d,f,e,g,h,i,j⟩=>⟨b,c,d,f,e,g.mono a,h.mono a,i.mono a,j.mono a⟩,fun ⟨b,c,d,f,e,_⟩=>by rw[e];rfl,an.qY⟩
theorem G9:G8.n=8:=rfl
attribute [go_sem] G9
structure bA where
 back:Int
 high:Int
 deriving DecidableEq
def bA.v (x:bA):Value:=.agg #[.int .i64 x.back,.int .i64 x.high]
def bA.cells (x:bA):List Value:=[.int .i64 x.back,.int .i64 x.high]
def jG:cu bA:=gP 2 bA.cells (fun _=>rfl) (fun _ v a=>by simp only[bA.cells,List.mem_cons,List.not_mem_nil,or_false] at a;rcases a with rfl|rfl<;>rfl)
theorem He:jG.n=2:=rfl
attribute [go_sem] bA.v bA.cells He
structure bt where
 e0:Int
 e1:Int
 e2:Int
 deriving DecidableEq
def bt.v (x:bt):Value:=.agg #[.int .i64 x.e0,.int .i64 x.e1,.int .i64 x.e2]
def bt.cells (x:bt):List Value:=[.int .i64 x.e0,.int .i64 x.e1,.int .i64 x.e2]
def iK:cu bt:=gP 3 bt.cells (fun _=>rfl) (fun _ v a=>by simp only[bt.cells,List.mem_cons,List.not_mem_nil,or_false] at a;rcases a with rfl|rfl|rfl<;>rfl)
theorem Hf:iK.n=3:=rfl
attribute [go_sem] bt.v bt.cells Hf
def bt.get (x:bt)(i:Int):Option Int:=if i=0 then some x.e0 else if i=1 then some x.e1 else if i=2 then some x.e2 else none
theorem bt.get_some {x:bt}{i:Int}{y:Int}(h:bt.get x i=some y):0<=i/\i<((3:Nat):Int)/\([.int .i64 x.e0,.int .i64 x.e1,.int .i64 x.e2]:List Value)[i.toNat]?=some (.int .i64 y):=by
 unfold bt.get at h;by_cases a:i=0
 .subst a;simp at h;subst h;exact ⟨aa,aa,rfl⟩
 by_cases b:i=1
 .subst b;simp at h;subst h;exact ⟨aa,aa,rfl⟩
 by_cases c:i=2
 .subst c;simp at h;subst h;exact ⟨aa,aa,rfl⟩
 simp[a,b,c] at h
theorem bt.Hg {ro:Addr->Option Value}{b:Nat}{x:bt}{i:Int}{y:Int}(h:bt.get x i=some y)(g0:ro ⟨b,0,none⟩=some (.int .i64 x.e0))(e:ro ⟨b,1,none⟩=some (.int .i64 x.e1))(f:ro ⟨b,2,none⟩=some (.int .i64 x.e2)):ro ⟨b,i.toNat,none⟩=some (.int .i64 y):=by
 unfold bt.get at h;by_cases a:i=0
 .subst a;simp at h;subst h;exact g0
 by_cases c:i=1
 .subst c;simp at h;subst h;exact e
 by_cases d:i=2
 .subst d;simp at h;subst h;exact f
 simp[a,c,d] at h
structure di where
 book:an
 all:(List bt)
 deriving DecidableEq
def di.rel (ro:Addr->Option Value)(x:di)(cs:List Value):Prop:=∃a b c d e,cs=[.int .i64 x.book.bV,.int .i64 x.book.bU,.int .i64 x.book.bq.num,.int .i64 x.book.bq.den,a,b,c,d,e]/\aH fH ro a x.book.aE/\aH eU ro b x.book.props/\aH fo ro c x.book.aF/\aH dG ro d x.book.told/\aH iK ro e x.all
theorem di.qY {ro:Addr->Option Value}{x:di}{cs:List Value}(h:di.rel ro x cs):∀v∈cs,bP v=true:=by
 obtain ⟨b,c,d,e,f,rfl,⟨_,_,rfl,_⟩,⟨_,_,rfl,_⟩,⟨_,_,rfl,_⟩,⟨_,_,rfl,_⟩,⟨_,_,rfl,_⟩⟩:=h;intro v a;simp only[List.mem_cons,List.not_mem_nil,or_false] at a;rcases a with rfl|rfl|rfl|rfl|rfl|rfl|rfl|rfl|rfl<;>rfl
def Hh:cu di:=⟨9,di.rel,fun a ⟨b,c,d,f,g,e,h,i,j,k,l⟩=>⟨b,c,d,f,g,e,h.mono a,i.mono a,j.mono a,k.mono a,l.mono a⟩,fun ⟨b,c,d,f,g,e,_⟩=>by rw[e];rfl,di.qY⟩
theorem Hi:Hh.n=9:=rfl
attribute [go_sem] Hi
structure iL where
 aV:Int
 high:ax
 deriving DecidableEq
def iL.cells (x:iL):List Value:=[.int .i64 x.aV,.int .i64 x.high.num,.int .i64 x.high.den]
def Hj:cu iL:=gP 3 iL.cells (fun _=>rfl) (fun _ v a=>by simp only[iL.cells,List.mem_cons,List.not_mem_nil,or_false] at a;rcases a with rfl|rfl|rfl<;>rfl)
theorem Hl:Hj.n=3:=rfl
attribute [go_sem] iL.cells Hl
structure bN where
 spot:iL
 at_:Int
 high:ax
 deriving DecidableEq
def bN.v (x:bN):Value:=.agg #[.int .i64 x.spot.aV,.int .i64 x.spot.high.num,.int .i64 x.spot.high.den,.int .i64 x.at_,.int .i64 x.high.num,.int .i64 x.high.den]
def bN.cells (x:bN):List Value:=[.int .i64 x.spot.aV,.int .i64 x.spot.high.num,.int .i64 x.spot.high.den,.int .i64 x.at_,.int .i64 x.high.num,.int .i64 x.high.den]
def k9:cu bN:=gP 6 bN.cells (fun _=>rfl) (fun _ v a=>by simp only[bN.cells,List.mem_cons,List.not_mem_nil,or_false] at a;rcases a with rfl|rfl|rfl|rfl|rfl|rfl<;>rfl)
theorem Ho:k9.n=6:=rfl
attribute [go_sem] bN.v bN.cells Ho
def dw.rel (ro:Addr->Option Value)(g:(an->Option Int))(cs:List Value):Prop:=∃(b:FuncId) (c d:Array Value),cs=[.func (.func b) c d]/\aR Tryz.prog b=true/\∀(aW:Addr->Option Value),Ext ro aW->∀(a:an) (e:Value) (f:Value) (h:Value) (i:Value) (z:Int),aH fH aW e a.aE->aH eU aW f a.props->aH fo aW h a.aF->aH dG aW i a.told->g a=some z->aD Tryz.prog b (c++#[.agg #[.int .i64 a.bV,.int .i64 a.bU,.int .i64 a.bq.num,.int .i64 a.bq.den,e,f,h,i]]++d) ⟨aW,[]⟩ (fun v _=>v= .int .i64 z)
theorem dw.Hp {ro aW:Addr->Option Value}{g:(an->Option Int)}{cs:List Value}(b:Ext ro aW)(h:dw.rel ro g cs):dw.rel aW g cs:=by
 obtain ⟨f,a,c,e,d,i⟩:=h;exact ⟨f,a,c,e,d,fun j k=>i j (b.trans k)⟩
theorem dw.Hq {ro:Addr->Option Value}{g:(an->Option Int)}{cs:List Value}(h:dw.rel ro g cs):cs.length=1:=by
 obtain ⟨f,a,c,e,_⟩:=h;rw[e];rfl
theorem dw.qY {ro:Addr->Option Value}{g:(an->Option Int)}{cs:List Value}(h:dw.rel ro g cs):∀v∈cs,bP v=true:=by
 obtain ⟨f,a,c,e,_⟩:=h;intro v b;rw[e] at b;simp at b;subst b;rfl
def dw:cu (an->Option Int):=⟨1,dw.rel,dw.Hp,dw.Hq,dw.qY⟩
theorem Hr:dw.n=1:=rfl
attribute [go_sem] Hr
abbrev sl {T:Type}(d:Option Addr)(l:List T)(c:Nat):Value:=.slice d l.length c
abbrev bk (x:an)(a b c d:Value):Obj:=.cells #[.int .i64 x.bV,.int .i64 x.bU,.int .i64 x.bq.num,.int .i64 x.bq.den,a,b,c,d] 29
abbrev bl (x:an)(a b c d:Value):Obj:=.cells #[.int .i64 x.bV,.int .i64 x.bU,.int .i64 x.bq.num,.int .i64 x.bq.den,a,b,c,d] 92
abbrev bz (t:Nat):Obj:=.cells #[.int .i64 0,.int .i64 0,.int .i64 0,.int .i64 0,.slice none 0 0,.slice none 0 0,.slice none 0 0,.slice none 0 0] t
abbrev kn (x:di)(a b c d e:Value):Obj:=.cells #[.int .i64 x.book.bV,.int .i64 x.book.bU,.int .i64 x.book.bq.num,.int .i64 x.book.bq.den,a,b,c,d,e] 95
abbrev rt (a b:Int):Obj:=.cells #[.int .i64 a,.int .i64 b] 23
abbrev ic (a:Int):Obj:=.cells #[.int .i64 a] 3
abbrev bv (x:an)(a b c d:Value):Value:=.agg #[.int .i64 x.bV,.int .i64 x.bU,.int .i64 x.bq.num,.int .i64 x.bq.den,a,b,c,d]
attribute [go_sem] sl bk bl bz kn rt ic bv GY GZ List.cons_append List.nil_append List.append_nil List.append_assoc
structure bW (ro:Addr->Option Value)(u:an)(a b c d:Value):Prop where
 e:aH fH ro a u.aE
 p:aH eU ro b u.props
 y:aH fo ro c u.aF
 t:aH dG ro d u.told
theorem bW.oc {ro:Addr->Option Value}{u:an}{a b c d:Value}(h:bW ro u a b c d):bP a=true/\bP b=true/\bP c=true/\bP d=true:=⟨h.e.oc,h.p.oc,h.y.oc,h.t.oc⟩
theorem bW.mono {ro aW:Addr->Option Value}{u:an}{a b c d:Value}(h:bW ro u a b c d)(f:Ext ro aW):bW aW u a b c d:=⟨h.e.mono f,h.p.mono f,h.y.mono f,h.t.mono f⟩
end Go.Proofs.YtbpddfapodiemaaGreatDoor
end
section
namespace Go.Proofs.YtbpddfapodiemaaGreatDoor
open Go Go.Sep Go.Proofs
set_option maxRecDepth 100000
set_option maxHeartbeats 4000000
def fZ (u0:Int)(a:Int)(b:Int):Option Bool:=
 cond (decide (a<=u0)) (some (decide (u0<=b))) (some false)
theorem gQ {ro:Addr->Option Value}(u0:Int)(a:Int)(b:Int){r:Bool}(h:fZ u0 a b=some r):aD Tryz.prog 80 #[.int .i64 u0,.int .i64 a,.int .i64 b] ⟨ro,[]⟩ (fun v _=>v= .bool r):=by
 unfold fZ at h;refine aD.go Tryz.func80 rfl Tryz.ntmps80 Tryz.results80 au fun main J hJ A d hd hs=>?_;have e:=hs 0;have k1:=hs 1;have f:=hs 2;clear hs;apply az hJ _;apply aC hJ;revert h;refine cS (fun c h=>?_) fun c h=>?_
 .cases h;apply ag _;apply aQ;simp only[*,go_sem]
 cases h;apply ag _;apply aQ;simp only[*,go_sem]
def gA (u0:Int):Option ax:=
 some (⟨u0,1⟩:ax)
theorem j9 {ro:Addr->Option Value}(u0:Int){r:ax}(h:gA u0=some r):aD Tryz.prog 102 #[.int .i64 u0] ⟨ro,[]⟩ (fun v _=>v=r.v):=by
 unfold gA at h;cases h;refine aD.go Tryz.func102 rfl Tryz.ntmps102 Tryz.results102 au fun main J hJ A a hd hs=>?_;have b:=hs 0;clear hs;apply az hJ _;refine aA fun c r1 n1=>?_;try simp only[av] at n1
 apply az hJ _;apply aQ;simp only[*,go_sem]
def eV (u0:ax)(a:ax):Option Bool:=
 some (decide ((IntKind.i64.wrap (u0.num*a.den))<(IntKind.i64.wrap (a.num*u0.den))))
theorem jH {ro:Addr->Option Value}(u0:ax)(a:ax){r:Bool}(h:eV u0 a=some r):aD Tryz.prog 61 #[.agg #[.int .i64 u0.num,.int .i64 u0.den],.agg #[.int .i64 a.num,.int .i64 a.den]] ⟨ro,[]⟩ (fun v _=>v= .bool r):=by
 unfold eV at h;cases h;refine aD.go Tryz.func61 rfl Tryz.ntmps61 Tryz.results61 au fun main J hJ A b hd hs=>?_;have c:=hs 0;have k1:=hs 1;clear hs;apply az hJ _;refine aA fun d r1 n1=>?_;try simp only[av] at n1
 refine aA fun b2 r2 n2=>?_;try simp only[av] at n2
 apply az hJ _;apply aQ;simp only[*,go_sem]
def qZ (u0:dF)(a:Int)(b:Int):Option Bool:=
 cond (decide (a<=u0.low)) (cond (decide (u0.low<=u0.high)) (some (decide (u0.high<=b))) (some false)) (some false)
theorem BV {ro:Addr->Option Value}(u0:dF)(a:Int)(b:Int){r:Bool}(h:qZ u0 a b=some r):aD Tryz.prog 118 #[.agg #[.int .i64 u0.low,.int .i64 u0.high],.int .i64 a,.int .i64 b] ⟨ro,[]⟩ (fun v _=>v= .bool r):=by
 unfold qZ at h;refine aD.go Tryz.func118 rfl Tryz.ntmps118 Tryz.results118 au fun main J hJ A e hd hs=>?_;have f:=hs 0;have k1:=hs 1;have g:=hs 2;clear hs;apply az hJ _;refine aA fun i r1 n1=>?_;try simp only[av] at n1
 apply aC hJ;revert h;refine cS (fun c h=>?_) fun c h=>?_
 .revert h;refine cS (fun d h=>?_) fun d h=>?_
  .cases h;apply ag _;apply aQ;simp only[*,go_sem]
  cases h;apply ag _;apply aQ;simp only[*,go_sem]
 cases h;apply ag _;apply aQ;simp only[*,go_sem]
def jI (u0:bN)(a:bN):Option Bool:=
 ai (eV u0.high a.high) fun b=>some b
theorem tN {ro:Addr->Option Value}(u0:bN)(a:bN){r:Bool}(h:jI u0 a=some r):aD Tryz.prog 57 #[.agg #[.int .i64 u0.spot.aV,.int .i64 u0.spot.high.num,.int .i64 u0.spot.high.den,.int .i64 u0.at_,.int .i64 u0.high.num,.int .i64 u0.high.den],.agg #[.int .i64 a.spot.aV,.int .i64 a.spot.high.num,.int .i64 a.spot.high.den,.int .i64 a.at_,.int .i64 a.high.num,.int .i64 a.high.den]] ⟨ro,[]⟩ (fun v _=>v= .bool r):=by
 unfold jI at h;refine aD.go Tryz.func57 rfl Tryz.ntmps57 Tryz.results57 au fun main J hJ A c hd hs=>?_;have d:=hs 0;have k1:=hs 1;clear hs;apply az hJ _;refine aA fun e r1 n1=>?_;try simp only[av] at n1
 refine aA fun b2 r2 n2=>?_;try simp only[av] at n2
 apply aC hJ;revert h;refine bS fun f b h=>?_;cases h;apply ag _;refine bf hJ _ (jH u0.high a.high b) (aO ?_);apply ag _;apply aQ;simp only[*,go_sem]
def iM (u0:Int)(b:an):Option Int:=
 ai (fZ u0 1 20) fun a=>cond (!a) (some 1) (some 0)
theorem xj {ro:Addr->Option Value}(u0:Int)(b:an){s1 c d f:Value}(a:bW ro b s1 c d f){r:Int}(h:iM u0 b=some r):aD Tryz.prog 68 #[.int .i64 u0,bv b s1 c d f] ⟨ro,[]⟩ (fun v _=>v= .int .i64 r):=by
 obtain ⟨d3,c4,rfl,k,l,-⟩:=id a.e;obtain ⟨d10,m,rfl,n,o,-⟩:=id a.p;obtain ⟨d17,q,rfl,s,u,-⟩:=id a.y;obtain ⟨d24,w,rfl,x,z,-⟩:=id a.t;unfold iM at h;refine aD.go Tryz.func68 rfl Tryz.ntmps68 Tryz.results68 au fun main J hJ A B hd hs=>?_;have C:=hs 0;have k1:=hs 1;clear hs;apply az hJ _;refine aA fun D E g=>?_;try simp only[av] at g
 refine ah hJ (aC hJ ?_);revert h;refine bS fun F i h=>?_;apply ag _;refine bf hJ _ (gQ u0 1 20 i) (aO ?_);apply ag _;revert h;refine bh hJ (fun j h=>?_) fun j h=>?_
 .cases h;apply az hJ _;apply aQ;simp only[*,go_sem]
 cases h;refine aP hJ (ah hJ ?_);apply aM hJ _;apply aQ;simp only[*,go_sem]
def fy (u0:bA)(c:an):Option Int:=
 ai (fZ u0.back 1 20) fun a=>cond (!a) (some 1) (ai (fZ u0.high 0 60) fun b=>cond (!b) (some 1) (some 0))
theorem tO {ro:Addr->Option Value}(u0:bA)(b:an){s1 c d f:Value}(a:bW ro b s1 c d f){r:Int}(h:fy u0 b=some r):aD Tryz.prog 107 #[.agg #[.int .i64 u0.back,.int .i64 u0.high],bv b s1 c d f] ⟨ro,[]⟩ (fun v _=>v= .int .i64 r):=by
 obtain ⟨d3,c4,rfl,n,o,-⟩:=id a.e;obtain ⟨d10,q,rfl,s,u,-⟩:=id a.p;obtain ⟨d17,w,rfl,x,z,-⟩:=id a.y;obtain ⟨d24,B,rfl,C,D,-⟩:=id a.t;unfold fy at h;refine aD.go Tryz.func107 rfl Tryz.ntmps107 Tryz.results107 au fun main J hJ A E hd hs=>?_;have F:=hs 0;have k1:=hs 1;clear hs;apply az hJ _;refine aA fun G H g=>?_;try simp only[av] at g
 refine aA fun I K i=>?_;try simp only[av] at i
 refine ah hJ (aC hJ ?_);revert h;refine bS fun L j h=>?_;apply ag _;refine bf hJ _ (gQ u0.back 1 20 j) (aO ?_);revert h;refine cS (fun k h=>?_) fun k h=>?_
 .cases h;apply ag _;refine cB hJ ?_;apply az hJ _;apply aQ;simp only[*,go_sem]
 revert h;refine bS fun M l h=>?_;apply ag _;refine bf hJ _ (gQ u0.high 0 60 l) (aO ?_);apply ag _;revert h;refine bh hJ (fun m h=>?_) fun m h=>?_
 .cases h;apply az hJ _;apply aQ;simp only[*,go_sem]
 cases h;refine aP hJ (ah hJ ?_);apply aM hJ _;apply aQ;simp only[*,go_sem]
def oO (u0:an)(a:Int):Option Bool:=
 ai (fZ a 0 (IntKind.i64.wrap ((u0.aF.length:Int) - 1))) fun b=>some b
theorem BW {ro:Addr->Option Value}(u0:an){s1 c d f:Value}(a:bW ro u0 s1 c d f)(b:Int){r:Bool}(h:oO u0 b=some r):aD Tryz.prog 141 #[bv u0 s1 c d f,.int .i64 b] ⟨ro,[]⟩ (fun v _=>v= .bool r):=by
 obtain ⟨d3,c4,rfl,j,k,-⟩:=id a.e;obtain ⟨d10,l,rfl,m,n,-⟩:=id a.p;obtain ⟨d17,o,rfl,q,s,-⟩:=id a.y;obtain ⟨d24,u,rfl,w,x,-⟩:=id a.t;unfold oO at h;refine aD.go Tryz.func141 rfl Tryz.ntmps141 Tryz.results141 au fun main J hJ A z hd hs=>?_;have B:=hs 0;have k1:=hs 1;clear hs;apply az hJ _;refine aA fun C D g=>?_;try simp only[av] at g
 apply aC hJ;revert h;refine bS fun E i h=>?_;cases h;apply ag _;refine bf hJ _ (gQ b 0 (IntKind.i64.wrap ((u0.aF.length:Int) - 1)) i) (aO ?_);apply ag _;apply aQ;simp only[*,go_sem]
def gR (u0:an)(a:Int):Option Bool:=
 ai (bD u0.aE 0) fun b=>ai (bD u0.aE (IntKind.i64.wrap ((u0.aE.length:Int) - 1))) fun c=>ai (fZ a b.aV c.aV) fun d=>some d
theorem tP {ro:Addr->Option Value}(u0:an){s1 f g i:Value}(a:bW ro u0 s1 f g i)(b:Int){r:Bool}(h:gR u0 b=some r):aD Tryz.prog 134 #[bv u0 s1 f g i,.int .i64 b] ⟨ro,[]⟩ (fun v _=>v= .bool r):=by
 obtain ⟨d3,c4,rfl,E,G,-⟩:=id a.e;unfold gR at h;refine aD.go Tryz.func134 rfl Tryz.ntmps134 Tryz.results134 au fun main J hJ A H hd hs=>?_;have I:=hs 0;have k1:=hs 1;clear hs;apply az hJ _;refine aA fun K L n=>?_;try simp only[av] at n
 apply ah hJ;refine dh hJ mixed 20 1 aN aj ?_;revert h;refine bS fun j o h=>?_;obtain ⟨M,N,k⟩:=cP o;obtain ⟨O,p,q,s,c⟩:=a.e.el _ _ k;obtain rfl:p=j.cells:=s;cases q;have t:=c 0 _ rfl;simp only[go_sem] at t;have u:=c 1 _ rfl;simp only[go_sem] at u;clear c k;revert h;refine bS fun l w h=>?_;obtain ⟨P,Q,m⟩:=cP w;obtain ⟨R,x,y,z,d⟩:=a.e.el _ _ m;obtain rfl:x=l.cells:=z;cases y;have B:=d 0 _ rfl;simp only[go_sem] at B;have C:=d 1 _ rfl;simp only[go_sem] at C;clear d m;revert h;refine bS fun S D h=>?_;cases h;apply ag _;refine ⟨_,bL hJ fun F T=>gQ b j.aV l.aV D,cr ?_⟩;apply ag _;apply aQ;simp only[*,go_sem]
def fA (u0:Int)(a:an):Option Int:=
 ai (oO a u0) fun b=>cond (!b) (some 6) (some 0)
theorem tQ {ro:Addr->Option Value}(u0:Int)(b:an){s1 c d f:Value}(a:bW ro b s1 c d f){r:Int}(h:fA u0 b=some r):aD Tryz.prog 86 #[.int .i64 u0,bv b s1 c d f] ⟨ro,[]⟩ (fun v _=>v= .int .i64 r):=by
 obtain ⟨d3,c4,rfl,k,l,-⟩:=id a.e;obtain ⟨d10,m,rfl,n,o,-⟩:=id a.p;obtain ⟨d17,q,rfl,s,u,-⟩:=id a.y;obtain ⟨d24,w,rfl,x,z,-⟩:=id a.t;unfold fA at h;refine aD.go Tryz.func86 rfl Tryz.ntmps86 Tryz.results86 au fun main J hJ A B hd hs=>?_;have C:=hs 0;have k1:=hs 1;clear hs;apply az hJ _;refine aA fun D E g=>?_;try simp only[av] at g
 refine ah hJ (aC hJ ?_);revert h;refine bS fun F i h=>?_;apply ag _;refine bf hJ _ (BW b (a.mono bn) u0 i) (aO ?_);apply ag _;revert h;refine bh hJ (fun j h=>?_) fun j h=>?_
 .cases h;apply az hJ _;apply aQ;simp only[*,go_sem]
 cases h;refine aP hJ (ah hJ ?_);apply aM hJ _;apply aQ;simp only[*,go_sem]
def oP (u0:Int)(a:an):Option Int:=
 ai (gR a u0) fun b=>cond (!b) (some 6) (some 0)
theorem Hs {ro:Addr->Option Value}(u0:Int)(b:an){s1 c d f:Value}(a:bW ro b s1 c d f){r:Int}(h:oP u0 b=some r):aD Tryz.prog 112 #[.int .i64 u0,bv b s1 c d f] ⟨ro,[]⟩ (fun v _=>v= .int .i64 r):=by
 obtain ⟨d3,c4,rfl,k,l,-⟩:=id a.e;obtain ⟨d10,m,rfl,n,o,-⟩:=id a.p;obtain ⟨d17,q,rfl,s,u,-⟩:=id a.y;obtain ⟨d24,w,rfl,x,z,-⟩:=id a.t;unfold oP at h;refine aD.go Tryz.func112 rfl Tryz.ntmps112 Tryz.results112 au fun main J hJ A B hd hs=>?_;have C:=hs 0;have k1:=hs 1;clear hs;apply az hJ _;refine aA fun D E g=>?_;try simp only[av] at g
 refine ah hJ (aC hJ ?_);revert h;refine bS fun F i h=>?_;apply ag _;refine bf hJ _ (tP b (a.mono bn) u0 i) (aO ?_);apply ag _;revert h;refine bh hJ (fun j h=>?_) fun j h=>?_
 .cases h;apply az hJ _;apply aQ;simp only[*,go_sem]
 cases h;refine aP hJ (ah hJ ?_);apply aM hJ _;apply aQ;simp only[*,go_sem]
def q2 (st:(Int×Int)):Option (Fl (Int×Int) ax):=
 cond ((st.2 != 0)) (ai (iZ st.1 st.2) fun a=>some (.nx (st.2,a))) (some (.bk (st.1,st.2)))
def lf (u0:Int)(a:Int):Option ax:=
 ai (bp (q2) fu ((if u0<IntKind.i64.wrap (0 - u0) then IntKind.i64.wrap (0 - u0) else u0),a)) fun o=>aJ o (fun b=>ai (gu u0 b.1) fun c=>ai (gu a b.1) fun d=>some (⟨c,d⟩:ax)) (fun _ _=>none) (fun r=>some r)
theorem q3 {ro:Addr->Option Value}(u0:Int)(c:Int){r:ax}(h:lf u0 c=some r):aD Tryz.prog 123 #[.int .i64 u0,.int .i64 c] ⟨ro,[]⟩ (fun v _=>v=r.v):=by
 unfold lf at h;refine aD.go Tryz.func123 rfl Tryz.ntmps123 Tryz.results123 au fun main J hJ A l hd hs=>?_;have n:=hs 0;have k1:=hs 1;clear hs;apply az hJ _;refine aA fun o r1 n1=>?_;try simp only[av] at n1
 apply az hJ _;refine ah hJ (aX hJ ?_);revert h;refine bS fun o4 a p=>?_;refine cc hJ (rg 12 6 [5,6]) (fun m f F'=>∃(v2:Int) (b:Int),bp (q2) m (v2,b)=some o4/\F'=⟨ro,(o,rt 0 0)::[]⟩/\slot f 5= .int .i64 v2/\slot f 6= .int .i64 b) fu ?_ ?_
 .refine ⟨(if u0<IntKind.i64.wrap (0 - u0) then IntKind.i64.wrap (0 - u0) else u0),c,a,rfl,?_⟩;simp only[*,go_sem]
 rintro d x F' g ⟨v2,b,a,rfl,y,z⟩;obtain ⟨q,s,t⟩:=g.pick [0,1,4] aB;simp only[*,go_sem] at q s t;clear g l hd n k1;obtain _|d:=d
 .exact absurd a (by simp only[bp,reduceCtorEq,not_false_eq_true])
 revert a;refine bS fun B h e=>?_;unfold q2 at h;try dsimp only at h
 refine ah hJ (aC hJ ?_);apply ag _;revert h;refine bh hJ (fun u h=>?_) fun u h=>?_
 .refine aP hJ (aX hJ ?_);refine dh hJ mixed 6 1 aN aj ?_;revert h;refine bS fun w i h=>?_;cases h;obtain ⟨C,D⟩:=qK i;clear i;apply ag _;refine ⟨d,Nat.lt_succ_self _,_,Le.sub (List.Sublist.refl _),b,w,e,rfl,?_⟩;simp only[*,go_sem]
 cases h;apply b6;simp only[go_sem];obtain rfl:=sI e;clear e;have h:=p;dsimp only[aJ] at h;apply ah hJ;refine dh hJ mixed 7 0 aN aj ?_;revert h;refine bS fun E j h=>?_;obtain ⟨F,G⟩:=kV j;clear j;revert h;refine bS fun H k h=>?_;cases h;obtain ⟨I,K⟩:=kV k;clear k;apply ag _;apply aQ;simp only[*,go_sem]
def kg (u0:ax)(a:ax):Option ax:=
 ai (lf (IntKind.i64.wrap ((IntKind.i64.wrap (u0.num*a.den))+(IntKind.i64.wrap (a.num*u0.den)))) (IntKind.i64.wrap (u0.den*a.den))) fun b=>some b
theorem q4 {ro:Addr->Option Value}(u0:ax)(a:ax){r:ax}(h:kg u0 a=some r):aD Tryz.prog 60 #[.agg #[.int .i64 u0.num,.int .i64 u0.den],.agg #[.int .i64 a.num,.int .i64 a.den]] ⟨ro,[]⟩ (fun v _=>v=r.v):=by
 unfold kg at h;refine aD.go Tryz.func60 rfl Tryz.ntmps60 Tryz.results60 au fun main J hJ A c hd hs=>?_;have d:=hs 0;have k1:=hs 1;clear hs;apply az hJ _;refine aA fun e r1 n1=>?_;try simp only[av] at n1
 refine aA fun b2 r2 n2=>?_;try simp only[av] at n2
 refine aA fun b3 r3 n3=>?_;try simp only[av] at n3
 apply aC hJ;revert h;refine bS fun f b h=>?_;cases h;apply ag _;refine bf hJ _ (q3 (IntKind.i64.wrap ((IntKind.i64.wrap (u0.num*a.den))+(IntKind.i64.wrap (a.num*u0.den)))) (IntKind.i64.wrap (u0.den*a.den)) b) (aO ?_);apply ag _;apply aQ;simp only[*,go_sem]
def ki (u0:ax)(a:ax):Option ax:=
 ai (kg u0 (⟨IntKind.i64.wrap (0 - a.num),a.den⟩:ax)) fun b=>some b
theorem q5 {ro:Addr->Option Value}(u0:ax)(a:ax){r:ax}(h:ki u0 a=some r):aD Tryz.prog 59 #[.agg #[.int .i64 u0.num,.int .i64 u0.den],.agg #[.int .i64 a.num,.int .i64 a.den]] ⟨ro,[]⟩ (fun v _=>v=r.v):=by
 unfold ki at h;refine aD.go Tryz.func59 rfl Tryz.ntmps59 Tryz.results59 au fun main J hJ A c hd hs=>?_;have d:=hs 0;have k1:=hs 1;clear hs;apply az hJ _;refine aA fun e r1 n1=>?_;try simp only[av] at n1
 refine aA fun b2 r2 n2=>?_;try simp only[av] at n2
 refine aA fun b3 r3 n3=>?_;try simp only[av] at n3
 apply aC hJ;revert h;refine bS fun f b h=>?_;cases h;apply ag _;refine bf hJ _ (q4 u0 (⟨IntKind.i64.wrap (0 - a.num),a.den⟩:ax) b) (aO ?_);apply ag _;apply aQ;simp only[*,go_sem]
def lg (u0:an)(a:bA)(e:Int)(b:iL):Option bN:=
 ai (gA a.high) fun f=>ai (ki b.high f) fun c=>ai (lf (IntKind.i64.wrap (u0.bV+a.back)) (IntKind.i64.wrap (b.aV+a.back))) fun d=>ai (gA a.high) fun g=>ai (lf (IntKind.i64.wrap (c.num*d.num)) (IntKind.i64.wrap (c.den*d.den))) fun h=>ai (kg g h) fun i=>some (⟨b,e,i⟩:bN)
theorem BX {ro:Addr->Option Value}(u0:an){s1 c d e:Value}(K:bW ro u0 s1 c d e)(b:bA)(j:Int)(a:iL){r:bN}(h:lg u0 b j a=some r):aD Tryz.prog 122 #[bv u0 s1 c d e,.agg #[.int .i64 b.back,.int .i64 b.high],.int .i64 j,.agg #[.int .i64 a.aV,.int .i64 a.high.num,.int .i64 a.high.den]] ⟨ro,[]⟩ (fun v _=>v=r.v):=by
 unfold lg at h;refine aD.go Tryz.func122 rfl Tryz.ntmps122 Tryz.results122 au fun main J hJ A L hd hs=>?_;have M:=hs 0;have k1:=hs 1;have N:=hs 2;have O:=hs 3;clear hs;apply az hJ _;refine aA fun k P n=>?_;try simp only[av] at n
 refine aA fun l Q o=>?_;try simp only[av] at o
 refine aA fun m R p=>?_;try simp only[av] at p
 refine aA fun q S s=>?_;try simp only[av] at s
 apply ah hJ;refine eJ hJ mixed 6 ⟨ro,[(q,.cells #[.int .i64 0,.int .i64 0,.int .i64 0,.int .i64 0,.int .i64 0,.int .i64 0] 105),(m,.cells #[.int .i64 a.aV,.int .i64 a.high.num,.int .i64 a.high.den] 103),(l,.cells #[.int .i64 b.back,.int .i64 b.high] 101),(k,bl u0 s1 c d e)]⟩ aN aj ?_;revert h;refine bS fun t u h=>?_;apply ag _;refine ⟨_,bL hJ fun F f=>j9 b.high u,cr ?_⟩;revert h;refine bS fun g w h=>?_;apply ag _;refine ⟨_,bL hJ fun F f=>q5 a.high t w,?_⟩;apply ag _;refine aA fun x T y=>?_;try simp only[av] at y
 apply ag _;apply aC hJ;revert h;refine bS fun i z h=>?_;apply ag _;refine bf hJ _ (q3 (IntKind.i64.wrap (u0.bV+b.back)) (IntKind.i64.wrap (a.aV+b.back)) z) (aO ?_);apply ag _;refine aA fun B U C=>?_;try simp only[av] at C
 apply ah hJ;refine eJ hJ mixed 18 ⟨ro,[(B,rt i.num i.den),(x,rt g.num g.den),(m,.cells #[.int .i64 a.aV,.int .i64 a.high.num,.int .i64 a.high.den] 103),(l,.cells #[.int .i64 b.back,.int .i64 b.high] 101),(k,bl u0 s1 c d e)]⟩ aN aj ?_;revert h;refine bS fun D E h=>?_;apply ag _;refine ⟨_,bL hJ fun F f=>j9 b.high E,cr ?_⟩;revert h;refine bS fun G H h=>?_;apply ag _;refine ⟨_,bL hJ fun F f=>q3 (IntKind.i64.wrap (g.num*i.num)) (IntKind.i64.wrap (g.den*i.den)) H,cr ?_⟩;revert h;refine bS fun V I h=>?_;cases h;apply ag _;refine ⟨_,bL hJ fun F f=>q4 D G I,cr ?_⟩;apply ag _;apply aQ;simp only[*,go_sem]
def ig (u0:an)(a:Int)(b:Int):Option bA:=
 ai (bD u0.aF a) fun c=>some (⟨c.back,b⟩:bA)
theorem nk {ro:Addr->Option Value}(u0:an){s1 c d f:Value}(a:bW ro u0 s1 c d f)(g:Int)(i:Int){r:bA}(h:ig u0 g i=some r):aD Tryz.prog 91 #[bv u0 s1 c d f,.int .i64 g,.int .i64 i] ⟨ro,[]⟩ (fun v _=>v=r.v):=by
 obtain ⟨d3,c4,rfl,z,B,-⟩:=id a.e;obtain ⟨d10,C,rfl,D,E,-⟩:=id a.p;obtain ⟨d17,F,rfl,G,H,-⟩:=id a.y;obtain ⟨d24,I,rfl,K,L,-⟩:=id a.t;unfold ig at h;refine aD.go Tryz.func91 rfl Tryz.ntmps91 Tryz.results91 au fun main J hJ A M hd hs=>?_;have N:=hs 0;have k1:=hs 1;have O:=hs 2;clear hs;apply az hJ _;refine aA fun P Q k=>?_;try simp only[av] at k
 refine aA fun R S l=>?_;try simp only[av] at l
 apply aC hJ;revert h;refine bS fun m n h=>?_;cases h;obtain ⟨T,U,j⟩:=cP n;obtain ⟨V,o,q,s,b⟩:=a.y.el _ _ j;obtain rfl:o=m.cells:=s;cases q;have u:=b 0 _ rfl;simp only[go_sem] at u;have w:=b 1 _ rfl;simp only[go_sem] at w;have x:=b 2 _ rfl;simp only[go_sem] at x;clear b j;apply ag _;apply aQ;simp only[*,go_sem]
def q6 (u0:(bN->bN->Option Bool))(i11:Nat)(a:bN)(st:bN):Option (Fl bN bN):=
 ai (u0 st a) fun b=>cond (b) (some (.nx a)) (some (.nx st))
def nq (u0:(bN->bN->Option Bool))(a:bN)(b:(List bN)):Option bN:=
 ai (bR (q6 u0) 0 b a) fun o=>aJ o (fun c=>some c) (fun _ _=>none) (fun r=>some r)
theorem tR {ro:Addr->Option Value}(u0:(bN->bN->Option Bool)){ey:FuncId}{eL eM:Array Value}(s:aR Tryz.prog ey=true/\∀(aW:Addr->Option Value),Ext ro aW->∀(i:bN) (j:bN) (z:Bool),u0 i j=some z->aD Tryz.prog ey (eL++#[i.v,j.v]++eM) ⟨aW,[]⟩ (fun v _=>v= .bool z))(c:bN)(b:(List bN)){s1:Value}(k:aH k9 ro s1 b){r:bN}(h:nq u0 c b=some r):aD Tryz.prog 56 #[.func (.func ey) eL eM,.agg #[.int .i64 c.spot.aV,.int .i64 c.spot.high.num,.int .i64 c.spot.high.den,.int .i64 c.at_,.int .i64 c.high.num,.int .i64 c.high.den],s1] ⟨ro,[]⟩ (fun v _=>v=r.v):=by
 obtain ⟨d3,c4,rfl,Z,l,-⟩:=id k;unfold nq at h;refine aD.go Tryz.func56 rfl Tryz.ntmps56 Tryz.results56 au fun main J hJ A t hd hs=>?_;have u:=hs 0;have k1:=hs 1;have w:=hs 2;clear hs;apply az hJ _;refine aA fun y ab B=>?_;try simp only[av] at B
 refine aA fun C ad D=>?_;try simp only[av] at D
 refine ah hJ (aC hJ ?_);apply ag _;apply aX hJ;revert h;refine bS fun E d F=>?_;refine cc hJ (rg 11 10 [8]) (fun m G F'=>∃(i11:Nat) (v10:bN),m=b.length - i11/\i11<=b.length/\bR (q6 u0) i11 (b.drop i11) v10=some E/\F'=⟨ro,(C,.cells #[.int .i64 0,.int .i64 0,.int .i64 0,.int .i64 0,.int .i64 0,.int .i64 0] 105)::(y,.cells #[.int .i64 v10.spot.aV,.int .i64 v10.spot.high.num,.int .i64 v10.spot.high.den,.int .i64 v10.at_,.int .i64 v10.high.num,.int .i64 v10.high.den] 105)::[]⟩/\slot G 11= .int .i64 (i11:Int)) b.length ?_ ?_
 .refine ⟨0,c,(Nat.sub_zero _).symm,Nat.zero_le _,d,rfl,?_⟩;simp only[*,go_sem]
 rintro ae al F' o ⟨i11,v10,rfl,ao,d,rfl,ar⟩;obtain ⟨H,I,K⟩:=o.pick [0,4,6,9,10] aB;simp only[*,go_sem] at H I K;clear o t hd u k1 w;apply az hJ _;apply ah hJ;rcases Nat.lt_or_ge i11 b.length with L|p
 .refine cB hJ ?_;apply aP hJ;obtain ⟨f,g⟩:∃x,b[i11]?=some x:=⟨_,List.getElem?_eq_getElem L⟩
  rw[dK g] at d;revert d;refine bS fun a0 h q=>?_;unfold q6 at h;try dsimp only at h
  obtain ⟨a2,M,N,O,e⟩:=k.el _ _ g;obtain rfl:M=f.cells:=O;cases N;have P:=e 0 _ rfl;simp only[go_sem] at P;have Q:=e 1 _ rfl;simp only[go_sem] at Q;have R:=e 2 _ rfl;simp only[go_sem] at R;have S:=e 3 _ rfl;simp only[go_sem] at S;have T:=e 4 _ rfl;simp only[go_sem] at T;have U:=e 5 _ rfl;simp only[go_sem] at U;clear e g;refine ah hJ (aX hJ (ah hJ ?_));apply aM hJ _;refine aA fun a3 a4 V=>?_;try simp only[av] at V
  apply aC hJ;revert h;refine bS fun a5 W h=>?_;apply ag _;refine bf hJ _ (s.2 _ (fun a v h=>bn a v h) v10 f _ W) ?_;revert h;refine bh hJ (fun X h=>?_) fun X h=>?_
  .cases h;apply aM hJ _;have Y:=cK (n:=i11) (by have:=l;omega);apply aM hJ _;refine ⟨b.length - (i11+1),aa,_,Le.sub (List.Sublist.cons _ (List.Sublist.refl _)),i11+1,f,rfl,aa,q,rfl,?_⟩;simp only[*,go_sem]
  cases h;apply aP hJ;have Y:=cK (n:=i11) (by have:=l;omega);apply aM hJ _;refine ⟨b.length - (i11+1),aa,_,Le.sub (List.Sublist.cons _ (List.Sublist.refl _)),i11+1,v10,rfl,aa,q,rfl,?_⟩;simp only[*,go_sem]
 have a6:=Nat.not_lt.2 p;refine cx hJ ?_;rw[List.drop_eq_nil_of_le p] at d;obtain rfl:=sI d;clear d;have h:=F;dsimp only[aJ] at h;cases h;apply b6;simp only[go_sem];apply az hJ _;apply aQ;simp only[*,go_sem]
def lp (u0:(ax->ax->Option Bool))(i11:Nat)(a:ax)(st:ax):Option (Fl ax ax):=
 ai (u0 st a) fun b=>cond (b) (some (.nx a)) (some (.nx st))
def gD (u0:(ax->ax->Option Bool))(a:ax)(b:(List ax)):Option ax:=
 ai (bR (lp u0) 0 b a) fun o=>aJ o (fun c=>some c) (fun _ _=>none) (fun r=>some r)
theorem oQ {ro:Addr->Option Value}(u0:(ax->ax->Option Bool)){ey:FuncId}{eL eM:Array Value}(s:aR Tryz.prog ey=true/\∀(aW:Addr->Option Value),Ext ro aW->∀(i:ax) (j:ax) (z:Bool),u0 i j=some z->aD Tryz.prog ey (eL++#[i.v,j.v]++eM) ⟨aW,[]⟩ (fun v _=>v= .bool z))(d:ax)(b:(List ax)){s1:Value}(k:aH mg ro s1 b){r:ax}(h:gD u0 d b=some r):aD Tryz.prog 93 #[.func (.func ey) eL eM,.agg #[.int .i64 d.num,.int .i64 d.den],s1] ⟨ro,[]⟩ (fun v _=>v=r.v):=by
 obtain ⟨d3,c4,rfl,V,l,-⟩:=id k;unfold gD at h;refine aD.go Tryz.func93 rfl Tryz.ntmps93 Tryz.results93 au fun main J hJ A t hd hs=>?_;have u:=hs 0;have k1:=hs 1;have w:=hs 2;clear hs;apply az hJ _;refine aA fun y W B=>?_;try simp only[av] at B
 refine aA fun C X D=>?_;try simp only[av] at D
 refine ah hJ (aC hJ ?_);apply ag _;apply aX hJ;revert h;refine bS fun E c F=>?_;refine cc hJ (rg 11 10 [8]) (fun m G F'=>∃(i11:Nat) (v10:ax),m=b.length - i11/\i11<=b.length/\bR (lp u0) i11 (b.drop i11) v10=some E/\F'=⟨ro,(C,rt 0 0)::(y,rt v10.num v10.den)::[]⟩/\slot G 11= .int .i64 (i11:Int)) b.length ?_ ?_
 .refine ⟨0,d,(Nat.sub_zero _).symm,Nat.zero_le _,c,rfl,?_⟩;simp only[*,go_sem]
 rintro Y Z F' o ⟨i11,v10,rfl,ab,c,rfl,ad⟩;obtain ⟨H,I,K⟩:=o.pick [0,4,6,9,10] aB;simp only[*,go_sem] at H I K;clear o t hd u k1 w;apply az hJ _;apply ah hJ;rcases Nat.lt_or_ge i11 b.length with L|p
 .refine cB hJ ?_;apply aP hJ;obtain ⟨e,f⟩:∃x,b[i11]?=some x:=⟨_,List.getElem?_eq_getElem L⟩
  rw[dK f] at c;revert c;refine bS fun ae h q=>?_;unfold lp at h;try dsimp only at h
  obtain ⟨al,M,N,O,g⟩:=k.el _ _ f;obtain rfl:M=e.cells:=O;cases N;have P:=g 0 _ rfl;simp only[go_sem] at P;have Q:=g 1 _ rfl;simp only[go_sem] at Q;clear g f;refine ah hJ (aX hJ (ah hJ ?_));apply aM hJ _;refine aA fun ao ar R=>?_;try simp only[av] at R
  apply aC hJ;revert h;refine bS fun a0 S h=>?_;apply ag _;refine bf hJ _ (s.2 _ (fun a v h=>bn a v h) v10 e _ S) ?_;revert h;refine bh hJ (fun T h=>?_) fun T h=>?_
  .cases h;apply aM hJ _;have U:=cK (n:=i11) (by have:=l;omega);apply aM hJ _;refine ⟨b.length - (i11+1),aa,_,Le.sub (List.Sublist.cons _ (List.Sublist.refl _)),i11+1,e,rfl,aa,q,rfl,?_⟩;simp only[*,go_sem]
  cases h;apply aP hJ;have U:=cK (n:=i11) (by have:=l;omega);apply aM hJ _;refine ⟨b.length - (i11+1),aa,_,Le.sub (List.Sublist.cons _ (List.Sublist.refl _)),i11+1,v10,rfl,aa,q,rfl,?_⟩;simp only[*,go_sem]
 have a2:=Nat.not_lt.2 p;refine cx hJ ?_;rw[List.drop_eq_nil_of_le p] at c;obtain rfl:=sI c;clear c;have h:=F;dsimp only[aJ] at h;cases h;apply b6;simp only[go_sem];apply az hJ _;apply aQ;simp only[*,go_sem]
def tS (u0:bN)(a:bN):Option Bool:=
 ai (jI a u0) fun b=>some b
theorem Ht {ro:Addr->Option Value}(u0:bN)(a:bN){r:Bool}(h:tS u0 a=some r):aD Tryz.prog 58 #[.agg #[.int .i64 u0.spot.aV,.int .i64 u0.spot.high.num,.int .i64 u0.spot.high.den,.int .i64 u0.at_,.int .i64 u0.high.num,.int .i64 u0.high.den],.agg #[.int .i64 a.spot.aV,.int .i64 a.spot.high.num,.int .i64 a.spot.high.den,.int .i64 a.at_,.int .i64 a.high.num,.int .i64 a.high.den]] ⟨ro,[]⟩ (fun v _=>v= .bool r):=by
 unfold tS at h;refine aD.go Tryz.func58 rfl Tryz.ntmps58 Tryz.results58 au fun main J hJ A c hd hs=>?_;have d:=hs 0;have k1:=hs 1;clear hs;apply az hJ _;refine aA fun e r1 n1=>?_;try simp only[av] at n1
 refine aA fun b2 r2 n2=>?_;try simp only[av] at n2
 apply aC hJ;revert h;refine bS fun f b h=>?_;cases h;apply ag _;refine bf hJ _ (tN a u0 b) (aO ?_);apply ag _;apply aQ;simp only[*,go_sem]
def nt (u0:ax)(a:ax):Option Bool:=
 ai (eV a u0) fun b=>some b
theorem Hu {ro:Addr->Option Value}(u0:ax)(a:ax){r:Bool}(h:nt u0 a=some r):aD Tryz.prog 92 #[.agg #[.int .i64 u0.num,.int .i64 u0.den],.agg #[.int .i64 a.num,.int .i64 a.den]] ⟨ro,[]⟩ (fun v _=>v= .bool r):=by
 unfold nt at h;refine aD.go Tryz.func92 rfl Tryz.ntmps92 Tryz.results92 au fun main J hJ A c hd hs=>?_;have d:=hs 0;have k1:=hs 1;clear hs;apply az hJ _;refine aA fun e r1 n1=>?_;try simp only[av] at n1
 refine aA fun b2 r2 n2=>?_;try simp only[av] at n2
 apply aC hJ;revert h;refine bS fun f b h=>?_;cases h;apply ag _;refine bf hJ _ (jH a u0 b) (aO ?_);apply ag _;apply aQ;simp only[*,go_sem]
def tT (u0:an)(i32:Nat)(a:bM)(st:Int):Option (Fl Int Int):=
 ai (oO u0 a.aY) fun b=>cond (!b) (some (.rt 6)) (some (.nx st))
def nu (u0:an):Option Int:=
 cond (decide (3<(u0.told.length:Int))) (some 2) (ai (bR (tT u0) 0 u0.told 0) fun o=>aJ o (fun a=>some 0) (fun _ _=>none) (fun r=>some r))
theorem Hv {ro:Addr->Option Value}(u0:an){s1 c d j:Value}(e:bW ro u0 s1 c d j){r:Int}(h:nu u0=some r):aD Tryz.prog 235 #[bv u0 s1 c d j] ⟨ro,[]⟩ (fun v _=>v= .int .i64 r):=by
 obtain ⟨d24,s,rfl,R,u,-⟩:=id e.t;unfold nu at h;refine aD.go Tryz.func235 rfl Tryz.ntmps235 Tryz.results235 au fun main J hJ A w hd hs=>?_;have y:=hs 0;clear hs;apply az hJ _;refine aA fun z S B=>?_;try simp only[av] at B
 refine ah hJ (aC hJ ?_);apply ag _;revert h;refine bh hJ (fun C h=>?_) fun C h=>?_
 .cases h;apply az hJ _;apply aQ;simp only[*,go_sem]
 refine aP hJ (ah hJ ?_);apply az hJ _;apply aX hJ;revert h;refine bS fun D a k=>?_;refine cc hJ (rg 14 10 [2,4]) (fun m l F'=>∃(i32:Nat) (b:Int),m=u0.told.length - i32/\i32<=u0.told.length/\bR (tT u0) i32 (u0.told.drop i32) b=some D/\F'=⟨ro,(z,bl u0 s1 c d (sl d24 u0.told s))::[]⟩/\slot l 14= .int .i64 (i32:Int)/\slot l 2= .int .i64 b) u0.told.length ?_ ?_
 .refine ⟨0,0,(Nat.sub_zero _).symm,Nat.zero_le _,a,rfl,?_⟩;simp only[*,go_sem]
 rintro T U F' o ⟨i32,b,rfl,V,a,rfl,W,X⟩;obtain ⟨E,F,G⟩:=o.pick [1,12,13] aB;simp only[*,go_sem] at E F G;clear o w hd y;apply az hJ _;apply ah hJ;rcases Nat.lt_or_ge i32 u0.told.length with H|p
 .refine cB hJ ?_;apply aP hJ;obtain ⟨q,f⟩:∃x,u0.told[i32]?=some x:=⟨_,List.getElem?_eq_getElem H⟩
  rw[dK f] at a;revert a;refine bS fun Y h g=>?_;unfold tT at h;try dsimp only at h
  obtain ⟨Z,I,K,L,i⟩:=e.t.el _ _ f;obtain rfl:I=q.cells:=L;cases K;have M:=i 0 _ rfl;simp only[go_sem] at M;have N:=i 1 _ rfl;simp only[go_sem] at N;clear i f;refine ah hJ (aX hJ (ah hJ ?_));apply aM hJ _;refine aA fun ab ad O=>?_;try simp only[av] at O
  apply aC hJ;revert h;refine bS fun ae P h=>?_;apply ag _;refine bf hJ _ (BW u0 (e.mono bn) q.aY P) (aO ?_);apply ag _;revert h;refine bh hJ (fun Q h=>?_) fun Q h=>?_
  .cases h;apply az hJ _;obtain rfl:=sI g;clear g;have h:=k;dsimp only[aJ] at h;cases h;apply aQ;simp only[*,go_sem]
  cases h;apply aP hJ;have al:=cK (n:=i32) (by have:=u;omega);apply aM hJ _;refine ⟨u0.told.length - (i32+1),aa,_,Le.sub (List.Sublist.cons _ (List.Sublist.refl _)),i32+1,b,rfl,aa,g,rfl,?_⟩;simp only[*,go_sem]
 have ao:=Nat.not_lt.2 p;refine cx hJ ?_;rw[List.drop_eq_nil_of_le p] at a;obtain rfl:=sI a;clear a;have h:=k;dsimp only[aJ] at h;cases h;apply b6;simp only[go_sem];apply az hJ _;apply aQ;simp only[*,go_sem]
def tU (i34:Nat)(a:cq)(st:Int):Option (Fl Int Int):=
 ai (fZ a.back 1 20) fun b=>cond (!b) (some (.rt 1)) (ai (qZ a.high 0 60) fun c=>cond (!c) (some (.rt 1)) (cond (decide (3<=(IntKind.i64.wrap (a.high.high - a.high.low)))) (some (.rt 1)) (some (.nx st))))
def nv (u0:an):Option Int:=
 ai (fZ (u0.aF.length:Int) 1 3) fun a=>cond (!a) (some 2) (ai (bR (tU) 0 u0.aF 0) fun o=>aJ o (fun b=>some 0) (fun _ _=>none) (fun r=>some r))
theorem Hw {ro:Addr->Option Value}(u0:an){s1 f k g:Value}(l:bW ro u0 s1 f k g){r:Int}(h:nv u0=some r):aD Tryz.prog 234 #[bv u0 s1 f k g] ⟨ro,[]⟩ (fun v _=>v= .int .i64 r):=by
 obtain ⟨d17,s,rfl,W,t,-⟩:=id l.y;unfold nv at h;refine aD.go Tryz.func234 rfl Tryz.ntmps234 Tryz.results234 au fun main J hJ A u hd hs=>?_;have w:=hs 0;clear hs;apply az hJ _;refine aA fun z X B=>?_;try simp only[av] at B
 refine ah hJ (aC hJ ?_);revert h;refine bS fun Y C h=>?_;apply ag _;refine bf hJ _ (gQ (u0.aF.length:Int) 1 3 C) (aO ?_);apply ag _;revert h;refine bh hJ (fun D h=>?_) fun D h=>?_
 .cases h;apply az hJ _;apply aQ;simp only[*,go_sem]
 refine aP hJ (ah hJ ?_);apply az hJ _;apply aX hJ;revert h;refine bS fun E a c=>?_;refine cc hJ (rg 15 25 [2,4]) (fun m o F'=>∃(i34:Nat) (d:Int),m=u0.aF.length - i34/\i34<=u0.aF.length/\bR (tU) i34 (u0.aF.drop i34) d=some E/\F'=⟨ro,(z,bl u0 s1 f (sl d17 u0.aF s) g)::[]⟩/\slot o 15= .int .i64 (i34:Int)/\slot o 2= .int .i64 d) u0.aF.length ?_ ?_
 .refine ⟨0,0,(Nat.sub_zero _).symm,Nat.zero_le _,a,rfl,?_⟩;simp only[*,go_sem]
 rintro Z ab F' p ⟨i34,d,rfl,ad,a,rfl,ae,al⟩;obtain ⟨F,G,H⟩:=p.pick [13,14] aB;simp only[*,go_sem] at F G H;clear p u hd w;apply az hJ _;apply ah hJ;rcases Nat.lt_or_ge i34 u0.aF.length with I|q
 .refine cB hJ ?_;apply aP hJ;obtain ⟨i,j⟩:∃x,u0.aF[i34]?=some x:=⟨_,List.getElem?_eq_getElem I⟩
  rw[dK j] at a;revert a;refine bS fun ao h b=>?_;unfold tU at h;try dsimp only at h
  obtain ⟨ar,K,L,M,e⟩:=l.y.el _ _ j;obtain rfl:K=i.cells:=M;cases L;have N:=e 0 _ rfl;simp only[go_sem] at N;have O:=e 1 _ rfl;simp only[go_sem] at O;have P:=e 2 _ rfl;simp only[go_sem] at P;clear e j;refine ah hJ (aX hJ (ah hJ ?_));apply aM hJ _;refine aA fun a0 a2 Q=>?_;try simp only[av] at Q
  apply aC hJ;revert h;refine bS fun a3 R h=>?_;apply ag _;refine bf hJ _ (gQ i.back 1 20 R) (aO ?_);revert h;refine cS (fun S h=>?_) fun S h=>?_
  .cases h;apply ag _;refine cB hJ ?_;apply az hJ _;obtain rfl:=sI b;clear b;have h:=c;dsimp only[aJ] at h;cases h;apply aQ;simp only[*,go_sem]
  revert h;refine bS fun a4 T h=>?_;apply ag _;refine bf hJ _ (BV i.high 0 60 T) (aO ?_);revert h;refine cS (fun U h=>?_) fun U h=>?_
  .cases h;apply ag _;refine cB hJ ?_;apply az hJ _;obtain rfl:=sI b;clear b;have h:=c;dsimp only[aJ] at h;cases h;apply aQ;simp only[*,go_sem]
  apply ag _;revert h;refine bh hJ (fun V h=>?_) fun V h=>?_
  .cases h;apply az hJ _;obtain rfl:=sI b;clear b;have h:=c;dsimp only[aJ] at h;cases h;apply aQ;simp only[*,go_sem]
  cases h;apply aP hJ;have a5:=cK (n:=i34) (by have:=t;omega);apply aM hJ _;refine ⟨u0.aF.length - (i34+1),aa,_,Le.sub (List.Sublist.cons _ (List.Sublist.refl _)),i34+1,d,rfl,aa,b,rfl,?_⟩;simp only[*,go_sem]
 have a6:=Nat.not_lt.2 q;refine cx hJ ?_;rw[List.drop_eq_nil_of_le q] at a;obtain rfl:=sI a;clear a;have h:=c;dsimp only[aJ] at h;cases h;apply b6;simp only[go_sem];apply az hJ _;apply aQ;simp only[*,go_sem]
def tV (u0:an)(i32:Nat)(a:cF)(st:Int):Option (Fl Int Int):=
 ai (gR u0 a.place) fun c=>cond (!c) (some (.rt 6)) (ai (iM a.dS u0) fun b=>cond ((b != 0)) (some (.rt b)) (some (.nx st)))
def ny (u0:an):Option Int:=
 cond (decide (3<(u0.props.length:Int))) (some 2) (ai (bR (tV u0) 0 u0.props 0) fun o=>aJ o (fun a=>some 0) (fun _ _=>none) (fun r=>some r))
theorem Hx {ro:Addr->Option Value}(u0:an){s1 l e f:Value}(c:bW ro u0 s1 l e f){r:Int}(h:ny u0=some r):aD Tryz.prog 233 #[bv u0 s1 l e f] ⟨ro,[]⟩ (fun v _=>v= .int .i64 r):=by
 obtain ⟨d10,t,rfl,T,u,-⟩:=id c.p;unfold ny at h;refine aD.go Tryz.func233 rfl Tryz.ntmps233 Tryz.results233 au fun main J hJ A w hd hs=>?_;have y:=hs 0;clear hs;apply az hJ _;refine aA fun z U B=>?_;try simp only[av] at B
 refine ah hJ (aC hJ ?_);apply ag _;revert h;refine bh hJ (fun C h=>?_) fun C h=>?_
 .cases h;apply az hJ _;apply aQ;simp only[*,go_sem]
 refine aP hJ (ah hJ ?_);apply az hJ _;apply aX hJ;revert h;refine bS fun D a g=>?_;refine cc hJ (rg 15 17 [2,4,5]) (fun m o F'=>∃(i32:Nat) (d:Int),m=u0.props.length - i32/\i32<=u0.props.length/\bR (tV u0) i32 (u0.props.drop i32) d=some D/\F'=⟨ro,(z,bl u0 s1 (sl d10 u0.props t) e f)::[]⟩/\slot o 15= .int .i64 (i32:Int)/\slot o 2= .int .i64 d) u0.props.length ?_ ?_
 .refine ⟨0,0,(Nat.sub_zero _).symm,Nat.zero_le _,a,rfl,?_⟩;simp only[*,go_sem]
 rintro V W F' q ⟨i32,d,rfl,X,a,rfl,Y,Z⟩;obtain ⟨E,F,G⟩:=q.pick [1,13,14] aB;simp only[*,go_sem] at E F G;clear q w hd y;apply az hJ _;apply ah hJ;rcases Nat.lt_or_ge i32 u0.props.length with H|s
 .refine cB hJ ?_;apply aP hJ;obtain ⟨i,j⟩:∃x,u0.props[i32]?=some x:=⟨_,List.getElem?_eq_getElem H⟩
  rw[dK j] at a;revert a;refine bS fun ab h b=>?_;unfold tV at h;try dsimp only at h
  obtain ⟨ad,I,K,L,k⟩:=c.p.el _ _ j;obtain rfl:I=i.cells:=L;cases K;have M:=k 0 _ rfl;simp only[go_sem] at M;have N:=k 1 _ rfl;simp only[go_sem] at N;clear k j;refine ah hJ (aX hJ (ah hJ ?_));apply aM hJ _;refine aA fun ae al O=>?_;try simp only[av] at O
  refine ah hJ (aC hJ ?_);revert h;refine bS fun ao P h=>?_;apply ag _;refine bf hJ _ (tP u0 (c.mono bn) i.place P) (aO ?_);apply ag _;revert h;refine bh hJ (fun Q h=>?_) fun Q h=>?_
  .cases h;apply az hJ _;obtain rfl:=sI b;clear b;have h:=g;dsimp only[aJ] at h;cases h;apply aQ;simp only[*,go_sem]
  refine aP hJ (ah hJ ?_);apply aS hJ;revert h;refine bS fun ar R h=>?_;apply ag _;refine bf hJ _ (xj i.dS u0 (c.mono bn) R) (aO ?_);apply ag _;apply az hJ _;revert h;refine bh hJ (fun S h=>?_) fun S h=>?_
  .cases h;apply az hJ _;obtain rfl:=sI b;clear b;have h:=g;dsimp only[aJ] at h;cases h;apply aQ;simp only[*,go_sem]
  cases h;apply aP hJ;have a0:=cK (n:=i32) (by have:=u;omega);apply aM hJ _;refine ⟨u0.props.length - (i32+1),aa,_,Le.sub (List.Sublist.cons _ (List.Sublist.refl _)),i32+1,d,rfl,aa,b,rfl,?_⟩;simp only[*,go_sem]
 have a2:=Nat.not_lt.2 s;refine cx hJ ?_;rw[List.drop_eq_nil_of_le s] at a;obtain rfl:=sI a;clear a;have h:=g;dsimp only[aJ] at h;cases h;apply b6;simp only[go_sem];apply az hJ _;apply aQ;simp only[*,go_sem]
def tX (u0:an)(i34:Nat)(a:cv)(st:Int):Option (Fl Int Int):=
 ai (fZ a.aV 0 (IntKind.i64.wrap (u0.bV - 1))) fun b=>cond (!b) (some (.rt 1)) (ai (fZ a.high 0 60) fun c=>cond (!c) (some (.rt 1)) (cond (decide (0<(i34:Int))) (ai (bD u0.aE (IntKind.i64.wrap ((i34:Int) - 1))) fun d=>cond (decide (a.aV<=d.aV)) (some (.rt 7)) (some (.nx st))) (some (.nx st))))
def mh (u0:an):Option Int:=
 ai (fZ (u0.aE.length:Int) 2 5) fun a=>cond (!a) (some 2) (ai (bR (tX u0) 0 u0.aE 0) fun o=>aJ o (fun b=>some 0) (fun _ _=>none) (fun r=>some r))
theorem Hy {ro:Addr->Option Value}(u0:an){s1 f g i:Value}(j:bW ro u0 s1 f g i){r:Int}(h:mh u0=some r):aD Tryz.prog 232 #[bv u0 s1 f g i] ⟨ro,[]⟩ (fun v _=>v= .int .i64 r):=by
 obtain ⟨d3,c4,rfl,ar,q,-⟩:=id j.e;unfold mh at h;refine aD.go Tryz.func232 rfl Tryz.ntmps232 Tryz.results232 au fun main J hJ A y hd hs=>?_;have z:=hs 0;clear hs;apply az hJ _;refine aA fun B a0 C=>?_;try simp only[av] at C
 refine ah hJ (aC hJ ?_);revert h;refine bS fun a2 D h=>?_;apply ag _;refine bf hJ _ (gQ (u0.aE.length:Int) 2 5 D) (aO ?_);apply ag _;revert h;refine bh hJ (fun E h=>?_) fun E h=>?_
 .cases h;apply az hJ _;apply aQ;simp only[*,go_sem]
 refine aP hJ (ah hJ ?_);apply az hJ _;apply aX hJ;revert h;refine bS fun F b d=>?_;refine cc hJ (rg 15 35 [2,3,4]) (fun m s F'=>∃(i34:Nat) (c:Int),m=u0.aE.length - i34/\i34<=u0.aE.length/\bR (tX u0) i34 (u0.aE.drop i34) c=some F/\F'=⟨ro,(B,bl u0 (sl d3 u0.aE c4) f g i)::[]⟩/\slot s 15= .int .i64 (i34:Int)/\slot s 2= .int .i64 c) u0.aE.length ?_ ?_
 .refine ⟨0,0,(Nat.sub_zero _).symm,Nat.zero_le _,b,rfl,?_⟩;simp only[*,go_sem]
 rintro a3 a4 F' t ⟨i34,c,rfl,a5,b,rfl,a6,a7⟩;obtain ⟨G,H,I⟩:=t.pick [1,13,14] aB;simp only[*,go_sem] at G H I;clear t y hd z;apply az hJ _;apply ah hJ;rcases Nat.lt_or_ge i34 u0.aE.length with K|u
 .refine cB hJ ?_;apply aP hJ;obtain ⟨k,l⟩:∃x,u0.aE[i34]?=some x:=⟨_,List.getElem?_eq_getElem K⟩
  rw[dK l] at b;revert b;refine bS fun a8 h a=>?_;unfold tX at h;try dsimp only at h
  obtain ⟨a9,L,M,N,o⟩:=j.e.el _ _ l;obtain rfl:L=k.cells:=N;cases M;have O:=o 0 _ rfl;simp only[go_sem] at O;have P:=o 1 _ rfl;simp only[go_sem] at P;clear o l;refine ah hJ (aX hJ (ah hJ ?_));apply aM hJ _;refine aA fun ba bb Q=>?_;try simp only[av] at Q
  refine aX hJ (ah hJ ?_);apply aC hJ;revert h;refine bS fun bc R h=>?_;apply ag _;refine bf hJ _ (gQ k.aV 0 (IntKind.i64.wrap (u0.bV - 1)) R) (aO ?_);apply ag _;revert h;refine bh hJ (fun S h=>?_) fun S h=>?_
  .cases h;apply aP hJ;refine cB hJ ?_;apply az hJ _;obtain rfl:=sI a;clear a;have h:=d;dsimp only[aJ] at h;cases h;apply aQ;simp only[*,go_sem]
  apply aS hJ;revert h;refine bS fun bd T h=>?_;apply ag _;refine bf hJ _ (gQ k.high 0 60 T) (aO ?_);apply ag _;revert h;refine bh hJ (fun U h=>?_) fun U h=>?_
  .cases h;apply az hJ _;obtain rfl:=sI a;clear a;have h:=d;dsimp only[aJ] at h;cases h;apply aQ;simp only[*,go_sem]
  apply ah hJ;refine dh hJ mixed 16 2 aN aj ?_;revert h;refine cS (fun V h=>?_) fun V h=>?_
  .revert h;refine bS fun W X h=>?_;obtain ⟨bj,bk,w⟩:=cP X;obtain ⟨bm,Y,Z,ab,p⟩:=j.e.el _ _ w;obtain rfl:Y=W.cells:=ab;cases Z;have ad:=p 0 _ rfl;simp only[go_sem] at ad;have ae:=p 1 _ rfl;simp only[go_sem] at ae;clear p w;apply ag _;revert h;refine bh hJ (fun al h=>?_) fun al h=>?_
   .cases h;apply az hJ _;obtain rfl:=sI a;clear a;have h:=d;dsimp only[aJ] at h;cases h;apply aQ;simp only[*,go_sem]
   cases h;apply aP hJ;have ao:=cK (n:=i34) (by have:=q;omega);apply aM hJ _;refine ⟨u0.aE.length - (i34+1),aa,_,Le.sub (List.Sublist.cons _ (List.Sublist.refl _)),i34+1,c,rfl,aa,a,rfl,?_⟩;simp only[*,go_sem]
  cases h;apply ag _;refine cx hJ ?_;apply aP hJ;have ao:=cK (n:=i34) (by have:=q;omega);apply aM hJ _;refine ⟨u0.aE.length - (i34+1),aa,_,Le.sub (List.Sublist.cons _ (List.Sublist.refl _)),i34+1,c,rfl,aa,a,rfl,?_⟩;simp only[*,go_sem]
 have bo:=Nat.not_lt.2 u;refine cx hJ ?_;rw[List.drop_eq_nil_of_le u] at b;obtain rfl:=sI b;clear b;have h:=d;dsimp only[aJ] at h;cases h;apply b6;simp only[go_sem];apply az hJ _;apply aQ;simp only[*,go_sem]
def oR (u0:an):Option Int:=
 ai (fZ u0.bV 2 60) fun b=>cond (!b) (some 1) (ai (fZ u0.bU 0 60) fun c=>cond (!c) (some 1) (ai (fZ u0.bq.den 1 20) fun d=>cond (!d) (some 1) (ai (fZ u0.bq.num 0 20) fun e=>cond (!e) (some 1) (ai (lf u0.bq.num u0.bq.den) fun a=>cond (!((a.num==u0.bq.num)&&(a.den==u0.bq.den))) (some 3) (some 0)))))
theorem Hz {ro:Addr->Option Value}(u0:an){s1 a b c:Value}(z:bW ro u0 s1 a b c){r:Int}(h:oR u0=some r):aD Tryz.prog 231 #[bv u0 s1 a b c] ⟨ro,[]⟩ (fun v _=>v= .int .i64 r):=by
 unfold oR at h;refine aD.go Tryz.func231 rfl Tryz.ntmps231 Tryz.results231 au fun main J hJ A d hd hs=>?_;have e:=hs 0;clear hs;apply az hJ _;refine aA fun B C f=>?_;try simp only[av] at f
 refine ah hJ (aX hJ (ah hJ ?_));apply aC hJ;revert h;refine bS fun D g h=>?_;apply ag _;refine bf hJ _ (gQ u0.bV 2 60 g) (aO ?_);apply ag _;revert h;refine bh hJ (fun i h=>?_) fun i h=>?_
 .cases h;apply aP hJ;refine cB hJ ?_;apply az hJ _;apply aQ;simp only[*,go_sem]
 apply aC hJ;revert h;refine bS fun E j h=>?_;apply ag _;refine bf hJ _ (gQ u0.bU 0 60 j) (aO ?_);apply ag _;revert h;refine bh hJ (fun k h=>?_) fun k h=>?_
 .cases h;apply aP hJ;refine cB hJ ?_;apply az hJ _;apply aQ;simp only[*,go_sem]
 apply aC hJ;revert h;refine bS fun G l h=>?_;apply ag _;refine bf hJ _ (gQ u0.bq.den 1 20 l) (aO ?_);apply ag _;revert h;refine bh hJ (fun m h=>?_) fun m h=>?_
 .cases h;apply aP hJ;refine cB hJ ?_;apply az hJ _;apply aQ;simp only[*,go_sem]
 apply aS hJ;revert h;refine bS fun H n h=>?_;apply ag _;refine bf hJ _ (gQ u0.bq.num 0 20 n) (aO ?_);apply ag _;revert h;refine bh hJ (fun o h=>?_) fun o h=>?_
 .cases h;apply az hJ _;apply aQ;simp only[*,go_sem]
 apply ah hJ;refine dh hJ mixed 14 1 aN aj ?_;revert h;refine bS fun I p h=>?_;apply ag _;refine ⟨_,bL hJ fun F K=>q3 u0.bq.num u0.bq.den p,cr ?_⟩;apply ag _;revert h;refine bh hJ (fun q h=>?_) fun q h=>?_
 .cases h;apply ah hJ;refine fY [2] fun L s t u=>?_;simp only[*,go_sem] at s t u;clear d hd e;apply aM hJ _;apply aQ;simp only[*,go_sem]
 cases h;refine aP hJ (ah hJ ?_);refine fY [2] fun M w x y=>?_;simp only[*,go_sem] at w x y;clear d hd e;apply aM hJ _;apply aQ;simp only[*,go_sem]
def dH (ro:Addr->Option Value):Prop:=
 ro ⟨0,0,none⟩=some (.func (.func 231) #[] #[])/\ro ⟨0,1,none⟩=some (.func (.func 232) #[] #[])/\ro ⟨0,2,none⟩=some (.func (.func 233) #[] #[])/\ro ⟨0,3,none⟩=some (.func (.func 234) #[] #[])/\ro ⟨0,4,none⟩=some (.func (.func 235) #[] #[])
theorem dH.mono {ro aW:Addr->Option Value}(h:dH ro)(a:Ext ro aW):dH aW:=
 ⟨a _ _ h.1,a _ _ h.2.1,a _ _ h.2.2.1,a _ _ h.2.2.2.1,a _ _ h.2.2.2.2⟩
def oS (_:an):Option Int:=some 0
def mj (b:an):Option Int:=ai (nu b) fun x=>cond (x != 0) (some x) (oS b)
def mm (b:an):Option Int:=ai (nv b) fun x=>cond (x != 0) (some x) (mj b)
def mo (b:an):Option Int:=ai (ny b) fun x=>cond (x != 0) (some x) (mm b)
def mq (b:an):Option Int:=ai (mh b) fun x=>cond (x != 0) (some x) (mo b)
def jJ (b:an):Option Int:=ai (oR b) fun x=>cond (x != 0) (some x) (mq b)
def fe (b:an):Option Int:=jJ b
def tY:Nat->an->Option Int
 |0=>jJ|1=>mq|2=>mo|3=>mm|4=>mj|_=>oS
theorem BY {ro:Addr->Option Value}(n:dH ro)(u0:an){s1:Value}(d:aH fH ro s1 u0.aE){s2:Value}(e:aH eU ro s2 u0.props){f:Value}(g:aH fo ro f u0.aF){j:Value}(k:aH dG ro j u0.told){r:Int}(h:fe u0=some r):
  aD Tryz.prog 115 #[.agg #[.int .i64 u0.bV,.int .i64 u0.bU,.int .i64 u0.bq.num,.int .i64 u0.bq.den,s1,s2,f,j]] ⟨ro,[]⟩ (fun v _=>v= .int .i64 r):=by
 obtain ⟨p,s,t,u,w⟩:=n
 replace h:tY 0 u0=some r:=h
 refine aD.go Tryz.func115 rfl Tryz.ntmps115 Tryz.results115 au fun main J hJ A o hd hs=>?_
 have y:=hs 0
 clear hs
 first|refine aS hJ ?_|refine aC hJ ?_|refine ah hJ (aC hJ ?_)|refine ah hJ (ah hJ (aC hJ ?_))
 apply ag _
 intro c f1;have r1:=e8 f1;have n1:=gr f1;simp only[av] at n1
 first|refine aS hJ ?_|refine aC hJ ?_|refine ah hJ (aC hJ ?_)|refine ah hJ (ah hJ (aC hJ ?_))
 apply ag _
 first|refine aX hJ (wN hJ (fun m a F=>∃i:Nat,F=⟨ro,[(c,.cells #[.int .i64 u0.bV,.int .i64 u0.bU,.int .i64 u0.bq.num,.int .i64 u0.bq.den,s1,s2,f,j] 29)]⟩/\m=5 - i/\sz a=18/\a.defers=[]/\slot a 1= .pointer (some ⟨c,0,none⟩)/\slot a 6= .agg #[.func (.func 231) #[] #[],.func (.func 232) #[] #[],.func (.func 233) #[] #[],.func (.func 234) #[] #[],.func (.func 235) #[] #[]]/\slot a 7= .int .i64 i/\i<=5/\tY i u0=some r) (5) ?_ ?_)|refine ah hJ (aX hJ (wN hJ (fun m a F=>∃i:Nat,F=⟨ro,[(c,.cells #[.int .i64 u0.bV,.int .i64 u0.bU,.int .i64 u0.bq.num,.int .i64 u0.bq.den,s1,s2,f,j] 29)]⟩/\m=5 - i/\sz a=18/\a.defers=[]/\slot a 1= .pointer (some ⟨c,0,none⟩)/\slot a 6= .agg #[.func (.func 231) #[] #[],.func (.func 232) #[] #[],.func (.func 233) #[] #[],.func (.func 234) #[] #[],.func (.func 235) #[] #[]]/\slot a 7= .int .i64 i/\i<=5/\tY i u0=some r) (5) ?_ ?_))|refine ah hJ (ah hJ (aX hJ (wN hJ (fun m a F=>∃i:Nat,F=⟨ro,[(c,.cells #[.int .i64 u0.bV,.int .i64 u0.bU,.int .i64 u0.bq.num,.int .i64 u0.bq.den,s1,s2,f,j] 29)]⟩/\m=5 - i/\sz a=18/\a.defers=[]/\slot a 1= .pointer (some ⟨c,0,none⟩)/\slot a 6= .agg #[.func (.func 231) #[] #[],.func (.func 232) #[] #[],.func (.func 233) #[] #[],.func (.func 234) #[] #[],.func (.func 235) #[] #[]]/\slot a 7= .int .i64 i/\i<=5/\tY i u0=some r) (5) ?_ ?_)))
 .refine ⟨0,rfl,rfl,?_⟩
  apply bY _
  first|exact ⟨Nat.zero_le _,h⟩|exact h
 .clear h
  rintro m a F ⟨i,rfl,rfl,o,hd,z,B,C,hi,h⟩
  rcases i with _|_|_|_|_|i
  .replace h:ai (oR u0) (fun x=>cond (x != 0) (some x) (mq u0))=some r:=h
   have b:=gy h;clear h;obtain ⟨x,q,h⟩:=b
   have l:((0:Nat):Int)=0:=rfl
   first|refine aS hJ ?_|refine aC hJ ?_|refine ah hJ (aC hJ ?_)|refine ah hJ (ah hJ (aC hJ ?_))
   apply bY _
   apply ah hJ
   refine eC hJ dI ?_
   apply aP hJ
   refine ah hJ (aX hJ ?_)
   first|refine aS hJ ?_|refine aC hJ ?_|refine ah hJ (aC hJ ?_)|refine ah hJ (ah hJ (aC hJ ?_))
   apply bY _
   first|refine aS hJ ?_|refine aC hJ ?_|refine ah hJ (aC hJ ?_)|refine ah hJ (ah hJ (aC hJ ?_))
   apply bY _
   refine bf hJ _ (Hz u0 ⟨(d.mono bn),(e.mono bn),(g.mono bn),(k.mono bn)⟩ q) (aO ?_)
   apply bY _
   first|refine aS hJ ?_|refine aC hJ ?_|refine ah hJ (aC hJ ?_)|refine ah hJ (ah hJ (aC hJ ?_))
   apply bY _
   have b:=jE h;clear h;rcases b with ⟨hc,h⟩|⟨hc,h⟩
   .refine eC hJ dI ?_
    first|refine aS hJ ?_|refine aC hJ ?_|refine ah hJ (aC hJ ?_)|refine ah hJ (ah hJ (aC hJ ?_))
    apply bY _
    have b:=Option.some.inj h;clear h;subst b
    apply aQ
    simp only[*,go_sem]
   .refine eu hJ dI ?_
    apply aP hJ
    apply aS hJ
    apply bY _
    refine ⟨5 - 1,aa,_,Le.refl _,1,rfl,rfl,?_⟩
    have hw:IntKind.i64.wrap (0+1)=((1:Nat):Int):=aB
    apply bY _
    first|exact ⟨aa,h⟩|exact h
  .replace h:ai (mh u0) (fun x=>cond (x != 0) (some x) (mo u0))=some r:=h
   have b:=gy h;clear h;obtain ⟨x,q,h⟩:=b
   have l:((0+1:Nat):Int)=1:=rfl
   first|refine aS hJ ?_|refine aC hJ ?_|refine ah hJ (aC hJ ?_)|refine ah hJ (ah hJ (aC hJ ?_))
   apply bY _
   apply ah hJ
   refine eC hJ dI ?_
   apply aP hJ
   refine ah hJ (aX hJ ?_)
   first|refine aS hJ ?_|refine aC hJ ?_|refine ah hJ (aC hJ ?_)|refine ah hJ (ah hJ (aC hJ ?_))
   apply bY _
   first|refine aS hJ ?_|refine aC hJ ?_|refine ah hJ (aC hJ ?_)|refine ah hJ (ah hJ (aC hJ ?_))
   apply bY _
   refine bf hJ _ (Hy u0 ⟨(d.mono bn),(e.mono bn),(g.mono bn),(k.mono bn)⟩ q) (aO ?_)
   apply bY _
   first|refine aS hJ ?_|refine aC hJ ?_|refine ah hJ (aC hJ ?_)|refine ah hJ (ah hJ (aC hJ ?_))
   apply bY _
   have b:=jE h;clear h;rcases b with ⟨hc,h⟩|⟨hc,h⟩
   .refine eC hJ dI ?_
    first|refine aS hJ ?_|refine aC hJ ?_|refine ah hJ (aC hJ ?_)|refine ah hJ (ah hJ (aC hJ ?_))
    apply bY _
    have b:=Option.some.inj h;clear h;subst b
    apply aQ
    simp only[*,go_sem]
   .refine eu hJ dI ?_
    apply aP hJ
    apply aS hJ
    apply bY _
    refine ⟨5 - 2,aa,_,Le.refl _,2,rfl,rfl,?_⟩
    have hw:IntKind.i64.wrap (1+1)=((2:Nat):Int):=aB
    apply bY _
    first|exact ⟨aa,h⟩|exact h
  .replace h:ai (ny u0) (fun x=>cond (x != 0) (some x) (mm u0))=some r:=h
   have b:=gy h;clear h;obtain ⟨x,q,h⟩:=b
   have l:((0+1+1:Nat):Int)=2:=rfl
   first|refine aS hJ ?_|refine aC hJ ?_|refine ah hJ (aC hJ ?_)|refine ah hJ (ah hJ (aC hJ ?_))
   apply bY _
   apply ah hJ
   refine eC hJ dI ?_
   apply aP hJ
   refine ah hJ (aX hJ ?_)
   first|refine aS hJ ?_|refine aC hJ ?_|refine ah hJ (aC hJ ?_)|refine ah hJ (ah hJ (aC hJ ?_))
   apply bY _
   first|refine aS hJ ?_|refine aC hJ ?_|refine ah hJ (aC hJ ?_)|refine ah hJ (ah hJ (aC hJ ?_))
   apply bY _
   refine bf hJ _ (Hx u0 ⟨(d.mono bn),(e.mono bn),(g.mono bn),(k.mono bn)⟩ q) (aO ?_)
   apply bY _
   first|refine aS hJ ?_|refine aC hJ ?_|refine ah hJ (aC hJ ?_)|refine ah hJ (ah hJ (aC hJ ?_))
   apply bY _
   have b:=jE h;clear h;rcases b with ⟨hc,h⟩|⟨hc,h⟩
   .refine eC hJ dI ?_
    first|refine aS hJ ?_|refine aC hJ ?_|refine ah hJ (aC hJ ?_)|refine ah hJ (ah hJ (aC hJ ?_))
    apply bY _
    have b:=Option.some.inj h;clear h;subst b
    apply aQ
    simp only[*,go_sem]
   .refine eu hJ dI ?_
    apply aP hJ
    apply aS hJ
    apply bY _
    refine ⟨5 - 3,aa,_,Le.refl _,3,rfl,rfl,?_⟩
    have hw:IntKind.i64.wrap (2+1)=((3:Nat):Int):=aB
    apply bY _
    first|exact ⟨aa,h⟩|exact h
  .replace h:ai (nv u0) (fun x=>cond (x != 0) (some x) (mj u0))=some r:=h
   have b:=gy h;clear h;obtain ⟨x,q,h⟩:=b
   have l:((0+1+1+1:Nat):Int)=3:=rfl
   first|refine aS hJ ?_|refine aC hJ ?_|refine ah hJ (aC hJ ?_)|refine ah hJ (ah hJ (aC hJ ?_))
   apply bY _
   apply ah hJ
   refine eC hJ dI ?_
   apply aP hJ
   refine ah hJ (aX hJ ?_)
   first|refine aS hJ ?_|refine aC hJ ?_|refine ah hJ (aC hJ ?_)|refine ah hJ (ah hJ (aC hJ ?_))
   apply bY _
   first|refine aS hJ ?_|refine aC hJ ?_|refine ah hJ (aC hJ ?_)|refine ah hJ (ah hJ (aC hJ ?_))
   apply bY _
   refine bf hJ _ (Hw u0 ⟨(d.mono bn),(e.mono bn),(g.mono bn),(k.mono bn)⟩ q) (aO ?_)
   apply bY _
   first|refine aS hJ ?_|refine aC hJ ?_|refine ah hJ (aC hJ ?_)|refine ah hJ (ah hJ (aC hJ ?_))
   apply bY _
   have b:=jE h;clear h;rcases b with ⟨hc,h⟩|⟨hc,h⟩
   .refine eC hJ dI ?_
    first|refine aS hJ ?_|refine aC hJ ?_|refine ah hJ (aC hJ ?_)|refine ah hJ (ah hJ (aC hJ ?_))
    apply bY _
    have b:=Option.some.inj h;clear h;subst b
    apply aQ
    simp only[*,go_sem]
   .refine eu hJ dI ?_
    apply aP hJ
    apply aS hJ
    apply bY _
    refine ⟨5 - 4,aa,_,Le.refl _,4,rfl,rfl,?_⟩
    have hw:IntKind.i64.wrap (3+1)=((4:Nat):Int):=aB
    apply bY _
    first|exact ⟨aa,h⟩|exact h
  .replace h:ai (nu u0) (fun x=>cond (x != 0) (some x) (oS u0))=some r:=h
   have b:=gy h;clear h;obtain ⟨x,q,h⟩:=b
   have l:((0+1+1+1+1:Nat):Int)=4:=rfl
   first|refine aS hJ ?_|refine aC hJ ?_|refine ah hJ (aC hJ ?_)|refine ah hJ (ah hJ (aC hJ ?_))
   apply bY _
   apply ah hJ
   refine eC hJ dI ?_
   apply aP hJ
   refine ah hJ (aX hJ ?_)
   first|refine aS hJ ?_|refine aC hJ ?_|refine ah hJ (aC hJ ?_)|refine ah hJ (ah hJ (aC hJ ?_))
   apply bY _
   first|refine aS hJ ?_|refine aC hJ ?_|refine ah hJ (aC hJ ?_)|refine ah hJ (ah hJ (aC hJ ?_))
   apply bY _
   refine bf hJ _ (Hv u0 ⟨(d.mono bn),(e.mono bn),(g.mono bn),(k.mono bn)⟩ q) (aO ?_)
   apply bY _
   first|refine aS hJ ?_|refine aC hJ ?_|refine ah hJ (aC hJ ?_)|refine ah hJ (ah hJ (aC hJ ?_))
   apply bY _
   have b:=jE h;clear h;rcases b with ⟨hc,h⟩|⟨hc,h⟩
   .refine eC hJ dI ?_
    first|refine aS hJ ?_|refine aC hJ ?_|refine ah hJ (aC hJ ?_)|refine ah hJ (ah hJ (aC hJ ?_))
    apply bY _
    have b:=Option.some.inj h;clear h;subst b
    apply aQ
    simp only[*,go_sem]
   .refine eu hJ dI ?_
    apply aP hJ
    apply aS hJ
    apply bY _
    refine ⟨5 - 5,aa,_,Le.refl _,5,rfl,rfl,?_⟩
    have hw:IntKind.i64.wrap (4+1)=((5:Nat):Int):=aB
    apply bY _
    first|exact ⟨aa,h⟩|exact h
  .have:i=0:=aa
   subst this
   replace h:some 0=some r:=h
   have l:((0+1+1+1+1+1:Nat):Int)=5:=rfl
   first|refine aS hJ ?_|refine aC hJ ?_|refine ah hJ (aC hJ ?_)|refine ah hJ (ah hJ (aC hJ ?_))
   apply bY _
   apply ah hJ
   refine eu hJ dI ?_
   apply b6
   simp only[go_sem]
   first|refine aS hJ ?_|refine aC hJ ?_|refine ah hJ (aC hJ ?_)|refine ah hJ (ah hJ (aC hJ ?_))
   apply bY _
   have b:=Option.some.inj h;clear h;subst b
   apply aQ
   simp only[*,go_sem]
end Go.Proofs.YtbpddfapodiemaaGreatDoor
end
section
namespace Go.Sep
open Go Go.Conc
variable {P:Program}{main:Bool}{J:Goroutine->af->Prop}{Q:Ex->Act->af->Prop}{a:Act}{F:af}
def Qn (E:Act->af->Prop)(Q:Ex->Act->af->Prop):Ex->Act->af->Prop
 | .normal,a,F=>∃F0,Le F0 F/\E a F0
 | .exit i,a,F=>Q (.exit i) a F
 | .ret,a,F=>Q .ret a F
theorem HA (E:Act->af->Prop)(Q:Ex->Act->af->Prop)(i:Nat)(a:Act)(F:af):Qn E Q (.exit i) a F=Q (.exit i) a F:=Eq.trans rfl rfl
theorem HB (E:Act->af->Prop)(Q:Ex->Act->af->Prop)(a:Act)(F:af):Qn E Q .ret a F=Q .ret a F:=Eq.trans rfl rfl
attribute [go_sem] HA HB
theorem Qn.intro {E:Act->af->Prop}(h:∃F0,Le F0 F/\E a F0):Qn E Q .normal a F:=h
theorem gS (hJ:Closed P main J){x y:Code}(E:Act->af->Prop)(c:Wp J x (Qn E Q) a F)(d:∀a F,E a F->Wp J y Q a F):Wp J (.seq x y) Q a F:=
 ah hJ (c.mono fun e a F b=>by
  cases e with
  |normal=>obtain ⟨F0,hle,f⟩:=b;exact cO hJ hle (d a F0 f)
  |exit i=>exact b
  |ret=>exact b)
theorem bg.dj {ro:Addr->Option Value}{e:TypeId}{b n cap:Nat}{l:List Int}{arr:Array Value}(h:bg rI ro e (.slice (some ⟨b,0,none⟩) n cap) l [(b,.cells arr e)]){i x:Int}(q:bD l i=some x):
  0<=i/\i<((n:Nat):Int)/\arr[i.toNat]?=some (.int .i64 x)/\i.toNat<arr.size:=by
 obtain ⟨a,f,c⟩:=cP q
 have hc:=h.count
 obtain ⟨cs,d,hm⟩:=h.jF c
 obtain rfl:cs=[.int .i64 x]:=d
 have m:=hm 0 _ rfl
 have m:arr[i.toNat*1+0]?=some (.int .i64 x):=m
 rw[Nat.mul_one,Nat.add_zero] at m
 exact ⟨a,aa,m,(Array.getElem?_eq_some_iff.1 m).1⟩
theorem bg.gE {ro:Addr->Option Value}{e:TypeId}{b n cap:Nat}{l:List Int}{arr:Array Value}(h:bg rI ro e (.slice (some ⟨b,0,none⟩) n cap) l [(b,.cells arr e)]){i:Int}(a:0<=i)(c:i<((n:Nat):Int))(y:Int):
  bg rI ro e (.slice (some ⟨b,0,none⟩) n cap) (l.set i.toNat y) [(b,.cells (cZ arr i.toNat [.int .i64 y]) e)]:=by
 have hc:=h.count
 have:=h.tD (i:=i.toNat) (y:=y) aa (cs:=[.int .i64 y]) rfl
 rwa [show i.toNat*rI.n=i.toNat from Nat.mul_one _] at this
variable {P:Program}{main:Bool}{J:Goroutine->af->Prop}{Q:Ex->Act->af->Prop}{a:Act}{F:af}
def oT:cu Int:=gP 1 (fun n=>[.int .u16 n]) (fun _=>rfl) (fun _ v a=>by simp at a;subst a;rfl)
def HC:cu Int:=gP 1 (fun n=>[.int .u8 n]) (fun _=>rfl) (fun _ v a=>by simp at a;subst a;rfl)
@[go_sem] theorem TN:oT.n=1:=rfl
@[go_sem] theorem TO:HC.n=1:=rfl
end Go.Sep
end
section
namespace Go.Proofs.YtbpddfapodiemaaGreatDoor
open Go Go.Sep Go.Proofs
set_option maxRecDepth 100000
set_option maxHeartbeats 4000000
def oU (u0:an)(b:bA)(i39:Nat)(a:cv)(st:(List bN)):Option (Fl (List bN) bN):=
 ai (gA a.high) fun c=>ai (lg u0 b (i39:Int) (⟨a.aV,c⟩:iL)) fun d=>ai (de st ([d])) fun e=>some (.nx e)
def mw (u0:an)(b:bA):Option bN:=
 ai (bR (oU u0 b) 0 u0.aE ([]:List bN)) fun o=>aJ o (fun a=>ai (bD a 0) fun c=>ai (iF a 1 (a.length:Int)) fun d=>ai (nq jI c d) fun e=>some e) (fun _ _=>none) (fun r=>some r)
theorem tZ {ro:Addr->Option Value}(u0:an){s1 f g i:Value}(u:bW ro u0 s1 f g i)(b:bA){r:bN}(h:mw u0 b=some r):aD Tryz.prog 55 #[bv u0 s1 f g i,.agg #[.int .i64 b.back,.int .i64 b.high]] ⟨ro,[]⟩ (fun v _=>v=r.v):=by
 obtain ⟨d3,c4,rfl,dT,W,-⟩:=id u.e;unfold mw at h;refine aD.go Tryz.func55 rfl Tryz.ntmps55 Tryz.results55 au fun main J hJ A X hd hs=>?_;have Y:=hs 0;have k1:=hs 1;clear hs;apply az hJ _;refine aA fun o Z ab=>?_;try simp only[av] at ab
 refine aA fun p ad ae=>?_;try simp only[av] at ae
 refine aA fun q al ao=>?_;try simp only[av] at ao
 apply az hJ _;refine ah hJ (aC hJ ?_);apply ag _;apply aX hJ;revert h;refine bS fun ar j a0=>?_;refine cc hJ (rg 12 19 [5,6,7]) (fun m G F'=>∃(i39:Nat) (d33:Option Addr) (s:Nat) (w:List (Nat×Obj)) (c:(List bN)),m=u0.aE.length - i39/\i39<=u0.aE.length/\bR (oU u0 b) i39 (u0.aE.drop i39) c=some ar/\F'=⟨ro,(q,.cells #[.int .i64 0,.int .i64 0,.int .i64 0,.int .i64 0,.int .i64 0,.int .i64 0] 105)::(p,.cells #[.int .i64 b.back,.int .i64 b.high] 101)::(o,bl u0 (sl d3 u0.aE c4) f g i)::w⟩/\bg k9 ro 105 (.slice d33 c.length s) c w/\c.length<=s/\slot G 12= .int .i64 (i39:Int)/\slot G 5= .slice d33 c.length s) u0.aE.length ?_ ?_
 .refine ⟨0,none,0,[],([]:List bN),(Nat.sub_zero _).symm,Nat.zero_le _,j,rfl,bg.nil _ _ _,Nat.le_refl _,?_⟩;simp only[*,go_sem]
 rintro ea eb F' H ⟨i39,d33,s,w,c,rfl,ec,j,rfl,I,ed,eh,et⟩;obtain ⟨a2,a3,a4⟩:=H.pick [2,3,4,10,11] aB;simp only[*,go_sem] at a2 a3 a4;clear H X hd Y k1;apply az hJ _;apply ah hJ;rcases Nat.lt_or_ge i39 u0.aE.length with a5|K
 .refine cB hJ ?_;apply aP hJ;obtain ⟨d,y⟩:∃x,u0.aE[i39]?=some x:=⟨_,List.getElem?_eq_getElem a5⟩
  rw[dK y] at j;revert j;refine bS fun ev h a6=>?_;unfold oU at h;try dsimp only at h
  obtain ⟨z,a7,a8,a9,B⟩:=u.e.el _ _ y;obtain rfl:a7=d.cells:=a9;cases a8;have ba:=B 0 _ rfl;simp only[go_sem] at ba;have bb:=B 1 _ rfl;simp only[go_sem] at bb;clear B y;refine ah hJ (aX hJ (ah hJ ?_));refine aG hJ fun bc=>?_;apply aM hJ _;refine aA fun C eQ L=>?_;have eS:=aZ.cons L bc;try simp only[av] at L
  refine aG hJ fun bd=>?_;refine eJ hJ mixed 11 ⟨ro,[(C,.cells #[.int .i64 d.aV,.int .i64 d.high] 125),(q,.cells #[.int .i64 0,.int .i64 0,.int .i64 0,.int .i64 0,.int .i64 0,.int .i64 0] 105),(p,.cells #[.int .i64 b.back,.int .i64 b.high] 101),(o,bl u0 (sl (some z) u0.aE c4) f g i)]⟩ aN aj ?_;revert h;refine bS fun bj bk h=>?_;apply ag _;refine ⟨_,bL hJ fun F t=>j9 d.high bk,cr ?_⟩;revert h;refine bS fun a bm h=>?_;apply ag _;refine ⟨_,bL hJ fun F t=>BX u0 (u.mono (cm t)) b (i39:Int) (⟨d.aV,bj⟩:iL) bm,?_⟩;revert h;refine bS fun bo br h=>?_;cases h;obtain ⟨bs,M⟩:=dQ br;apply ag _;refine aA fun N bz O=>?_;have b0:=aZ.cons O bd;try simp only[av] at O
  apply ag _;refine eD (r:=k9) (l:=c) (x:=a) (cs:=#[.int .i64 a.spot.aV,.int .i64 a.spot.high.num,.int .i64 a.spot.high.den,.int .i64 a.at_,.int .i64 a.high.num,.int .i64 a.high.den]) (e2:=105) [(N,.cells #[.int .i64 a.spot.aV,.int .i64 a.spot.high.num,.int .i64 a.spot.high.den,.int .i64 a.at_,.int .i64 a.high.num,.int .i64 a.high.den] 105),(C,.cells #[.int .i64 d.aV,.int .i64 d.high] 125),(q,.cells #[.int .i64 0,.int .i64 0,.int .i64 0,.int .i64 0,.int .i64 0,.int .i64 0] 105),(p,.cells #[.int .i64 b.back,.int .i64 b.high] 101),(o,bl u0 (sl (some z) u0.aE c4) f g i)] [] I b0 bs rfl aN bz rfl rfl oJ oJ wU wW rfl wV aB aB (fun e0 P D b1 b2 e1=>?_);simp only[bw] at b2;subst b1;rw[<-M] at D;clear M;obtain ⟨d63,b3,rfl,b4⟩:=D.len;refine ⟨⟨ro,(N,.cells #[.int .i64 a.spot.aV,.int .i64 a.spot.high.num,.int .i64 a.spot.high.den,.int .i64 a.at_,.int .i64 a.high.num,.int .i64 a.high.den] 105)::(C,.cells #[.int .i64 d.aV,.int .i64 d.high] 125)::(q,.cells #[.int .i64 0,.int .i64 0,.int .i64 0,.int .i64 0,.int .i64 0,.int .i64 0] 105)::(p,.cells #[.int .i64 b.back,.int .i64 b.high] 101)::(o,bl u0 (sl (some z) u0.aE c4) f g i)::P⟩,Le.refl _,?_⟩;refine ⟨aN,l6 ?_⟩;apply ag _;have e3:=cK (n:=i39) (by have:=W;omega);apply aM hJ _;refine ⟨u0.aE.length - (i39+1),aa,_,Le.sub (List.Sublist.cons _ (List.Sublist.cons _ (List.Sublist.refl _))),i39+1,d63,b3,P,bo,rfl,aa,a6,rfl,D,b4,?_⟩;simp only[*,go_sem]
 have fa:=Nat.not_lt.2 K;refine cx hJ ?_;rw[List.drop_eq_nil_of_le K] at j;obtain rfl:=sI j;clear j;have h:=a0;dsimp only[aJ] at h;apply b6;simp only[go_sem];apply ah hJ;refine aG hJ fun Q=>?_;obtain ⟨b5,fb,ca,E,cb⟩:=I.fj [(q,.cells #[.int .i64 0,.int .i64 0,.int .i64 0,.int .i64 0,.int .i64 0,.int .i64 0] 105),(p,.cells #[.int .i64 b.back,.int .i64 b.high] 101),(o,bl u0 (sl d3 u0.aE c4) f g i)] [] Q (aK.cons al (aK.cons ad (aK.cons Z (aK.nil _))));clear Q;refine cO hJ cb ?_;obtain ⟨ff,fg,-⟩:=E.op;simp only[bF] at ca;refine eJ hJ mixed 6 ⟨b5,[(p,.cells #[.int .i64 b.back,.int .i64 b.high] 101),(o,bl u0 (sl d3 u0.aE c4) f g i)]⟩ aN aj ?_;revert h;refine bS fun R cd h=>?_;obtain ⟨fi,fl,S⟩:=cP cd;obtain ⟨fp,cf,cl,cy,k⟩:=E.el _ _ S;obtain rfl:cf=R.cells:=cy;cases cl;have cS:=k 0 _ rfl;simp only[go_sem] at cS;have c0:=k 1 _ rfl;simp only[go_sem] at c0;have da:=k 2 _ rfl;simp only[go_sem] at da;have db:=k 3 _ rfl;simp only[go_sem] at db;have dd:=k 4 _ rfl;simp only[go_sem] at dd;have df:=k 5 _ rfl;simp only[go_sem] at df;clear k S;revert h;refine bS fun dk dp h=>?_;obtain ⟨fq,fr,fs,T⟩:=qJ dp;have U:(1:Int).toNat<=((c.length:Int)).toNat:=aa;have dq:((c.length:Int)).toNat<=s:=aa;have ft:0<=((c.length:Int)):=aa;obtain ⟨d80,ds,dt,V⟩:=aH.qN E (1:Int).toNat ((c.length:Int)).toNat U aa T;simp only[go_sem] at ds dt U dq;obtain ⟨_,_,du,fu,fv,fw⟩:=id V;cases du;clear T;revert h;refine bS fun fx dv h=>?_;cases h;apply ag _;refine ⟨_,bL hJ fun F t=>tR (ey:=57) (eL:=#[]) (eM:=#[]) jI ⟨by simp only[go_sem],fun fz fP dC dE _ h=>by simp only[go_sem];exact tN dC dE h⟩ R dk (V.mono (cm t)) dv,?_⟩;apply ag _;apply aQ;simp only[*,go_sem]
def nB (u0:an)(a:bA):Option ax:=
 ai (gA u0.bU) fun b=>ai (mw u0 a) fun c=>ai (ki b c.high) fun d=>some d
theorem BZ {ro:Addr->Option Value}(u0:an){s1 b c d:Value}(f:bW ro u0 s1 b c d)(a:bA){r:ax}(h:nB u0 a=some r):aD Tryz.prog 90 #[bv u0 s1 b c d,.agg #[.int .i64 a.back,.int .i64 a.high]] ⟨ro,[]⟩ (fun v _=>v=r.v):=by
 unfold nB at h;refine aD.go Tryz.func90 rfl Tryz.ntmps90 Tryz.results90 au fun main J hJ A s hd hs=>?_;have t:=hs 0;have k1:=hs 1;clear hs;apply az hJ _;refine aA fun g u i=>?_;try simp only[av] at i
 refine aA fun j w k=>?_;try simp only[av] at k
 refine aA fun x y l=>?_;try simp only[av] at l
 apply ah hJ;refine eJ hJ mixed 9 ⟨ro,[(j,.cells #[.int .i64 a.back,.int .i64 a.high] 101),(g,bl u0 s1 b c d)]⟩ aN aj ?_;revert h;refine bS fun m n h=>?_;apply ag _;refine ⟨_,bL hJ fun F e=>j9 u0.bU n,cr ?_⟩;revert h;refine bS fun o p h=>?_;apply ag _;refine ⟨_,bL hJ fun F e=>tZ u0 (f.mono (cm e)) a p,cr ?_⟩;revert h;refine bS fun z q h=>?_;cases h;apply ag _;refine ⟨_,bL hJ fun F e=>q5 m o.high q,?_⟩;apply ag _;apply aQ;simp only[*,go_sem]
def oV (u0:an)(a:Int)(st:Int):Option (Fl Int ax):=
 ai (bD u0.aE st) fun b=>cond (decide (b.aV<a)) (some (.nx (IntKind.i64.wrap (st+1)))) (some (.bk st))
def jK (u0:an)(b:Int):Option ax:=
 ai (bp (oV u0 b) fu 1) fun o=>aJ o (fun c=>ai (bD u0.aE (IntKind.i64.wrap (c - 1))) fun a=>ai (bD u0.aE c) fun d=>ai (gA a.high) fun e=>ai (lf (IntKind.i64.wrap ((IntKind.i64.wrap (d.high - a.high))*(IntKind.i64.wrap (b - a.aV)))) (IntKind.i64.wrap (d.aV - a.aV))) fun f=>ai (kg e f) fun g=>some g) (fun _ _=>none) (fun r=>some r)
theorem B1 {ro:Addr->Option Value}(u0:an){s1 b c d:Value}(g:bW ro u0 s1 b c d)(i:Int){r:ax}(h:jK u0 i=some r):aD Tryz.prog 113 #[bv u0 s1 b c d,.int .i64 i] ⟨ro,[]⟩ (fun v _=>v=r.v):=by
 obtain ⟨d3,c4,rfl,bc,bd,-⟩:=id g.e;unfold jK at h;refine aD.go Tryz.func113 rfl Tryz.ntmps113 Tryz.results113 au fun main J hJ A E hd hs=>?_;have G:=hs 0;have k1:=hs 1;clear hs;apply az hJ _;refine aA fun l bj H=>?_;try simp only[av] at H
 refine aA fun t bk I=>?_;try simp only[av] at I
 apply az hJ _;refine ah hJ (aX hJ ?_);revert h;refine bS fun K j L=>?_;refine cc hJ (rg 8 11 [5]) (fun m M F'=>∃(k:Int),bp (oV u0 i) m k=some K/\F'=⟨ro,(t,rt 0 0)::(l,bl u0 (sl d3 u0.aE c4) b c d)::[]⟩/\slot M 5= .int .i64 k) fu ?_ ?_
 .refine ⟨1,j,rfl,?_⟩;simp only[*,go_sem]
 rintro n bm F' u ⟨k,j,rfl,bo⟩;obtain ⟨N,O,P⟩:=u.pick [1,2,4] aB;simp only[*,go_sem] at N O P;clear u E hd G k1;obtain _|n:=n
 .exact absurd j (by simp only[bp,reduceCtorEq,not_false_eq_true])
 revert j;refine bS fun br h o=>?_;unfold oV at h;try dsimp only at h
 refine ah hJ (aC hJ ?_);revert h;refine bS fun Q R h=>?_;obtain ⟨bs,bz,w⟩:=cP R;obtain ⟨x,S,T,U,p⟩:=g.e.el _ _ w;obtain rfl:S=Q.cells:=U;cases T;have y:=p 0 _ rfl;simp only[go_sem] at y;have z:=p 1 _ rfl;simp only[go_sem] at z;clear p w;apply ag _;revert h;refine bh hJ (fun V h=>?_) fun V h=>?_
 .cases h;refine aP hJ (aX hJ ?_);apply aM hJ _;refine ⟨n,Nat.lt_succ_self _,_,Le.sub (List.Sublist.refl _),(IntKind.i64.wrap (k+1)),o,rfl,?_⟩;simp only[*,go_sem]
 cases h;apply b6;simp only[go_sem];obtain rfl:=sI o;clear o;have h:=L;dsimp only[aJ] at h;clear y z;apply ah hJ;refine tu hJ mixed 13 ⟨ro,[(t,rt 0 0),(l,bl u0 (sl (some x) u0.aE c4) b c d)]⟩ aN aj 125 rfl wX ?_;revert h;refine bS fun a W h=>?_;obtain ⟨b0,b1,B⟩:=cP W;obtain ⟨b2,X,Y,Z,q⟩:=g.e.el _ _ B;obtain rfl:X=a.cells:=Z;cases Y;have ab:=q 0 _ rfl;simp only[go_sem] at ab;have ad:=q 1 _ rfl;simp only[go_sem] at ad;clear q B;revert h;refine bS fun f ae h=>?_;obtain ⟨b3,b4,C⟩:=cP ae;obtain ⟨b5,al,ao,ar,s⟩:=g.e.el _ _ C;obtain rfl:al=f.cells:=ar;cases ao;have a0:=s 0 _ rfl;simp only[go_sem] at a0;have a2:=s 1 _ rfl;simp only[go_sem] at a2;clear s C;apply ag _;refine aA fun a3 ca a4=>?_;try simp only[av] at a4
 apply ag _;refine aA fun a5 cb a6=>?_;try simp only[av] at a6
 apply ag _;apply ah hJ;refine eJ hJ mixed 20 ⟨ro,[(a5,.cells #[.int .i64 f.aV,.int .i64 f.high] 125),(a3,.cells #[.int .i64 a.aV,.int .i64 a.high] 125),(l,bl u0 (sl (some x) u0.aE c4) b c d)]⟩ aN aj ?_;revert h;refine bS fun a7 a8 h=>?_;apply ag _;refine ⟨_,bL hJ fun F D=>j9 a.high a8,cr ?_⟩;revert h;refine bS fun a9 ba h=>?_;apply ag _;refine ⟨_,bL hJ fun F D=>q3 (IntKind.i64.wrap ((IntKind.i64.wrap (f.high - a.high))*(IntKind.i64.wrap (i - a.aV)))) (IntKind.i64.wrap (f.aV - a.aV)) ba,cr ?_⟩;revert h;refine bS fun cd bb h=>?_;cases h;apply ag _;refine ⟨_,bL hJ fun F D=>q4 a7 a9 bb,?_⟩;apply ag _;apply aQ;simp only[*,go_sem]
def q7 (c:cF)(b:ax)(i59:Nat)(a:bN)(st:Unit):Option (Fl Unit (List bN)):=
 cond (((a.spot.aV==c.place)&&((a.spot.high.num==b.num)&&(a.spot.high.den==b.den)))) (some (.br 1 ())) (some (.nx ()))
def q8 (u0:an)(c:bA)(i38:Nat)(a:cF)(st:(List bN)):Option (Fl (List bN) (List bN)):=
 ai (jK u0 a.place) fun d=>ai (gA a.dS) fun e=>ai (kg d e) fun b=>ai (bR (q7 a b) 0 st ()) fun o=>aJ o (fun h=>ai (lg u0 c (i38:Int) (⟨a.place,b⟩:iL)) fun f=>ai (de st ([f])) fun g=>some (.nx g)) (fun _ i=>some (.nx st)) (fun r=>some (.rt r))
def ko (u0:an)(a:bA):Option (List bN):=
 ai (bR (q8 u0 a) 0 u0.props ([]:List bN)) fun o=>aJ o (fun b=>some b) (fun _ _=>none) (fun r=>some r)
theorem xk {ro:Addr->Option Value}(u0:an){s1 O f g:Value}(w:bW ro u0 s1 O f g)(b:bA){r:(List bN)}(h:ko u0 b=some r):e4 Tryz.prog 114 #[bv u0 s1 O f g,.agg #[.int .i64 b.back,.int .i64 b.high]] ro (fun v aW=>∃P,v=P/\aH k9 aW P r):=by
 obtain ⟨d10,o,rfl,fg,Q,-⟩:=id w.p;unfold ko at h;refine aD.go Tryz.func114 rfl Tryz.ntmps114 Tryz.results114 au fun main J hJ A ba hd hs=>?_;have bb:=hs 0;have k1:=hs 1;clear hs;apply az hJ _;refine aA fun q bc bj=>?_;try simp only[av] at bj
 refine aA fun s bk bm=>?_;try simp only[av] at bm
 refine Fb hJ (ah hJ ?_);apply aM hJ _;apply ah hJ;refine Fa hJ ?_;refine ah hJ (aC hJ ?_);apply ag _;apply aX hJ;revert h;refine bS fun bo i br=>?_;refine cc hJ (rg 15 36 [5,6,7,8,10]) (fun m y F'=>∃(i38:Nat) (d32:Option Addr) (t:Nat) (z:List (Nat×Obj)) (c:(List bN)),m=u0.props.length - i38/\i38<=u0.props.length/\bR (q8 u0 b) i38 (u0.props.drop i38) c=some bo/\F'=⟨ro,(s,.cells #[.int .i64 b.back,.int .i64 b.high] 101)::(q,bl u0 s1 (sl d10 u0.props o) f g)::z⟩/\bg k9 ro 105 (.slice d32 c.length t) c z/\c.length<=t/\slot y 15= .int .i64 (i38:Int)/\slot y 5= .slice d32 c.length t) u0.props.length ?_ ?_
 .refine ⟨0,none,0,[],([]:List bN),(Nat.sub_zero _).symm,Nat.zero_le _,i,rfl,bg.nil _ _ _,Nat.le_refl _,?_⟩;simp only[*,go_sem]
 rintro fi bs F' R ⟨i38,d32,t,z,c,rfl,fl,i,rfl,u,bz,b0,b1⟩;obtain ⟨S,T,U⟩:=R.pick [2,3,4,13,14] aB;simp only[*,go_sem] at S T U;clear R ba hd bb k1;apply az hJ _;apply ah hJ;rcases Nat.lt_or_ge i38 u0.props.length with b2|V
 .refine cB hJ ?_;apply aP hJ;obtain ⟨d,B⟩:∃x,u0.props[i38]?=some x:=⟨_,List.getElem?_eq_getElem b2⟩
  rw[dK B] at i;revert i;refine bS fun fp h W=>?_;unfold q8 at h;try dsimp only at h
  obtain ⟨C,b3,b4,b5,D⟩:=w.p.el _ _ B;obtain rfl:b3=d.cells:=b5;cases b4;have ca:=D 0 _ rfl;simp only[go_sem] at ca;have cb:=D 1 _ rfl;simp only[go_sem] at cb;clear D B;refine ah hJ (aX hJ (ah hJ ?_));refine aG hJ fun cd=>?_;apply aM hJ _;refine aA fun E fq X=>?_;have fr:=aZ.cons X cd;try simp only[av] at X
  apply ah hJ;refine aG hJ fun cf=>?_;refine dh hJ mixed 11 3 aN aj ?_;revert h;refine bS fun cl cy h=>?_;apply ag _;refine ⟨_,bL hJ fun F G=>B1 u0 (w.mono (cm G)) d.place cy,cr ?_⟩;revert h;refine bS fun cS c0 h=>?_;apply ag _;refine ⟨_,bL hJ fun F G=>j9 d.dS c0,cr ?_⟩;revert h;refine bS fun e da h=>?_;apply ag _;refine ⟨_,bL hJ fun F G=>q4 cl cS da,cr ?_⟩;apply ag _;refine aA fun H fs Y=>?_;have ft:=aZ.cons Y cf;try simp only[av] at Y
  apply ag _;refine ah hJ (ah hJ ?_);refine aG hJ fun fu=>?_;apply aM hJ _;apply aX hJ;revert h;refine bS fun db j Z=>?_;refine cc hJ (rg 33 9 [10]) (fun m y F'=>∃(i59:Nat),m=c.length - i59/\i59<=c.length/\bR (q7 d e) i59 (c.drop i59) ()=some db/\F'=⟨ro,(H,.cells #[.int .i64 d.place,.int .i64 e.num,.int .i64 e.den] 103)::(E,.cells #[.int .i64 d.place,.int .i64 d.dS] 159)::(s,.cells #[.int .i64 b.back,.int .i64 b.high] 101)::(q,bl u0 s1 (sl (some C) u0.props o) f g)::z⟩/\slot y 33= .int .i64 (i59:Int)) c.length ?_ ?_
  .refine ⟨0,(Nat.sub_zero _).symm,Nat.zero_le _,j,rfl,?_⟩;simp only[*,go_sem]
  rintro fv dd F' I ⟨i59,rfl,fw,j,rfl,fx⟩;obtain ⟨df,dk,dp⟩:=I.pick [2,3,4,5,6,7,8,13,14,15,16,17,19,20,21,22,23,24,25,26,27,28,29,30,31,32] aB;simp only[*,go_sem] at df dk dp;have fz:c6 (rg 15 36 [5,6,7,8,10]) dd bs:=(I.gN aB).trans aN;clear I S T U b1 b0;apply az hJ _;apply ah hJ;rcases Nat.lt_or_ge i59 c.length with dq|ab
  .refine cB hJ ?_;apply aP hJ;obtain ⟨ds,K⟩:∃x,c[i59]?=some x:=⟨_,List.getElem?_eq_getElem dq⟩
   rw[dK K] at j;revert j;refine bS fun fP h L=>?_;unfold q7 at h;(try dsimp only at h);refine aG hJ fun M=>?_;obtain ⟨ad,dt,fQ,du,dv,rfl,fS,dC,k⟩:=u.elem K;obtain rfl:du=ds.cells:=dC;cases dv;replace M:=M.nd;simp only[keys,List.map_cons,List.map_nil,List.map_append,List.cons_append,List.nil_append,List.nodup_cons,List.mem_cons,List.mem_append,List.not_mem_nil,or_false,not_or] at M;have ae:=k 0 _ rfl;simp only[go_sem] at ae;have al:=k 1 _ rfl;simp only[go_sem] at al;have ao:=k 2 _ rfl;simp only[go_sem] at ao;have ar:=k 3 _ rfl;simp only[go_sem] at ar;have a0:=k 4 _ rfl;simp only[go_sem] at a0;have a2:=k 5 _ rfl;simp only[go_sem] at a2;clear k K;refine ah hJ (aX hJ (ah hJ ?_));refine aG hJ fun dE=>?_;apply aM hJ _;refine aA fun fU gg a3=>?_;have gl:=aZ.cons a3 dE;try simp only[av] at a3
   apply ah hJ;refine aG hJ fun gn=>?_;apply aM hJ _;revert h;refine bh hJ (fun dT h=>?_) fun dT h=>?_
   .cases h;apply b6;simp only[go_sem];obtain rfl:=sI L;clear L;have h:=Z;dsimp only[aJ] at h;cases h;clear ae al ao ar a0 a2;have ea:=cK (n:=i38) (by have:=Q;omega);apply aM hJ _;refine ⟨u0.props.length - (i38+1),aa,_,Le.sub (List.Sublist.cons _ (List.Sublist.cons _ (List.Sublist.cons _ (List.Sublist.refl _)))),i38+1,(some ⟨ad,0,none⟩),t,[(ad,Obj.cells dt 105)],c,rfl,aa,W,rfl,u,bz,?_⟩;simp only[*,go_sem]
   cases h;apply aP hJ;have gp:=cK (n:=i59) (by have:=u.bd;omega);apply aM hJ _;refine ⟨c.length - (i59+1),aa,_,Le.sub (List.Sublist.cons _ (List.Sublist.refl _)),i59+1,rfl,aa,L,rfl,?_⟩;simp only[*,go_sem]
  have gB:=Nat.not_lt.2 ab;refine cx hJ ?_;rw[List.drop_eq_nil_of_le ab] at j;obtain rfl:=sI j;clear j;have h:=Z;dsimp only[aJ] at h;apply b6;simp only[go_sem];refine aG hJ fun eb=>?_;apply aS hJ;revert h;refine bS fun a ec h=>?_;apply ag _;refine bf hJ _ (BX u0 (w.mono bn) b (i38:Int) (⟨d.place,e⟩:iL) ec) (aO ?_);revert h;refine bS fun ed eh h=>?_;cases h;obtain ⟨et,a4⟩:=dQ eh;apply ag _;refine aA fun a5 ev a6=>?_;have eQ:=aZ.cons a6 eb;try simp only[av] at a6
  refine eD (r:=k9) (l:=c) (x:=a) (cs:=#[.int .i64 a.spot.aV,.int .i64 a.spot.high.num,.int .i64 a.spot.high.den,.int .i64 a.at_,.int .i64 a.high.num,.int .i64 a.high.den]) (e2:=105) [(a5,.cells #[.int .i64 a.spot.aV,.int .i64 a.spot.high.num,.int .i64 a.spot.high.den,.int .i64 a.at_,.int .i64 a.high.num,.int .i64 a.high.den] 105),(H,.cells #[.int .i64 d.place,.int .i64 e.num,.int .i64 e.den] 103),(E,.cells #[.int .i64 d.place,.int .i64 d.dS] 159),(s,.cells #[.int .i64 b.back,.int .i64 b.high] 101),(q,bl u0 s1 (sl (some C) u0.props o) f g)] [] u eQ et rfl aN ev rfl rfl oJ oJ wU wW rfl wV aB aB (fun gC a7 N eS e0 gM=>?_);simp only[bw] at e0;subst eS;rw[<-a4] at N;clear a4;obtain ⟨d83,e1,rfl,e3⟩:=N.len;refine ⟨⟨ro,(a5,.cells #[.int .i64 a.spot.aV,.int .i64 a.spot.high.num,.int .i64 a.spot.high.den,.int .i64 a.at_,.int .i64 a.high.num,.int .i64 a.high.den] 105)::(H,.cells #[.int .i64 d.place,.int .i64 e.num,.int .i64 e.den] 103)::(E,.cells #[.int .i64 d.place,.int .i64 d.dS] 159)::(s,.cells #[.int .i64 b.back,.int .i64 b.high] 101)::(q,bl u0 s1 (sl (some C) u0.props o) f g)::a7⟩,Le.refl _,?_⟩;apply aO;apply ag _;have ea:=cK (n:=i38) (by have:=Q;omega);apply aM hJ _;refine ⟨u0.props.length - (i38+1),aa,_,Le.sub (List.Sublist.cons _ (List.Sublist.cons _ (List.Sublist.cons _ (List.Sublist.refl _)))),i38+1,d83,e1,a7,ed,rfl,aa,W,rfl,N,e3,?_⟩;simp only[*,go_sem]
 have gT:=Nat.not_lt.2 V;refine cx hJ ?_;rw[List.drop_eq_nil_of_le V] at i;obtain rfl:=sI i;clear i;have h:=br;dsimp only[aJ] at h;cases h;apply b6;simp only[go_sem];apply ah hJ;refine aG hJ fun gV=>?_;apply aM hJ _;refine aG hJ fun a8=>?_;obtain ⟨g0,fa,fb,a9,ff⟩:=u.fj [(s,.cells #[.int .i64 b.back,.int .i64 b.high] 101),(q,bl u0 s1 (sl d10 u0.props o) f g)] [] a8 (aK.cons bk (aK.cons bc (aK.nil _)));clear a8;refine cO hJ ff ?_;obtain ⟨g1,g2,-⟩:=a9.op;simp only[bF] at fb;refine cg ?_;exact ⟨_,fa,Le.sub (List.nil_sublist _),_,rfl,a9⟩
def nC (i54:Nat)(a:bN)(st:ax):Option (Fl ax ax):=
 ai (gD eV st ([a.high])) fun b=>some (.nx b)
def nD (i100:Nat)(a:bN)(st:ax):Option (Fl ax ax):=
 ai (gD eV st ([a.high])) fun b=>some (.nx b)
def lq (u0:an)(a:bA):Option ax:=
 ai (gA u0.bU) fun b=>ai (mw u0 a) fun c=>ai (eV c.high b) fun d=>cond (d) (ai (ko u0 a) fun e=>ai (bR (nC) 0 e c.high) fun o=>aJ o (fun f=>ai (ki b f) fun g=>ai (gA 0) fun h=>ai (gD eV g ([h])) fun i=>some i) (fun _ _=>none) (fun r=>some r)) (ai (ko u0 a) fun j=>ai (bR (nD) 0 j b) fun o=>aJ o (fun k=>ai (ki c.high k) fun l=>ai (gA 0) fun m=>ai (gD eV l ([m])) fun n=>some n) (fun _ _=>none) (fun r=>some r))
theorem ua {ro:Addr->Option Value}(u0:an){s1 p q s:Value}(t:bW ro u0 s1 p q s)(a:bA){r:ax}(h:lq u0 a=some r):aD Tryz.prog 103 #[bv u0 s1 p q s,.agg #[.int .i64 a.back,.int .i64 a.high]] ⟨ro,[]⟩ (fun v _=>v=r.v):=by
 unfold lq at h;refine aD.go Tryz.func103 rfl Tryz.ntmps103 Tryz.results103 au fun main J hJ A O hd hs=>?_;have P:=hs 0;have k1:=hs 1;clear hs;apply az hJ _;refine aA fun D fr al=>?_;try simp only[av] at al
 refine aA fun E fs ao=>?_;try simp only[av] at ao
 refine aA fun G ft ar=>?_;try simp only[av] at ar
 apply ah hJ;refine tu hJ mixed 8 ⟨ro,[(G,rt 0 0),(E,.cells #[.int .i64 a.back,.int .i64 a.high] 101),(D,bl u0 s1 p q s)]⟩ aN aj 23 rfl wT ?_;revert h;refine bS fun u a0 h=>?_;apply ag _;refine ⟨_,bL hJ fun F Q=>j9 u0.bU a0,cr ?_⟩;revert h;refine bS fun w a2 h=>?_;apply ag _;refine ⟨_,bL hJ fun F Q=>tZ u0 (t.mono (cm Q)) a a2,cr ?_⟩;apply ag _;refine aA fun R fu a3=>?_;try simp only[av] at a3
 apply ag _;refine aA fun S fv a4=>?_;try simp only[av] at a4
 apply ag _;refine ah hJ (aC hJ ?_);revert h;refine bS fun fw a5 h=>?_;apply ag _;refine bf hJ _ (jH w.high u a5) ?_;revert h;refine bh hJ (fun a6 h=>?_) fun a6 h=>?_
 .apply aM hJ _;refine ah hJ (aC hJ ?_);revert h;refine bS fun b a7 h=>?_;apply ag _;refine cw hJ _ (xk u0 t a a7) fun v a8 a9 ba H=>?_;obtain ⟨fx,rfl,T⟩:=H;replace t:=t.mono a9;simp only[bF] at ba;obtain ⟨d48,fz,rfl,fP,bb,-⟩:=id T;apply aO;apply ag _;apply aX hJ;revert h;refine bS fun bc c bd=>?_;refine cc hJ (rg 26 10 [8]) (fun m I F'=>∃(i54:Nat) (l:ax),m=b.length - i54/\i54<=b.length/\bR (nC) i54 (b.drop i54) l=some bc/\F'=⟨a8,(S,rt u.num u.den)::(R,rt l.num l.den)::(G,rt 0 0)::(E,.cells #[.int .i64 a.back,.int .i64 a.high] 101)::(D,bl u0 s1 p q s)::[]⟩/\slot I 26= .int .i64 (i54:Int)) b.length ?_ ?_
  .refine ⟨0,w.high,(Nat.sub_zero _).symm,Nat.zero_le _,c,rfl,?_⟩;simp only[*,go_sem]
  rintro fQ fS F' U ⟨i54,l,rfl,fU,c,rfl,gg⟩;obtain ⟨bj,bk,bm⟩:=U.pick [4,5,6,24,25] aB;simp only[*,go_sem] at bj bk bm;clear U O hd P k1;apply az hJ _;apply ah hJ;rcases Nat.lt_or_ge i54 b.length with bo|V
  .refine cB hJ ?_;apply aP hJ;obtain ⟨y,K⟩:∃x,b[i54]?=some x:=⟨_,List.getElem?_eq_getElem bo⟩
   rw[dK K] at c;revert c;refine bS fun gl h br=>?_;unfold nC at h;(try dsimp only at h);obtain ⟨gn,bs,bz,b0,d⟩:=T.el _ _ K;obtain rfl:bs=y.cells:=b0;cases bz;have b1:=d 0 _ rfl;simp only[go_sem] at b1;have b2:=d 1 _ rfl;simp only[go_sem] at b2;have b3:=d 2 _ rfl;simp only[go_sem] at b3;have b4:=d 3 _ rfl;simp only[go_sem] at b4;have b5:=d 4 _ rfl;simp only[go_sem] at b5;have ca:=d 5 _ rfl;simp only[go_sem] at ca;clear d K;refine ah hJ (aX hJ (ah hJ ?_));apply aM hJ _;refine aA fun gp gB cb=>?_;try simp only[av] at cb
   refine aG hJ fun cd=>?_;apply aS hJ;revert h;refine bS fun cf cl h=>?_;cases h;apply ag _;refine aA fun gC cy W=>?_;have gM:=aZ.cons W cd;try simp only[av] at W
   refine bf hJ _ (oQ (ey:=61) (eL:=#[]) (eM:=#[]) eV ⟨by simp only[go_sem],fun L M f g _ h=>by simp only[go_sem];exact jH f g h⟩ l ([y.high]) ((aH.flat (r:=mg) (e:=23) (cs:=#[.int .i64 y.high.num,.int .i64 y.high.den]) ax.cells ([y.high]) (fun _=>rfl) cy rfl au).mono (kW aN)) cl) (aO ?_);apply ag _;have gT:=cK (n:=i54) (by have:=bb;omega);apply aM hJ _;refine ⟨b.length - (i54+1),aa,_,Le.sub (List.Sublist.cons _ (List.Sublist.cons _ (List.Sublist.refl _))),i54+1,cf,rfl,aa,br,rfl,?_⟩;simp only[*,go_sem]
  have gV:=Nat.not_lt.2 V;refine cx hJ ?_;rw[List.drop_eq_nil_of_le V] at c;obtain rfl:=sI c;clear c;have h:=bd;dsimp only[aJ] at h;apply b6;simp only[go_sem];apply ah hJ;refine aG hJ fun cS=>?_;apply aS hJ;revert h;refine bS fun c0 da h=>?_;apply ag _;refine bf hJ _ (q5 u l da) (aO ?_);revert h;refine bS fun B db h=>?_;apply ag _;refine bf hJ _ (j9 0 db) (aO ?_);revert h;refine bS fun g0 dd h=>?_;cases h;apply ag _;refine aA fun g1 df X=>?_;have g2:=aZ.cons X cS;try simp only[av] at X
  refine bf hJ _ (oQ (ey:=61) (eL:=#[]) (eM:=#[]) eV ⟨by simp only[go_sem],fun L M f g _ h=>by simp only[go_sem];exact jH f g h⟩ c0 ([B]) ((aH.flat (r:=mg) (e:=23) (cs:=#[.int .i64 B.num,.int .i64 B.den]) ax.cells ([B]) (fun _=>rfl) df rfl au).mono (kW aN)) dd) (aO ?_);apply ag _;apply aQ;simp only[*,go_sem]
 refine aP hJ (ah hJ ?_);apply aC hJ;revert h;refine bS fun i dk h=>?_;apply ag _;refine cw hJ _ (xk u0 t a dk) fun v dp g3 dq H=>?_;obtain ⟨g4,rfl,Y⟩:=H;simp only[bF] at dq;obtain ⟨d94,ha,rfl,hc,ds,-⟩:=id Y;apply aO;apply ag _;apply aX hJ;revert h;refine bS fun dt j du=>?_;refine cc hJ (rg 26 10 [8]) (fun m I F'=>∃(i100:Nat) (o:ax),m=i.length - i100/\i100<=i.length/\bR (nD) i100 (i.drop i100) o=some dt/\F'=⟨dp,(S,rt w.high.num w.high.den)::(R,rt o.num o.den)::(G,rt 0 0)::(E,.cells #[.int .i64 a.back,.int .i64 a.high] 101)::(D,bl u0 s1 p q s)::[]⟩/\slot I 26= .int .i64 (i100:Int)) i.length ?_ ?_
 .refine ⟨0,u,(Nat.sub_zero _).symm,Nat.zero_le _,j,rfl,?_⟩;simp only[*,go_sem]
 rintro hf hg F' Z ⟨i100,o,rfl,hh,j,rfl,hi⟩;obtain ⟨dv,dC,dE⟩:=Z.pick [4,5,6,24,25] aB;simp only[*,go_sem] at dv dC dE;clear Z O hd P k1;apply az hJ _;apply ah hJ;rcases Nat.lt_or_ge i100 i.length with dT|ab
 .refine cB hJ ?_;apply aP hJ;obtain ⟨z,N⟩:∃x,i[i100]?=some x:=⟨_,List.getElem?_eq_getElem dT⟩
  rw[dK N] at j;revert j;refine bS fun hj h ea=>?_;unfold nD at h;try dsimp only at h
  obtain ⟨hk,eb,ec,ed,k⟩:=Y.el _ _ N;obtain rfl:eb=z.cells:=ed;cases ec;have eh:=k 0 _ rfl;simp only[go_sem] at eh;have et:=k 1 _ rfl;simp only[go_sem] at et;have ev:=k 2 _ rfl;simp only[go_sem] at ev;have eQ:=k 3 _ rfl;simp only[go_sem] at eQ;have eS:=k 4 _ rfl;simp only[go_sem] at eS;have e0:=k 5 _ rfl;simp only[go_sem] at e0;clear k N;refine ah hJ (aX hJ (ah hJ ?_));apply aM hJ _;refine aA fun hl hn e1=>?_;try simp only[av] at e1
  refine aG hJ fun e2=>?_;apply aS hJ;revert h;refine bS fun e3 fa h=>?_;cases h;apply ag _;refine aA fun ho fb ad=>?_;have hp:=aZ.cons ad e2;try simp only[av] at ad
  refine bf hJ _ (oQ (ey:=61) (eL:=#[]) (eM:=#[]) eV ⟨by simp only[go_sem],fun L M f g _ h=>by simp only[go_sem];exact jH f g h⟩ o ([z.high]) ((aH.flat (r:=mg) (e:=23) (cs:=#[.int .i64 z.high.num,.int .i64 z.high.den]) ax.cells ([z.high]) (fun _=>rfl) fb rfl au).mono (kW aN)) fa) (aO ?_);apply ag _;have hq:=cK (n:=i100) (by have:=ds;omega);apply aM hJ _;refine ⟨i.length - (i100+1),aa,_,Le.sub (List.Sublist.cons _ (List.Sublist.cons _ (List.Sublist.refl _))),i100+1,e3,rfl,aa,ea,rfl,?_⟩;simp only[*,go_sem]
 have hr:=Nat.not_lt.2 ab;refine cx hJ ?_;rw[List.drop_eq_nil_of_le ab] at j;obtain rfl:=sI j;clear j;have h:=du;dsimp only[aJ] at h;apply b6;simp only[go_sem];apply ah hJ;refine aG hJ fun ff=>?_;apply aS hJ;revert h;refine bS fun fg fi h=>?_;apply ag _;refine bf hJ _ (q5 w.high o fi) (aO ?_);revert h;refine bS fun C fl h=>?_;apply ag _;refine bf hJ _ (j9 0 fl) (aO ?_);revert h;refine bS fun ht fp h=>?_;cases h;apply ag _;refine aA fun hv fq ae=>?_;have hx:=aZ.cons ae ff;try simp only[av] at ae
 refine bf hJ _ (oQ (ey:=61) (eL:=#[]) (eM:=#[]) eV ⟨by simp only[go_sem],fun L M f g _ h=>by simp only[go_sem];exact jH f g h⟩ fg ([C]) ((aH.flat (r:=mg) (e:=23) (cs:=#[.int .i64 C.num,.int .i64 C.den]) ax.cells ([C]) (fun _=>rfl) fq rfl au).mono (kW aN)) fp) (aO ?_);apply ag _;apply aQ;simp only[*,go_sem]
def gU (u0:an)(a:bA):Option Bool:=
 ai (lq u0 a) fun b=>ai (eV u0.bq b) fun c=>some c
theorem nE {ro:Addr->Option Value}(u0:an){s1 b c d:Value}(f:bW ro u0 s1 b c d)(a:bA){r:Bool}(h:gU u0 a=some r):aD Tryz.prog 97 #[bv u0 s1 b c d,.agg #[.int .i64 a.back,.int .i64 a.high]] ⟨ro,[]⟩ (fun v _=>v= .bool r):=by
 unfold gU at h;refine aD.go Tryz.func97 rfl Tryz.ntmps97 Tryz.results97 au fun main J hJ A m hd hs=>?_;have n:=hs 0;have k1:=hs 1;clear hs;apply az hJ _;refine aA fun o p g=>?_;try simp only[av] at g
 refine aA fun q s i=>?_;try simp only[av] at i
 apply ah hJ;refine dh hJ mixed 8 2 aN aj ?_;revert h;refine bS fun j k h=>?_;apply ag _;refine ⟨_,bL hJ fun F e=>ua u0 (f.mono (cm e)) a k,cr ?_⟩;revert h;refine bS fun t l h=>?_;cases h;apply ag _;refine ⟨_,bL hJ fun F e=>jH u0.bq j l,cr ?_⟩;apply ag _;apply aQ;simp only[*,go_sem]
end Go.Proofs.YtbpddfapodiemaaGreatDoor
end

/- A part of the proof: QS14. -/
import Derived.Test.YtcoalekambhghaaGreatDoorQS13
import Derived.Sort.AssemblyPlain
set_option linter.all false
section
namespace Go.Proofs.YtcoalekambhghaaGreatDoor
open Go Go.Sep Go.Proofs
set_option maxRecDepth 100000
set_option maxHeartbeats 4000000
instance:Inhabited aV:=⟨⟨0,0⟩⟩
def ep (p q:aV):Bool:=decide (p.step<q.step)||(p.step==q.step&&decide (p.cu<q.cu))
def lg (x:aV):List aV->List aV
 |[]=>[x]
 |y::l=>if ep x y then x::y::l else y::lg x l
def iF:List aV->List aV
 |[]=>[]
 |x::l=>lg x (iF l)
def iG (p:aV):Prop:=(-1000000<=p.step/\p.step<=1000000)/\ -1000000<=p.cu/\p.cu<=1000000
instance (p:aV):Decidable (iG p):=by unfold iG;infer_instance
theorem rT (p q:aV):ep p q=true↔p.step<q.step\/(p.step=q.step/\p.cu<q.cu):=by
 simp[ep]
theorem wS (p q:aV):ep p q=false↔¬(p.step<q.step\/(p.step=q.step/\p.cu<q.cu)):=by
 rw[<-rT];simp
theorem rU:Sort.SWO ep where
 irrefl x:=by rw[wS];omega
 trans x y z a b:=by rw[rT] at*;omega
 ntrans x y z a b:=by rw[wS] at*;omega
theorem IM {p q:aV}(e:ep p q=false)(f:ep q p=false):p=q:=by
 rw[wS] at*;obtain ⟨a,b⟩:=p;obtain ⟨c,d⟩:=q;simp only at e f;obtain rfl:a=c:=ai;obtain rfl:b=d:=ai;rfl
theorem wT (x:aV):∀l,(lg x l).Perm (x::l)
 |[]=>.refl _
 |y::l=>by
  unfold lg
  split
  .exact .refl _
  .exact ((wT x l).cons y).trans (.swap _ _ _)
theorem wU:∀l,(iF l).Perm l
 |[]=>.refl _
 |x::l=>(wT x _).trans ((wU l).cons x)
abbrev pE (l:List aV):Prop:=l.Pairwise fun a b=>ep b a=false
theorem Bq (x:aV):∀l,pE l->pE (lg x l)
 |[],_=>by simp[lg,pE]
 |y::l,h=>by
  unfold lg
  have h':=List.pairwise_cons.1 h
  split
  .rename_i b
   refine List.pairwise_cons.2 ⟨fun z a=>?_,h⟩
   rcases List.mem_cons.1 a with rfl|a
   .cases c:ep z x with
    |false=>rfl
    |true=>have:=rU.trans _ _ _ b c;rw[rU.irrefl] at this;cases this
   .cases c:ep z x with
    |false=>rfl
    |true=>have:=rU.trans _ _ _ c b;rw[h'.1 z a] at this;cases this
  .rename_i b
   refine List.pairwise_cons.2 ⟨fun z a=>?_,Bq x l h'.2⟩
   rcases List.mem_cons.1 ((wT x l).subset a) with rfl|a
   .simpa using b
   .exact h'.1 z a
theorem wV:∀l,pE (iF l)
 |[]=>List.Pairwise.nil
 |x::l=>Bq x _ (wV l)
theorem Br {l l':List aV}(c:l'.Perm l)(h:pE l'):l'=iF l:=
 List.Perm.eq_of_pairwise (fun a b _ _ d e=>IM e d) h (wV l) (c.trans (wU l).symm)
theorem IN {l l':List aV}(a:l.Perm l'):iF l=iF l':=
 Br ((wU l).trans a) (wV l)
theorem IP {p q:aV}(a:iG p)(b:iG q):∃n,gu p q=some n/\decide (n<0)=ep p q:=by
 obtain ⟨⟨a1,c⟩,d,f⟩:=a;obtain ⟨⟨g,b2⟩,b3,b4⟩:=b;unfold gu;by_cases e:p.step=q.step
 .refine ⟨_,by rw[show (p.step != q.step)=false by simpa using e];rfl,?_⟩;rw[IntWalk.i64_in _ ⟨ai,ai⟩,Bool.eq_iff_iff,rT,decide_eq_true_iff];omega
 .refine ⟨_,by rw[show (p.step != q.step)=true by simpa using e];rfl,?_⟩;rw[IntWalk.i64_in _ ⟨ai,ai⟩,Bool.eq_iff_iff,rT,decide_eq_true_iff];omega
theorem IQ {σ ρ:Type}(f:σ->Option (Fl σ ρ))(n:Nat)(s:σ):aZ f (n+1) s=ak (f s) fun o=>match o with
  | .nx s'=>aZ f n s'
  | .bk s'=>some (.nx s')
  | .br k s'=>some (.br k s')
  | .rt r=>some (.rt r):=rfl
theorem Bs (l:List aV){i j:Nat}(hi:i<l.length)(a:j<l.length):Sort.swp l.toArray i j=((l.set i (l[j]'a)).set j (l[i]'hi)).toArray:=by
 unfold Sort.swp;simp[hi,a]
theorem IS {l:List aV}(hs:∀p∈l,iG p)(hlen:l.length<=1000000):∀(j n:Nat),j<l.length->j<n->∃i:Int,aZ (m7 0 gu) n ((j:Int),l)=some (.nx (i,(Sort.insInner ep 0 j l.toArray).toList)):=by
 intro j
 induction j generalizing l with
 |zero=>
  intro n b hn;obtain ⟨n,rfl⟩:∃m,n=m+1:=⟨n - 1,ai⟩
  refine ⟨0,?_⟩;unfold Sort.insInner aZ m7;rfl
 |succ j ih=>
  intro n b hn;obtain ⟨n,rfl⟩:∃m,n=m+1:=⟨n - 1,ai⟩
  have a:j<l.length:=ai;have w:IntKind.i64.wrap (((j+1:Nat):Int) - 1)=(j:Int):=by rw[IntWalk.i64_in _ ⟨ai,ai⟩];omega
  have e1:bI l ((j+1:Nat):Int)=some (l[j+1]'b):=by
   unfold bI;rw[if_pos ai];simp[b]
  have e2:bI l (j:Int)=some (l[j]'a):=by
   unfold bI;rw[if_pos ai];simp[a]
  obtain ⟨c,e,f⟩:=IP (hs _ (List.getElem_mem b)) (hs _ (List.getElem_mem a));have g:l.toArray[j+1]! =l[j+1]'b:=by simp[b]
  have k:l.toArray[j]! =l[j]'a:=by simp[a]
  unfold Sort.insInner aZ m7;simp only[w,e1,e2,e,ak,f,g,k,show decide ((0:Int)<((j+1:Nat):Int))=true from decide_eq_true ai,cond_true,gt_iff_lt,Nat.zero_lt_succ,decide_true,Bool.true_and];cases r:ep (l[j+1]'b) (l[j]'a) with
  |false=>exact ⟨((j+1:Nat):Int),aB⟩
  |true=>
   have e3:bI (l.set (j+1) (l[j]'a)) (j:Int)=some (l[j]'a):=by
    unfold bI;rw[if_pos ai];simp[a]
   have o:(((j+1:Nat):Int)).toNat=j+1:=ai;simp only[o,cond_true,ak,e3,Int.toNat_natCast,if_true];rw[Bs l b a];have d:((l.set (j+1) (l[j]'a)).set j (l[j+1]'b)).length=l.length:=aB;refine ih (l:=(l.set (j+1) (l[j]'a)).set j (l[j+1]'b)) (fun p q=>?_) (by rw[d];exact hlen) n (by rw[d];exact a) ai;rcases List.mem_or_eq_of_mem_set q with h|rfl
   .rcases List.mem_or_eq_of_mem_set h with h|rfl
    .exact hs p h
    .exact hs _ (List.getElem_mem _)
   .exact hs _ (List.getElem_mem _)
theorem Bt (lt:aV->aV->Bool):∀(j:Nat) (d:Array aV),(Sort.insInner lt 0 j d).size=d.size
 |0,d=>by unfold Sort.insInner;rfl
 |j+1,d=>by
  unfold Sort.insInner
  split
  .rw[Bt lt j];simp[Sort.swp]
  .rfl
theorem Bu {P:aV->Prop}:∀(j:Nat) (l:List aV),j<l.length->(∀p∈l,P p)->∀p∈(Sort.insInner ep 0 j l.toArray).toList,P p
 |0,l,_,h=>by unfold Sort.insInner;simpa using h
 |j+1,l,b,h=>by
  unfold Sort.insInner
  split
  .rw[Bs l b ai]
   refine Bu j _ (by simp;omega) fun p c=>?_
   rcases List.mem_or_eq_of_mem_set c with a|rfl
   .rcases List.mem_or_eq_of_mem_set a with a|rfl
    .exact h p a
    .exact h _ (List.getElem_mem _)
   .exact h _ (List.getElem_mem _)
  .simpa using h
theorem IT {N:Nat}(f:N<=1000000):∀(k i n:Nat) (l:List aV),l.length=N->i+k=N->k<n->(∀p∈l,iG p)->∃j:Int,aZ (k6 0 (N:Int) gu) n ((i:Int),l)=some (.nx (j,(Sort.insOuter ep 0 N i l.toArray).toList)):=by
 intro k
 induction k with
 |zero=>
  intro i n l a hi hn hs;obtain ⟨n,rfl⟩:∃m,n=m+1:=⟨n - 1,ai⟩
  obtain rfl:i=N:=ai;refine ⟨(i:Int),?_⟩;unfold aZ k6;rw[Sort.insOuter,if_neg ai];simp[ak]
 |succ k ih=>
  intro i n l a hi hn hs;obtain ⟨n,rfl⟩:∃m,n=m+1:=⟨n - 1,ai⟩
  obtain ⟨i1,c⟩:=IS hs ai i fu ai (by unfold fu;omega);have w:IntKind.i64.wrap ((i:Int)+1)=((i+1:Nat):Int):=by rw[IntWalk.i64_in _ ⟨ai,ai⟩];omega
  have d:k6 0 (N:Int) gu ((i:Int),l)=some (.nx (((i+1:Nat):Int),(Sort.insInner ep 0 i l.toArray).toList)):=by
   unfold k6;simp only[c,ak,aJ,w,show decide ((i:Int)<(N:Int))=true from decide_eq_true ai,cond_true]
  rw[IQ,d];rw[Sort.insOuter,if_pos ai];have e:(Sort.insInner ep 0 i l.toArray).toList.length=N:=by rw[Array.length_toList,Bt];simpa using a
  obtain ⟨j,b⟩:=ih (i+1) n (Sort.insInner ep 0 i l.toArray).toList e ai ai (Bu i l ai hs);rw[Array.toArray_toList] at b;exact ⟨j,b⟩
theorem IU {l:List aV}(c:l≠[])(k:l.length<=1000000)(hs:∀p∈l,iG p):o8 l 0 (l.length:Int) gu=some ((),iF l):=by
 unfold o8;have m:l.isEmpty=false:=by cases l<;>simp at c ⊢
 have q:0<l.length:=List.length_pos_iff.2 c;have w:IntKind.i64.wrap ((0:Int)+1)=((1:Nat):Int):=by rw[IntWalk.i64_in _ ⟨ai,ai⟩];rfl
 obtain ⟨j,a⟩:=IT k (l.length - 1) 1 fu l rfl ai (by unfold fu;omega) hs;simp only[m,cond_false,w,a,ak,aJ];have f:=Sort.insertionSort_holds (lt:=ep) rU l.toArray 0 l.length ai aB;have e:Sort.insertionSort ep l.toArray 0 l.length=Sort.insOuter ep 0 l.length 1 l.toArray:=rfl;rw[e] at f;obtain ⟨⟨g,-,b⟩,h⟩:=f;generalize Sort.insOuter ep 0 l.length 1 l.toArray=d at g b h;have n:d.size=l.length:=by simpa using g
 refine congrArg (fun x=>some ((),x)) (Br ?_ ?_)
 .have e1:d.extract 0 l.length=d:=by rw[<-n];simp
  have e2:l.toArray.extract 0 l.length=l.toArray:=by
   have:l.length=l.toArray.size:=aB;rw[this];simp
  rw[e1,e2] at b;simpa using b
 .refine List.pairwise_iff_getElem.2 fun i j hi a o=>?_;have:=h i j (Nat.zero_le _) o (by rw[Array.length_toList] at a;omega);rw[Array.length_toList] at hi a;simpa [getElem!_pos d i hi,getElem!_pos d j a] using this
theorem IV {l:List aV}{b:Int}(a:l≠[])(e:l.length<=12)(hs:∀p∈l,iG p):o9 l 0 (l.length:Int) b gu=some ((),iF l):=by
 unfold o9;have c:l.isEmpty=false:=by cases l<;>simp at a ⊢
 have d:fu=(fu - 1)+1:=rfl;have w:IntKind.i64.wrap ((l.length:Int) - 0)=(l.length:Int):=by rw[Int.sub_zero,IntWalk.i64_in _ ⟨ai,ai⟩]
 rw[c,d];unfold aZ rz;simp only[w,show decide ((l.length:Int)<=12)=true by simp;omega,cond_true,cond_false,IU a ai hs,ak,aJ]
theorem Bv {n:Nat}(h:n<65536):∃k,jY (IntKind.u64.wrap (n:Int))=some k:=by
 rw[IntWalk.u64_in _ ⟨ai,ai⟩];unfold jY;rw[if_pos ⟨ai,ai⟩];exact ⟨_,rfl⟩
theorem IW {l:List aV}(a:l≠[])(b:l.length<=12)(hs:∀p∈l,iG p):rA l gu=some ((),iF l):=by
 unfold rA;have c:l.isEmpty=false:=by cases l<;>simp at a ⊢
 obtain ⟨k,d⟩:=Bv (n:=l.length) ai;simp only[c,cond_false,d,ak,IV a b hs]
theorem IX:rC gu=some ():=by
 unfold rC;obtain ⟨k,a⟩:=Bv (n:=0) ai;rw[show IntKind.u64.wrap 0=IntKind.u64.wrap ((0:Nat):Int) from rfl,a];have e:rB 0 0 k gu=some ():=rfl;simp only[ak,e]
def pF (l:List (aV×Bool)):Option (List aV):=if l.length<=12/\∀e∈l,iG e.1 then some (iF (l.map (·.1))) else none
def er (l:List (aV×Bool)):Obj:=dh (fun k:aV=>k.v) (fun v:Bool=>.bool v) l
theorem IY:∃kd,Tryz.prog.underlying 31=some kd:=Option.isSome_iff_exists.1 aS
theorem IZ (a b:aV):lC Tryz.prog 31 a.v b.v=some (a.step==b.step&&(a.cu==b.cu&&true)):=aS
theorem I0 (a b:aV):(a==b)=(a.step==b.step&&(a.cu==b.cu&&true)):=by
 obtain ⟨x,y⟩:=a;obtain ⟨z,w⟩:=b;rw[Bool.eq_iff_iff];simp
theorem I1 {kd:TypeDesc}:qQ (K:=aV) Tryz.prog 31 kd (fun k=>k.v) where
 eq a b Q F h:=by
  rw[I0] at h
  exact (sJ (IZ a b) h).1
 none a b:=by
  unfold aV.v
  cases kd<;>rfl
 bits a b h:=by
  obtain rfl:a=b:=by simpa using h
  exact ⟨by simp[aV.v,Instr.sameBits],rfl⟩
 plain e k Q F h:=by
  have:bx Tryz.prog (Instr.checkKey e 10000 31 k.v) Q F=Q () F:=aS
  rw[this]
  exact h
theorem I2 {R:Value->ag->Prop}{F:ag}(h:∀b,dx F b->R (.map (some b)) (F.push b (er []))):cJ Tryz.prog (Instr.makeMap 137 none) R F:=qj (fun k:aV=>k.v) (fun v:Bool=>.bool v) h
theorem I3 {own:List (Nat×Obj)}{ro:Addr->Option Value}{b:Nat}{l:List (aV×Bool)}{k:aV}{v:Bool}{R:Value->ag->Prop}(a:lk own b=some (er l))(h:R undef ⟨ro,eU own b (er (cC l k v))⟩):cJ Tryz.prog (Instr.mapUpdate 137 (.map (some b)) k.v (.bool v)>>= fun _=>pure undef) R ⟨ro,own⟩:=by
 obtain ⟨kd,c⟩:=IY;exact ER (fv:=fun v:Bool=>.bool v) (k:=k) (v:=v) (I1 (kd:=kd)) (show Tryz.prog.underlying 137=some (.map 31 4) by kernel_rfl) c a h
def gF (l:List (aV×Bool))(i:Nat):aV:=(l.getD i (⟨0,0⟩,false)).1
theorem Bw:∀(N:Nat) (l:List Nat),l.Nodup->(∀i∈l,i<N)->l.length<=N
 |0,l,_,h=>by
  cases l with
  |nil=>exact Nat.le_refl _
  |cons x l=>exact absurd (h x aB) (Nat.not_lt_zero _)
 |N+1,l,hn,h=>by
  have a:=Bw N (l.erase N) (hn.erase N) fun i hi=>by
   rw[hn.mem_erase_iff] at hi
   have:=h i hi.2
   omega
  by_cases hm:N∈l
  .rw[List.length_erase_of_mem hm] at a;omega
  .rw[List.erase_of_not_mem hm] at a;omega
theorem I4 {n:Nat}{seen:List Nat}(a:seen.Nodup)(b:∀i∈seen,i<n)(c:∀i,i<n->i∈seen):seen.Perm (List.range n):=
 (List.perm_ext_iff_of_nodup a List.nodup_range).2 fun i=>⟨fun h=>List.mem_range.2 (b i h),fun h=>c i (List.mem_range.1 h)⟩
theorem I5 (l:List (aV×Bool)):(List.range l.length).map (gF l)=l.map (·.1):=by
 refine List.ext_getElem aB fun i a b=>?_;simp at a;simp[gF,List.getD,a]
theorem I6 {l:List (aV×Bool)}{out:List aV}(h:pF l=some out){seen:List Nat}(c:seen.Nodup)(d:∀i∈seen,i<l.length)(f:∀i,i<l.length->i∈seen):
  seen.length<=12/\(∀p∈seen.map (gF l),iG p)/\out=iF (seen.map (gF l)):=by
 unfold pF at h
 split at h
 case isFalse=>cases h
 rename_i g
 have a:=I4 c d f
 have b:(seen.map (gF l)).Perm (l.map (·.1)):=by have:=a.map (gF l);rwa [I5] at this
 refine ⟨by have:=a.length_eq;simp at this;omega,fun p j=>?_,?_⟩
 .obtain ⟨e,he,rfl⟩:=List.mem_map.1 (b.subset j)
  exact g.2 e he
 .rw[<-Option.some.inj h]
  exact IN b.symm
theorem I7 {main:Bool}{J:Goroutine->ag->Prop}(hJ:Closed Tryz.prog main J){A:Act}{K ro:Addr->Option Value}(L:Ext K ro){d:Nat}(ab:∀off sp,ro ⟨d,off,sp⟩=none){l:List (aV×Bool)}(ae:sz A=78/\A.defers=[]/\slot A 9= .map (some d)/\slot A 15= .slice none 0 0)
  {r:List aV×Int} (h:ak (pF l) (fun x=>some (x,0))=some r):
  Wp J (bY (bY (bY (bY (bY (bY (bY (Tryz.f46.body.getD .skip)))))))) (iq Tryz.prog [.tmp 4,.tmp 5] (fun v G=>∃aK,Ext K aK/\Le ⟨aK,[]⟩ G/\∃M,v= .tuple #[M,.int .i64 r.2]/\aG eM aK M r.1)) A ⟨ro,[(d,er l)]⟩:=by
 obtain ⟨al,hd,ao,ar⟩:=ae
 obtain ⟨out,ho,h⟩:=av h
 obtain rfl:=Option.some.inj h
 clear h
 refine af hJ ?_
 refine af hJ ?_
 refine ah hJ ?_
 apply bw _
 have a0:lk [(d,er l)] d=some (er l):=by simp[lk]
 refine ES (fun k:aV=>k.v) (fun v:Bool=>.bool v) (show Tryz.prog.underlying 137=some (.map 31 4) by kernel_rfl) a0 fun c N=>?_
 have rc:=aT N;have s:=aU N
 simp only[aN] at s
 apply bw _
 refine bf hJ ?_
 refine bO hJ [15,16,67,68,69,70,71,72,73,74] (fun m a2 F'=>∃(seen:List Nat) (ad:Option Addr) (cap:Nat) (f:List (Nat×Obj)),seen.Nodup/\(∀i∈seen,i<l.length)/\(seen=[]->ad=none/\cap=0)/\m=l.length - seen.length/\F'=⟨ro,(c,.mapIter (some d) l.length seen.toArray l.length)::(d,er l)::f⟩/\bA eM ro 31 (.slice ad seen.length cap) (seen.map (gF l)) f/\slot a2 15= .slice ad seen.length cap) l.length ?_ ?_
 .refine ⟨[],none,0,[],List.nodup_nil,aB,aB,aB,rfl,bA.nil _ _ _,?_⟩
  apply bw _
  simp
 rintro m n F' o ⟨seen,ad,cap,f,t,u,O,rfl,rfl,hg,P⟩
 have b1:sz n=78:=by rw[o.size];simp only[*,go_sem]
 have kd:n.defers=[]:=by rw[o.defers];simp only[*,go_sem]
 have b2:slot n 66= .pointer (some ⟨c,0,none⟩):=by rw[o.aA 66 ay];simp only[*,go_sem]
 clear o ao ar al hd
 refine af hJ ?_
 refine ah hJ ?_
 apply bw _
 have w:lk ((c,.mapIter (some d) l.length seen.toArray l.length)::(d,er l)::f) d=some (er l):=by
  simp only[lk,if_neg s.1,if_true]
 have y:lk ((c,.mapIter (some d) l.length seen.toArray l.length)::(d,er l)::f) c=some (.mapIter (some d) l.length seen.toArray l.length):=by
  simp only[lk,if_true]
 refine ET (fun k:aV=>k.v) (fun v:Bool=>.bool v) w y (fun Q=>?_) (fun i x hi a3=>?_)
 .clear w y
  apply bw _
  refine af hJ ?_
  refine aM hJ cY ?_
  refine bM ?_
  simp only[go_sem]
  refine af hJ ?_
  obtain ⟨hlen,a4,rfl⟩:=I6 ho t u fun i hi=>by simpa using Q i hi
  clear ho h Q
  by_cases R:seen=[]
  .subst R
   obtain ⟨rfl,rfl⟩:=O rfl
   replace P:slot n 15= .slice none 0 0:=P
   refine ah hJ ?_
   apply bw _
   refine bl hJ _ (GH (bN:=112) (bP:=#[]) (bQ:=#[]) gu ⟨by simp only[go_sem],fun a5 a6 y0 B z C=>by simp only[go_sem];exact zb y0 B C⟩ IX) ?_
   try apply bw _
   repeat refine af hJ ?_
   refine ah hJ ?_
   apply bw _
   refine aI ?_
   apply bw _
   exact ⟨_,L,Le.sub (List.nil_sublist _),_,rfl,aG.nil _ _⟩
  .clear O
   refine aO hJ fun b3=>?_
   refine ah hJ ?_
   apply bw _
   refine dA hJ [(c,.mapIter (some d) l.length seen.toArray l.length),(d,er l)] [] aB _ (GD (bN:=112) (bP:=#[]) (bQ:=#[]) (b8:=.slice ad seen.length cap) (seen.map (gF l)) hg gu ⟨by simp only[go_sem],fun a5 a6 y0 B z C=>by simp only[go_sem];exact zb y0 B C⟩ (IW (by simpa using R) (by simpa using hlen) a4)) (fun v p a7 D E nd=>?_)
   obtain ⟨rfl,q⟩:=a7
   simp only[bE] at E
   subst D
   refine ⟨⟨ro,(c,.mapIter (some d) l.length seen.toArray l.length)::(d,er l)::p⟩,Le.refl _,?_⟩
   try apply bw _
   repeat refine af hJ ?_
   refine ah hJ ?_
   apply bw _
   refine aO hJ fun H=>?_
   obtain ⟨S,a8,b4,a9,ba⟩:=q.iN ((c,.mapIter (some d) l.length seen.toArray l.length)::(d,er l)::[]) [(c,.mapIter (some d) l.length seen.toArray l.length),(d,er l)] [] aB aB H (aW.cons rc (aW.cons ab (aW.nil _)))
   refine cG (F:=⟨S,(c,.mapIter (some d) l.length seen.toArray l.length)::(d,er l)::[]⟩) hJ ba ?_
   refine aI ?_
   apply bw _
   exact ⟨S,L.trans a8,Le.sub (List.nil_sublist _),_,rfl,a9⟩
 .apply bw _
  have bb:i<l.length:=(List.getElem?_eq_some_iff.1 hi).1
  have bc:gF l i=x.1:=by simp[gF,List.getD,hi]
  have T:i∉seen:=by simpa using a3
  have hlen:seen.length<l.length:=by
   rcases Nat.lt_or_ge seen.length l.length with g|g
   .exact g
   .exfalso
    have bd:=Bw l.length (i::seen) (List.nodup_cons.2 ⟨T,t⟩) fun j I=>(List.mem_cons.1 I).elim (fun e=>e▸bb) (u j)
    simp at bd
    omega
  refine af hJ ?_
  refine aL hJ cY ?_
  refine aR hJ ?_
  refine bf hJ ?_
  refine af hJ ?_
  refine ah hJ ?_
  apply bw _
  have U:lk ((c,.mapIter (some d) l.length (seen.toArray.push i) l.length)::(d,er l)::f) d=some (er l):=by
   simp only[lk,if_neg s.1,if_true]
  have V:lk ((c,.mapIter (some d) l.length (seen.toArray.push i) l.length)::(d,er l)::f) c=some (.mapIter (some d) l.length (seen.toArray.push i) l.length):=by
   simp only[lk,if_true]
  refine EU (fun k:aV=>k.v) (fun v:Bool=>.bool v) U V hi ?_
  clear w y U V
  apply bw _
  intro W f5;have ca:=aT f5;have bj:=aU f5
  simp only[aN] at bj
  refine aO hJ fun bk=>?_
  refine ah hJ ?_
  apply bw _
  intro X f6;have bm:=aT f6;have Y:=aU f6
  have H:=bT.cons Y bk
  simp only[aN] at Y
  try apply bw _
  have cb:l.length<=12:=by
   unfold pF at ho
   split at ho
   .rename_i bo;exact bo.1
   .cases ho
  refine kJ (r:=eM) (l:=seen.map (gF l)) (x:=x.1) (cs:=#[.int .i64 x.1.step,.int .i64 x.1.cu]) (e2:=31) [(X,.cells #[.int .i64 x.1.step,.int .i64 x.1.cu] 31),(W,.cells #[.int .i64 x.1.step,.int .i64 x.1.cu] 31),(c,.mapIter (some d) l.length (seen.toArray.push i) l.length),(d,er l)] [] aB hg H (by simp;omega) rfl cY bm rfl rfl yp yp CQ yh rfl CR ay ay (fun v p q D E nd=>?_)
  simp only[bE] at E
  subst D
  obtain ⟨d2,br,rfl,cc⟩:=q.len
  refine ⟨⟨ro,(X,.cells #[.int .i64 x.1.step,.int .i64 x.1.cu] 31)::(W,.cells #[.int .i64 x.1.step,.int .i64 x.1.cu] 31)::(c,.mapIter (some d) l.length (seen.toArray.push i) l.length)::(d,er l)::p⟩,Le.refl _,?_⟩
  refine aQ ?_
  apply bw _
  have Z:(seen.map (gF l)++[x.1]).length=(seen++[i]).length:=aB
  have bs:(seen++[i]).map (gF l)=seen.map (gF l)++[x.1]:=by simp[bc]
  refine ⟨l.length - (seen.length+1),ai,_,Le.sub (.cons _ (.cons _ (List.Sublist.refl _))),seen++[i],d2,br,p,?_,?_,aB,aB,aB,?_,by rw[Z]⟩
  .exact List.nodup_append.2 ⟨t,aB,fun a b0 b hb e=>T (by simp at hb;rw[<-hb,<-e];exact b0)⟩
  .intro j I
   rcases List.mem_append.1 I with g|g
   .exact u j g
   .simp at g;omega
  .rw[bs,<-Z]
   exact q
def rV (u0:bu)(a:(List UInt8)):Option Bool:=
 some (u0.bH==a)
theorem I8 {ro:Addr->Option Value}(u0:bu)(a:(List UInt8)){b:Nat}(c:ro ⟨b,0,none⟩=some (.string ⟨⟨a⟩⟩)){r:Bool}(h:rV u0 a=some r):aF Tryz.prog 107 #[.agg #[.string ⟨⟨u0.bH⟩⟩,.int .i64 u0.dN,.int .i64 u0.row],.pointer (some ⟨b,0,none⟩)] ⟨ro,[]⟩ (fun v _=>v= .bool r):=by
 unfold rV at h;refine aF.go Tryz.func107 rfl Tryz.ntmps107 Tryz.results107 aB fun main J hJ A d hd hs=>?_;have e:=hs 0;have k1:=hs 1;clear hs;refine af hJ ?_;refine ah hJ ?_;apply aa _;intro f f1;have r1:=aT f1;have n1:=aU f1;try simp only[aN] at n1
 try apply aa _
 refine af hJ ?_;refine ah hJ ?_;apply aa _;have h':=Option.some.inj h;clear h;subst h';refine aI ?_;simp only[*,go_sem]
def nB (u0:bp)(a:(List UInt8)):Option Int:=
 ak (oG u0.marks (fun y0=>rV y0 a)) fun b=>some b
theorem Bx {ro:Addr->Option Value}(u0:bp){s1:Value}(c:aG dO ro s1 u0.marks)(a:(List UInt8)){b:Nat}(d:ro ⟨b,0,none⟩=some (.string ⟨⟨a⟩⟩)){r:Int}(h:nB u0 a=some r):aF Tryz.prog 105 #[.agg #[.string ⟨⟨u0.name⟩⟩,.int .i64 u0.from_.low,.int .i64 u0.from_.high,.int .i64 u0.wide,.int .i64 u0.aC.low,.int .i64 u0.aC.high,s1],.pointer (some ⟨b,0,none⟩)] ⟨ro,[]⟩ (fun v _=>v= .int .i64 r):=by
 obtain ⟨d3,c4,rfl,j,k,l⟩:=id c;unfold nB at h;refine aF.go Tryz.func105 rfl Tryz.ntmps105 Tryz.results105 aB fun main J hJ A m hd hs=>?_;have n:=hs 0;have k1:=hs 1;clear hs;refine af hJ ?_;refine ah hJ ?_;apply aa _;intro o f8;have p:=aT f8;have e:=aU f8;try simp only[aN] at e
 try apply aa _
 refine af hJ ?_;refine ah hJ ?_;have h':=av h;clear h;obtain ⟨q,f,h⟩:=h';apply aa _;refine bl hJ _ (za (bN:=107) (bP:=#[]) (bQ:=#[.pointer (some ⟨b,0,none⟩)]) u0.marks (c.mono aX) (fun y0=>rV y0 a) ⟨by simp only[go_sem],fun s g y0 t i=>by simp only[go_sem];exact I8 y0 a (g _ _ (aX _ _ d)) i⟩ f) (aQ ?_);try apply aa _
 have h':=Option.some.inj h;clear h;subst h';refine aI ?_;simp only[*,go_sem]
def rW (u0:bp)(a:(bp->Option Int)):Option Bool:=
 ak (a u0) fun b=>some (decide (0<=b))
theorem I9 {ro:Addr->Option Value}(u0:bp){s1:Value}(c:aG dO ro s1 u0.marks)(d:(bp->Option Int)){b:FuncId}{e f:Array Value}{g:Nat}(j:aP Tryz.prog b=true/\∀(aK:Addr->Option Value),Ext ro aK->∀(y0:bp) (i:Value) (z:Int),aG dO aK i y0.marks->d y0=some z->aF Tryz.prog b (e++#[.agg #[.string ⟨⟨y0.name⟩⟩,.int .i64 y0.from_.low,.int .i64 y0.from_.high,.int .i64 y0.wide,.int .i64 y0.aC.low,.int .i64 y0.aC.high,i]]++f) ⟨aK,[]⟩ (fun v _=>v= .int .i64 z))(m:ro ⟨g,0,none⟩=some (.func (.func b) e f)){r:Bool}(h:rW u0 d=some r):aF Tryz.prog 110 #[.agg #[.string ⟨⟨u0.name⟩⟩,.int .i64 u0.from_.low,.int .i64 u0.from_.high,.int .i64 u0.wide,.int .i64 u0.aC.low,.int .i64 u0.aC.high,s1],.pointer (some ⟨g,0,none⟩)] ⟨ro,[]⟩ (fun v _=>v= .bool r):=by
 obtain ⟨d3,c4,rfl,n,o,p⟩:=id c;unfold rW at h;refine aF.go Tryz.func110 rfl Tryz.ntmps110 Tryz.results110 aB fun main J hJ A q hd hs=>?_;have s:=hs 0;have k1:=hs 1;clear hs;refine af hJ ?_;refine ah hJ ?_;apply aa _;intro t f8;have u:=aT f8;have k:=aU f8;try simp only[aN] at k
 try apply aa _
 refine af hJ ?_;refine ah hJ ?_;have h':=av h;clear h;obtain ⟨w,l,h⟩:=h';apply aa _;refine bl hJ _ (j.2 _ (fun a v h=>aX a v h) u0 _ _ (c.mono aX) l) (aQ ?_);try apply aa _
 have h':=Option.some.inj h;clear h;subst h';refine aI ?_;simp only[*,go_sem]
def rX (u0:aH)(a:(bp->Option Int)):Option Bool:=
 ak (tZ u0.aj (fun y0=>rW y0 a)) fun b=>some b
theorem Ja {ro:Addr->Option Value}(u0:aH){s1:Value}(d:aG bJ ro s1 u0.aj)(a:(bp->Option Int)){b:FuncId}{e f:Array Value}{c:Nat}(g:aP Tryz.prog b=true/\∀(aK:Addr->Option Value),Ext ro aK->∀(y0:bp) (i:Value) (z:Int),aG dO aK i y0.marks->a y0=some z->aF Tryz.prog b (e++#[.agg #[.string ⟨⟨y0.name⟩⟩,.int .i64 y0.from_.low,.int .i64 y0.from_.high,.int .i64 y0.wide,.int .i64 y0.aC.low,.int .i64 y0.aC.high,i]]++f) ⟨aK,[]⟩ (fun v _=>v= .int .i64 z))(k:ro ⟨c,0,none⟩=some (.func (.func b) e f)){r:Bool}(h:rX u0 a=some r):aF Tryz.prog 108 #[.agg #[.int .i64 u0.steps,.int .i64 u0.an,s1],.pointer (some ⟨c,0,none⟩)] ⟨ro,[]⟩ (fun v _=>v= .bool r):=by
 obtain ⟨d3,c4,rfl,q,s,t⟩:=id d;unfold rX at h;refine aF.go Tryz.func108 rfl Tryz.ntmps108 Tryz.results108 aB fun main J hJ A u hd hs=>?_;have w:=hs 0;have k1:=hs 1;clear hs;refine af hJ ?_;refine ah hJ ?_;apply aa _;intro x f8;have y:=aT f8;have l:=aU f8;try simp only[aN] at l
 try apply aa _
 refine af hJ ?_;refine ah hJ ?_;have h':=av h;clear h;obtain ⟨B,m,h⟩:=h';apply aa _;refine bl hJ _ (El (bN:=110) (bP:=#[]) (bQ:=#[.pointer (some ⟨c,0,none⟩)]) u0.aj (d.mono aX) (fun y0=>rW y0 a) ⟨by simp only[go_sem],fun C j y0 _ D n o=>by simp only[go_sem];exact I9 y0 n a ⟨g.1,fun _ p=>g.2 _ (Ext.trans (Ext.trans aX j) p)⟩ (j _ _ (aX _ _ k)) o⟩ m) (aQ ?_);try apply aa _
 have h':=Option.some.inj h;clear h;subst h';refine aI ?_;simp only[*,go_sem]
def wW (b:(dF×Int))(i51:Nat)(c:bp)(d:Int)(i71:Nat)(a:bg)(st:(List (aV×Bool))):Option (Fl (List (aV×Bool)) ((List aV)×Int)):=
 ak (iR a (i51:Int)) fun e=>cond (!e) (ak (bI c.marks d) fun f=>ak (kN b.1.round a (i51:Int) f) fun g=>some (.nx (cC st g true))) (some (.nx st))
def wX (d:(List UInt8))(a:(dF×Int))(i51:Nat)(b:bp)(st:(List (aV×Bool))):Option (Fl (List (aV×Bool)) ((List aV)×Int)):=
 ak (nB b d) fun c=>cond (decide (c<0)) (some (.nx st)) (ak (bX (wW a i51 b c) 0 a.1.bG st) fun o=>aJ o (fun e=>some (.nx e)) (fun _ _=>none) (fun r=>some (.rt r)))
def rY (u0:aH)(b:(List UInt8)):Option ((List aV)×Int):=
 ak (gP u0 (fun y0=>rX y0 (fun y0=>nB y0 b))) fun a=>cond ((a.2 != 0)) (some (([]:(List aV)),a.2)) (ak (bX (wX b a) 0 u0.aj ([]:(List (aV×Bool)))) fun o=>aJ o (fun c=>ak (pF c) fun x=>some (x,0)) (fun _ _=>none) (fun r=>some r))
theorem By {ro:Addr->Option Value}(B:dB ro)(u0:aH){s1:Value}(i:aG bJ ro s1 u0.aj)(j:(List UInt8)){r:((List aV)×Int)}(h:rY u0 j=some r):eK Tryz.prog 46 #[.agg #[.int .i64 u0.steps,.int .i64 u0.an,s1],.string ⟨⟨j⟩⟩] ro (fun v aK=>∃a3,v= .tuple #[a3,.int .i64 r.2]/\aG eM aK a3 r.1):=by
 obtain ⟨d3,c4,rfl,hj,a4,C⟩:=id i;unfold rY at h;refine aF.go Tryz.func46 rfl Tryz.ntmps46 Tryz.results46 aB fun main J hJ A b2 hd hs=>?_;have b3:=hs 0;have k1:=hs 1;clear hs;refine af hJ ?_;refine ah hJ ?_;apply aa _;intro p f8;have K:=aT f8;have b4:=aU f8;try simp only[aN] at b4
 intro f f9;have a5:=aT f9;have ca:=aU f9;try simp only[aN] at ca
 try apply aa _
 refine af hJ ?_;refine ah hJ ?_;apply aa _;intro q f10;have O:=aT f10;have cb:=aU f10;try simp only[aN] at cb
 try apply aa _
 refine af hJ ?_;refine aO hJ fun a6=>?_;obtain ⟨L,M,a7⟩:=gL (b:=f) (o:=(.cells #[.string ⟨⟨j⟩⟩] 9)) [(q,.cells #[.func (.func 105) #[] #[.pointer (some ⟨f,0,none⟩)]] 135)] ((p,.cells #[.int .i64 u0.steps,.int .i64 u0.an,.slice d3 u0.aj.length c4] 24)::[]) a6 a5 (aW.cons O (aW.cons K (aW.nil _)));clear a6;have D:bZ ro f (.cells #[.string ⟨⟨j⟩⟩] 9) ⟨f,0,none⟩=some (.string ⟨⟨j⟩⟩):=by rw[ew a5];rfl
 generalize bZ ro f (.cells #[.string ⟨⟨j⟩⟩] 9)=P at L M a7 D;refine cG (F:=⟨P,(q,.cells #[.func (.func 105) #[] #[.pointer (some ⟨f,0,none⟩)]] 135)::(p,.cells #[.int .i64 u0.steps,.int .i64 u0.an,.slice d3 u0.aj.length c4] 24)::[]⟩) hJ a7 ?_;have M:aW P ((q,.cells #[.func (.func 105) #[] #[.pointer (some ⟨f,0,none⟩)]] 135)::(p,.cells #[.int .i64 u0.steps,.int .i64 u0.an,.slice d3 u0.aj.length c4] 24)::[]):=M;replace i:=i.mono L;clear C;obtain ⟨_,_,C⟩:=i.op;replace O:=M.hd;replace K:=M.tl.hd;replace B:=B.mono L;refine aO hJ fun a8=>?_;obtain ⟨G,Q,a9⟩:=gL (b:=q) (o:=(.cells #[.func (.func 105) #[] #[.pointer (some ⟨f,0,none⟩)]] 135)) [] ((p,.cells #[.int .i64 u0.steps,.int .i64 u0.an,.slice d3 u0.aj.length c4] 24)::[]) a8 O (aW.cons K (aW.nil _));clear a8;have R:bZ P q (.cells #[.func (.func 105) #[] #[.pointer (some ⟨f,0,none⟩)]] 135) ⟨q,0,none⟩=some (.func (.func 105) #[] #[.pointer (some ⟨f,0,none⟩)]):=by rw[ew O];rfl
 generalize bZ P q (.cells #[.func (.func 105) #[] #[.pointer (some ⟨f,0,none⟩)]] 135)=ba at G Q a9 R;refine cG (F:=⟨ba,(p,.cells #[.int .i64 u0.steps,.int .i64 u0.an,.slice d3 u0.aj.length c4] 24)::[]⟩) hJ a9 ?_;have Q:aW ba ((p,.cells #[.int .i64 u0.steps,.int .i64 u0.an,.slice d3 u0.aj.length c4] 24)::[]):=Q;replace i:=i.mono G;clear C;obtain ⟨_,_,C⟩:=i.op;replace K:=Q.hd;replace B:=B.mono G;replace D:=G _ _ D;refine ah hJ ?_;have h':=av h;clear h;obtain ⟨d,cc,h⟩:=h';apply aa _;refine cV hJ _ (jA B (bN:=108) (bP:=#[]) (bQ:=#[.pointer (some ⟨q,0,none⟩)]) u0 i (fun y0=>rX y0 (fun y0=>nB y0 j)) ⟨by simp only[go_sem],fun hk bb y0 _ hl cd cf=>by simp only[go_sem];exact Ja y0 cd (fun y0=>nB y0 j) ⟨by simp only[go_sem],fun hn ck cl _ ho cv cy=>by simp only[go_sem];exact Bx cl cv j (ck _ _ (bb _ _ D)) cy⟩ (bb _ _ R) cf⟩ cc) fun v S H Y hR=>?_;obtain ⟨hp,hq,rfl,bc,c0⟩:=hR;have Y:aW S ((p,.cells #[.int .i64 u0.steps,.int .i64 u0.an,.slice d3 u0.aj.length c4] 24)::[]):=Y;replace i:=i.mono H;clear C;obtain ⟨_,_,C⟩:=i.op;replace K:=Y.hd;replace B:=B.mono H;replace D:=H _ _ D;replace R:=H _ _ R;obtain ⟨d35,Z,rfl,hr,ht,hv⟩:=id bc;obtain ⟨d42,T,rfl,hx,bd,da⟩:=id c0;refine aQ ?_;try apply aa _
 intro I f47;have hy:=aT f47;have db:=aU f47;try simp only[aN] at db
 try apply aa _
 refine af hJ ?_;refine af hJ ?_;refine ah hJ ?_;apply aa _;have h':=aD h;clear h;rcases h' with ⟨ab,h⟩|⟨ab,h⟩
 .try simp only[Int.ofNat_lt] at ab
  refine aL hJ au ?_;refine af hJ ?_;refine ah hJ ?_;apply aa _;have h':=Option.some.inj h;clear h;subst h';refine aI ?_;apply bw _;exact ⟨_,((L).trans G).trans H,Le.sub (List.nil_sublist _),_,rfl,aG.nil _ _⟩
 try simp only[Int.ofNat_lt] at ab
 refine aM hJ au ?_;refine aR hJ ?_;refine af hJ ?_;refine ah hJ ?_;apply aa _;refine I2 fun U f49=>?_;have dd:=aT f49;have df:=aU f49;try simp only[aN] at df
 refine aQ ?_;try apply aa _
 refine af hJ ?_;refine af hJ ?_;refine ah hJ ?_;apply aa _;refine bf hJ ?_;have h':=av h;clear h;obtain ⟨dk,w,dp⟩:=h';have h:=True.intro;refine bO hJ [10,11,12,14,31,32,33,34,35,36,37,38,39,40,41,42,43,44,45,46,47,48,49,50,51,52,53,54,55,56,57,58,59,60,61,62,63,64] (fun m ad F'=>∃(i51:Nat) (N:(List (aV×Bool))),m=u0.aj.length - i51/\i51<=u0.aj.length/\bX (wX j d) i51 (u0.aj.drop i51) N=some dk/\F'=⟨S,(U,er N)::(I,.cells #[.int .i64 d.1.round.steps,.int .i64 d.1.round.an,.slice d35 d.1.round.aj.length Z,.slice d42 d.1.bG.length T] 107)::(p,.cells #[.int .i64 u0.steps,.int .i64 u0.an,.slice d3 u0.aj.length c4] 24)::[]⟩/\slot ad 31= .int .i64 (i51:Int)) u0.aj.length ?_ ?_
 .refine ⟨0,([]:(List (aV×Bool))),(Nat.sub_zero _).symm,Nat.zero_le _,w,rfl,?_⟩;simp only[*,go_sem,-h]
 rintro hz s F' t ⟨i51,N,rfl,hA,w,rfl,dq⟩;have h:=True.intro;have ds:sz s=78:=by rw[t.size];simp only[*,go_sem,-h]
 have dt:s.defers=[]:=by rw[t.defers];simp only[*,go_sem,-h]
 have du:slot s 4= .slice none 0 0:=by rw[t.aA 4 ay];simp only[*,go_sem,-h]
 have dv:slot s 5= .int .i64 0:=by rw[t.aA 5 ay];simp only[*,go_sem,-h]
 have dC:slot s 6= .pointer (some ⟨q,0,none⟩):=by rw[t.aA 6 ay];simp only[*,go_sem,-h]
 have dE:slot s 7= .pointer (some ⟨I,0,none⟩):=by rw[t.aA 7 ay];simp only[*,go_sem,-h]
 have dT:slot s 9= .map (some U):=by rw[t.aA 9 ay];simp only[*,go_sem,-h]
 have ea:slot s 29= .slice d3 u0.aj.length c4:=by rw[t.aA 29 ay];simp only[*,go_sem,-h]
 have eb:slot s 30= .int .i64 (u0.aj.length:Int):=by rw[t.aA 30 ay];simp only[*,go_sem,-h]
 clear t b2 hd b3 k1;refine af hJ ?_;refine ah hJ ?_;apply aa _;refine af hJ ?_;rcases Nat.lt_or_ge i51 u0.aj.length with ec|bj
 .refine aL hJ au ?_;refine aR hJ ?_;obtain ⟨a,ae⟩:∃x,u0.aj[i51]?=some x:=⟨_,List.getElem?_eq_getElem ec⟩
  rw[ey ae] at w;have h':=av w;clear w h;obtain ⟨hB,h,bk⟩:=h';unfold wX at h;try dsimp only at h
  obtain ⟨al,hD,ed,eh,y⟩:=C _ _ ae;obtain ⟨hE,rfl,bm⟩:=eh;obtain ⟨d60,V,rfl,hG,hH,et⟩:=id bm;cases ed;have ev:=y 0 _ rfl;simp only[go_sem] at ev;have eQ:=y 1 _ rfl;simp only[go_sem] at eQ;have eS:=y 2 _ rfl;simp only[go_sem] at eS;have fa:=y 3 _ rfl;simp only[go_sem] at fa;have fb:=y 4 _ rfl;simp only[go_sem] at fb;have fc:=y 5 _ rfl;simp only[go_sem] at fc;have fg:=y 6 _ rfl;simp only[go_sem] at fg;clear y ae;refine af hJ ?_;refine bf hJ ?_;refine af hJ ?_;refine ah hJ ?_;apply aa _;intro ao f66;have hI:=aT f66;have fh:=aU f66;try simp only[aN] at fh
  try apply aa _
  refine af hJ ?_;refine ah hJ ?_;have h':=av h;clear h;obtain ⟨W,fi,h⟩:=h';apply aa _;refine bl hJ _ (Bx a (bm.mono aX) j (aX _ _ D) fi) (aQ ?_);try apply aa _
  refine af hJ ?_;refine af hJ ?_;refine ah hJ ?_;apply aa _;have h':=aD h;clear h;rcases h' with ⟨ar,h⟩|⟨ar,h⟩
  ·(try simp only[Int.ofNat_lt] at ar);refine aL hJ au ?_;refine bM ?_;simp only[go_sem];have h':=Option.some.inj h;clear h;subst h';have h:=True.intro;have fj:=dH (n:=i51) (by have:=a4;omega);refine ah hJ ?_;apply aa _;refine ⟨u0.aj.length - (i51+1),ai,_,Le.sub (List.Sublist.cons _ (List.Sublist.refl _)),i51+1,N,rfl,ai,bk,rfl,?_⟩;simp only[*,go_sem,-h]
  try simp only[Int.ofNat_lt] at ar
  refine aM hJ au ?_;refine aR hJ ?_;refine af hJ ?_;refine ah hJ ?_;apply aa _;refine bf hJ ?_;have h':=av h;clear h;obtain ⟨fl,z,fp⟩:=h';have h:=True.intro;refine bO hJ [14,44,45,46,47,48,49,50,51,52,53,54,55,56,57,58,59,60,61,62,63] (fun m ad F'=>∃(i71:Nat) (E:(List (aV×Bool))),m=d.1.bG.length - i71/\i71<=d.1.bG.length/\bX (wW d i51 a W) i71 (d.1.bG.drop i71) E=some fl/\F'=⟨S,(ao,.cells #[.string ⟨⟨a.name⟩⟩,.int .i64 a.from_.low,.int .i64 a.from_.high,.int .i64 a.wide,.int .i64 a.aC.low,.int .i64 a.aC.high,.slice d60 a.marks.length V] 56)::(U,er E)::(I,.cells #[.int .i64 d.1.round.steps,.int .i64 d.1.round.an,.slice d35 d.1.round.aj.length Z,.slice d42 d.1.bG.length T] 107)::(p,.cells #[.int .i64 u0.steps,.int .i64 u0.an,.slice (some al) u0.aj.length c4] 24)::[]⟩/\slot ad 44= .int .i64 (i71:Int)) d.1.bG.length ?_ ?_
  .refine ⟨0,N,(Nat.sub_zero _).symm,Nat.zero_le _,z,rfl,?_⟩;simp only[*,go_sem,-h]
  rintro m2 e F' c ⟨i71,E,rfl,hK,z,rfl,hL⟩;have h:=True.intro;have hM:sz e=78:=by rw[c.size];simp only[*,go_sem,-h]
  have hN:e.defers=[]:=by rw[c.defers];simp only[*,go_sem,-h]
  have hP:slot e 4= .slice none 0 0:=by rw[c.aA 4 ay];simp only[*,go_sem,-h]
  have hQ:slot e 5= .int .i64 0:=by rw[c.aA 5 ay];simp only[*,go_sem,-h]
  have hS:slot e 6= .pointer (some ⟨q,0,none⟩):=by rw[c.aA 6 ay];simp only[*,go_sem,-h]
  have hT:slot e 7= .pointer (some ⟨I,0,none⟩):=by rw[c.aA 7 ay];simp only[*,go_sem,-h]
  have hV:slot e 9= .map (some U):=by rw[c.aA 9 ay];simp only[*,go_sem,-h]
  have hX:slot e 10= .int .i64 (i51:Int):=by rw[c.aA 10 ay];simp only[*,go_sem,-h]
  have hY:slot e 11= .pointer (some ⟨ao,0,none⟩):=by rw[c.aA 11 ay];simp only[*,go_sem,-h]
  have hZ:slot e 12= .int .i64 W:=by rw[c.aA 12 ay];simp only[*,go_sem,-h]
  have h0:slot e 29= .slice (some al) u0.aj.length c4:=by rw[c.aA 29 ay];simp only[*,go_sem,-h]
  have h1:slot e 30= .int .i64 (u0.aj.length:Int):=by rw[c.aA 30 ay];simp only[*,go_sem,-h]
  have h2:slot e 31= .int .i64 (i51:Int):=by rw[c.aA 31 ay];simp only[*,go_sem,-h]
  have h3:slot e 32= .bool true:=by rw[c.aA 32 ay];simp only[*,go_sem,-h]
  have h4:slot e 33= .int .i64 (i51:Int):=by rw[c.aA 33 ay];simp only[*,go_sem,-h]
  have h5:slot e 35= .agg #[.string ⟨⟨a.name⟩⟩,.int .i64 a.from_.low,.int .i64 a.from_.high,.int .i64 a.wide,.int .i64 a.aC.low,.int .i64 a.aC.high,.slice d60 a.marks.length V]:=by rw[c.aA 35 ay];simp only[*,go_sem,-h]
  have h6:slot e 36= .func (.func 105) #[] #[.pointer (some ⟨f,0,none⟩)]:=by rw[c.aA 36 ay];simp only[*,go_sem,-h]
  have h7:slot e 37= .agg #[.string ⟨⟨a.name⟩⟩,.int .i64 a.from_.low,.int .i64 a.from_.high,.int .i64 a.wide,.int .i64 a.aC.low,.int .i64 a.aC.high,.slice d60 a.marks.length V]:=by rw[c.aA 37 ay];simp only[*,go_sem,-h]
  have h8:slot e 38= .int .i64 W:=by rw[c.aA 38 ay];simp only[*,go_sem,-h]
  have h9:slot e 39= .int .i64 W:=by rw[c.aA 39 ay];simp only[*,go_sem,-h]
  have ib:slot e 40= .bool false:=by rw[c.aA 40 ay];simp only[*,go_sem,-h]
  have ih:slot e 41= .pointer (some ⟨I,3,none⟩):=by rw[c.aA 41 ay];simp only[*,go_sem,-h]
  have ik:slot e 42= .slice d42 d.1.bG.length T:=by rw[c.aA 42 ay];simp only[*,go_sem,-h]
  have il:slot e 43= .int .i64 (d.1.bG.length:Int):=by rw[c.aA 43 ay];simp only[*,go_sem,-h]
  have im:cq [10,11,12,14,31,32,33,34,35,36,37,38,39,40,41,42,43,44,45,46,47,48,49,50,51,52,53,54,55,56,57,58,59,60,61,62,63,64] e s:=(c.eg ay).trans au;clear c ds dt du dv dC dE dT ea eb dq;refine af hJ ?_;refine ah hJ ?_;apply aa _;refine af hJ ?_;rcases Nat.lt_or_ge i71 d.1.bG.length with fr|bo
  .refine aL hJ au ?_;refine aR hJ ?_;obtain ⟨g,a0⟩:∃x,d.1.bG[i71]?=some x:=⟨_,List.getElem?_eq_getElem fr⟩
   rw[ey a0] at z;have h':=av z;clear z h;obtain ⟨iv,h,br⟩:=h';unfold wW at h;(try dsimp only at h);obtain ⟨fs,ft,fu,fv,u⟩:=da _ _ a0;obtain rfl:ft=g.cells:=fv;cases fu;have fw:=u 0 _ rfl;simp only[go_sem] at fw;have fx:=u 1 _ rfl;simp only[go_sem] at fx;have fz:=u 2 _ rfl;simp only[go_sem] at fz;have gg:=u 3 _ rfl;simp only[go_sem] at gg;have gj:=u 4 _ rfl;simp only[go_sem] at gj;have gl:=u 5 _ rfl;simp only[go_sem] at gl;have gn:=u 6 _ rfl;simp only[go_sem] at gn;have gp:=u 7 _ rfl;simp only[go_sem] at gp;have gy:=u 8 _ rfl;simp only[go_sem] at gy;clear u a0;refine af hJ ?_;refine bf hJ ?_;refine af hJ ?_;refine ah hJ ?_;apply aa _;intro g0 f79;have ix:=aT f79;have g1:=aU f79;(try simp only[aN] at g1);(try apply aa _);refine af hJ ?_;refine ah hJ ?_;have h':=av h;clear h;obtain ⟨j1,g2,h⟩:=h';apply aa _;refine bl hJ _ (qw g (i51:Int) g2) (aQ ?_);(try apply aa _);have h':=aD h;clear h;rcases h' with ⟨a2,h⟩|⟨a2,h⟩
   ·(try simp only[Int.ofNat_lt] at a2);refine aL hJ au ?_;refine cB hJ mixed 11 ⟨S,[(g0,.cells #[.int .i64 g.ax.e0,.int .i64 g.ax.e1,.int .i64 g.ax.e2,.int .i64 g.ax.e3,.int .i64 g.az.e0,.int .i64 g.az.e1,.int .i64 g.az.e2,.int .i64 g.az.e3,.int .u64 g.an] 84),(ao,.cells #[.string ⟨⟨a.name⟩⟩,.int .i64 a.from_.low,.int .i64 a.from_.high,.int .i64 a.wide,.int .i64 a.aC.low,.int .i64 a.aC.high,.slice d60 a.marks.length V] 56),(I,.cells #[.int .i64 d.1.round.steps,.int .i64 d.1.round.an,.slice d35 d.1.round.aj.length Z,.slice (some fs) d.1.bG.length T] 107),(p,.cells #[.int .i64 u0.steps,.int .i64 u0.an,.slice (some al) u0.aj.length c4] 24)]⟩ au aS ?_;have h':=av h;clear h;obtain ⟨bs,g3,h⟩:=h';obtain ⟨j2,kh,b0⟩:=cI g3;obtain ⟨kj,g4,g7,ha,X⟩:=et _ _ b0;obtain rfl:g4=bs.cells:=ha;cases g7;have hc:=X 0 _ rfl;simp only[go_sem] at hc;have hf:=X 1 _ rfl;simp only[go_sem] at hf;have hg:=X 2 _ rfl;simp only[go_sem] at hg;clear X b0;have h':=av h;clear h;obtain ⟨b1,hh,h⟩:=h';(try apply aa _);refine ⟨_,dI hJ fun F hF=>tT d.1.round (bc.mono (fW hF)) g (i51:Int) bs hh,?_⟩;(try apply aa _);refine I3 (l:=E) (k:=b1) (v:=true) au ?_;refine ⟨au,?_⟩;(try apply aa _);have h':=Option.some.inj h;clear h;subst h';have h:=True.intro;have hi:=dH (n:=i71) (by have:=bd;omega);refine ah hJ ?_;apply aa _;refine ⟨d.1.bG.length - (i71+1),ai,_,Le.sub (List.Sublist.cons _ (List.Sublist.refl _)),i71+1,(cC E b1 true),rfl,ai,br,rfl,?_⟩;simp only[*,go_sem,-h]
   (try simp only[Int.ofNat_lt] at a2);refine aM hJ au ?_;refine aR hJ ?_;have h':=Option.some.inj h;clear h;subst h';have h:=True.intro;have hi:=dH (n:=i71) (by have:=bd;omega);refine ah hJ ?_;apply aa _;refine ⟨d.1.bG.length - (i71+1),ai,_,Le.sub (List.Sublist.cons _ (List.Sublist.refl _)),i71+1,E,rfl,ai,br,rfl,?_⟩;simp only[*,go_sem,-h]
  have kk:=Nat.not_lt.2 bo;refine aM hJ au ?_;rw[List.drop_eq_nil_of_le bo] at z;have h':=Option.some.inj z;clear z h;subst h';have h:=fp;dsimp only[aJ] at h;refine bM ?_;simp only[go_sem];have h':=Option.some.inj h;clear h;subst h';have h:=True.intro;have fj:=dH (n:=i51) (by have:=a4;omega);refine ah hJ ?_;apply aa _;refine ⟨u0.aj.length - (i51+1),ai,_,Le.sub (List.Sublist.cons _ (List.Sublist.refl _)),i51+1,E,rfl,ai,bk,rfl,?_⟩;simp only[*,go_sem,-h]
 have kl:=Nat.not_lt.2 bj;refine aM hJ au ?_;rw[List.drop_eq_nil_of_le bj] at w;have h':=Option.some.inj w;clear w h;subst h';have h:=dp;dsimp only[aJ] at h;refine bM ?_;simp only[go_sem];refine af hJ ?_;refine ah hJ ?_;apply aa _;show Wp _ _ _ _ _;exact cG hJ (Le.sub (.cons₂ _ (.cons _ (.cons _ (List.Sublist.refl _))))) (I7 hJ (((L).trans G).trans H) dd au h)
def wY (x1:aH)(a:(aH×Int)):Option Bool:=
 ak (mX a.1) fun b=>ak (rS a.1) fun c=>ak (wR a.1) fun d=>ak (qU 6) fun i=>ak (vU x1 2 i) fun e=>ak (mX e.1) fun f=>ak (mX (⟨x1.steps,0,x1.aj⟩:aH)) fun g=>ak (k4 (⟨x1.steps,0,x1.aj⟩:aH)) fun h=>cond ((b.2==0)) (cond ((c.2==0)) (cond ((d.2==0)) (cond ((e.2==0)) (cond ((f.2==0)) (cond ((g.2==0)) (cond ((h.2==0)) (cond ((b.1==1)) (ak (mz c.1 ([3])) fun j=>cond (j) (ak (mz d.1 ([1,3])) fun k=>cond (k) (cond ((f.1==7)) (cond ((g.1==1)) (some (h.1==1)) (some false)) (some false)) (some false)) (some false)) (some false)) (some false)) (some false)) (some false)) (some false)) (some false)) (some false)) (some false)
def wZ (x1:aH):Option Bool:=
 ak (m3 x1 4) fun b=>ak (m0 x1) fun c=>ak (k4 x1) fun d=>ak (rS x1) fun e=>ak (vI x1) fun a=>ak (uU) fun g=>ak (vR x1 g) fun f=>cond ((b.2 != 0)) (some false) (cond ((c.2 != 0)) (some false) (cond ((d.2 != 0)) (some false) (cond ((e.2 != 0)) (some false) (cond ((a.2.2 != 0)) (some false) (cond ((f.2 != 0)) (some false) (cond ((b.1 != 0)) (some false) (cond (decide (0<(c.1.length:Int))) (some false) (cond ((d.1 != 0)) (some false) (cond (decide (0<(e.1.length:Int))) (some false) (cond ((a.1 != 1)) (some false) (cond ((a.2.1 != 8)) (some false) (wY x1 f))))))))))))
def w5 (x1:aH)(a:((List Int)×Int))(b:((List Int)×Int)):Option Bool:=
 ak (vJ x1 0) fun c=>ak (rY x1 ([99,104,117,114,99,104])) fun d=>ak (rY x1 ([109,105,108,108])) fun e=>cond ((a.2 != 0)) (some false) (cond ((b.2 != 0)) (some false) (cond ((c.2 != 0)) (some false) (cond ((d.2 != 0)) (some false) (cond ((e.2 != 0)) (some false) (ak (mz a.1 ([2,3])) fun f=>cond (!f) (some false) (ak (mz b.1 ([(-1),0,1])) fun g=>cond (!g) (some false) (cond ((c.1 != 0)) (some false) (ak (qT d.1 ([(⟨5,3⟩:aV),(⟨6,3⟩:aV)])) fun h=>cond (!h) (some false) (ak (qT e.1 ([(⟨3,1⟩:aV)])) fun i=>cond (!i) (some false) (wZ x1))))))))))
def w6 (x1:aH)(a:(aV×Int))(b:(aV×Int))(c:(Bool×Int))(d:(Bool×Int))(e:(Bool×Int))(f:(Int×Int)):Option Bool:=
 cond ((a.2 != 0)) (some false) (cond ((b.2 != 0)) (some false) (cond ((c.2 != 0)) (some false) (cond ((d.2 != 0)) (some false) (cond ((e.2 != 0)) (some false) (cond ((f.2 != 0)) (some false) (cond (!((a.1.step==4)&&(a.1.cu==4))) (some false) (cond (!((b.1.step==0)&&(b.1.cu==0))) (some false) (cond (!c.1) (some false) (cond (d.1) (some false) (cond (!e.1) (some false) (cond ((f.1 != 16)) (some false) (ak (vM x1 1) fun g=>ak (vN x1 1) fun h=>w5 x1 g h))))))))))))
def gT :Option Bool:=
 ak (uY) fun x1=>ak (k5 x1 (⟨[0,2,6],[0,1,0],([]:(List Int))⟩:b7) 1 1) fun a=>ak (k5 x1 (⟨[0,2,6],[0,1,0],([]:(List Int))⟩:b7) 2 1) fun b=>ak (kg x1 (⟨[0,3,5],[0,0,0],([]:(List Int))⟩:b7)) fun c=>ak (kg x1 (⟨[0,3,6],[0,0,0],([]:(List Int))⟩:b7)) fun d=>ak (kg x1 (⟨[0,3,6],[0,0,0],[2]⟩:b7)) fun e=>ak (mX x1) fun f=>w6 x1 a b c d e f
set_option maxHeartbeats 40000000 in
theorem w7 {Φ:Goroutine->ag->Prop}(hJ:Closed Tryz.prog true (ek Tryz.prog Φ)){A:Act}{ro:Addr->Option Value}(x1:aH)(a9:(Int×Int))(ba:(Int×Int))(N:((List Int)×Int))(J:(Int×Int))(O:((List Int)×Int))(bb:(Int×Int×Int))(b:(aH×Int)){o k:Nat}(d:dB ro){P:Value}(i:aG rI ro P O.1){Q:Value}(f:aG bJ ro Q b.1.aj){R:Value}(g:aG bJ ro R x1.aj){bc:Value}(j:aG rI ro bc N.1)(bd:sz A=367/\A.defers=[]/\slot A 0= .bool false/\slot A 1= .pointer (some ⟨k,0,none⟩)/\slot A 3= .int .i64 ba.2/\slot A 5= .int .i64 N.2/\slot A 7= .int .i64 J.2/\slot A 9= .int .i64 O.2/\slot A 11= .int .i64 bb.2.2/\slot A 12= .int .i64 a9.1/\slot A 13= .int .i64 b.2/\slot A 21= .int .i64 J.1/\slot A 22=P/\slot A 25= .pointer (some ⟨o,0,none⟩))(h:wY x1 b=some true):Wp (ek Tryz.prog Φ) (bY (bY (bY (bY (bY (bY (bY (bY (bY (bY (bY (bY (bY (bY (bY (bY (bY (bY (bY (bY (bY (bY (Tryz.f10.body.getD .skip))))))))))))))))))))))) (iq Tryz.prog [.tmp 0] (fun v _=>v= .bool true)) A ⟨ro,(o,.cells #[.int .i64 b.1.steps,.int .i64 b.1.an,Q] 24)::(k,.cells #[.int .i64 x1.steps,.int .i64 x1.an,R] 24)::[]⟩:=by
 obtain ⟨bj,hd,bk,k1,bm,bo,br,bs,b0,b1,b2,b3,b4,ca⟩:=bd;obtain ⟨d199,ea,rfl,eb,ec,p⟩:=id i;obtain ⟨d227,B,rfl,ed,eh,q⟩:=id f;obtain ⟨d8,s,rfl,et,ev,t⟩:=id g;obtain ⟨d185,eQ,rfl,eS,e0,u⟩:=id j;unfold wY at h;refine jS hJ fun cb C=>?_;have cc:=cb.nd;try simp only[keys,List.map_cons,List.map_nil,List.map_append,List.cons_append,List.nil_append,List.nodup_cons,List.mem_cons,List.mem_append,List.not_mem_nil,or_false,not_or] at cc
 have C:aW ro ((o,.cells #[.int .i64 b.1.steps,.int .i64 b.1.an,.slice d227 b.1.aj.length B] 24)::(k,.cells #[.int .i64 x1.steps,.int .i64 x1.an,.slice d8 x1.aj.length s] 24)::[]):=C;replace K:=C.hd;replace D:=C.tl.hd;apply af hJ;apply ah hJ;have h':=av h;clear h;obtain ⟨S,cd,h⟩:=h';try apply bL _
 refine bl hJ _ (rf (d.mono aX) b.1 (f.mono aX) cd) (aQ ?_);try apply bL _
 apply af hJ;apply ah hJ;have h':=av h;clear h;obtain ⟨L,cf,h⟩:=h';try apply bL _
 refine og _ (Bp d b.1 f cf) fun v ck y E hR=>?_;obtain ⟨e1,rfl,m⟩:=hR;have E:aW ck ((o,.cells #[.int .i64 b.1.steps,.int .i64 b.1.an,.slice d227 b.1.aj.length B] 24)::(k,.cells #[.int .i64 x1.steps,.int .i64 x1.an,.slice d8 x1.aj.length s] 24)::[]):=E;replace i:=i.mono y;clear p;obtain ⟨_,_,p⟩:=i.op;replace f:=f.mono y;clear q;obtain ⟨_,_,q⟩:=f.op;replace g:=g.mono y;clear t;obtain ⟨_,_,t⟩:=g.op;replace j:=j.mono y;clear u;obtain ⟨_,_,u⟩:=j.op;replace K:=E.hd;replace D:=E.tl.hd;replace d:=d.mono y;obtain ⟨cl,cv,rfl,e2,e3,G⟩:=id m;apply aQ;try apply bL _
 apply af hJ;apply ah hJ;have h':=av h;clear h;obtain ⟨M,cy,h⟩:=h';try apply bL _
 refine og _ (IL d b.1 f cy) fun v T w H hR=>?_;obtain ⟨fa,rfl,z⟩:=hR;have H:aW T ((o,.cells #[.int .i64 b.1.steps,.int .i64 b.1.an,.slice d227 b.1.aj.length B] 24)::(k,.cells #[.int .i64 x1.steps,.int .i64 x1.an,.slice d8 x1.aj.length s] 24)::[]):=H;replace m:=m.mono w;clear G;obtain ⟨_,_,G⟩:=m.op;replace f:=f.mono w;clear q;obtain ⟨_,_,q⟩:=f.op;replace g:=g.mono w;clear t;obtain ⟨_,_,t⟩:=g.op;replace j:=j.mono w;clear u;obtain ⟨_,_,u⟩:=j.op;replace i:=i.mono w;clear p;obtain ⟨_,_,p⟩:=i.op;replace K:=H.hd;replace D:=H.tl.hd;replace d:=d.mono w;obtain ⟨c0,da,rfl,fb,fc,U⟩:=id z;apply aQ;try apply bL _
 apply af hJ;refine fC hJ mixed [] (.rd 0 (.rd 1 (.one 2 (.pure 3 (.pure 4 (.pure 5 (.one 6 (.pure 7 .done)))))))) ⟨T,[(k,.cells #[.int .i64 x1.steps,.int .i64 x1.an,.slice d8 x1.aj.length s] 24)]⟩ cZ aS ?_;have h':=av h;clear h;obtain ⟨db,dd,h⟩:=h';try apply bL _
 refine ⟨_,dI hJ fun F hF=>zw 6 dd,iw ?_⟩;have h':=av h;clear h;obtain ⟨V,df,h⟩:=h';try apply bL _
 refine cV hJ _ (GA d x1 g 2 db df) fun v dk n I hR=>?_;obtain ⟨fg,rfl,W⟩:=hR;have I:aW dk ((o,.cells #[.int .i64 b.1.steps,.int .i64 b.1.an,.slice d227 b.1.aj.length B] 24)::(k,.cells #[.int .i64 x1.steps,.int .i64 x1.an,.slice d8 x1.aj.length s] 24)::[]):=I;replace m:=m.mono n;clear G;obtain ⟨_,_,G⟩:=m.op;replace f:=f.mono n;clear q;obtain ⟨_,_,q⟩:=f.op;replace z:=z.mono n;clear U;obtain ⟨_,_,U⟩:=z.op;replace g:=g.mono n;clear t;obtain ⟨_,_,t⟩:=g.op;replace j:=j.mono n;clear u;obtain ⟨_,_,u⟩:=j.op;replace i:=i.mono n;clear p;obtain ⟨_,_,p⟩:=i.op;replace K:=I.hd;replace D:=I.tl.hd;replace d:=d.mono n;obtain ⟨fh,fi,rfl,fj,fl,fp⟩:=id W;have fr:=iQ (l:=[(k,.cells #[.int .i64 x1.steps,.int .i64 x1.an,.slice d8 x1.aj.length s] 24)]) n (aW.cons D (aW.nil _));refine ⟨cZ,?_⟩;refine iw ?_;try apply bL _
 apply af hJ;apply ah hJ;have h':=av h;clear h;obtain ⟨X,dp,h⟩:=h';try apply bL _
 refine bl hJ _ (rf (d.mono aX) V.1 (W.mono aX) dp) (aQ ?_);try apply bL _
 apply af hJ;generalize a:bt _ _ _=c;have fs:sz c=367:=by rw[<-a];simp only[*,go_sem,-h,-a]
 have ft:c.defers=[]:=by rw[<-a];simp only[*,go_sem,-h,-a]
 have fu:slot c 0= .bool false:=by rw[<-a];simp only[*,go_sem,-h,-a]
 have fv:slot c 1= .pointer (some ⟨k,0,none⟩):=by rw[<-a];simp only[*,go_sem,-h,-a]
 have fw:slot c 3= .int .i64 S.2:=by rw[<-a];simp only[*,go_sem,-h,-a]
 have fx:slot c 5= .int .i64 L.2:=by rw[<-a];simp only[*,go_sem,-h,-a]
 have fz:slot c 7= .int .i64 M.2:=by rw[<-a];simp only[*,go_sem,-h,-a]
 have gg:slot c 9= .int .i64 V.2:=by rw[<-a];simp only[*,go_sem,-h,-a]
 have gj:slot c 11= .int .i64 X.2:=by rw[<-a];simp only[*,go_sem,-h,-a]
 have gl:slot c 12= .int .i64 S.1:=by rw[<-a];simp only[*,go_sem,-h,-a]
 have gn:slot c 13= .int .i64 b.2:=by rw[<-a];simp only[*,go_sem,-h,-a]
 have gp:slot c 21= .int .i64 J.1:=by rw[<-a];simp only[*,go_sem,-h,-a]
 have gy:slot c 22= .slice cl L.1.length cv:=by rw[<-a];simp only[*,go_sem,-h,-a]
 have g0:slot c 26= .slice c0 M.1.length da:=by rw[<-a];simp only[*,go_sem,-h,-a]
 have g1:slot c 27= .int .i64 X.1:=by rw[<-a];simp only[*,go_sem,-h,-a]
 clear a bj hd bk k1 bm bo br bs b0 b1 b2 b3 b4 ca;apply ah hJ;try apply bL _
 apply af hJ;apply ah hJ;have h':=av h;clear h;obtain ⟨g2,dq,h⟩:=h';try apply bL _
 refine bl hJ _ (rf (d.mono aX) (⟨x1.steps,0,x1.aj⟩:aH) (g.mono aX) dq) (aQ ?_);try apply bL _
 apply af hJ;apply ah hJ;have h':=av h;clear h;obtain ⟨g3,ds,h⟩:=h';try apply bL _
 refine bl hJ _ (vF (d.mono aX) (⟨x1.steps,0,x1.aj⟩:aH) (g.mono aX) ds) (aQ ?_);try apply bL _
 apply af hJ;refine aO hJ fun dt=>?_;apply ah hJ;have h':=aD h;clear h;rcases h' with ⟨Y,h⟩|⟨Y,h⟩
 .try simp only[Int.ofNat_lt] at Y
  have h':=aD h;clear h;rcases h' with ⟨Z,h⟩|⟨Z,h⟩
  ·(try simp only[Int.ofNat_lt] at Z);have h':=aD h;clear h;rcases h' with ⟨ab,h⟩|⟨ab,h⟩
   ·(try simp only[Int.ofNat_lt] at ab);have h':=aD h;clear h;rcases h' with ⟨ad,h⟩|⟨ad,h⟩
    ·(try simp only[Int.ofNat_lt] at ad);have h':=aD h;clear h;rcases h' with ⟨ae,h⟩|⟨ae,h⟩
     ·(try simp only[Int.ofNat_lt] at ae);have h':=aD h;clear h;rcases h' with ⟨al,h⟩|⟨al,h⟩
      ·(try simp only[Int.ofNat_lt] at al);have h':=aD h;clear h;rcases h' with ⟨ao,h⟩|⟨ao,h⟩
       ·(try simp only[Int.ofNat_lt] at ao);have h':=aD h;clear h;rcases h' with ⟨ar,h⟩|⟨ar,h⟩
        ·(try simp only[Int.ofNat_lt] at ar);have h':=av h;clear h;obtain ⟨g4,du,h⟩:=h';(try apply bL _);intro g7 a0;have dv:=aT a0;have a2:=aU a0;have dC:=bT.cons a2 dt;(try simp only[aN] at a2);(try apply bL _);refine bl hJ _ (qS L.1 (m.mono aX) ([3]) ((aG.flat (r:=rI) (e:=3) (cs:=#[.int .i64 3]) (fun x=>[.int .i64 x]) ([3]) (fun _=>rfl) dv rfl aB).mono (fy cZ)) du) (aQ ?_);have h':=aD h;clear h;rcases h' with ⟨a3,h⟩|⟨a3,h⟩
         ·(try simp only[Int.ofNat_lt] at a3);have h':=av h;clear h;obtain ⟨ha,dE,h⟩:=h';(try apply bL _);intro hc a4;have dT:=aT a4;have a5:=aU a4;have hf:=bT.cons a5 dC;(try simp only[aN] at a5);(try apply bL _);refine bl hJ _ (qS M.1 (z.mono aX) ([1,3]) ((aG.flat (r:=rI) (e:=3) (cs:=#[.int .i64 1,.int .i64 3]) (fun x=>[.int .i64 x]) ([1,3]) (fun _=>rfl) dT rfl aB).mono (fy cZ)) dE) (aQ ?_);have h':=aD h;clear h;rcases h' with ⟨a6,h⟩|⟨a6,h⟩
          ·(try simp only[Int.ofNat_lt] at a6);have h':=aD h;clear h;rcases h' with ⟨a7,h⟩|⟨a7,h⟩
           ·(try simp only[Int.ofNat_lt] at a7);have h':=aD h;clear h;rcases h' with ⟨a8,h⟩|⟨a8,h⟩
            ·(try simp only[Int.ofNat_lt] at a8);(try apply bL _);have hg:=Option.some.inj h;clear h;apply aI;try simp only[*,go_sem]
            cases h
           cases h
          cases h
         cases h
        cases h
       cases h
      cases h
     cases h
    cases h
   cases h
  cases h
 cases h
set_option maxHeartbeats 40000000 in
theorem Jb {Φ:Goroutine->ag->Prop}(hJ:Closed Tryz.prog true (ek Tryz.prog Φ)){A:Act}{ro:Addr->Option Value}(x1:aH)(p:(Int×Int))(da:((List Int)×Int))(db:((List Int)×Int))(dd:(Int×Int))(df:((List aV)×Int))(dk:((List aV)×Int)){f:Nat}(c:dB ro){O:Value}(b:aG bJ ro O x1.aj)(dp:sz A=367/\A.defers=[]/\slot A 0= .bool false/\slot A 1= .pointer (some ⟨f,0,none⟩)/\slot A 3= .int .i64 da.2/\slot A 5= .int .i64 db.2/\slot A 7= .int .i64 dd.2/\slot A 9= .int .i64 df.2/\slot A 11= .int .i64 dk.2/\slot A 12= .int .i64 p.1/\slot A 13= .int .i64 p.2)(h:wZ x1=some true):Wp (ek Tryz.prog Φ) (bY (bY (bY (bY (bY (bY (bY (bY (bY (bY (bY (bY (bY (bY (bY (Tryz.f10.body.getD .skip)))))))))))))))) (iq Tryz.prog [.tmp 0] (fun v _=>v= .bool true)) A ⟨ro,(f,.cells #[.int .i64 x1.steps,.int .i64 x1.an,O] 24)::[]⟩:=by
 obtain ⟨dq,hd,ds,k1,dt,du,dv,dC,dE,dT,ea⟩:=dp;obtain ⟨d8,i,rfl,fv,fw,j⟩:=id b;unfold wZ at h;refine jS hJ fun D I=>?_;have eb:=D.nd;try simp only[keys,List.map_cons,List.map_nil,List.map_append,List.cons_append,List.nil_append,List.nodup_cons,List.mem_cons,List.mem_append,List.not_mem_nil,or_false,not_or] at eb
 have I:aW ro ((f,.cells #[.int .i64 x1.steps,.int .i64 x1.an,.slice d8 x1.aj.length i] 24)::[]):=I;replace k:=I.hd;apply af hJ;apply ah hJ;have h':=av h;clear h;obtain ⟨x,ec,h⟩:=h';try apply bL _
 refine bl hJ _ (Ar (c.mono aX) x1 (b.mono aX) 4 ec) (aQ ?_);try apply bL _
 apply af hJ;apply ah hJ;have h':=av h;clear h;obtain ⟨y,ed,h⟩:=h';try apply bL _
 refine cV hJ _ (Aq c x1 b ed) fun v eh P J hR=>?_;obtain ⟨fx,rfl,d⟩:=hR;have J:aW eh ((f,.cells #[.int .i64 x1.steps,.int .i64 x1.an,.slice d8 x1.aj.length i] 24)::[]):=J;replace b:=b.mono P;clear j;obtain ⟨_,_,j⟩:=b.op;replace k:=J.hd;replace c:=c.mono P;obtain ⟨d185,et,rfl,fz,gg,m⟩:=id d;apply aQ;try apply bL _
 apply af hJ;apply ah hJ;have h':=av h;clear h;obtain ⟨z,ev,h⟩:=h';try apply bL _
 refine bl hJ _ (vF (c.mono aX) x1 (b.mono aX) ev) (aQ ?_);try apply bL _
 apply af hJ;apply ah hJ;have h':=av h;clear h;obtain ⟨B,eQ,h⟩:=h';try apply bL _
 refine og _ (Bp c x1 b eQ) fun v Q K L hR=>?_;obtain ⟨gj,rfl,e⟩:=hR;have L:aW Q ((f,.cells #[.int .i64 x1.steps,.int .i64 x1.an,.slice d8 x1.aj.length i] 24)::[]):=L;replace b:=b.mono K;clear j;obtain ⟨_,_,j⟩:=b.op;replace d:=d.mono K;clear m;obtain ⟨_,_,m⟩:=d.op;replace k:=L.hd;replace c:=c.mono K;obtain ⟨d199,eS,rfl,gl,gn,n⟩:=id e;apply aQ;try apply bL _
 apply af hJ;apply ah hJ;have h':=av h;clear h;obtain ⟨r,e0,h⟩:=h';try apply bL _
 refine bl hJ _ (Gs (c.mono aX) x1 (b.mono aX) e0) (aQ ?_);try apply bL _
 apply af hJ;generalize a:bt _ _ _=g;have gp:sz g=367:=by rw[<-a];simp only[*,go_sem,-h,-a]
 have gy:g.defers=[]:=by rw[<-a];simp only[*,go_sem,-h,-a]
 have g0:slot g 0= .bool false:=by rw[<-a];simp only[*,go_sem,-h,-a]
 have g1:slot g 1= .pointer (some ⟨f,0,none⟩):=by rw[<-a];simp only[*,go_sem,-h,-a]
 have g2:slot g 3= .int .i64 x.2:=by rw[<-a];simp only[*,go_sem,-h,-a]
 have g3:slot g 5= .int .i64 y.2:=by rw[<-a];simp only[*,go_sem,-h,-a]
 have g4:slot g 7= .int .i64 z.2:=by rw[<-a];simp only[*,go_sem,-h,-a]
 have g7:slot g 9= .int .i64 B.2:=by rw[<-a];simp only[*,go_sem,-h,-a]
 have ha:slot g 11= .int .i64 r.2.2:=by rw[<-a];simp only[*,go_sem,-h,-a]
 have hc:slot g 12= .int .i64 p.1:=by rw[<-a];simp only[*,go_sem,-h,-a]
 have hf:slot g 13= .int .i64 p.2:=by rw[<-a];simp only[*,go_sem,-h,-a]
 have hg:slot g 19= .int .i64 x.1:=by rw[<-a];simp only[*,go_sem,-h,-a]
 have hh:slot g 20= .slice d185 y.1.length et:=by rw[<-a];simp only[*,go_sem,-h,-a]
 have hi:slot g 21= .int .i64 z.1:=by rw[<-a];simp only[*,go_sem,-h,-a]
 have hj:slot g 22= .slice d199 B.1.length eS:=by rw[<-a];simp only[*,go_sem,-h,-a]
 have hk:slot g 23= .int .i64 r.1:=by rw[<-a];simp only[*,go_sem,-h,-a]
 have hl:slot g 24= .int .i64 r.2.1:=by rw[<-a];simp only[*,go_sem,-h,-a]
 clear a dq hd ds k1 dt du dv dC dE dT ea;refine fC hJ mixed [] (.rd 0 (.two 1 (.two 2 (.pure 3 (.pure 4 (.pure 5 (.one 6 (.one 7 (.pure 8 .done)))))) 6 (.one 2 (.pure 3 (.pure 4 (.pure 5 (.one 7 (.pure 8 .done))))))) 6 (.one 1 (.one 2 (.pure 3 (.pure 4 (.pure 5 (.one 7 (.pure 8 .done))))))))) ⟨Q,[(f,.cells #[.int .i64 x1.steps,.int .i64 x1.an,.slice d8 x1.aj.length i] 24)]⟩ cZ aS ?_;try apply bL _
 refine tA ?_ ?_
 .have h':=av h;clear h;obtain ⟨R,e1,h⟩:=h';try apply bL _
  refine cV hJ _ (zx e1) fun v e2 q M hR=>?_;obtain ⟨hn,rfl,o⟩:=hR;have M:aW e2 ((f,.cells #[.int .i64 x1.steps,.int .i64 x1.an,.slice d8 x1.aj.length i] 24)::[]):=M;replace d:=d.mono q;clear m;obtain ⟨_,_,m⟩:=d.op;replace e:=e.mono q;clear n;obtain ⟨_,_,n⟩:=e.op;replace b:=b.mono q;clear j;obtain ⟨_,_,j⟩:=b.op;replace k:=M.hd;replace c:=c.mono q;obtain ⟨d214,ho,rfl,hp,hq,E⟩:=id o;have hr:=iQ (l:=[(f,.cells #[.int .i64 x1.steps,.int .i64 x1.an,.slice d8 x1.aj.length i] 24)]) q (aW.cons k (aW.nil _));refine ⟨cZ,?_⟩;refine iw ?_;try apply bL _
  refine tA ?_ ?_
  .have h':=av h;clear h;obtain ⟨e3,fa,h⟩:=h';(try apply bL _);refine cV hJ _ (vS c x1 b R o fa) fun v fb s N hR=>?_;obtain ⟨hs,rfl,S⟩:=hR;have N:aW fb ((f,.cells #[.int .i64 x1.steps,.int .i64 x1.an,.slice d8 x1.aj.length i] 24)::[]):=N;replace d:=d.mono s;clear m;obtain ⟨_,_,m⟩:=d.op;replace e:=e.mono s;clear n;obtain ⟨_,_,n⟩:=e.op;replace b:=b.mono s;clear j;obtain ⟨_,_,j⟩:=b.op;replace o:=o.mono s;clear E;obtain ⟨_,_,E⟩:=o.op;replace k:=N.hd;replace c:=c.mono s;obtain ⟨d227,ht,rfl,hv,hx,hy⟩:=id S;have hz:=iQ (l:=[(f,.cells #[.int .i64 x1.steps,.int .i64 x1.an,.slice d8 x1.aj.length i] 24)]) (q.trans s) (aW.cons k (aW.nil _));refine ⟨cZ,?_⟩;refine iw ?_;(try apply bL _);intro hA T;have hB:=aT T;have U:=aU T;have hD:=bT.cons U D;(try simp only[aN] at U);(try apply bL _);apply af hJ;apply af hJ;apply ah hJ;have h':=aD h;clear h;rcases h' with ⟨V,h⟩|⟨V,h⟩
   .cases h
   (try simp only[Int.ofNat_lt] at V);have h':=aD h;clear h;rcases h' with ⟨W,h⟩|⟨W,h⟩
   .cases h
   (try simp only[Int.ofNat_lt] at W);have h':=aD h;clear h;rcases h' with ⟨X,h⟩|⟨X,h⟩
   .cases h
   (try simp only[Int.ofNat_lt] at X);have h':=aD h;clear h;rcases h' with ⟨Y,h⟩|⟨Y,h⟩
   .cases h
   (try simp only[Int.ofNat_lt] at Y);have h':=aD h;clear h;rcases h' with ⟨Z,h⟩|⟨Z,h⟩
   .cases h
   (try simp only[Int.ofNat_lt] at Z);have h':=aD h;clear h;rcases h' with ⟨ab,h⟩|⟨ab,h⟩
   .cases h
   (try simp only[Int.ofNat_lt] at ab);have h':=aD h;clear h;rcases h' with ⟨ad,h⟩|⟨ad,h⟩
   .cases h
   (try simp only[Int.ofNat_lt] at ad);have h':=aD h;clear h;rcases h' with ⟨ae,h⟩|⟨ae,h⟩
   .cases h
   (try simp only[Int.ofNat_lt] at ae);have h':=aD h;clear h;rcases h' with ⟨al,h⟩|⟨al,h⟩
   .cases h
   (try simp only[Int.ofNat_lt] at al);have h':=aD h;clear h;rcases h' with ⟨ao,h⟩|⟨ao,h⟩
   .cases h
   (try simp only[Int.ofNat_lt] at ao);have h':=aD h;clear h;rcases h' with ⟨ar,h⟩|⟨ar,h⟩
   .cases h
   (try simp only[Int.ofNat_lt] at ar);(try apply bL _);have h':=aD h;clear h;rcases h' with ⟨a0,h⟩|⟨a0,h⟩
   .cases h
   (try simp only[Int.ofNat_lt] at a0);refine aM hJ cZ ?_;apply aR hJ;show Wp _ _ _ _ _;exact cG hJ (Le.sub (.cons₂ _ (.cons₂ _ (List.Sublist.refl _)))) (w7 hJ x1 p x y z B r e3 c e S b d cZ h)
  have h':=av h;clear h;obtain ⟨fc,fg,h⟩:=h';try apply bL _
  intro fh a2;have fi:=aT a2;have a3:=aU a2;have hE:=bT.cons a3 D;try simp only[aN] at a3
  try apply bL _
  refine cV hJ _ (vS c x1 b R o fg) fun v fj t F hR=>?_;obtain ⟨hF,rfl,a4⟩:=hR;have F:aW fj ((fh,.cells #[.int .i64 0,.int .i64 0,.slice none 0 0] 24)::(f,.cells #[.int .i64 x1.steps,.int .i64 x1.an,.slice d8 x1.aj.length i] 24)::[]):=F;replace d:=d.mono t;clear m;obtain ⟨_,_,m⟩:=d.op;replace e:=e.mono t;clear n;obtain ⟨_,_,n⟩:=e.op;replace b:=b.mono t;clear j;obtain ⟨_,_,j⟩:=b.op;replace o:=o.mono t;clear E;obtain ⟨_,_,E⟩:=o.op;replace fi:=F.hd;replace k:=F.tl.hd;replace c:=c.mono t;obtain ⟨hG,hH,rfl,hI,hK,hL⟩:=id a4;have hM:=iQ (l:=[(f,.cells #[.int .i64 x1.steps,.int .i64 x1.an,.slice d8 x1.aj.length i] 24)]) (q.trans t) (aW.cons k (aW.nil _));refine ⟨cZ,?_⟩;refine iw ?_;try apply bL _
  apply af hJ;apply af hJ;apply ah hJ;have h':=aD h;clear h;rcases h' with ⟨a5,h⟩|⟨a5,h⟩
  .cases h
  try simp only[Int.ofNat_lt] at a5
  have h':=aD h;clear h;rcases h' with ⟨a6,h⟩|⟨a6,h⟩
  .cases h
  try simp only[Int.ofNat_lt] at a6
  have h':=aD h;clear h;rcases h' with ⟨a7,h⟩|⟨a7,h⟩
  .cases h
  try simp only[Int.ofNat_lt] at a7
  have h':=aD h;clear h;rcases h' with ⟨a8,h⟩|⟨a8,h⟩
  .cases h
  try simp only[Int.ofNat_lt] at a8
  have h':=aD h;clear h;rcases h' with ⟨a9,h⟩|⟨a9,h⟩
  .cases h
  try simp only[Int.ofNat_lt] at a9
  have h':=aD h;clear h;rcases h' with ⟨ba,h⟩|⟨ba,h⟩
  .cases h
  try simp only[Int.ofNat_lt] at ba
  have h':=aD h;clear h;rcases h' with ⟨bb,h⟩|⟨bb,h⟩
  .cases h
  try simp only[Int.ofNat_lt] at bb
  have h':=aD h;clear h;rcases h' with ⟨bc,h⟩|⟨bc,h⟩
  .cases h
  try simp only[Int.ofNat_lt] at bc
  have h':=aD h;clear h;rcases h' with ⟨bd,h⟩|⟨bd,h⟩
  .cases h
  try simp only[Int.ofNat_lt] at bd
  have h':=aD h;clear h;rcases h' with ⟨bj,h⟩|⟨bj,h⟩
  .cases h
  try simp only[Int.ofNat_lt] at bj
  have h':=aD h;clear h;rcases h' with ⟨bk,h⟩|⟨bk,h⟩
  .cases h
  try simp only[Int.ofNat_lt] at bk
  try apply bL _
  have h':=aD h;clear h;rcases h' with ⟨bm,h⟩|⟨bm,h⟩
  .cases h
  try simp only[Int.ofNat_lt] at bm
  refine aM hJ cZ ?_;apply aR hJ;show Wp _ _ _ _ _;exact cG hJ (Le.sub (.cons₂ _ (.cons₂ _ (List.Sublist.refl _)))) (w7 hJ x1 p x y z B r fc c e a4 b d cZ h)
 have h':=av h;clear h;obtain ⟨fl,fp,h⟩:=h';try apply bL _
 intro bo br;have bs:=aT br;have b0:=aU br;have hN:=bT.cons b0 D;try simp only[aN] at b0
 try apply bL _
 refine cV hJ _ (zx fp) fun v fr u G hR=>?_;obtain ⟨hP,rfl,C⟩:=hR;have G:aW fr ((bo,.cells #[.int .i64 0,.int .i64 0,.slice none 0 0] 24)::(f,.cells #[.int .i64 x1.steps,.int .i64 x1.an,.slice d8 x1.aj.length i] 24)::[]):=G;replace d:=d.mono u;clear m;obtain ⟨_,_,m⟩:=d.op;replace e:=e.mono u;clear n;obtain ⟨_,_,n⟩:=e.op;replace b:=b.mono u;clear j;obtain ⟨_,_,j⟩:=b.op;replace bs:=G.hd;replace k:=G.tl.hd;replace c:=c.mono u;obtain ⟨hQ,hS,rfl,hT,hV,b1⟩:=id C;have hX:=iQ (l:=[(f,.cells #[.int .i64 x1.steps,.int .i64 x1.an,.slice d8 x1.aj.length i] 24)]) u (aW.cons k (aW.nil _));refine ⟨cZ,?_⟩;refine iw ?_;have h':=av h;clear h;obtain ⟨fs,ft,h⟩:=h';try apply bL _
 refine cV hJ _ (vS c x1 b fl C ft) fun v fu w H hR=>?_;obtain ⟨hY,rfl,b2⟩:=hR;have H:aW fu ((bo,.cells #[.int .i64 0,.int .i64 0,.slice none 0 0] 24)::(f,.cells #[.int .i64 x1.steps,.int .i64 x1.an,.slice d8 x1.aj.length i] 24)::[]):=H;replace d:=d.mono w;clear m;obtain ⟨_,_,m⟩:=d.op;replace e:=e.mono w;clear n;obtain ⟨_,_,n⟩:=e.op;replace b:=b.mono w;clear j;obtain ⟨_,_,j⟩:=b.op;replace C:=C.mono w;clear b1;obtain ⟨_,_,b1⟩:=C.op;replace bs:=H.hd;replace k:=H.tl.hd;replace c:=c.mono w;obtain ⟨hZ,h0,rfl,h1,h2,h3⟩:=id b2;have h4:=iQ (l:=[(f,.cells #[.int .i64 x1.steps,.int .i64 x1.an,.slice d8 x1.aj.length i] 24)]) (u.trans w) (aW.cons k (aW.nil _));refine ⟨cZ,?_⟩;refine iw ?_;try apply bL _
 apply af hJ;apply af hJ;apply ah hJ;have h':=aD h;clear h;rcases h' with ⟨b3,h⟩|⟨b3,h⟩
 .cases h
 try simp only[Int.ofNat_lt] at b3
 have h':=aD h;clear h;rcases h' with ⟨b4,h⟩|⟨b4,h⟩
 .cases h
 try simp only[Int.ofNat_lt] at b4
 have h':=aD h;clear h;rcases h' with ⟨ca,h⟩|⟨ca,h⟩
 .cases h
 try simp only[Int.ofNat_lt] at ca
 have h':=aD h;clear h;rcases h' with ⟨cb,h⟩|⟨cb,h⟩
 .cases h
 try simp only[Int.ofNat_lt] at cb
 have h':=aD h;clear h;rcases h' with ⟨cc,h⟩|⟨cc,h⟩
 .cases h
 try simp only[Int.ofNat_lt] at cc
 have h':=aD h;clear h;rcases h' with ⟨cd,h⟩|⟨cd,h⟩
 .cases h
 try simp only[Int.ofNat_lt] at cd
 have h':=aD h;clear h;rcases h' with ⟨cf,h⟩|⟨cf,h⟩
 .cases h
 try simp only[Int.ofNat_lt] at cf
 have h':=aD h;clear h;rcases h' with ⟨ck,h⟩|⟨ck,h⟩
 .cases h
 try simp only[Int.ofNat_lt] at ck
 have h':=aD h;clear h;rcases h' with ⟨cl,h⟩|⟨cl,h⟩
 .cases h
 try simp only[Int.ofNat_lt] at cl
 have h':=aD h;clear h;rcases h' with ⟨cv,h⟩|⟨cv,h⟩
 .cases h
 try simp only[Int.ofNat_lt] at cv
 have h':=aD h;clear h;rcases h' with ⟨cy,h⟩|⟨cy,h⟩
 .cases h
 try simp only[Int.ofNat_lt] at cy
 try apply bL _
 have h':=aD h;clear h;rcases h' with ⟨c0,h⟩|⟨c0,h⟩
 .cases h
 try simp only[Int.ofNat_lt] at c0
 refine aM hJ cZ ?_;apply aR hJ;show Wp _ _ _ _ _;exact cG hJ (Le.sub (.cons₂ _ (.cons₂ _ (List.Sublist.refl _)))) (w7 hJ x1 p x y z B r fs c e b2 b d cZ h)
set_option maxHeartbeats 40000000 in
theorem Jc {Φ:Goroutine->ag->Prop}(hJ:Closed Tryz.prog true (ek Tryz.prog Φ)){A:Act}{ro:Addr->Option Value}(x1:aH)(U:(Bool×Int))(V:(Bool×Int))(W:(Bool×Int))(p:(Int×Int))(f:((List Int)×Int))(g:((List Int)×Int)){i:Nat}(b:dB ro){w:Value}(c:aG rI ro w f.1){y:Value}(d:aG rI ro y g.1){z:Value}(a:aG bJ ro z x1.aj)(X:sz A=367/\A.defers=[]/\slot A 0= .bool false/\slot A 1= .pointer (some ⟨i,0,none⟩)/\slot A 3= .int .i64 f.2/\slot A 5= .int .i64 g.2/\slot A 7= .int .i64 U.2/\slot A 9= .int .i64 V.2/\slot A 11= .int .i64 W.2/\slot A 12= .int .i64 p.1/\slot A 13= .int .i64 p.2/\slot A 14=w/\slot A 15=y)(h:w5 x1 f g=some true):Wp (ek Tryz.prog Φ) (bY (bY (bY (bY (bY (bY (bY (bY (bY (bY (bY (Tryz.f10.body.getD .skip)))))))))))) (iq Tryz.prog [.tmp 0] (fun v _=>v= .bool true)) A ⟨ro,(i,.cells #[.int .i64 x1.steps,.int .i64 x1.an,z] 24)::[]⟩:=by
 obtain ⟨bd,hd,bj,k1,bk,bm,bo,br,bs,b0,b1,b2,b3⟩:=X;obtain ⟨d92,b4,rfl,ca,cb,l⟩:=id c;obtain ⟨d104,cc,rfl,cd,cf,m⟩:=id d;obtain ⟨d8,q,rfl,ck,cl,n⟩:=id a;unfold w5 at h;refine jS hJ fun Y s=>?_;have Z:=Y.nd;try simp only[keys,List.map_cons,List.map_nil,List.map_append,List.cons_append,List.nil_append,List.nodup_cons,List.mem_cons,List.mem_append,List.not_mem_nil,or_false,not_or] at Z
 have s:aW ro ((i,.cells #[.int .i64 x1.steps,.int .i64 x1.an,.slice d8 x1.aj.length q] 24)::[]):=s;replace B:=s.hd;apply af hJ;apply ah hJ;have h':=av h;clear h;obtain ⟨ab,ad,h⟩:=h';try apply bL _
 refine bl hJ _ (Gt (b.mono aX) x1 (a.mono aX) 0 ad) (aQ ?_);try apply bL _
 apply af hJ;apply ah hJ;have h':=av h;clear h;obtain ⟨C,ae,h⟩:=h';try apply bL _
 refine cV hJ _ (By b x1 a ([99,104,117,114,99,104]) ae) fun v al o t hR=>?_;obtain ⟨cv,rfl,j⟩:=hR;have t:aW al ((i,.cells #[.int .i64 x1.steps,.int .i64 x1.an,.slice d8 x1.aj.length q] 24)::[]):=t;replace c:=c.mono o;clear l;obtain ⟨_,_,l⟩:=c.op;replace d:=d.mono o;clear m;obtain ⟨_,_,m⟩:=d.op;replace a:=a.mono o;clear n;obtain ⟨_,_,n⟩:=a.op;replace B:=t.hd;replace b:=b.mono o;obtain ⟨d120,cy,rfl,c0,da,D⟩:=id j;apply aQ;try apply bL _
 apply af hJ;apply ah hJ;have h':=av h;clear h;obtain ⟨E,ao,h⟩:=h';try apply bL _
 refine cV hJ _ (By b x1 a ([109,105,108,108]) ao) fun v ar k u hR=>?_;obtain ⟨db,rfl,F⟩:=hR;have u:aW ar ((i,.cells #[.int .i64 x1.steps,.int .i64 x1.an,.slice d8 x1.aj.length q] 24)::[]):=u;replace c:=c.mono k;clear l;obtain ⟨_,_,l⟩:=c.op;replace d:=d.mono k;clear m;obtain ⟨_,_,m⟩:=d.op;replace a:=a.mono k;clear n;obtain ⟨_,_,n⟩:=a.op;replace j:=j.mono k;clear D;obtain ⟨_,_,D⟩:=j.op;replace B:=u.hd;replace b:=b.mono k;obtain ⟨d132,dd,rfl,df,dk,dp⟩:=id F;apply aQ;try apply bL _
 apply af hJ;apply af hJ;refine aO hJ fun a0=>?_;apply ah hJ;have h':=aD h;clear h;rcases h' with ⟨G,h⟩|⟨G,h⟩
 .cases h
 try simp only[Int.ofNat_lt] at G
 have h':=aD h;clear h;rcases h' with ⟨H,h⟩|⟨H,h⟩
 .cases h
 try simp only[Int.ofNat_lt] at H
 have h':=aD h;clear h;rcases h' with ⟨I,h⟩|⟨I,h⟩
 .cases h
 try simp only[Int.ofNat_lt] at I
 have h':=aD h;clear h;rcases h' with ⟨J,h⟩|⟨J,h⟩
 .cases h
 try simp only[Int.ofNat_lt] at J
 have h':=aD h;clear h;rcases h' with ⟨K,h⟩|⟨K,h⟩
 .cases h
 try simp only[Int.ofNat_lt] at K
 have h':=av h;clear h;obtain ⟨dq,a2,h⟩:=h';try apply bL _
 intro ds f148;have a3:=aT f148;have L:=aU f148;have a4:=bT.cons L a0;try simp only[aN] at L
 try apply bL _
 refine bl hJ _ (qS f.1 (c.mono aX) ([2,3]) ((aG.flat (r:=rI) (e:=3) (cs:=#[.int .i64 2,.int .i64 3]) (fun x=>[.int .i64 x]) ([2,3]) (fun _=>rfl) a3 rfl aB).mono (fy cZ)) a2) (aQ ?_);have h':=aD h;clear h;rcases h' with ⟨M,h⟩|⟨M,h⟩
 .cases h
 try simp only[Int.ofNat_lt] at M
 have h':=av h;clear h;obtain ⟨dt,a5,h⟩:=h';try apply bL _
 intro du f154;have a6:=aT f154;have N:=aU f154;have a7:=bT.cons N a4;try simp only[aN] at N
 try apply bL _
 refine bl hJ _ (qS g.1 (d.mono aX) ([(-1),0,1]) ((aG.flat (r:=rI) (e:=3) (cs:=#[.int .i64 (-1),.int .i64 0,.int .i64 1]) (fun x=>[.int .i64 x]) ([(-1),0,1]) (fun _=>rfl) a6 rfl aB).mono (fy cZ)) a5) (aQ ?_);have h':=aD h;clear h;rcases h' with ⟨O,h⟩|⟨O,h⟩
 .cases h
 try simp only[Int.ofNat_lt] at O
 have h':=aD h;clear h;rcases h' with ⟨P,h⟩|⟨P,h⟩
 .cases h
 try simp only[Int.ofNat_lt] at P
 have h':=av h;clear h;obtain ⟨dv,a8,h⟩:=h';try apply bL _
 intro dC f162;have a9:=aT f162;have Q:=aU f162;have ba:=bT.cons Q a7;try simp only[aN] at Q
 try apply bL _
 refine bl hJ _ (zv C.1 (j.mono aX) ([(⟨5,3⟩:aV),(⟨6,3⟩:aV)]) ((aG.flat (r:=eM) (e:=31) (cs:=#[.int .i64 5,.int .i64 3,.int .i64 6,.int .i64 3]) aV.cells ([(⟨5,3⟩:aV),(⟨6,3⟩:aV)]) (fun _=>rfl) a9 rfl aB).mono (fy cZ)) a8) (aQ ?_);have h':=aD h;clear h;rcases h' with ⟨R,h⟩|⟨R,h⟩
 .cases h
 try simp only[Int.ofNat_lt] at R
 have h':=av h;clear h;obtain ⟨dE,bb,h⟩:=h';try apply bL _
 intro dT f168;have bc:=aT f168;have S:=aU f168;have ea:=bT.cons S ba;try simp only[aN] at S
 try apply bL _
 refine bl hJ _ (zv E.1 (F.mono aX) ([(⟨3,1⟩:aV)]) ((aG.flat (r:=eM) (e:=31) (cs:=#[.int .i64 3,.int .i64 1]) aV.cells ([(⟨3,1⟩:aV)]) (fun _=>rfl) bc rfl aB).mono (fy cZ)) bb) (aQ ?_);try apply bL _
 have h':=aD h;clear h;rcases h' with ⟨T,h⟩|⟨T,h⟩
 .cases h
 try simp only[Int.ofNat_lt] at T
 refine aM hJ cZ ?_;apply aR hJ;show Wp _ _ _ _ _;exact cG hJ (Le.sub (.cons _ (.cons _ (.cons _ (.cons _ (.cons₂ _ (List.Sublist.refl _))))))) (Jb hJ x1 p f g ab C E b a cZ h)
set_option maxHeartbeats 40000000 in
theorem Jd {Φ:Goroutine->ag->Prop}(hJ:Closed Tryz.prog true (ek Tryz.prog Φ)){A:Act}{ro:Addr->Option Value}(x1:aH)(b:(aV×Int))(c:(aV×Int))(j:(Bool×Int))(k:(Bool×Int))(l:(Bool×Int))(g:(Int×Int)){m n i:Nat}(f:dB ro){w:Value}(e:aG bJ ro w x1.aj)(Q:sz A=367/\A.defers=[]/\slot A 0= .bool false/\slot A 1= .pointer (some ⟨i,0,none⟩)/\slot A 2= .pointer (some ⟨n,0,none⟩)/\slot A 3= .int .i64 b.2/\slot A 4= .pointer (some ⟨m,0,none⟩)/\slot A 5= .int .i64 c.2/\slot A 6= .bool j.1/\slot A 7= .int .i64 j.2/\slot A 8= .bool k.1/\slot A 9= .int .i64 k.2/\slot A 10= .bool l.1/\slot A 11= .int .i64 l.2/\slot A 12= .int .i64 g.1/\slot A 13= .int .i64 g.2)(h:w6 x1 b c j k l g=some true):Wp (ek Tryz.prog Φ) (bY (bY (bY (bY (bY (bY (bY (bY (Tryz.f10.body.getD .skip))))))))) (iq Tryz.prog [.tmp 0] (fun v _=>v= .bool true)) A ⟨ro,(m,.cells #[.int .i64 c.1.step,.int .i64 c.1.cu] 31)::(n,.cells #[.int .i64 b.1.step,.int .i64 b.1.cu] 31)::(i,.cells #[.int .i64 x1.steps,.int .i64 x1.an,w] 24)::[]⟩:=by
 obtain ⟨R,hd,S,k1,T,U,V,W,X,Y,Z,ab,ad,ae,al,ao⟩:=Q;obtain ⟨d8,t,rfl,a8,a9,s⟩:=id e;unfold w6 at h;refine jS hJ fun ar o=>?_;have a0:=ar.nd;try simp only[keys,List.map_cons,List.map_nil,List.map_append,List.cons_append,List.nil_append,List.nodup_cons,List.mem_cons,List.mem_append,List.not_mem_nil,or_false,not_or] at a0
 have o:aW ro ((m,.cells #[.int .i64 c.1.step,.int .i64 c.1.cu] 31)::(n,.cells #[.int .i64 b.1.step,.int .i64 b.1.cu] 31)::(i,.cells #[.int .i64 x1.steps,.int .i64 x1.an,.slice d8 x1.aj.length t] 24)::[]):=o;replace x:=o.hd;replace y:=o.tl.hd;replace z:=o.tl.tl.hd;apply af hJ;apply af hJ;apply ah hJ;have h':=aD h;clear h;rcases h' with ⟨B,h⟩|⟨B,h⟩
 .cases h
 try simp only[Int.ofNat_lt] at B
 have h':=aD h;clear h;rcases h' with ⟨C,h⟩|⟨C,h⟩
 .cases h
 try simp only[Int.ofNat_lt] at C
 have h':=aD h;clear h;rcases h' with ⟨D,h⟩|⟨D,h⟩
 .cases h
 try simp only[Int.ofNat_lt] at D
 have h':=aD h;clear h;rcases h' with ⟨E,h⟩|⟨E,h⟩
 .cases h
 try simp only[Int.ofNat_lt] at E
 have h':=aD h;clear h;rcases h' with ⟨F,h⟩|⟨F,h⟩
 .cases h
 try simp only[Int.ofNat_lt] at F
 have h':=aD h;clear h;rcases h' with ⟨G,h⟩|⟨G,h⟩
 .cases h
 try simp only[Int.ofNat_lt] at G
 have h':=aD h;clear h;rcases h' with ⟨H,h⟩|⟨H,h⟩
 .cases h
 try simp only[Int.ofNat_lt] at H
 have h':=aD h;clear h;rcases h' with ⟨I,h⟩|⟨I,h⟩
 .cases h
 try simp only[Int.ofNat_lt] at I
 have h':=aD h;clear h;rcases h' with ⟨J,h⟩|⟨J,h⟩
 .cases h
 try simp only[Int.ofNat_lt] at J
 have h':=aD h;clear h;rcases h' with ⟨K,h⟩|⟨K,h⟩
 .cases h
 try simp only[Int.ofNat_lt] at K
 have h':=aD h;clear h;rcases h' with ⟨L,h⟩|⟨L,h⟩
 .cases h
 try simp only[Int.ofNat_lt] at L
 try apply bL _
 have h':=aD h;clear h;rcases h' with ⟨M,h⟩|⟨M,h⟩
 .cases h
 try simp only[Int.ofNat_lt] at M
 refine aM hJ cZ ?_;apply aR hJ;apply af hJ;generalize a:bt _ _ _=d;have ba:sz d=367:=by rw[<-a];simp only[*,go_sem,-h,-a]
 have bb:d.defers=[]:=by rw[<-a];simp only[*,go_sem,-h,-a]
 have bc:slot d 0= .bool false:=by rw[<-a];simp only[*,go_sem,-h,-a]
 have bd:slot d 1= .pointer (some ⟨i,0,none⟩):=by rw[<-a];simp only[*,go_sem,-h,-a]
 have bj:slot d 3= .int .i64 b.2:=by rw[<-a];simp only[*,go_sem,-h,-a]
 have bk:slot d 5= .int .i64 c.2:=by rw[<-a];simp only[*,go_sem,-h,-a]
 have bm:slot d 7= .int .i64 j.2:=by rw[<-a];simp only[*,go_sem,-h,-a]
 have bo:slot d 9= .int .i64 k.2:=by rw[<-a];simp only[*,go_sem,-h,-a]
 have br:slot d 11= .int .i64 l.2:=by rw[<-a];simp only[*,go_sem,-h,-a]
 have bs:slot d 12= .int .i64 g.1:=by rw[<-a];simp only[*,go_sem,-h,-a]
 have b0:slot d 13= .int .i64 g.2:=by rw[<-a];simp only[*,go_sem,-h,-a]
 clear a R hd S k1 T U V W X Y Z ab ad ae al ao;apply ah hJ;have h':=av h;clear h;obtain ⟨a2,a3,h⟩:=h';try apply bL _
 refine cV hJ _ (Gu f x1 e 1 a3) fun v a4 N p hR=>?_;obtain ⟨b1,rfl,q⟩:=hR;have p:aW a4 ((m,.cells #[.int .i64 c.1.step,.int .i64 c.1.cu] 31)::(n,.cells #[.int .i64 b.1.step,.int .i64 b.1.cu] 31)::(i,.cells #[.int .i64 x1.steps,.int .i64 x1.an,.slice d8 x1.aj.length t] 24)::[]):=p;replace e:=e.mono N;clear s;obtain ⟨_,_,s⟩:=e.op;replace x:=p.hd;replace y:=p.tl.hd;replace z:=p.tl.tl.hd;replace f:=f.mono N;obtain ⟨d92,b2,rfl,b3,b4,O⟩:=id q;apply aQ;try apply bL _
 apply af hJ;apply ah hJ;have h':=av h;clear h;obtain ⟨a5,a6,h⟩:=h';try apply bL _
 refine cV hJ _ (Gv f x1 e 1 a6) fun v a7 u r hR=>?_;obtain ⟨ca,rfl,P⟩:=hR;have r:aW a7 ((m,.cells #[.int .i64 c.1.step,.int .i64 c.1.cu] 31)::(n,.cells #[.int .i64 b.1.step,.int .i64 b.1.cu] 31)::(i,.cells #[.int .i64 x1.steps,.int .i64 x1.an,.slice d8 x1.aj.length t] 24)::[]):=r;replace e:=e.mono u;clear s;obtain ⟨_,_,s⟩:=e.op;replace q:=q.mono u;clear O;obtain ⟨_,_,O⟩:=q.op;replace x:=r.hd;replace y:=r.tl.hd;replace z:=r.tl.tl.hd;replace f:=f.mono u;obtain ⟨d104,cb,rfl,cc,cd,cf⟩:=id P;apply aQ;try apply bL _
 show Wp _ _ _ _ _;exact cG hJ (Le.sub (.cons _ (.cons _ (.cons₂ _ (List.Sublist.refl _))))) (Jc hJ x1 j k l g a2 a5 f q P e cZ h)
set_option maxHeartbeats 40000000 in
theorem Je {ro:Addr->Option Value}(c:dB ro){r:Bool}(z:r=true)(h:gT=some r):fA Tryz.prog 10 #[] ⟨ro,[]⟩ (fun v _=>v= .bool r):=by
 subst z;unfold gT at h;refine fA.go Tryz.func10 rfl Tryz.ntmps10 Tryz.results10 aB fun Φ hJ A B hd hs=>?_;clear hs;apply af hJ;apply ah hJ;try apply bL _
 apply af hJ;apply ah hJ;have h':=av h;clear h;obtain ⟨x1,C,h⟩:=h';try apply bL _
 refine cV hJ _ (E6 C) fun v ba D bb hR=>?_;obtain ⟨bc,rfl,d⟩:=hR;replace c:=c.mono D;obtain ⟨d8,bd,rfl,bj,bk,bm⟩:=id d;apply aQ;try apply bL _
 intro E f13;have bo:=aT f13;have F:=aU f13;try simp only[aN] at F
 try apply bL _
 apply af hJ;refine aO hJ fun G=>?_;apply ah hJ;have h':=av h;clear h;obtain ⟨g,H,h⟩:=h';try apply bL _
 intro br f15;have I:=aT f15;have i:=aU f15;have J:=bT.cons i G;try simp only[aN] at i
 intro bs f17;have K:=aT f17;have j:=aU f17;have L:=bT.cons j J;try simp only[aN] at j
 try apply bL _
 refine bl hJ _ (vO (c.mono aX) x1 (d.mono aX) (⟨[0,2,6],[0,1,0],([]:(List Int))⟩:b7) ((aG.flat (r:=rI) (e:=3) (cs:=#[.int .i64 0,.int .i64 2,.int .i64 6]) (fun x=>[.int .i64 x]) ([0,2,6]) (fun _=>rfl) I rfl aB).mono (fy cZ)) ((aG.flat (r:=rI) (e:=3) (cs:=#[.int .i64 0,.int .i64 1,.int .i64 0]) (fun x=>[.int .i64 x]) ([0,1,0]) (fun _=>rfl) K rfl aB).mono (fy cZ)) (aG.nil _ _) 1 1 H) (aQ ?_);try apply bL _
 intro M f21;have b0:=aT f21;have k:=aU f21;have b1:=bT.cons k L;try simp only[aN] at k
 try apply bL _
 apply af hJ;refine aO hJ fun N=>?_;apply ah hJ;have h':=av h;clear h;obtain ⟨l,O,h⟩:=h';try apply bL _
 intro b2 f24;have P:=aT f24;have m:=aU f24;have Q:=bT.cons m N;try simp only[aN] at m
 intro b3 f26;have R:=aT f26;have n:=aU f26;have S:=bT.cons n Q;try simp only[aN] at n
 try apply bL _
 refine bl hJ _ (vO (c.mono aX) x1 (d.mono aX) (⟨[0,2,6],[0,1,0],([]:(List Int))⟩:b7) ((aG.flat (r:=rI) (e:=3) (cs:=#[.int .i64 0,.int .i64 2,.int .i64 6]) (fun x=>[.int .i64 x]) ([0,2,6]) (fun _=>rfl) P rfl aB).mono (fy cZ)) ((aG.flat (r:=rI) (e:=3) (cs:=#[.int .i64 0,.int .i64 1,.int .i64 0]) (fun x=>[.int .i64 x]) ([0,1,0]) (fun _=>rfl) R rfl aB).mono (fy cZ)) (aG.nil _ _) 2 1 O) (aQ ?_);try apply bL _
 intro T f30;have b4:=aT f30;have o:=aU f30;have ca:=bT.cons o S;try simp only[aN] at o
 try apply bL _
 apply af hJ;refine aO hJ fun U=>?_;apply ah hJ;have h':=av h;clear h;obtain ⟨f,V,h⟩:=h';try apply bL _
 intro cb f33;have W:=aT f33;have p:=aU f33;have X:=bT.cons p U;try simp only[aN] at p
 intro cc f35;have Y:=aT f35;have q:=aU f35;have cd:=bT.cons q X;try simp only[aN] at q
 try apply bL _
 refine bl hJ _ (rq (c.mono aX) x1 (d.mono aX) (⟨[0,3,5],[0,0,0],([]:(List Int))⟩:b7) ((aG.flat (r:=rI) (e:=3) (cs:=#[.int .i64 0,.int .i64 3,.int .i64 5]) (fun x=>[.int .i64 x]) ([0,3,5]) (fun _=>rfl) W rfl aB).mono (fy cZ)) ((aG.flat (r:=rI) (e:=3) (cs:=#[.int .i64 0,.int .i64 0,.int .i64 0]) (fun x=>[.int .i64 x]) ([0,0,0]) (fun _=>rfl) Y rfl aB).mono (fy cZ)) (aG.nil _ _) V) (aQ ?_);try apply bL _
 apply af hJ;generalize a:bt _ _ _=b;have cf:sz b=367:=by rw[<-a];simp only[*,go_sem,-h,-a]
 have ck:b.defers=[]:=by rw[<-a];simp only[*,go_sem,-h,-a]
 have cl:slot b 0= .bool false:=by rw[<-a];simp only[*,go_sem,-h,-a]
 have cv:slot b 1= .pointer (some ⟨E,0,none⟩):=by rw[<-a];simp only[*,go_sem,-h,-a]
 have cy:slot b 2= .pointer (some ⟨M,0,none⟩):=by rw[<-a];simp only[*,go_sem,-h,-a]
 have c0:slot b 3= .int .i64 g.2:=by rw[<-a];simp only[*,go_sem,-h,-a]
 have da:slot b 4= .pointer (some ⟨T,0,none⟩):=by rw[<-a];simp only[*,go_sem,-h,-a]
 have db:slot b 5= .int .i64 l.2:=by rw[<-a];simp only[*,go_sem,-h,-a]
 have dd:slot b 6= .bool f.1:=by rw[<-a];simp only[*,go_sem,-h,-a]
 have df:slot b 7= .int .i64 f.2:=by rw[<-a];simp only[*,go_sem,-h,-a]
 clear a B hd;refine aO hJ fun Z=>?_;apply ah hJ;have h':=av h;clear h;obtain ⟨ab,ad,h⟩:=h';try apply bL _
 intro dk f41;have ae:=aT f41;have s:=aU f41;have al:=bT.cons s Z;try simp only[aN] at s
 intro dp f43;have ao:=aT f43;have t:=aU f43;have dq:=bT.cons t al;try simp only[aN] at t
 try apply bL _
 refine bl hJ _ (rq (c.mono aX) x1 (d.mono aX) (⟨[0,3,6],[0,0,0],([]:(List Int))⟩:b7) ((aG.flat (r:=rI) (e:=3) (cs:=#[.int .i64 0,.int .i64 3,.int .i64 6]) (fun x=>[.int .i64 x]) ([0,3,6]) (fun _=>rfl) ae rfl aB).mono (fy cZ)) ((aG.flat (r:=rI) (e:=3) (cs:=#[.int .i64 0,.int .i64 0,.int .i64 0]) (fun x=>[.int .i64 x]) ([0,0,0]) (fun _=>rfl) ao rfl aB).mono (fy cZ)) (aG.nil _ _) ad) (aQ ?_);try apply bL _
 apply af hJ;refine aO hJ fun ar=>?_;apply ah hJ;have h':=av h;clear h;obtain ⟨a0,a2,h⟩:=h';try apply bL _
 intro ds f48;have a3:=aT f48;have u:=aU f48;have a4:=bT.cons u ar;try simp only[aN] at u
 intro dt f50;have a5:=aT f50;have w:=aU f50;have a6:=bT.cons w a4;try simp only[aN] at w
 intro du f52;have a7:=aT f52;have y:=aU f52;have dv:=bT.cons y a6;try simp only[aN] at y
 try apply bL _
 refine bl hJ _ (rq (c.mono aX) x1 (d.mono aX) (⟨[0,3,6],[0,0,0],[2]⟩:b7) ((aG.flat (r:=rI) (e:=3) (cs:=#[.int .i64 0,.int .i64 3,.int .i64 6]) (fun x=>[.int .i64 x]) ([0,3,6]) (fun _=>rfl) a3 rfl aB).mono (fy cZ)) ((aG.flat (r:=rI) (e:=3) (cs:=#[.int .i64 0,.int .i64 0,.int .i64 0]) (fun x=>[.int .i64 x]) ([0,0,0]) (fun _=>rfl) a5 rfl aB).mono (fy cZ)) ((aG.flat (r:=rI) (e:=3) (cs:=#[.int .i64 2]) (fun x=>[.int .i64 x]) ([2]) (fun _=>rfl) a7 rfl aB).mono (fy cZ)) a2) (aQ ?_);try apply bL _
 apply af hJ;apply ah hJ;have h':=av h;clear h;obtain ⟨a8,a9,h⟩:=h';try apply bL _
 refine bl hJ _ (rf (c.mono aX) x1 (d.mono aX) a9) (aQ ?_);try apply bL _
 show Wp _ _ _ _ _;exact cG hJ (Le.sub (.cons _ (.cons _ (.cons _ (.cons _ (.cons _ (.cons _ (.cons _ (.cons₂ _ (.cons _ (.cons _ (.cons₂ _ (.cons _ (.cons _ (.cons₂ _ (List.Sublist.refl _)))))))))))))))) (Jd hJ x1 g l f ab a0 a8 c d cZ h)
theorem w8:gT=some true:=by decide+kernel
theorem jH {ro:Addr->Option Value}(a:dB ro){r:Bool}(h:gT=some r):fA Tryz.prog 10 #[] ⟨ro,[]⟩ (fun v _=>v= .bool r):=
 Je a (Option.some.inj (h.symm.trans w8)) h
end Go.Proofs.YtcoalekambhghaaGreatDoor
end

/- A part of the proof: QT14. -/
import Derived.Test.YtcoalekambhghaaGreatDoorQT13
import Derived.Sort.AssemblyPlain
set_option linter.all false
section
namespace Go.Proofs.YtcoalekambhghaaGreatDoor
open Go Go.Sep Go.Proofs
set_option maxRecDepth 100000
set_option maxHeartbeats 4000000
instance:Inhabited aU:=⟨⟨0,0⟩⟩
def ej (p q:aU):Bool:=decide (p.step<q.step)||(p.step==q.step&&decide (p.cB<q.cB))
def kY (x:aU):List aU->List aU
 |[]=>[x]
 |y::l=>if ej x y then x::y::l else y::kY x l
def iu:List aU->List aU
 |[]=>[]
 |x::l=>kY x (iu l)
def iw (p:aU):Prop:=(-1000000<=p.step/\p.step<=1000000)/\ -1000000<=p.cB/\p.cB<=1000000
instance (p:aU):Decidable (iw p):=by unfold iw;infer_instance
theorem rm (p q:aU):ej p q=true↔p.step<q.step\/(p.step=q.step/\p.cB<q.cB):=by
 simp[ej]
theorem wG (p q:aU):ej p q=false↔¬(p.step<q.step\/(p.step=q.step/\p.cB<q.cB)):=by
 rw[<-rm];simp
theorem rq:Sort.SWO ej where
 irrefl x:=by rw[wG];omega
 trans x y z a b:=by rw[rm] at*;omega
 ntrans x y z a b:=by rw[wG] at*;omega
theorem Im {p q:aU}(e:ej p q=false)(f:ej q p=false):p=q:=by
 rw[wG] at*;obtain ⟨a,b⟩:=p;obtain ⟨c,d⟩:=q;simp only at e f;obtain rfl:a=c:=ai;obtain rfl:b=d:=ai;rfl
theorem wH (x:aU):∀l,(kY x l).Perm (x::l)
 |[]=>.refl _
 |y::l=>by
  unfold kY
  split
  .exact .refl _
  .exact ((wH x l).cons y).trans (.swap _ _ _)
theorem wI:∀l,(iu l).Perm l
 |[]=>.refl _
 |x::l=>(wH x _).trans ((wI l).cons x)
abbrev oP (l:List aU):Prop:=l.Pairwise fun a b=>ej b a=false
theorem A5 (x:aU):∀l,oP l->oP (kY x l)
 |[],_=>by simp[kY,oP]
 |y::l,h=>by
  unfold kY
  have h':=List.pairwise_cons.1 h
  split
  .rename_i b
   refine List.pairwise_cons.2 ⟨fun z a=>?_,h⟩
   rcases List.mem_cons.1 a with rfl|a
   .cases c:ej z x with
    |false=>rfl
    |true=>have:=rq.trans _ _ _ b c;rw[rq.irrefl] at this;cases this
   .cases c:ej z x with
    |false=>rfl
    |true=>have:=rq.trans _ _ _ c b;rw[h'.1 z a] at this;cases this
  .rename_i b
   refine List.pairwise_cons.2 ⟨fun z a=>?_,A5 x l h'.2⟩
   rcases List.mem_cons.1 ((wH x l).subset a) with rfl|a
   .simpa using b
   .exact h'.1 z a
theorem wJ:∀l,oP (iu l)
 |[]=>List.Pairwise.nil
 |x::l=>A5 x _ (wJ l)
theorem A6 {l l':List aU}(c:l'.Perm l)(h:oP l'):l'=iu l:=
 List.Perm.eq_of_pairwise (fun a b _ _ d e=>Im e d) h (wJ l) (c.trans (wI l).symm)
theorem Io {l l':List aU}(a:l.Perm l'):iu l=iu l':=
 A6 ((wI l).trans a) (wJ l)
theorem Ip {p q:aU}(a:iw p)(b:iw q):∃n,gd p q=some n/\decide (n<0)=ej p q:=by
 obtain ⟨⟨a1,c⟩,d,f⟩:=a;obtain ⟨⟨g,b2⟩,b3,b4⟩:=b;unfold gd;by_cases e:p.step=q.step
 .refine ⟨_,by rw[show (p.step != q.step)=false by simpa using e];rfl,?_⟩;rw[IntWalk.i64_in _ ⟨ai,ai⟩,Bool.eq_iff_iff,rm,decide_eq_true_iff];omega
 .refine ⟨_,by rw[show (p.step != q.step)=true by simpa using e];rfl,?_⟩;rw[IntWalk.i64_in _ ⟨ai,ai⟩,Bool.eq_iff_iff,rm,decide_eq_true_iff];omega
theorem Iq {σ ρ:Type}(f:σ->Option (Fl σ ρ))(n:Nat)(s:σ):bg f (n+1) s=ax (f s) fun o=>match o with
  | .nx s'=>bg f n s'
  | .bk s'=>some (.nx s')
  | .br k s'=>some (.br k s')
  | .rt r=>some (.rt r):=rfl
theorem A7 (l:List aU){i j:Nat}(hi:i<l.length)(a:j<l.length):Sort.swp l.toArray i j=((l.set i (l[j]'a)).set j (l[i]'hi)).toArray:=by
 unfold Sort.swp;simp[hi,a]
theorem Ir {l:List aU}(hs:∀p∈l,iw p)(hlen:l.length<=1000000):∀(j n:Nat),j<l.length->j<n->∃i:Int,bg (mG 0 gd) n ((j:Int),l)=some (.nx (i,(Sort.insInner ej 0 j l.toArray).toList)):=by
 intro j
 induction j generalizing l with
 |zero=>
  intro n b hn;obtain ⟨n,rfl⟩:∃m,n=m+1:=⟨n - 1,ai⟩
  refine ⟨0,?_⟩;unfold Sort.insInner bg mG;rfl
 |succ j ih=>
  intro n b hn;obtain ⟨n,rfl⟩:∃m,n=m+1:=⟨n - 1,ai⟩
  have a:j<l.length:=ai;have w:IntKind.i64.wrap (((j+1:Nat):Int) - 1)=(j:Int):=by rw[IntWalk.i64_in _ ⟨ai,ai⟩];omega
  have e1:bM l ((j+1:Nat):Int)=some (l[j+1]'b):=by
   unfold bM;rw[if_pos ai];simp[b]
  have e2:bM l (j:Int)=some (l[j]'a):=by
   unfold bM;rw[if_pos ai];simp[a]
  obtain ⟨c,e,f⟩:=Ip (hs _ (List.getElem_mem b)) (hs _ (List.getElem_mem a));have g:l.toArray[j+1]! =l[j+1]'b:=by simp[b]
  have k:l.toArray[j]! =l[j]'a:=by simp[a]
  unfold Sort.insInner bg mG;simp only[w,e1,e2,e,ax,f,g,k,show decide ((0:Int)<((j+1:Nat):Int))=true from decide_eq_true ai,cond_true,gt_iff_lt,Nat.zero_lt_succ,decide_true,Bool.true_and];cases r:ej (l[j+1]'b) (l[j]'a) with
  |false=>exact ⟨((j+1:Nat):Int),aB⟩
  |true=>
   have e3:bM (l.set (j+1) (l[j]'a)) (j:Int)=some (l[j]'a):=by
    unfold bM;rw[if_pos ai];simp[a]
   have o:(((j+1:Nat):Int)).toNat=j+1:=ai;simp only[o,cond_true,ax,e3,Int.toNat_natCast,if_true];rw[A7 l b a];have d:((l.set (j+1) (l[j]'a)).set j (l[j+1]'b)).length=l.length:=aB;refine ih (l:=(l.set (j+1) (l[j]'a)).set j (l[j+1]'b)) (fun p q=>?_) (by rw[d];exact hlen) n (by rw[d];exact a) ai;rcases List.mem_or_eq_of_mem_set q with h|rfl
   .rcases List.mem_or_eq_of_mem_set h with h|rfl
    .exact hs p h
    .exact hs _ (List.getElem_mem _)
   .exact hs _ (List.getElem_mem _)
theorem A8 (lt:aU->aU->Bool):∀(j:Nat) (d:Array aU),(Sort.insInner lt 0 j d).size=d.size
 |0,d=>by unfold Sort.insInner;rfl
 |j+1,d=>by
  unfold Sort.insInner
  split
  .rw[A8 lt j];simp[Sort.swp]
  .rfl
theorem A9 {P:aU->Prop}:∀(j:Nat) (l:List aU),j<l.length->(∀p∈l,P p)->∀p∈(Sort.insInner ej 0 j l.toArray).toList,P p
 |0,l,_,h=>by unfold Sort.insInner;simpa using h
 |j+1,l,b,h=>by
  unfold Sort.insInner
  split
  .rw[A7 l b ai]
   refine A9 j _ (by simp;omega) fun p c=>?_
   rcases List.mem_or_eq_of_mem_set c with a|rfl
   .rcases List.mem_or_eq_of_mem_set a with a|rfl
    .exact h p a
    .exact h _ (List.getElem_mem _)
   .exact h _ (List.getElem_mem _)
  .simpa using h
theorem It {N:Nat}(f:N<=1000000):∀(k i n:Nat) (l:List aU),l.length=N->i+k=N->k<n->(∀p∈l,iw p)->∃j:Int,bg (kT 0 (N:Int) gd) n ((i:Int),l)=some (.nx (j,(Sort.insOuter ej 0 N i l.toArray).toList)):=by
 intro k
 induction k with
 |zero=>
  intro i n l a hi hn hs;obtain ⟨n,rfl⟩:∃m,n=m+1:=⟨n - 1,ai⟩
  obtain rfl:i=N:=ai;refine ⟨(i:Int),?_⟩;unfold bg kT;rw[Sort.insOuter,if_neg ai];simp[ax]
 |succ k ih=>
  intro i n l a hi hn hs;obtain ⟨n,rfl⟩:∃m,n=m+1:=⟨n - 1,ai⟩
  obtain ⟨i1,c⟩:=Ir hs ai i fu ai (by unfold fu;omega);have w:IntKind.i64.wrap ((i:Int)+1)=((i+1:Nat):Int):=by rw[IntWalk.i64_in _ ⟨ai,ai⟩];omega
  have d:kT 0 (N:Int) gd ((i:Int),l)=some (.nx (((i+1:Nat):Int),(Sort.insInner ej 0 i l.toArray).toList)):=by
   unfold kT;simp only[c,ax,aH,w,show decide ((i:Int)<(N:Int))=true from decide_eq_true ai,cond_true]
  rw[Iq,d];rw[Sort.insOuter,if_pos ai];have e:(Sort.insInner ej 0 i l.toArray).toList.length=N:=by rw[Array.length_toList,A8];simpa using a
  obtain ⟨j,b⟩:=ih (i+1) n (Sort.insInner ej 0 i l.toArray).toList e ai ai (A9 i l ai hs);rw[Array.toArray_toList] at b;exact ⟨j,b⟩
theorem Iu {l:List aU}(c:l≠[])(k:l.length<=1000000)(hs:∀p∈l,iw p):oE l 0 (l.length:Int) gd=some ((),iu l):=by
 unfold oE;have m:l.isEmpty=false:=by cases l<;>simp at c ⊢
 have q:0<l.length:=List.length_pos_iff.2 c;have w:IntKind.i64.wrap ((0:Int)+1)=((1:Nat):Int):=by rw[IntWalk.i64_in _ ⟨ai,ai⟩];rfl
 obtain ⟨j,a⟩:=It k (l.length - 1) 1 fu l rfl ai (by unfold fu;omega) hs;simp only[m,cond_false,w,a,ax,aH];have f:=Sort.insertionSort_holds (lt:=ej) rq l.toArray 0 l.length ai aB;have e:Sort.insertionSort ej l.toArray 0 l.length=Sort.insOuter ej 0 l.length 1 l.toArray:=rfl;rw[e] at f;obtain ⟨⟨g,-,b⟩,h⟩:=f;generalize Sort.insOuter ej 0 l.length 1 l.toArray=d at g b h;have n:d.size=l.length:=by simpa using g
 refine congrArg (fun x=>some ((),x)) (A6 ?_ ?_)
 .have e1:d.extract 0 l.length=d:=by rw[<-n];simp
  have e2:l.toArray.extract 0 l.length=l.toArray:=by
   have:l.length=l.toArray.size:=aB;rw[this];simp
  rw[e1,e2] at b;simpa using b
 .refine List.pairwise_iff_getElem.2 fun i j hi a o=>?_;have:=h i j (Nat.zero_le _) o (by rw[Array.length_toList] at a;omega);rw[Array.length_toList] at hi a;simpa [getElem!_pos d i hi,getElem!_pos d j a] using this
theorem Iv {l:List aU}{b:Int}(a:l≠[])(e:l.length<=12)(hs:∀p∈l,iw p):oF l 0 (l.length:Int) b gd=some ((),iu l):=by
 unfold oF;have c:l.isEmpty=false:=by cases l<;>simp at a ⊢
 have d:fu=(fu - 1)+1:=rfl;have w:IntKind.i64.wrap ((l.length:Int) - 0)=(l.length:Int):=by rw[Int.sub_zero,IntWalk.i64_in _ ⟨ai,ai⟩]
 rw[c,d];unfold bg qX;simp only[w,show decide ((l.length:Int)<=12)=true by simp;omega,cond_true,cond_false,Iu a ai hs,ax,aH]
theorem Ba {n:Nat}(h:n<65536):∃k,jP (IntKind.u64.wrap (n:Int))=some k:=by
 rw[IntWalk.u64_in _ ⟨ai,ai⟩];unfold jP;rw[if_pos ⟨ai,ai⟩];exact ⟨_,rfl⟩
theorem Iw {l:List aU}(a:l≠[])(b:l.length<=12)(hs:∀p∈l,iw p):qY l gd=some ((),iu l):=by
 unfold qY;have c:l.isEmpty=false:=by cases l<;>simp at a ⊢
 obtain ⟨k,d⟩:=Ba (n:=l.length) ai;simp only[c,cond_false,d,ax,Iv a b hs]
theorem Ix:q2 gd=some ():=by
 unfold q2;obtain ⟨k,a⟩:=Ba (n:=0) ai;rw[show IntKind.u64.wrap 0=IntKind.u64.wrap ((0:Nat):Int) from rfl,a];have e:qZ 0 0 k gd=some ():=rfl;simp only[ax,e]
def oQ (l:List (aU×Bool)):Option (List aU):=if l.length<=12/\∀e∈l,iw e.1 then some (iu (l.map (·.1))) else none
def ek (l:List (aU×Bool)):Obj:=dg (fun k:aU=>k.v) (fun v:Bool=>.bool v) l
theorem Iy:∃kd,Tryz.prog.underlying 31=some kd:=Option.isSome_iff_exists.1 aT
theorem Iz (a b:aU):lf Tryz.prog 31 a.v b.v=some (a.step==b.step&&(a.cB==b.cB&&true)):=aT
theorem IA (a b:aU):(a==b)=(a.step==b.step&&(a.cB==b.cB&&true)):=by
 obtain ⟨x,y⟩:=a;obtain ⟨z,w⟩:=b;rw[Bool.eq_iff_iff];simp
theorem IB {kd:TypeDesc}:qu (K:=aU) Tryz.prog 31 kd (fun k=>k.v) where
 eq a b Q F h:=by
  rw[IA] at h
  exact (r8 (Iz a b) h).1
 none a b:=by
  unfold aU.v
  cases kd<;>rfl
 bits a b h:=by
  obtain rfl:a=b:=by simpa using h
  exact ⟨by simp[aU.v,Instr.sameBits],rfl⟩
 plain e k Q F h:=by
  have:bA Tryz.prog (Instr.checkKey e 10000 31 k.v) Q F=Q () F:=aT
  rw[this]
  exact h
theorem IC {R:Value->ag->Prop}{F:ag}(h:∀b,dP F b->R (.map (some b)) (F.push b (ek []))):cE Tryz.prog (Instr.makeMap 137 none) R F:=pQ (fun k:aU=>k.v) (fun v:Bool=>.bool v) h
theorem ID {own:List (Nat×Obj)}{ro:Addr->Option Value}{b:Nat}{l:List (aU×Bool)}{k:aU}{v:Bool}{R:Value->ag->Prop}(a:lk own b=some (ek l))(h:R undef ⟨ro,eM own b (ek (cw l k v))⟩):cE Tryz.prog (Instr.mapUpdate 137 (.map (some b)) k.v (.bool v)>>= fun _=>pure undef) R ⟨ro,own⟩:=by
 obtain ⟨kd,c⟩:=Iy;exact Er (fv:=fun v:Bool=>.bool v) (k:=k) (v:=v) (IB (kd:=kd)) (show Tryz.prog.underlying 137=some (.map 31 4) by kernel_rfl) c a h
def gu (l:List (aU×Bool))(i:Nat):aU:=(l.getD i (⟨0,0⟩,false)).1
theorem Bb:∀(N:Nat) (l:List Nat),l.Nodup->(∀i∈l,i<N)->l.length<=N
 |0,l,_,h=>by
  cases l with
  |nil=>exact Nat.le_refl _
  |cons x l=>exact absurd (h x aB) (Nat.not_lt_zero _)
 |N+1,l,hn,h=>by
  have a:=Bb N (l.erase N) (hn.erase N) fun i hi=>by
   rw[hn.mem_erase_iff] at hi
   have:=h i hi.2
   omega
  by_cases hm:N∈l
  .rw[List.length_erase_of_mem hm] at a;omega
  .rw[List.erase_of_not_mem hm] at a;omega
theorem IE {n:Nat}{seen:List Nat}(a:seen.Nodup)(b:∀i∈seen,i<n)(c:∀i,i<n->i∈seen):seen.Perm (List.range n):=
 (List.perm_ext_iff_of_nodup a List.nodup_range).2 fun i=>⟨fun h=>List.mem_range.2 (b i h),fun h=>c i (List.mem_range.1 h)⟩
theorem IF (l:List (aU×Bool)):(List.range l.length).map (gu l)=l.map (·.1):=by
 refine List.ext_getElem aB fun i a b=>?_;simp at a;simp[gu,List.getD,a]
theorem IG {l:List (aU×Bool)}{out:List aU}(h:oQ l=some out){seen:List Nat}(c:seen.Nodup)(d:∀i∈seen,i<l.length)(f:∀i,i<l.length->i∈seen):
  seen.length<=12/\(∀p∈seen.map (gu l),iw p)/\out=iu (seen.map (gu l)):=by
 unfold oQ at h
 split at h
 case isFalse=>cases h
 rename_i g
 have a:=IE c d f
 have b:(seen.map (gu l)).Perm (l.map (·.1)):=by have:=a.map (gu l);rwa [IF] at this
 refine ⟨by have:=a.length_eq;simp at this;omega,fun p j=>?_,?_⟩
 .obtain ⟨e,he,rfl⟩:=List.mem_map.1 (b.subset j)
  exact g.2 e he
 .rw[<-Option.some.inj h]
  exact Io b.symm
theorem II {main:Bool}{J:Goroutine->ag->Prop}(hJ:Closed Tryz.prog main J){A:Act}{K ro:Addr->Option Value}(L:Ext K ro){d:Nat}(ab:∀off sp,ro ⟨d,off,sp⟩=none){l:List (aU×Bool)}(ae:sz A=78/\A.defers=[]/\slot A 9= .map (some d)/\slot A 15= .slice none 0 0)
  {r:List aU×Int} (h:ax (oQ l) (fun x=>some (x,0))=some r):
  Wp J (bX (bX (bX (bX (bX (bX (bX (Tryz.f46.body.getD .skip)))))))) (g5 Tryz.prog [.tmp 4,.tmp 5] (fun v G=>∃aK,Ext K aK/\Le ⟨aK,[]⟩ G/\∃M,v= .tuple #[M,.int .i64 r.2]/\aI eH aK M r.1)) A ⟨ro,[(d,ek l)]⟩:=by
 obtain ⟨al,hd,ao,ar⟩:=ae
 obtain ⟨out,ho,h⟩:=an h
 obtain rfl:=Option.some.inj h
 clear h
 refine af hJ ?_
 refine af hJ ?_
 refine ah hJ ?_
 apply bt _
 have a0:lk [(d,ek l)] d=some (ek l):=by simp[lk]
 refine Es (fun k:aU=>k.v) (fun v:Bool=>.bool v) (show Tryz.prog.underlying 137=some (.map 31 4) by kernel_rfl) a0 fun c N=>?_
 have rc:=aV N;have s:=aW N
 simp only[aQ] at s
 apply bt _
 refine aY hJ ?_
 refine bO hJ [15,16,67,68,69,70,71,72,73,74] (fun m a2 F'=>∃(seen:List Nat) (ad:Option Addr) (cap:Nat) (f:List (Nat×Obj)),seen.Nodup/\(∀i∈seen,i<l.length)/\(seen=[]->ad=none/\cap=0)/\m=l.length - seen.length/\F'=⟨ro,(c,.mapIter (some d) l.length seen.toArray l.length)::(d,ek l)::f⟩/\bx eH ro 31 (.slice ad seen.length cap) (seen.map (gu l)) f/\slot a2 15= .slice ad seen.length cap) l.length ?_ ?_
 .refine ⟨[],none,0,[],List.nodup_nil,aB,aB,aB,rfl,bx.nil _ _ _,?_⟩
  apply bt _
  simp
 rintro m n F' o ⟨seen,ad,cap,f,t,u,O,rfl,rfl,hg,P⟩
 have b1:sz n=78:=by rw[o.size];simp only[*,go_sem]
 have kd:n.defers=[]:=by rw[o.defers];simp only[*,go_sem]
 have b2:slot n 66= .pointer (some ⟨c,0,none⟩):=by rw[o.ay 66 av];simp only[*,go_sem]
 clear o ao ar al hd
 refine af hJ ?_
 refine ah hJ ?_
 apply bt _
 have w:lk ((c,.mapIter (some d) l.length seen.toArray l.length)::(d,ek l)::f) d=some (ek l):=by
  simp only[lk,if_neg s.1,if_true]
 have y:lk ((c,.mapIter (some d) l.length seen.toArray l.length)::(d,ek l)::f) c=some (.mapIter (some d) l.length seen.toArray l.length):=by
  simp only[lk,if_true]
 refine Et (fun k:aU=>k.v) (fun v:Bool=>.bool v) w y (fun Q=>?_) (fun i x hi a3=>?_)
 .clear w y
  apply bt _
  refine af hJ ?_
  refine aM hJ cU ?_
  refine bI ?_
  simp only[go_sem]
  refine af hJ ?_
  obtain ⟨hlen,a4,rfl⟩:=IG ho t u fun i hi=>by simpa using Q i hi
  clear ho h Q
  by_cases R:seen=[]
  .subst R
   obtain ⟨rfl,rfl⟩:=O rfl
   replace P:slot n 15= .slice none 0 0:=P
   refine ah hJ ?_
   apply bt _
   refine bp hJ _ (Gk (bL:=112) (bQ:=#[]) (bR:=#[]) gd ⟨by simp only[go_sem],fun a5 a6 y0 B z C=>by simp only[go_sem];exact yW y0 B C⟩ Ix) ?_
   try apply bt _
   repeat refine af hJ ?_
   refine ah hJ ?_
   apply bt _
   refine aG ?_
   apply bt _
   exact ⟨_,L,Le.sub (List.nil_sublist _),_,rfl,aI.nil _ _⟩
  .clear O
   refine aJ hJ fun b3=>?_
   refine ah hJ ?_
   apply bt _
   refine dA hJ [(c,.mapIter (some d) l.length seen.toArray l.length),(d,ek l)] [] aB _ (Gh (bL:=112) (bQ:=#[]) (bR:=#[]) (b5:=.slice ad seen.length cap) (seen.map (gu l)) hg gd ⟨by simp only[go_sem],fun a5 a6 y0 B z C=>by simp only[go_sem];exact yW y0 B C⟩ (Iw (by simpa using R) (by simpa using hlen) a4)) (fun v p a7 D E nd=>?_)
   obtain ⟨rfl,q⟩:=a7
   simp only[bh] at E
   subst D
   refine ⟨⟨ro,(c,.mapIter (some d) l.length seen.toArray l.length)::(d,ek l)::p⟩,Le.refl _,?_⟩
   try apply bt _
   repeat refine af hJ ?_
   refine ah hJ ?_
   apply bt _
   refine aJ hJ fun H=>?_
   obtain ⟨S,a8,b4,a9,ba⟩:=q.gA ((c,.mapIter (some d) l.length seen.toArray l.length)::(d,ek l)::[]) [(c,.mapIter (some d) l.length seen.toArray l.length),(d,ek l)] [] aB aB H (aP.cons rc (aP.cons ab (aP.nil _)))
   refine cv (F:=⟨S,(c,.mapIter (some d) l.length seen.toArray l.length)::(d,ek l)::[]⟩) hJ ba ?_
   refine aG ?_
   apply bt _
   exact ⟨S,L.trans a8,Le.sub (List.nil_sublist _),_,rfl,a9⟩
 .apply bt _
  have bb:i<l.length:=(List.getElem?_eq_some_iff.1 hi).1
  have bc:gu l i=x.1:=by simp[gu,List.getD,hi]
  have T:i∉seen:=by simpa using a3
  have hlen:seen.length<l.length:=by
   rcases Nat.lt_or_ge seen.length l.length with g|g
   .exact g
   .exfalso
    have bd:=Bb l.length (i::seen) (List.nodup_cons.2 ⟨T,t⟩) fun j I=>(List.mem_cons.1 I).elim (fun e=>e▸bb) (u j)
    simp at bd
    omega
  refine af hJ ?_
  refine aN hJ cU ?_
  refine aR hJ ?_
  refine aY hJ ?_
  refine af hJ ?_
  refine ah hJ ?_
  apply bt _
  have U:lk ((c,.mapIter (some d) l.length (seen.toArray.push i) l.length)::(d,ek l)::f) d=some (ek l):=by
   simp only[lk,if_neg s.1,if_true]
  have V:lk ((c,.mapIter (some d) l.length (seen.toArray.push i) l.length)::(d,ek l)::f) c=some (.mapIter (some d) l.length (seen.toArray.push i) l.length):=by
   simp only[lk,if_true]
  refine Eu (fun k:aU=>k.v) (fun v:Bool=>.bool v) U V hi ?_
  clear w y U V
  apply bt _
  intro W f5;have ca:=aV f5;have bj:=aW f5
  simp only[aQ] at bj
  refine aJ hJ fun bk=>?_
  refine ah hJ ?_
  apply bt _
  intro X f6;have bm:=aV f6;have Y:=aW f6
  have H:=bP.cons Y bk
  simp only[aQ] at Y
  try apply bt _
  have cb:l.length<=12:=by
   unfold oQ at ho
   split at ho
   .rename_i bo;exact bo.1
   .cases ho
  refine iH (r:=eH) (l:=seen.map (gu l)) (x:=x.1) (cs:=#[.int .i64 x.1.step,.int .i64 x.1.cB]) (e2:=31) [(X,.cells #[.int .i64 x.1.step,.int .i64 x.1.cB] 31),(W,.cells #[.int .i64 x.1.step,.int .i64 x.1.cB] 31),(c,.mapIter (some d) l.length (seen.toArray.push i) l.length),(d,ek l)] [] aB hg H (by simp;omega) rfl cU bm rfl rfl x9 x9 Cx x7 rfl Cz av av (fun v p q D E nd=>?_)
  simp only[bh] at E
  subst D
  obtain ⟨d2,br,rfl,cc⟩:=q.len
  refine ⟨⟨ro,(X,.cells #[.int .i64 x.1.step,.int .i64 x.1.cB] 31)::(W,.cells #[.int .i64 x.1.step,.int .i64 x.1.cB] 31)::(c,.mapIter (some d) l.length (seen.toArray.push i) l.length)::(d,ek l)::p⟩,Le.refl _,?_⟩
  refine aS ?_
  apply bt _
  have Z:(seen.map (gu l)++[x.1]).length=(seen++[i]).length:=aB
  have bs:(seen++[i]).map (gu l)=seen.map (gu l)++[x.1]:=by simp[bc]
  refine ⟨l.length - (seen.length+1),ai,_,Le.sub (.cons _ (.cons _ (List.Sublist.refl _))),seen++[i],d2,br,p,?_,?_,aB,aB,aB,?_,by rw[Z]⟩
  .exact List.nodup_append.2 ⟨t,aB,fun a b0 b hb e=>T (by simp at hb;rw[<-hb,<-e];exact b0)⟩
  .intro j I
   rcases List.mem_append.1 I with g|g
   .exact u j g
   .simp at g;omega
  .rw[bs,<-Z]
   exact q
def ru (u0:bu)(a:(List UInt8)):Option Bool:=
 some (u0.bN==a)
theorem IJ {ro:Addr->Option Value}(u0:bu)(a:(List UInt8)){b:Nat}(c:ro ⟨b,0,none⟩=some (.string ⟨⟨a⟩⟩)){r:Bool}(h:ru u0 a=some r):aF Tryz.prog 107 #[.agg #[.string ⟨⟨u0.bN⟩⟩,.int .i64 u0.dY,.int .i64 u0.row],.pointer (some ⟨b,0,none⟩)] ⟨ro,[]⟩ (fun v _=>v= .bool r):=by
 unfold ru at h;refine aF.go Tryz.func107 rfl Tryz.ntmps107 Tryz.results107 aB fun main J hJ A d hd hs=>?_;have e:=hs 0;have k1:=hs 1;clear hs;refine af hJ ?_;refine ah hJ ?_;apply aa _;intro f f1;have r1:=aV f1;have n1:=aW f1;try simp only[aQ] at n1
 try apply aa _
 refine af hJ ?_;refine ah hJ ?_;apply aa _;have h':=Option.some.inj h;clear h;subst h';refine aG ?_;simp only[*,go_sem]
def mR (u0:bf)(a:(List UInt8)):Option Int:=
 ax (nU u0.marks (fun y0=>ru y0 a)) fun b=>some b
theorem Bc {ro:Addr->Option Value}(u0:bf){s1:Value}(c:aI dJ ro s1 u0.marks)(a:(List UInt8)){b:Nat}(d:ro ⟨b,0,none⟩=some (.string ⟨⟨a⟩⟩)){r:Int}(h:mR u0 a=some r):aF Tryz.prog 105 #[.agg #[.string ⟨⟨u0.name⟩⟩,.int .i64 u0.from_.low,.int .i64 u0.from_.high,.int .i64 u0.wide,.int .i64 u0.aC.low,.int .i64 u0.aC.high,s1],.pointer (some ⟨b,0,none⟩)] ⟨ro,[]⟩ (fun v _=>v= .int .i64 r):=by
 obtain ⟨d3,c4,rfl,j,k,l⟩:=id c;unfold mR at h;refine aF.go Tryz.func105 rfl Tryz.ntmps105 Tryz.results105 aB fun main J hJ A m hd hs=>?_;have n:=hs 0;have k1:=hs 1;clear hs;refine af hJ ?_;refine ah hJ ?_;apply aa _;intro o f8;have p:=aV f8;have e:=aW f8;try simp only[aQ] at e
 try apply aa _
 refine af hJ ?_;refine ah hJ ?_;have h':=an h;clear h;obtain ⟨q,f,h⟩:=h';apply aa _;refine bp hJ _ (yV (bL:=107) (bQ:=#[]) (bR:=#[.pointer (some ⟨b,0,none⟩)]) u0.marks (c.mono aZ) (fun y0=>ru y0 a) ⟨by simp only[go_sem],fun s g y0 t i=>by simp only[go_sem];exact IJ y0 a (g _ _ (aZ _ _ d)) i⟩ f) (aS ?_);try apply aa _
 have h':=Option.some.inj h;clear h;subst h';refine aG ?_;simp only[*,go_sem]
def ry (u0:bf)(a:(bf->Option Int)):Option Bool:=
 ax (a u0) fun b=>some (decide (0<=b))
theorem IK {ro:Addr->Option Value}(u0:bf){s1:Value}(c:aI dJ ro s1 u0.marks)(d:(bf->Option Int)){b:FuncId}{e f:Array Value}{g:Nat}(j:aO Tryz.prog b=true/\∀(aK:Addr->Option Value),Ext ro aK->∀(y0:bf) (i:Value) (z:Int),aI dJ aK i y0.marks->d y0=some z->aF Tryz.prog b (e++#[.agg #[.string ⟨⟨y0.name⟩⟩,.int .i64 y0.from_.low,.int .i64 y0.from_.high,.int .i64 y0.wide,.int .i64 y0.aC.low,.int .i64 y0.aC.high,i]]++f) ⟨aK,[]⟩ (fun v _=>v= .int .i64 z))(m:ro ⟨g,0,none⟩=some (.func (.func b) e f)){r:Bool}(h:ry u0 d=some r):aF Tryz.prog 110 #[.agg #[.string ⟨⟨u0.name⟩⟩,.int .i64 u0.from_.low,.int .i64 u0.from_.high,.int .i64 u0.wide,.int .i64 u0.aC.low,.int .i64 u0.aC.high,s1],.pointer (some ⟨g,0,none⟩)] ⟨ro,[]⟩ (fun v _=>v= .bool r):=by
 obtain ⟨d3,c4,rfl,n,o,p⟩:=id c;unfold ry at h;refine aF.go Tryz.func110 rfl Tryz.ntmps110 Tryz.results110 aB fun main J hJ A q hd hs=>?_;have s:=hs 0;have k1:=hs 1;clear hs;refine af hJ ?_;refine ah hJ ?_;apply aa _;intro t f8;have u:=aV f8;have k:=aW f8;try simp only[aQ] at k
 try apply aa _
 refine af hJ ?_;refine ah hJ ?_;have h':=an h;clear h;obtain ⟨w,l,h⟩:=h';apply aa _;refine bp hJ _ (j.2 _ (fun a v h=>aZ a v h) u0 _ _ (c.mono aZ) l) (aS ?_);try apply aa _
 have h':=Option.some.inj h;clear h;subst h';refine aG ?_;simp only[*,go_sem]
def rz (u0:aL)(a:(bf->Option Int)):Option Bool:=
 ax (tE u0.aj (fun y0=>ry y0 a)) fun b=>some b
theorem IL {ro:Addr->Option Value}(u0:aL){s1:Value}(d:aI bK ro s1 u0.aj)(a:(bf->Option Int)){b:FuncId}{e f:Array Value}{c:Nat}(g:aO Tryz.prog b=true/\∀(aK:Addr->Option Value),Ext ro aK->∀(y0:bf) (i:Value) (z:Int),aI dJ aK i y0.marks->a y0=some z->aF Tryz.prog b (e++#[.agg #[.string ⟨⟨y0.name⟩⟩,.int .i64 y0.from_.low,.int .i64 y0.from_.high,.int .i64 y0.wide,.int .i64 y0.aC.low,.int .i64 y0.aC.high,i]]++f) ⟨aK,[]⟩ (fun v _=>v= .int .i64 z))(k:ro ⟨c,0,none⟩=some (.func (.func b) e f)){r:Bool}(h:rz u0 a=some r):aF Tryz.prog 108 #[.agg #[.int .i64 u0.steps,.int .i64 u0.au,s1],.pointer (some ⟨c,0,none⟩)] ⟨ro,[]⟩ (fun v _=>v= .bool r):=by
 obtain ⟨d3,c4,rfl,q,s,t⟩:=id d;unfold rz at h;refine aF.go Tryz.func108 rfl Tryz.ntmps108 Tryz.results108 aB fun main J hJ A u hd hs=>?_;have w:=hs 0;have k1:=hs 1;clear hs;refine af hJ ?_;refine ah hJ ?_;apply aa _;intro x f8;have y:=aV f8;have l:=aW f8;try simp only[aQ] at l
 try apply aa _
 refine af hJ ?_;refine ah hJ ?_;have h':=an h;clear h;obtain ⟨B,m,h⟩:=h';apply aa _;refine bp hJ _ (DW (bL:=110) (bQ:=#[]) (bR:=#[.pointer (some ⟨c,0,none⟩)]) u0.aj (d.mono aZ) (fun y0=>ry y0 a) ⟨by simp only[go_sem],fun C j y0 _ D n o=>by simp only[go_sem];exact IK y0 n a ⟨g.1,fun _ p=>g.2 _ (Ext.trans (Ext.trans aZ j) p)⟩ (j _ _ (aZ _ _ k)) o⟩ m) (aS ?_);try apply aa _
 have h':=Option.some.inj h;clear h;subst h';refine aG ?_;simp only[*,go_sem]
def wK (b:(dQ×Int))(i51:Nat)(c:bf)(d:Int)(i71:Nat)(a:bw)(st:(List (aU×Bool))):Option (Fl (List (aU×Bool)) ((List aU)×Int)):=
 ax (iM a (i51:Int)) fun e=>cond (!e) (ax (bM c.marks d) fun f=>ax (kK b.1.round a (i51:Int) f) fun g=>some (.nx (cw st g true))) (some (.nx st))
def wL (d:(List UInt8))(a:(dQ×Int))(i51:Nat)(b:bf)(st:(List (aU×Bool))):Option (Fl (List (aU×Bool)) ((List aU)×Int)):=
 ax (mR b d) fun c=>cond (decide (c<0)) (some (.nx st)) (ax (b7 (wK a i51 b c) 0 a.1.bJ st) fun o=>aH o (fun e=>some (.nx e)) (fun _ _=>none) (fun r=>some (.rt r)))
def rA (u0:aL)(b:(List UInt8)):Option ((List aU)×Int):=
 ax (ig u0 (fun y0=>rz y0 (fun y0=>mR y0 b))) fun a=>cond ((a.2 != 0)) (some (([]:(List aU)),a.2)) (ax (b7 (wL b a) 0 u0.aj ([]:(List (aU×Bool)))) fun o=>aH o (fun c=>ax (oQ c) fun x=>some (x,0)) (fun _ _=>none) (fun r=>some r))
theorem Be {ro:Addr->Option Value}(B:dh ro)(u0:aL){s1:Value}(i:aI bK ro s1 u0.aj)(j:(List UInt8)){r:((List aU)×Int)}(h:rA u0 j=some r):ee Tryz.prog 46 #[.agg #[.int .i64 u0.steps,.int .i64 u0.au,s1],.string ⟨⟨j⟩⟩] ro (fun v aK=>∃a3,v= .tuple #[a3,.int .i64 r.2]/\aI eH aK a3 r.1):=by
 obtain ⟨d3,c4,rfl,hk,a4,C⟩:=id i;unfold rA at h;refine aF.go Tryz.func46 rfl Tryz.ntmps46 Tryz.results46 aB fun main J hJ A b2 hd hs=>?_;have b3:=hs 0;have k1:=hs 1;clear hs;refine af hJ ?_;refine ah hJ ?_;apply aa _;intro p f8;have K:=aV f8;have b4:=aW f8;try simp only[aQ] at b4
 intro f f9;have a5:=aV f9;have ca:=aW f9;try simp only[aQ] at ca
 try apply aa _
 refine af hJ ?_;refine ah hJ ?_;apply aa _;intro q f10;have O:=aV f10;have cb:=aW f10;try simp only[aQ] at cb
 try apply aa _
 refine af hJ ?_;refine aJ hJ fun a6=>?_;obtain ⟨L,M,a7⟩:=gB (b:=f) (o:=(.cells #[.string ⟨⟨j⟩⟩] 9)) [(q,.cells #[.func (.func 105) #[] #[.pointer (some ⟨f,0,none⟩)]] 135)] ((p,.cells #[.int .i64 u0.steps,.int .i64 u0.au,.slice d3 u0.aj.length c4] 24)::[]) a6 a5 (aP.cons O (aP.cons K (aP.nil _)));clear a6;have D:bY ro f (.cells #[.string ⟨⟨j⟩⟩] 9) ⟨f,0,none⟩=some (.string ⟨⟨j⟩⟩):=by rw[ep a5];rfl
 generalize bY ro f (.cells #[.string ⟨⟨j⟩⟩] 9)=P at L M a7 D;refine cv (F:=⟨P,(q,.cells #[.func (.func 105) #[] #[.pointer (some ⟨f,0,none⟩)]] 135)::(p,.cells #[.int .i64 u0.steps,.int .i64 u0.au,.slice d3 u0.aj.length c4] 24)::[]⟩) hJ a7 ?_;have M:aP P ((q,.cells #[.func (.func 105) #[] #[.pointer (some ⟨f,0,none⟩)]] 135)::(p,.cells #[.int .i64 u0.steps,.int .i64 u0.au,.slice d3 u0.aj.length c4] 24)::[]):=M;replace i:=i.mono L;clear C;obtain ⟨_,_,C⟩:=i.op;replace O:=M.hd;replace K:=M.tl.hd;replace B:=B.mono L;refine aJ hJ fun a8=>?_;obtain ⟨G,Q,a9⟩:=gB (b:=q) (o:=(.cells #[.func (.func 105) #[] #[.pointer (some ⟨f,0,none⟩)]] 135)) [] ((p,.cells #[.int .i64 u0.steps,.int .i64 u0.au,.slice d3 u0.aj.length c4] 24)::[]) a8 O (aP.cons K (aP.nil _));clear a8;have R:bY P q (.cells #[.func (.func 105) #[] #[.pointer (some ⟨f,0,none⟩)]] 135) ⟨q,0,none⟩=some (.func (.func 105) #[] #[.pointer (some ⟨f,0,none⟩)]):=by rw[ep O];rfl
 generalize bY P q (.cells #[.func (.func 105) #[] #[.pointer (some ⟨f,0,none⟩)]] 135)=ba at G Q a9 R;refine cv (F:=⟨ba,(p,.cells #[.int .i64 u0.steps,.int .i64 u0.au,.slice d3 u0.aj.length c4] 24)::[]⟩) hJ a9 ?_;have Q:aP ba ((p,.cells #[.int .i64 u0.steps,.int .i64 u0.au,.slice d3 u0.aj.length c4] 24)::[]):=Q;replace i:=i.mono G;clear C;obtain ⟨_,_,C⟩:=i.op;replace K:=Q.hd;replace B:=B.mono G;replace D:=G _ _ D;refine ah hJ ?_;have h':=an h;clear h;obtain ⟨d,cc,h⟩:=h';apply aa _;refine cz hJ _ (js B (bL:=108) (bQ:=#[]) (bR:=#[.pointer (some ⟨q,0,none⟩)]) u0 i (fun y0=>rz y0 (fun y0=>mR y0 j)) ⟨by simp only[go_sem],fun hl bb y0 _ hn cd cf=>by simp only[go_sem];exact IL y0 cd (fun y0=>mR y0 j) ⟨by simp only[go_sem],fun ho ck cl _ hp cy c0=>by simp only[go_sem];exact Bc cl cy j (ck _ _ (bb _ _ D)) c0⟩ (bb _ _ R) cf⟩ cc) fun v S H Y hR=>?_;obtain ⟨hq,hr,rfl,bc,da⟩:=hR;have Y:aP S ((p,.cells #[.int .i64 u0.steps,.int .i64 u0.au,.slice d3 u0.aj.length c4] 24)::[]):=Y;replace i:=i.mono H;clear C;obtain ⟨_,_,C⟩:=i.op;replace K:=Y.hd;replace B:=B.mono H;replace D:=H _ _ D;replace R:=H _ _ R;obtain ⟨d35,Z,rfl,ht,hv,hx⟩:=id bc;obtain ⟨d42,T,rfl,hy,bd,db⟩:=id da;refine aS ?_;try apply aa _
 intro I f47;have hz:=aV f47;have dd:=aW f47;try simp only[aQ] at dd
 try apply aa _
 refine af hJ ?_;refine af hJ ?_;refine ah hJ ?_;apply aa _;have h':=aD h;clear h;rcases h' with ⟨ab,h⟩|⟨ab,h⟩
 .try simp only[Int.ofNat_lt] at ab
  refine aN hJ ak ?_;refine af hJ ?_;refine ah hJ ?_;apply aa _;have h':=Option.some.inj h;clear h;subst h';refine aG ?_;apply bt _;exact ⟨_,((L).trans G).trans H,Le.sub (List.nil_sublist _),_,rfl,aI.nil _ _⟩
 try simp only[Int.ofNat_lt] at ab
 refine aM hJ ak ?_;refine aR hJ ?_;refine af hJ ?_;refine ah hJ ?_;apply aa _;refine IC fun U f49=>?_;have df:=aV f49;have dk:=aW f49;try simp only[aQ] at dk
 refine aS ?_;try apply aa _
 refine af hJ ?_;refine af hJ ?_;refine ah hJ ?_;apply aa _;refine aY hJ ?_;have h':=an h;clear h;obtain ⟨dp,w,dq⟩:=h';have h:=True.intro;refine bO hJ [10,11,12,14,31,32,33,34,35,36,37,38,39,40,41,42,43,44,45,46,47,48,49,50,51,52,53,54,55,56,57,58,59,60,61,62,63,64] (fun m ad F'=>∃(i51:Nat) (N:(List (aU×Bool))),m=u0.aj.length - i51/\i51<=u0.aj.length/\b7 (wL j d) i51 (u0.aj.drop i51) N=some dp/\F'=⟨S,(U,ek N)::(I,.cells #[.int .i64 d.1.round.steps,.int .i64 d.1.round.au,.slice d35 d.1.round.aj.length Z,.slice d42 d.1.bJ.length T] 107)::(p,.cells #[.int .i64 u0.steps,.int .i64 u0.au,.slice d3 u0.aj.length c4] 24)::[]⟩/\slot ad 31= .int .i64 (i51:Int)) u0.aj.length ?_ ?_
 .refine ⟨0,([]:(List (aU×Bool))),(Nat.sub_zero _).symm,Nat.zero_le _,w,rfl,?_⟩;simp only[*,go_sem,-h]
 rintro hA s F' t ⟨i51,N,rfl,hB,w,rfl,ds⟩;have h:=True.intro;have dt:sz s=78:=by rw[t.size];simp only[*,go_sem,-h]
 have du:s.defers=[]:=by rw[t.defers];simp only[*,go_sem,-h]
 have dv:slot s 4= .slice none 0 0:=by rw[t.ay 4 av];simp only[*,go_sem,-h]
 have dC:slot s 5= .int .i64 0:=by rw[t.ay 5 av];simp only[*,go_sem,-h]
 have dE:slot s 6= .pointer (some ⟨q,0,none⟩):=by rw[t.ay 6 av];simp only[*,go_sem,-h]
 have dT:slot s 7= .pointer (some ⟨I,0,none⟩):=by rw[t.ay 7 av];simp only[*,go_sem,-h]
 have ea:slot s 9= .map (some U):=by rw[t.ay 9 av];simp only[*,go_sem,-h]
 have eb:slot s 29= .slice d3 u0.aj.length c4:=by rw[t.ay 29 av];simp only[*,go_sem,-h]
 have ec:slot s 30= .int .i64 (u0.aj.length:Int):=by rw[t.ay 30 av];simp only[*,go_sem,-h]
 clear t b2 hd b3 k1;refine af hJ ?_;refine ah hJ ?_;apply aa _;refine af hJ ?_;rcases Nat.lt_or_ge i51 u0.aj.length with ed|bj
 .refine aN hJ ak ?_;refine aR hJ ?_;obtain ⟨a,ae⟩:∃x,u0.aj[i51]?=some x:=⟨_,List.getElem?_eq_getElem ed⟩
  rw[er ae] at w;have h':=an w;clear w h;obtain ⟨hD,h,bk⟩:=h';unfold wL at h;try dsimp only at h
  obtain ⟨al,hE,eh,et,y⟩:=C _ _ ae;obtain ⟨hG,rfl,bm⟩:=et;obtain ⟨d60,V,rfl,hH,hI,ev⟩:=id bm;cases eh;have eQ:=y 0 _ rfl;simp only[go_sem] at eQ;have eS:=y 1 _ rfl;simp only[go_sem] at eS;have fa:=y 2 _ rfl;simp only[go_sem] at fa;have fb:=y 3 _ rfl;simp only[go_sem] at fb;have fc:=y 4 _ rfl;simp only[go_sem] at fc;have fg:=y 5 _ rfl;simp only[go_sem] at fg;have fh:=y 6 _ rfl;simp only[go_sem] at fh;clear y ae;refine af hJ ?_;refine aY hJ ?_;refine af hJ ?_;refine ah hJ ?_;apply aa _;intro ao f66;have hK:=aV f66;have fi:=aW f66;try simp only[aQ] at fi
  try apply aa _
  refine af hJ ?_;refine ah hJ ?_;have h':=an h;clear h;obtain ⟨W,fj,h⟩:=h';apply aa _;refine bp hJ _ (Bc a (bm.mono aZ) j (aZ _ _ D) fj) (aS ?_);try apply aa _
  refine af hJ ?_;refine af hJ ?_;refine ah hJ ?_;apply aa _;have h':=aD h;clear h;rcases h' with ⟨ar,h⟩|⟨ar,h⟩
  ·(try simp only[Int.ofNat_lt] at ar);refine aN hJ ak ?_;refine bI ?_;simp only[go_sem];have h':=Option.some.inj h;clear h;subst h';have h:=True.intro;have fl:=dF (n:=i51) (by have:=a4;omega);refine ah hJ ?_;apply aa _;refine ⟨u0.aj.length - (i51+1),ai,_,Le.sub (List.Sublist.cons _ (List.Sublist.refl _)),i51+1,N,rfl,ai,bk,rfl,?_⟩;simp only[*,go_sem,-h]
  try simp only[Int.ofNat_lt] at ar
  refine aM hJ ak ?_;refine aR hJ ?_;refine af hJ ?_;refine ah hJ ?_;apply aa _;refine aY hJ ?_;have h':=an h;clear h;obtain ⟨fp,z,fr⟩:=h';have h:=True.intro;refine bO hJ [14,44,45,46,47,48,49,50,51,52,53,54,55,56,57,58,59,60,61,62,63] (fun m ad F'=>∃(i71:Nat) (E:(List (aU×Bool))),m=d.1.bJ.length - i71/\i71<=d.1.bJ.length/\b7 (wK d i51 a W) i71 (d.1.bJ.drop i71) E=some fp/\F'=⟨S,(ao,.cells #[.string ⟨⟨a.name⟩⟩,.int .i64 a.from_.low,.int .i64 a.from_.high,.int .i64 a.wide,.int .i64 a.aC.low,.int .i64 a.aC.high,.slice d60 a.marks.length V] 56)::(U,ek E)::(I,.cells #[.int .i64 d.1.round.steps,.int .i64 d.1.round.au,.slice d35 d.1.round.aj.length Z,.slice d42 d.1.bJ.length T] 107)::(p,.cells #[.int .i64 u0.steps,.int .i64 u0.au,.slice (some al) u0.aj.length c4] 24)::[]⟩/\slot ad 44= .int .i64 (i71:Int)) d.1.bJ.length ?_ ?_
  .refine ⟨0,N,(Nat.sub_zero _).symm,Nat.zero_le _,z,rfl,?_⟩;simp only[*,go_sem,-h]
  rintro m2 e F' c ⟨i71,E,rfl,hL,z,rfl,hM⟩;have h:=True.intro;have hN:sz e=78:=by rw[c.size];simp only[*,go_sem,-h]
  have hP:e.defers=[]:=by rw[c.defers];simp only[*,go_sem,-h]
  have hQ:slot e 4= .slice none 0 0:=by rw[c.ay 4 av];simp only[*,go_sem,-h]
  have hS:slot e 5= .int .i64 0:=by rw[c.ay 5 av];simp only[*,go_sem,-h]
  have hT:slot e 6= .pointer (some ⟨q,0,none⟩):=by rw[c.ay 6 av];simp only[*,go_sem,-h]
  have hV:slot e 7= .pointer (some ⟨I,0,none⟩):=by rw[c.ay 7 av];simp only[*,go_sem,-h]
  have hX:slot e 9= .map (some U):=by rw[c.ay 9 av];simp only[*,go_sem,-h]
  have hY:slot e 10= .int .i64 (i51:Int):=by rw[c.ay 10 av];simp only[*,go_sem,-h]
  have hZ:slot e 11= .pointer (some ⟨ao,0,none⟩):=by rw[c.ay 11 av];simp only[*,go_sem,-h]
  have h0:slot e 12= .int .i64 W:=by rw[c.ay 12 av];simp only[*,go_sem,-h]
  have h1:slot e 29= .slice (some al) u0.aj.length c4:=by rw[c.ay 29 av];simp only[*,go_sem,-h]
  have h2:slot e 30= .int .i64 (u0.aj.length:Int):=by rw[c.ay 30 av];simp only[*,go_sem,-h]
  have h3:slot e 31= .int .i64 (i51:Int):=by rw[c.ay 31 av];simp only[*,go_sem,-h]
  have h4:slot e 32= .bool true:=by rw[c.ay 32 av];simp only[*,go_sem,-h]
  have h5:slot e 33= .int .i64 (i51:Int):=by rw[c.ay 33 av];simp only[*,go_sem,-h]
  have h6:slot e 35= .agg #[.string ⟨⟨a.name⟩⟩,.int .i64 a.from_.low,.int .i64 a.from_.high,.int .i64 a.wide,.int .i64 a.aC.low,.int .i64 a.aC.high,.slice d60 a.marks.length V]:=by rw[c.ay 35 av];simp only[*,go_sem,-h]
  have h7:slot e 36= .func (.func 105) #[] #[.pointer (some ⟨f,0,none⟩)]:=by rw[c.ay 36 av];simp only[*,go_sem,-h]
  have h8:slot e 37= .agg #[.string ⟨⟨a.name⟩⟩,.int .i64 a.from_.low,.int .i64 a.from_.high,.int .i64 a.wide,.int .i64 a.aC.low,.int .i64 a.aC.high,.slice d60 a.marks.length V]:=by rw[c.ay 37 av];simp only[*,go_sem,-h]
  have h9:slot e 38= .int .i64 W:=by rw[c.ay 38 av];simp only[*,go_sem,-h]
  have ib:slot e 39= .int .i64 W:=by rw[c.ay 39 av];simp only[*,go_sem,-h]
  have ih:slot e 40= .bool false:=by rw[c.ay 40 av];simp only[*,go_sem,-h]
  have ik:slot e 41= .pointer (some ⟨I,3,none⟩):=by rw[c.ay 41 av];simp only[*,go_sem,-h]
  have il:slot e 42= .slice d42 d.1.bJ.length T:=by rw[c.ay 42 av];simp only[*,go_sem,-h]
  have im:slot e 43= .int .i64 (d.1.bJ.length:Int):=by rw[c.ay 43 av];simp only[*,go_sem,-h]
  have iv:cq [10,11,12,14,31,32,33,34,35,36,37,38,39,40,41,42,43,44,45,46,47,48,49,50,51,52,53,54,55,56,57,58,59,60,61,62,63,64] e s:=(c.cR av).trans ak;clear c dt du dv dC dE dT ea eb ec ds;refine af hJ ?_;refine ah hJ ?_;apply aa _;refine af hJ ?_;rcases Nat.lt_or_ge i71 d.1.bJ.length with fs|bo
  .refine aN hJ ak ?_;refine aR hJ ?_;obtain ⟨g,a0⟩:∃x,d.1.bJ[i71]?=some x:=⟨_,List.getElem?_eq_getElem fs⟩
   rw[er a0] at z;have h':=an z;clear z h;obtain ⟨ix,h,br⟩:=h';unfold wK at h;(try dsimp only at h);obtain ⟨ft,fu,fv,fw,u⟩:=db _ _ a0;obtain rfl:fu=g.cells:=fw;cases fv;have fx:=u 0 _ rfl;simp only[go_sem] at fx;have fz:=u 1 _ rfl;simp only[go_sem] at fz;have gg:=u 2 _ rfl;simp only[go_sem] at gg;have gj:=u 3 _ rfl;simp only[go_sem] at gj;have gl:=u 4 _ rfl;simp only[go_sem] at gl;have gn:=u 5 _ rfl;simp only[go_sem] at gn;have gp:=u 6 _ rfl;simp only[go_sem] at gp;have gy:=u 7 _ rfl;simp only[go_sem] at gy;have g0:=u 8 _ rfl;simp only[go_sem] at g0;clear u a0;refine af hJ ?_;refine aY hJ ?_;refine af hJ ?_;refine ah hJ ?_;apply aa _;intro g1 f79;have j1:=aV f79;have g2:=aW f79;(try simp only[aQ] at g2);(try apply aa _);refine af hJ ?_;refine ah hJ ?_;have h':=an h;clear h;obtain ⟨j2,g3,h⟩:=h';apply aa _;refine bp hJ _ (p6 g (i51:Int) g3) (aS ?_);(try apply aa _);have h':=aD h;clear h;rcases h' with ⟨a2,h⟩|⟨a2,h⟩
   ·(try simp only[Int.ofNat_lt] at a2);refine aN hJ ak ?_;refine cu hJ mixed 11 ⟨S,[(g1,.cells #[.int .i64 g.az.e0,.int .i64 g.az.e1,.int .i64 g.az.e2,.int .i64 g.az.e3,.int .i64 g.aA.e0,.int .i64 g.aA.e1,.int .i64 g.aA.e2,.int .i64 g.aA.e3,.int .u64 g.au] 84),(ao,.cells #[.string ⟨⟨a.name⟩⟩,.int .i64 a.from_.low,.int .i64 a.from_.high,.int .i64 a.wide,.int .i64 a.aC.low,.int .i64 a.aC.high,.slice d60 a.marks.length V] 56),(I,.cells #[.int .i64 d.1.round.steps,.int .i64 d.1.round.au,.slice d35 d.1.round.aj.length Z,.slice (some ft) d.1.bJ.length T] 107),(p,.cells #[.int .i64 u0.steps,.int .i64 u0.au,.slice (some al) u0.aj.length c4] 24)]⟩ ak aT ?_;have h':=an h;clear h;obtain ⟨bs,g4,h⟩:=h';obtain ⟨kh,kj,b0⟩:=dc g4;obtain ⟨kk,g7,ha,hc,X⟩:=ev _ _ b0;obtain rfl:g7=bs.cells:=hc;cases ha;have hf:=X 0 _ rfl;simp only[go_sem] at hf;have hg:=X 1 _ rfl;simp only[go_sem] at hg;have hh:=X 2 _ rfl;simp only[go_sem] at hh;clear X b0;have h':=an h;clear h;obtain ⟨b1,hi,h⟩:=h';(try apply aa _);refine ⟨_,eo hJ fun F hF=>tq d.1.round (bc.mono (lB hF)) g (i51:Int) bs hi,?_⟩;(try apply aa _);refine ID (l:=E) (k:=b1) (v:=true) ak ?_;refine ⟨ak,?_⟩;(try apply aa _);have h':=Option.some.inj h;clear h;subst h';have h:=True.intro;have hj:=dF (n:=i71) (by have:=bd;omega);refine ah hJ ?_;apply aa _;refine ⟨d.1.bJ.length - (i71+1),ai,_,Le.sub (List.Sublist.cons _ (List.Sublist.refl _)),i71+1,(cw E b1 true),rfl,ai,br,rfl,?_⟩;simp only[*,go_sem,-h]
   (try simp only[Int.ofNat_lt] at a2);refine aM hJ ak ?_;refine aR hJ ?_;have h':=Option.some.inj h;clear h;subst h';have h:=True.intro;have hj:=dF (n:=i71) (by have:=bd;omega);refine ah hJ ?_;apply aa _;refine ⟨d.1.bJ.length - (i71+1),ai,_,Le.sub (List.Sublist.cons _ (List.Sublist.refl _)),i71+1,E,rfl,ai,br,rfl,?_⟩;simp only[*,go_sem,-h]
  have kl:=Nat.not_lt.2 bo;refine aM hJ ak ?_;rw[List.drop_eq_nil_of_le bo] at z;have h':=Option.some.inj z;clear z h;subst h';have h:=fr;dsimp only[aH] at h;refine bI ?_;simp only[go_sem];have h':=Option.some.inj h;clear h;subst h';have h:=True.intro;have fl:=dF (n:=i51) (by have:=a4;omega);refine ah hJ ?_;apply aa _;refine ⟨u0.aj.length - (i51+1),ai,_,Le.sub (List.Sublist.cons _ (List.Sublist.refl _)),i51+1,E,rfl,ai,bk,rfl,?_⟩;simp only[*,go_sem,-h]
 have km:=Nat.not_lt.2 bj;refine aM hJ ak ?_;rw[List.drop_eq_nil_of_le bj] at w;have h':=Option.some.inj w;clear w h;subst h';have h:=dq;dsimp only[aH] at h;refine bI ?_;simp only[go_sem];refine af hJ ?_;refine ah hJ ?_;apply aa _;show Wp _ _ _ _ _;exact cv hJ (Le.sub (.cons₂ _ (.cons _ (.cons _ (List.Sublist.refl _))))) (II hJ (((L).trans G).trans H) df ak h)
def wM (x1:aL)(a:(aL×Int)):Option Bool:=
 ax (ju a.1) fun b=>ax (kX a.1) fun c=>ax (j6 a.1) fun d=>ax (qz 6) fun i=>ax (vI x1 2 i) fun e=>ax (ju e.1) fun f=>ax (ju (⟨x1.steps,0,x1.aj⟩:aL)) fun g=>ax (qP (⟨x1.steps,0,x1.aj⟩:aL)) fun h=>cond ((b.2==0)) (cond ((c.2==0)) (cond ((d.2==0)) (cond ((e.2==0)) (cond ((f.2==0)) (cond ((g.2==0)) (cond ((h.2==0)) (cond ((b.1==1)) (ax (l7 c.1 ([3])) fun j=>cond (j) (ax (l7 d.1 ([1,3])) fun k=>cond (k) (cond ((f.1==7)) (cond ((g.1==1)) (some (h.1==1)) (some false)) (some false)) (some false)) (some false)) (some false)) (some false)) (some false)) (some false)) (some false)) (some false)) (some false)) (some false)
def wN (x1:aL):Option Bool:=
 ax (vq x1 4) fun b=>ax (vm x1) fun c=>ax (qP x1) fun d=>ax (kX x1) fun e=>ax (vp x1) fun a=>ax (uD) fun g=>ax (vF x1 g) fun f=>cond ((b.2 != 0)) (some false) (cond ((c.2 != 0)) (some false) (cond ((d.2 != 0)) (some false) (cond ((e.2 != 0)) (some false) (cond ((a.2.2 != 0)) (some false) (cond ((f.2 != 0)) (some false) (cond ((b.1 != 0)) (some false) (cond (decide (0<(c.1.length:Int))) (some false) (cond ((d.1 != 0)) (some false) (cond (decide (0<(e.1.length:Int))) (some false) (cond ((a.1 != 1)) (some false) (cond ((a.2.1 != 8)) (some false) (wM x1 f))))))))))))
def wO (x1:aL)(a:((List Int)×Int))(b:((List Int)×Int)):Option Bool:=
 ax (vr x1 0) fun c=>ax (rA x1 ([99,104,117,114,99,104])) fun d=>ax (rA x1 ([109,105,108,108])) fun e=>cond ((a.2 != 0)) (some false) (cond ((b.2 != 0)) (some false) (cond ((c.2 != 0)) (some false) (cond ((d.2 != 0)) (some false) (cond ((e.2 != 0)) (some false) (ax (l7 a.1 ([2,3])) fun f=>cond (!f) (some false) (ax (l7 b.1 ([(-1),0,1])) fun g=>cond (!g) (some false) (cond ((c.1 != 0)) (some false) (ax (qy d.1 ([(⟨5,3⟩:aU),(⟨6,3⟩:aU)])) fun h=>cond (!h) (some false) (ax (qy e.1 ([(⟨3,1⟩:aU)])) fun i=>cond (!i) (some false) (wN x1))))))))))
def wP (x1:aL)(a:(aU×Int))(b:(aU×Int))(c:(Bool×Int))(d:(Bool×Int))(e:(Bool×Int))(f:(Int×Int)):Option Bool:=
 cond ((a.2 != 0)) (some false) (cond ((b.2 != 0)) (some false) (cond ((c.2 != 0)) (some false) (cond ((d.2 != 0)) (some false) (cond ((e.2 != 0)) (some false) (cond ((f.2 != 0)) (some false) (cond (!((a.1.step==4)&&(a.1.cB==4))) (some false) (cond (!((b.1.step==0)&&(b.1.cB==0))) (some false) (cond (!c.1) (some false) (cond (d.1) (some false) (cond (!e.1) (some false) (cond ((f.1 != 16)) (some false) (ax (vv x1 1) fun g=>ax (vw x1 1) fun h=>wO x1 g h))))))))))))
def iy :Option Bool:=
 ax (uN) fun x1=>ax (qU x1 (⟨[0,2,6],[0,1,0],([]:(List Int))⟩:dW) 1 1) fun a=>ax (qU x1 (⟨[0,2,6],[0,1,0],([]:(List Int))⟩:dW) 2 1) fun b=>ax (oD x1 (⟨[0,3,5],[0,0,0],([]:(List Int))⟩:dW)) fun c=>ax (oD x1 (⟨[0,3,6],[0,0,0],([]:(List Int))⟩:dW)) fun d=>ax (oD x1 (⟨[0,3,6],[0,0,0],[2]⟩:dW)) fun e=>ax (ju x1) fun f=>wP x1 a b c d e f
set_option maxHeartbeats 40000000 in
theorem wQ {Φ:Goroutine->ag->Prop}(hJ:Closed Tryz.prog true (ef Tryz.prog Φ)){A:Act}{ro:Addr->Option Value}(x1:aL)(a9:(Int×Int))(ba:(Int×Int))(N:((List Int)×Int))(J:(Int×Int))(O:((List Int)×Int))(bb:(Int×Int×Int))(b:(aL×Int)){o k:Nat}(d:dh ro){P:Value}(i:aI rI ro P O.1){Q:Value}(f:aI bK ro Q b.1.aj){R:Value}(g:aI bK ro R x1.aj){bc:Value}(j:aI rI ro bc N.1)(bd:sz A=367/\A.defers=[]/\slot A 0= .bool false/\slot A 1= .pointer (some ⟨k,0,none⟩)/\slot A 3= .int .i64 ba.2/\slot A 5= .int .i64 N.2/\slot A 7= .int .i64 J.2/\slot A 9= .int .i64 O.2/\slot A 11= .int .i64 bb.2.2/\slot A 12= .int .i64 a9.1/\slot A 13= .int .i64 b.2/\slot A 21= .int .i64 J.1/\slot A 22=P/\slot A 25= .pointer (some ⟨o,0,none⟩))(h:wM x1 b=some true):Wp (ef Tryz.prog Φ) (bX (bX (bX (bX (bX (bX (bX (bX (bX (bX (bX (bX (bX (bX (bX (bX (bX (bX (bX (bX (bX (bX (Tryz.f10.body.getD .skip))))))))))))))))))))))) (g5 Tryz.prog [.tmp 0] (fun v _=>v= .bool true)) A ⟨ro,(o,.cells #[.int .i64 b.1.steps,.int .i64 b.1.au,Q] 24)::(k,.cells #[.int .i64 x1.steps,.int .i64 x1.au,R] 24)::[]⟩:=by
 obtain ⟨bj,hd,bk,k1,bm,bo,br,bs,b0,b1,b2,b3,b4,ca⟩:=bd;obtain ⟨d199,eb,rfl,ec,ed,p⟩:=id i;obtain ⟨d227,B,rfl,eh,et,q⟩:=id f;obtain ⟨d8,s,rfl,ev,eQ,t⟩:=id g;obtain ⟨d185,eS,rfl,e0,e1,u⟩:=id j;unfold wM at h;refine iJ hJ fun cb C=>?_;have cc:=cb.nd;try simp only[keys,List.map_cons,List.map_nil,List.map_append,List.cons_append,List.nil_append,List.nodup_cons,List.mem_cons,List.mem_append,List.not_mem_nil,or_false,not_or] at cc
 have C:aP ro ((o,.cells #[.int .i64 b.1.steps,.int .i64 b.1.au,.slice d227 b.1.aj.length B] 24)::(k,.cells #[.int .i64 x1.steps,.int .i64 x1.au,.slice d8 x1.aj.length s] 24)::[]):=C;replace K:=C.hd;replace D:=C.tl.hd;apply af hJ;apply ah hJ;have h':=an h;clear h;obtain ⟨S,cd,h⟩:=h';try apply bH _
 refine bp hJ _ (oC (d.mono aZ) b.1 (f.mono aZ) cd) (aS ?_);try apply bH _
 apply af hJ;apply ah hJ;have h':=an h;clear h;obtain ⟨L,cf,h⟩:=h';try apply bH _
 refine kD _ (wA d b.1 f cf) fun v ck y E hR=>?_;obtain ⟨e2,rfl,m⟩:=hR;have E:aP ck ((o,.cells #[.int .i64 b.1.steps,.int .i64 b.1.au,.slice d227 b.1.aj.length B] 24)::(k,.cells #[.int .i64 x1.steps,.int .i64 x1.au,.slice d8 x1.aj.length s] 24)::[]):=E;replace i:=i.mono y;clear p;obtain ⟨_,_,p⟩:=i.op;replace f:=f.mono y;clear q;obtain ⟨_,_,q⟩:=f.op;replace g:=g.mono y;clear t;obtain ⟨_,_,t⟩:=g.op;replace j:=j.mono y;clear u;obtain ⟨_,_,u⟩:=j.op;replace K:=E.hd;replace D:=E.tl.hd;replace d:=d.mono y;obtain ⟨cl,cy,rfl,e3,fa,G⟩:=id m;apply aS;try apply bH _
 apply af hJ;apply ah hJ;have h':=an h;clear h;obtain ⟨M,c0,h⟩:=h';try apply bH _
 refine kD _ (AY d b.1 f c0) fun v T w H hR=>?_;obtain ⟨fb,rfl,z⟩:=hR;have H:aP T ((o,.cells #[.int .i64 b.1.steps,.int .i64 b.1.au,.slice d227 b.1.aj.length B] 24)::(k,.cells #[.int .i64 x1.steps,.int .i64 x1.au,.slice d8 x1.aj.length s] 24)::[]):=H;replace m:=m.mono w;clear G;obtain ⟨_,_,G⟩:=m.op;replace f:=f.mono w;clear q;obtain ⟨_,_,q⟩:=f.op;replace g:=g.mono w;clear t;obtain ⟨_,_,t⟩:=g.op;replace j:=j.mono w;clear u;obtain ⟨_,_,u⟩:=j.op;replace i:=i.mono w;clear p;obtain ⟨_,_,p⟩:=i.op;replace K:=H.hd;replace D:=H.tl.hd;replace d:=d.mono w;obtain ⟨da,db,rfl,fc,fg,U⟩:=id z;apply aS;try apply bH _
 apply af hJ;refine eG hJ mixed [] (.rd 0 (.rd 1 (.one 2 (.pure 3 (.pure 4 (.pure 5 (.one 6 (.pure 7 .done)))))))) ⟨T,[(k,.cells #[.int .i64 x1.steps,.int .i64 x1.au,.slice d8 x1.aj.length s] 24)]⟩ cV aT ?_;have h':=an h;clear h;obtain ⟨dd,df,h⟩:=h';try apply bH _
 refine ⟨_,eo hJ fun F hF=>zb 6 df,gb ?_⟩;have h':=an h;clear h;obtain ⟨V,dk,h⟩:=h';try apply bH _
 refine cz hJ _ (Ge d x1 g 2 dd dk) fun v dp n I hR=>?_;obtain ⟨fh,rfl,W⟩:=hR;have I:aP dp ((o,.cells #[.int .i64 b.1.steps,.int .i64 b.1.au,.slice d227 b.1.aj.length B] 24)::(k,.cells #[.int .i64 x1.steps,.int .i64 x1.au,.slice d8 x1.aj.length s] 24)::[]):=I;replace m:=m.mono n;clear G;obtain ⟨_,_,G⟩:=m.op;replace f:=f.mono n;clear q;obtain ⟨_,_,q⟩:=f.op;replace z:=z.mono n;clear U;obtain ⟨_,_,U⟩:=z.op;replace g:=g.mono n;clear t;obtain ⟨_,_,t⟩:=g.op;replace j:=j.mono n;clear u;obtain ⟨_,_,u⟩:=j.op;replace i:=i.mono n;clear p;obtain ⟨_,_,p⟩:=i.op;replace K:=I.hd;replace D:=I.tl.hd;replace d:=d.mono n;obtain ⟨fi,fj,rfl,fl,fp,fr⟩:=id W;have fs:=fD (l:=[(k,.cells #[.int .i64 x1.steps,.int .i64 x1.au,.slice d8 x1.aj.length s] 24)]) n (aP.cons D (aP.nil _));refine ⟨cV,?_⟩;refine gb ?_;try apply bH _
 apply af hJ;apply ah hJ;have h':=an h;clear h;obtain ⟨X,dq,h⟩:=h';try apply bH _
 refine bp hJ _ (oC (d.mono aZ) V.1 (W.mono aZ) dq) (aS ?_);try apply bH _
 apply af hJ;generalize a:bB _ _ _=c;have ft:sz c=367:=by rw[<-a];simp only[*,go_sem,-h,-a]
 have fu:c.defers=[]:=by rw[<-a];simp only[*,go_sem,-h,-a]
 have fv:slot c 0= .bool false:=by rw[<-a];simp only[*,go_sem,-h,-a]
 have fw:slot c 1= .pointer (some ⟨k,0,none⟩):=by rw[<-a];simp only[*,go_sem,-h,-a]
 have fx:slot c 3= .int .i64 S.2:=by rw[<-a];simp only[*,go_sem,-h,-a]
 have fz:slot c 5= .int .i64 L.2:=by rw[<-a];simp only[*,go_sem,-h,-a]
 have gg:slot c 7= .int .i64 M.2:=by rw[<-a];simp only[*,go_sem,-h,-a]
 have gj:slot c 9= .int .i64 V.2:=by rw[<-a];simp only[*,go_sem,-h,-a]
 have gl:slot c 11= .int .i64 X.2:=by rw[<-a];simp only[*,go_sem,-h,-a]
 have gn:slot c 12= .int .i64 S.1:=by rw[<-a];simp only[*,go_sem,-h,-a]
 have gp:slot c 13= .int .i64 b.2:=by rw[<-a];simp only[*,go_sem,-h,-a]
 have gy:slot c 21= .int .i64 J.1:=by rw[<-a];simp only[*,go_sem,-h,-a]
 have g0:slot c 22= .slice cl L.1.length cy:=by rw[<-a];simp only[*,go_sem,-h,-a]
 have g1:slot c 26= .slice da M.1.length db:=by rw[<-a];simp only[*,go_sem,-h,-a]
 have g2:slot c 27= .int .i64 X.1:=by rw[<-a];simp only[*,go_sem,-h,-a]
 clear a bj hd bk k1 bm bo br bs b0 b1 b2 b3 b4 ca;apply ah hJ;try apply bH _
 apply af hJ;apply ah hJ;have h':=an h;clear h;obtain ⟨g3,ds,h⟩:=h';try apply bH _
 refine bp hJ _ (oC (d.mono aZ) (⟨x1.steps,0,x1.aj⟩:aL) (g.mono aZ) ds) (aS ?_);try apply bH _
 apply af hJ;apply ah hJ;have h':=an h;clear h;obtain ⟨g4,dt,h⟩:=h';try apply bH _
 refine bp hJ _ (Ac (d.mono aZ) (⟨x1.steps,0,x1.aj⟩:aL) (g.mono aZ) dt) (aS ?_);try apply bH _
 apply af hJ;refine aJ hJ fun du=>?_;apply ah hJ;have h':=aD h;clear h;rcases h' with ⟨Y,h⟩|⟨Y,h⟩
 .try simp only[Int.ofNat_lt] at Y
  have h':=aD h;clear h;rcases h' with ⟨Z,h⟩|⟨Z,h⟩
  ·(try simp only[Int.ofNat_lt] at Z);have h':=aD h;clear h;rcases h' with ⟨ab,h⟩|⟨ab,h⟩
   ·(try simp only[Int.ofNat_lt] at ab);have h':=aD h;clear h;rcases h' with ⟨ad,h⟩|⟨ad,h⟩
    ·(try simp only[Int.ofNat_lt] at ad);have h':=aD h;clear h;rcases h' with ⟨ae,h⟩|⟨ae,h⟩
     ·(try simp only[Int.ofNat_lt] at ae);have h':=aD h;clear h;rcases h' with ⟨al,h⟩|⟨al,h⟩
      ·(try simp only[Int.ofNat_lt] at al);have h':=aD h;clear h;rcases h' with ⟨ao,h⟩|⟨ao,h⟩
       ·(try simp only[Int.ofNat_lt] at ao);have h':=aD h;clear h;rcases h' with ⟨ar,h⟩|⟨ar,h⟩
        ·(try simp only[Int.ofNat_lt] at ar);have h':=an h;clear h;obtain ⟨g7,dv,h⟩:=h';(try apply bH _);intro ha a0;have dC:=aV a0;have a2:=aW a0;have dE:=bP.cons a2 du;(try simp only[aQ] at a2);(try apply bH _);refine bp hJ _ (qx L.1 (m.mono aZ) ([3]) ((aI.flat (r:=rI) (e:=3) (cs:=#[.int .i64 3]) (fun x=>[.int .i64 x]) ([3]) (fun _=>rfl) dC rfl aB).mono (e8 cV)) dv) (aS ?_);have h':=aD h;clear h;rcases h' with ⟨a3,h⟩|⟨a3,h⟩
         ·(try simp only[Int.ofNat_lt] at a3);have h':=an h;clear h;obtain ⟨hc,dT,h⟩:=h';(try apply bH _);intro hf a4;have ea:=aV a4;have a5:=aW a4;have hg:=bP.cons a5 dE;(try simp only[aQ] at a5);(try apply bH _);refine bp hJ _ (qx M.1 (z.mono aZ) ([1,3]) ((aI.flat (r:=rI) (e:=3) (cs:=#[.int .i64 1,.int .i64 3]) (fun x=>[.int .i64 x]) ([1,3]) (fun _=>rfl) ea rfl aB).mono (e8 cV)) dT) (aS ?_);have h':=aD h;clear h;rcases h' with ⟨a6,h⟩|⟨a6,h⟩
          ·(try simp only[Int.ofNat_lt] at a6);have h':=aD h;clear h;rcases h' with ⟨a7,h⟩|⟨a7,h⟩
           ·(try simp only[Int.ofNat_lt] at a7);have h':=aD h;clear h;rcases h' with ⟨a8,h⟩|⟨a8,h⟩
            ·(try simp only[Int.ofNat_lt] at a8);(try apply bH _);have hh:=Option.some.inj h;clear h;apply aG;try simp only[*,go_sem]
            cases h
           cases h
          cases h
         cases h
        cases h
       cases h
      cases h
     cases h
    cases h
   cases h
  cases h
 cases h
set_option maxHeartbeats 40000000 in
theorem IM {Φ:Goroutine->ag->Prop}(hJ:Closed Tryz.prog true (ef Tryz.prog Φ)){A:Act}{ro:Addr->Option Value}(x1:aL)(p:(Int×Int))(db:((List Int)×Int))(dd:((List Int)×Int))(df:(Int×Int))(dk:((List aU)×Int))(dp:((List aU)×Int)){f:Nat}(c:dh ro){O:Value}(b:aI bK ro O x1.aj)(dq:sz A=367/\A.defers=[]/\slot A 0= .bool false/\slot A 1= .pointer (some ⟨f,0,none⟩)/\slot A 3= .int .i64 db.2/\slot A 5= .int .i64 dd.2/\slot A 7= .int .i64 df.2/\slot A 9= .int .i64 dk.2/\slot A 11= .int .i64 dp.2/\slot A 12= .int .i64 p.1/\slot A 13= .int .i64 p.2)(h:wN x1=some true):Wp (ef Tryz.prog Φ) (bX (bX (bX (bX (bX (bX (bX (bX (bX (bX (bX (bX (bX (bX (bX (Tryz.f10.body.getD .skip)))))))))))))))) (g5 Tryz.prog [.tmp 0] (fun v _=>v= .bool true)) A ⟨ro,(f,.cells #[.int .i64 x1.steps,.int .i64 x1.au,O] 24)::[]⟩:=by
 obtain ⟨ds,hd,dt,k1,du,dv,dC,dE,dT,ea,eb⟩:=dq;obtain ⟨d8,i,rfl,fw,fx,j⟩:=id b;unfold wN at h;refine iJ hJ fun D I=>?_;have ec:=D.nd;try simp only[keys,List.map_cons,List.map_nil,List.map_append,List.cons_append,List.nil_append,List.nodup_cons,List.mem_cons,List.mem_append,List.not_mem_nil,or_false,not_or] at ec
 have I:aP ro ((f,.cells #[.int .i64 x1.steps,.int .i64 x1.au,.slice d8 x1.aj.length i] 24)::[]):=I;replace k:=I.hd;apply af hJ;apply ah hJ;have h':=an h;clear h;obtain ⟨x,ed,h⟩:=h';try apply bH _
 refine bp hJ _ (F7 (c.mono aZ) x1 (b.mono aZ) 4 ed) (aS ?_);try apply bH _
 apply af hJ;apply ah hJ;have h':=an h;clear h;obtain ⟨y,eh,h⟩:=h';try apply bH _
 refine cz hJ _ (F5 c x1 b eh) fun v et P J hR=>?_;obtain ⟨fz,rfl,d⟩:=hR;have J:aP et ((f,.cells #[.int .i64 x1.steps,.int .i64 x1.au,.slice d8 x1.aj.length i] 24)::[]):=J;replace b:=b.mono P;clear j;obtain ⟨_,_,j⟩:=b.op;replace k:=J.hd;replace c:=c.mono P;obtain ⟨d185,ev,rfl,gg,gj,m⟩:=id d;apply aS;try apply bH _
 apply af hJ;apply ah hJ;have h':=an h;clear h;obtain ⟨z,eQ,h⟩:=h';try apply bH _
 refine bp hJ _ (Ac (c.mono aZ) x1 (b.mono aZ) eQ) (aS ?_);try apply bH _
 apply af hJ;apply ah hJ;have h':=an h;clear h;obtain ⟨B,eS,h⟩:=h';try apply bH _
 refine kD _ (wA c x1 b eS) fun v Q K L hR=>?_;obtain ⟨gl,rfl,e⟩:=hR;have L:aP Q ((f,.cells #[.int .i64 x1.steps,.int .i64 x1.au,.slice d8 x1.aj.length i] 24)::[]):=L;replace b:=b.mono K;clear j;obtain ⟨_,_,j⟩:=b.op;replace d:=d.mono K;clear m;obtain ⟨_,_,m⟩:=d.op;replace k:=L.hd;replace c:=c.mono K;obtain ⟨d199,e0,rfl,gn,gp,n⟩:=id e;apply aS;try apply bH _
 apply af hJ;apply ah hJ;have h':=an h;clear h;obtain ⟨r,e1,h⟩:=h';try apply bH _
 refine bp hJ _ (F6 (c.mono aZ) x1 (b.mono aZ) e1) (aS ?_);try apply bH _
 apply af hJ;generalize a:bB _ _ _=g;have gy:sz g=367:=by rw[<-a];simp only[*,go_sem,-h,-a]
 have g0:g.defers=[]:=by rw[<-a];simp only[*,go_sem,-h,-a]
 have g1:slot g 0= .bool false:=by rw[<-a];simp only[*,go_sem,-h,-a]
 have g2:slot g 1= .pointer (some ⟨f,0,none⟩):=by rw[<-a];simp only[*,go_sem,-h,-a]
 have g3:slot g 3= .int .i64 x.2:=by rw[<-a];simp only[*,go_sem,-h,-a]
 have g4:slot g 5= .int .i64 y.2:=by rw[<-a];simp only[*,go_sem,-h,-a]
 have g7:slot g 7= .int .i64 z.2:=by rw[<-a];simp only[*,go_sem,-h,-a]
 have ha:slot g 9= .int .i64 B.2:=by rw[<-a];simp only[*,go_sem,-h,-a]
 have hc:slot g 11= .int .i64 r.2.2:=by rw[<-a];simp only[*,go_sem,-h,-a]
 have hf:slot g 12= .int .i64 p.1:=by rw[<-a];simp only[*,go_sem,-h,-a]
 have hg:slot g 13= .int .i64 p.2:=by rw[<-a];simp only[*,go_sem,-h,-a]
 have hh:slot g 19= .int .i64 x.1:=by rw[<-a];simp only[*,go_sem,-h,-a]
 have hi:slot g 20= .slice d185 y.1.length ev:=by rw[<-a];simp only[*,go_sem,-h,-a]
 have hj:slot g 21= .int .i64 z.1:=by rw[<-a];simp only[*,go_sem,-h,-a]
 have hk:slot g 22= .slice d199 B.1.length e0:=by rw[<-a];simp only[*,go_sem,-h,-a]
 have hl:slot g 23= .int .i64 r.1:=by rw[<-a];simp only[*,go_sem,-h,-a]
 have hn:slot g 24= .int .i64 r.2.1:=by rw[<-a];simp only[*,go_sem,-h,-a]
 clear a ds hd dt k1 du dv dC dE dT ea eb;refine eG hJ mixed [] (.rd 0 (.two 1 (.two 2 (.pure 3 (.pure 4 (.pure 5 (.one 6 (.one 7 (.pure 8 .done)))))) 6 (.one 2 (.pure 3 (.pure 4 (.pure 5 (.one 7 (.pure 8 .done))))))) 6 (.one 1 (.one 2 (.pure 3 (.pure 4 (.pure 5 (.one 7 (.pure 8 .done))))))))) ⟨Q,[(f,.cells #[.int .i64 x1.steps,.int .i64 x1.au,.slice d8 x1.aj.length i] 24)]⟩ cV aT ?_;try apply bH _
 refine sV ?_ ?_
 .have h':=an h;clear h;obtain ⟨R,e2,h⟩:=h';try apply bH _
  refine cz hJ _ (ze e2) fun v e3 q M hR=>?_;obtain ⟨ho,rfl,o⟩:=hR;have M:aP e3 ((f,.cells #[.int .i64 x1.steps,.int .i64 x1.au,.slice d8 x1.aj.length i] 24)::[]):=M;replace d:=d.mono q;clear m;obtain ⟨_,_,m⟩:=d.op;replace e:=e.mono q;clear n;obtain ⟨_,_,n⟩:=e.op;replace b:=b.mono q;clear j;obtain ⟨_,_,j⟩:=b.op;replace k:=M.hd;replace c:=c.mono q;obtain ⟨d214,hp,rfl,hq,hr,E⟩:=id o;have hs:=fD (l:=[(f,.cells #[.int .i64 x1.steps,.int .i64 x1.au,.slice d8 x1.aj.length i] 24)]) q (aP.cons k (aP.nil _));refine ⟨cV,?_⟩;refine gb ?_;try apply bH _
  refine sV ?_ ?_
  .have h':=an h;clear h;obtain ⟨fa,fb,h⟩:=h';(try apply bH _);refine cz hJ _ (vG c x1 b R o fb) fun v fc s N hR=>?_;obtain ⟨ht,rfl,S⟩:=hR;have N:aP fc ((f,.cells #[.int .i64 x1.steps,.int .i64 x1.au,.slice d8 x1.aj.length i] 24)::[]):=N;replace d:=d.mono s;clear m;obtain ⟨_,_,m⟩:=d.op;replace e:=e.mono s;clear n;obtain ⟨_,_,n⟩:=e.op;replace b:=b.mono s;clear j;obtain ⟨_,_,j⟩:=b.op;replace o:=o.mono s;clear E;obtain ⟨_,_,E⟩:=o.op;replace k:=N.hd;replace c:=c.mono s;obtain ⟨d227,hv,rfl,hx,hy,hz⟩:=id S;have hA:=fD (l:=[(f,.cells #[.int .i64 x1.steps,.int .i64 x1.au,.slice d8 x1.aj.length i] 24)]) (q.trans s) (aP.cons k (aP.nil _));refine ⟨cV,?_⟩;refine gb ?_;(try apply bH _);intro hB T;have hD:=aV T;have U:=aW T;have hE:=bP.cons U D;(try simp only[aQ] at U);(try apply bH _);apply af hJ;apply af hJ;apply ah hJ;have h':=aD h;clear h;rcases h' with ⟨V,h⟩|⟨V,h⟩
   .cases h
   (try simp only[Int.ofNat_lt] at V);have h':=aD h;clear h;rcases h' with ⟨W,h⟩|⟨W,h⟩
   .cases h
   (try simp only[Int.ofNat_lt] at W);have h':=aD h;clear h;rcases h' with ⟨X,h⟩|⟨X,h⟩
   .cases h
   (try simp only[Int.ofNat_lt] at X);have h':=aD h;clear h;rcases h' with ⟨Y,h⟩|⟨Y,h⟩
   .cases h
   (try simp only[Int.ofNat_lt] at Y);have h':=aD h;clear h;rcases h' with ⟨Z,h⟩|⟨Z,h⟩
   .cases h
   (try simp only[Int.ofNat_lt] at Z);have h':=aD h;clear h;rcases h' with ⟨ab,h⟩|⟨ab,h⟩
   .cases h
   (try simp only[Int.ofNat_lt] at ab);have h':=aD h;clear h;rcases h' with ⟨ad,h⟩|⟨ad,h⟩
   .cases h
   (try simp only[Int.ofNat_lt] at ad);have h':=aD h;clear h;rcases h' with ⟨ae,h⟩|⟨ae,h⟩
   .cases h
   (try simp only[Int.ofNat_lt] at ae);have h':=aD h;clear h;rcases h' with ⟨al,h⟩|⟨al,h⟩
   .cases h
   (try simp only[Int.ofNat_lt] at al);have h':=aD h;clear h;rcases h' with ⟨ao,h⟩|⟨ao,h⟩
   .cases h
   (try simp only[Int.ofNat_lt] at ao);have h':=aD h;clear h;rcases h' with ⟨ar,h⟩|⟨ar,h⟩
   .cases h
   (try simp only[Int.ofNat_lt] at ar);(try apply bH _);have h':=aD h;clear h;rcases h' with ⟨a0,h⟩|⟨a0,h⟩
   .cases h
   (try simp only[Int.ofNat_lt] at a0);refine aM hJ cV ?_;apply aR hJ;show Wp _ _ _ _ _;exact cv hJ (Le.sub (.cons₂ _ (.cons₂ _ (List.Sublist.refl _)))) (wQ hJ x1 p x y z B r fa c e S b d cV h)
  have h':=an h;clear h;obtain ⟨fg,fh,h⟩:=h';try apply bH _
  intro fi a2;have fj:=aV a2;have a3:=aW a2;have hF:=bP.cons a3 D;try simp only[aQ] at a3
  try apply bH _
  refine cz hJ _ (vG c x1 b R o fh) fun v fl t F hR=>?_;obtain ⟨hG,rfl,a4⟩:=hR;have F:aP fl ((fi,.cells #[.int .i64 0,.int .i64 0,.slice none 0 0] 24)::(f,.cells #[.int .i64 x1.steps,.int .i64 x1.au,.slice d8 x1.aj.length i] 24)::[]):=F;replace d:=d.mono t;clear m;obtain ⟨_,_,m⟩:=d.op;replace e:=e.mono t;clear n;obtain ⟨_,_,n⟩:=e.op;replace b:=b.mono t;clear j;obtain ⟨_,_,j⟩:=b.op;replace o:=o.mono t;clear E;obtain ⟨_,_,E⟩:=o.op;replace fj:=F.hd;replace k:=F.tl.hd;replace c:=c.mono t;obtain ⟨hH,hI,rfl,hK,hL,hM⟩:=id a4;have hN:=fD (l:=[(f,.cells #[.int .i64 x1.steps,.int .i64 x1.au,.slice d8 x1.aj.length i] 24)]) (q.trans t) (aP.cons k (aP.nil _));refine ⟨cV,?_⟩;refine gb ?_;try apply bH _
  apply af hJ;apply af hJ;apply ah hJ;have h':=aD h;clear h;rcases h' with ⟨a5,h⟩|⟨a5,h⟩
  .cases h
  try simp only[Int.ofNat_lt] at a5
  have h':=aD h;clear h;rcases h' with ⟨a6,h⟩|⟨a6,h⟩
  .cases h
  try simp only[Int.ofNat_lt] at a6
  have h':=aD h;clear h;rcases h' with ⟨a7,h⟩|⟨a7,h⟩
  .cases h
  try simp only[Int.ofNat_lt] at a7
  have h':=aD h;clear h;rcases h' with ⟨a8,h⟩|⟨a8,h⟩
  .cases h
  try simp only[Int.ofNat_lt] at a8
  have h':=aD h;clear h;rcases h' with ⟨a9,h⟩|⟨a9,h⟩
  .cases h
  try simp only[Int.ofNat_lt] at a9
  have h':=aD h;clear h;rcases h' with ⟨ba,h⟩|⟨ba,h⟩
  .cases h
  try simp only[Int.ofNat_lt] at ba
  have h':=aD h;clear h;rcases h' with ⟨bb,h⟩|⟨bb,h⟩
  .cases h
  try simp only[Int.ofNat_lt] at bb
  have h':=aD h;clear h;rcases h' with ⟨bc,h⟩|⟨bc,h⟩
  .cases h
  try simp only[Int.ofNat_lt] at bc
  have h':=aD h;clear h;rcases h' with ⟨bd,h⟩|⟨bd,h⟩
  .cases h
  try simp only[Int.ofNat_lt] at bd
  have h':=aD h;clear h;rcases h' with ⟨bj,h⟩|⟨bj,h⟩
  .cases h
  try simp only[Int.ofNat_lt] at bj
  have h':=aD h;clear h;rcases h' with ⟨bk,h⟩|⟨bk,h⟩
  .cases h
  try simp only[Int.ofNat_lt] at bk
  try apply bH _
  have h':=aD h;clear h;rcases h' with ⟨bm,h⟩|⟨bm,h⟩
  .cases h
  try simp only[Int.ofNat_lt] at bm
  refine aM hJ cV ?_;apply aR hJ;show Wp _ _ _ _ _;exact cv hJ (Le.sub (.cons₂ _ (.cons₂ _ (List.Sublist.refl _)))) (wQ hJ x1 p x y z B r fg c e a4 b d cV h)
 have h':=an h;clear h;obtain ⟨fp,fr,h⟩:=h';try apply bH _
 intro bo br;have bs:=aV br;have b0:=aW br;have hP:=bP.cons b0 D;try simp only[aQ] at b0
 try apply bH _
 refine cz hJ _ (ze fr) fun v fs u G hR=>?_;obtain ⟨hQ,rfl,C⟩:=hR;have G:aP fs ((bo,.cells #[.int .i64 0,.int .i64 0,.slice none 0 0] 24)::(f,.cells #[.int .i64 x1.steps,.int .i64 x1.au,.slice d8 x1.aj.length i] 24)::[]):=G;replace d:=d.mono u;clear m;obtain ⟨_,_,m⟩:=d.op;replace e:=e.mono u;clear n;obtain ⟨_,_,n⟩:=e.op;replace b:=b.mono u;clear j;obtain ⟨_,_,j⟩:=b.op;replace bs:=G.hd;replace k:=G.tl.hd;replace c:=c.mono u;obtain ⟨hS,hT,rfl,hV,hX,b1⟩:=id C;have hY:=fD (l:=[(f,.cells #[.int .i64 x1.steps,.int .i64 x1.au,.slice d8 x1.aj.length i] 24)]) u (aP.cons k (aP.nil _));refine ⟨cV,?_⟩;refine gb ?_;have h':=an h;clear h;obtain ⟨ft,fu,h⟩:=h';try apply bH _
 refine cz hJ _ (vG c x1 b fp C fu) fun v fv w H hR=>?_;obtain ⟨hZ,rfl,b2⟩:=hR;have H:aP fv ((bo,.cells #[.int .i64 0,.int .i64 0,.slice none 0 0] 24)::(f,.cells #[.int .i64 x1.steps,.int .i64 x1.au,.slice d8 x1.aj.length i] 24)::[]):=H;replace d:=d.mono w;clear m;obtain ⟨_,_,m⟩:=d.op;replace e:=e.mono w;clear n;obtain ⟨_,_,n⟩:=e.op;replace b:=b.mono w;clear j;obtain ⟨_,_,j⟩:=b.op;replace C:=C.mono w;clear b1;obtain ⟨_,_,b1⟩:=C.op;replace bs:=H.hd;replace k:=H.tl.hd;replace c:=c.mono w;obtain ⟨h0,h1,rfl,h2,h3,h4⟩:=id b2;have h5:=fD (l:=[(f,.cells #[.int .i64 x1.steps,.int .i64 x1.au,.slice d8 x1.aj.length i] 24)]) (u.trans w) (aP.cons k (aP.nil _));refine ⟨cV,?_⟩;refine gb ?_;try apply bH _
 apply af hJ;apply af hJ;apply ah hJ;have h':=aD h;clear h;rcases h' with ⟨b3,h⟩|⟨b3,h⟩
 .cases h
 try simp only[Int.ofNat_lt] at b3
 have h':=aD h;clear h;rcases h' with ⟨b4,h⟩|⟨b4,h⟩
 .cases h
 try simp only[Int.ofNat_lt] at b4
 have h':=aD h;clear h;rcases h' with ⟨ca,h⟩|⟨ca,h⟩
 .cases h
 try simp only[Int.ofNat_lt] at ca
 have h':=aD h;clear h;rcases h' with ⟨cb,h⟩|⟨cb,h⟩
 .cases h
 try simp only[Int.ofNat_lt] at cb
 have h':=aD h;clear h;rcases h' with ⟨cc,h⟩|⟨cc,h⟩
 .cases h
 try simp only[Int.ofNat_lt] at cc
 have h':=aD h;clear h;rcases h' with ⟨cd,h⟩|⟨cd,h⟩
 .cases h
 try simp only[Int.ofNat_lt] at cd
 have h':=aD h;clear h;rcases h' with ⟨cf,h⟩|⟨cf,h⟩
 .cases h
 try simp only[Int.ofNat_lt] at cf
 have h':=aD h;clear h;rcases h' with ⟨ck,h⟩|⟨ck,h⟩
 .cases h
 try simp only[Int.ofNat_lt] at ck
 have h':=aD h;clear h;rcases h' with ⟨cl,h⟩|⟨cl,h⟩
 .cases h
 try simp only[Int.ofNat_lt] at cl
 have h':=aD h;clear h;rcases h' with ⟨cy,h⟩|⟨cy,h⟩
 .cases h
 try simp only[Int.ofNat_lt] at cy
 have h':=aD h;clear h;rcases h' with ⟨c0,h⟩|⟨c0,h⟩
 .cases h
 try simp only[Int.ofNat_lt] at c0
 try apply bH _
 have h':=aD h;clear h;rcases h' with ⟨da,h⟩|⟨da,h⟩
 .cases h
 try simp only[Int.ofNat_lt] at da
 refine aM hJ cV ?_;apply aR hJ;show Wp _ _ _ _ _;exact cv hJ (Le.sub (.cons₂ _ (.cons₂ _ (List.Sublist.refl _)))) (wQ hJ x1 p x y z B r ft c e b2 b d cV h)
set_option maxHeartbeats 40000000 in
theorem IN {Φ:Goroutine->ag->Prop}(hJ:Closed Tryz.prog true (ef Tryz.prog Φ)){A:Act}{ro:Addr->Option Value}(x1:aL)(U:(Bool×Int))(V:(Bool×Int))(W:(Bool×Int))(p:(Int×Int))(f:((List Int)×Int))(g:((List Int)×Int)){i:Nat}(b:dh ro){w:Value}(c:aI rI ro w f.1){y:Value}(d:aI rI ro y g.1){z:Value}(a:aI bK ro z x1.aj)(X:sz A=367/\A.defers=[]/\slot A 0= .bool false/\slot A 1= .pointer (some ⟨i,0,none⟩)/\slot A 3= .int .i64 f.2/\slot A 5= .int .i64 g.2/\slot A 7= .int .i64 U.2/\slot A 9= .int .i64 V.2/\slot A 11= .int .i64 W.2/\slot A 12= .int .i64 p.1/\slot A 13= .int .i64 p.2/\slot A 14=w/\slot A 15=y)(h:wO x1 f g=some true):Wp (ef Tryz.prog Φ) (bX (bX (bX (bX (bX (bX (bX (bX (bX (bX (bX (Tryz.f10.body.getD .skip)))))))))))) (g5 Tryz.prog [.tmp 0] (fun v _=>v= .bool true)) A ⟨ro,(i,.cells #[.int .i64 x1.steps,.int .i64 x1.au,z] 24)::[]⟩:=by
 obtain ⟨bd,hd,bj,k1,bk,bm,bo,br,bs,b0,b1,b2,b3⟩:=X;obtain ⟨d92,b4,rfl,ca,cb,l⟩:=id c;obtain ⟨d104,cc,rfl,cd,cf,m⟩:=id d;obtain ⟨d8,q,rfl,ck,cl,n⟩:=id a;unfold wO at h;refine iJ hJ fun Y s=>?_;have Z:=Y.nd;try simp only[keys,List.map_cons,List.map_nil,List.map_append,List.cons_append,List.nil_append,List.nodup_cons,List.mem_cons,List.mem_append,List.not_mem_nil,or_false,not_or] at Z
 have s:aP ro ((i,.cells #[.int .i64 x1.steps,.int .i64 x1.au,.slice d8 x1.aj.length q] 24)::[]):=s;replace B:=s.hd;apply af hJ;apply ah hJ;have h':=an h;clear h;obtain ⟨ab,ad,h⟩:=h';try apply bH _
 refine bp hJ _ (F8 (b.mono aZ) x1 (a.mono aZ) 0 ad) (aS ?_);try apply bH _
 apply af hJ;apply ah hJ;have h':=an h;clear h;obtain ⟨C,ae,h⟩:=h';try apply bH _
 refine cz hJ _ (Be b x1 a ([99,104,117,114,99,104]) ae) fun v al o t hR=>?_;obtain ⟨cy,rfl,j⟩:=hR;have t:aP al ((i,.cells #[.int .i64 x1.steps,.int .i64 x1.au,.slice d8 x1.aj.length q] 24)::[]):=t;replace c:=c.mono o;clear l;obtain ⟨_,_,l⟩:=c.op;replace d:=d.mono o;clear m;obtain ⟨_,_,m⟩:=d.op;replace a:=a.mono o;clear n;obtain ⟨_,_,n⟩:=a.op;replace B:=t.hd;replace b:=b.mono o;obtain ⟨d120,c0,rfl,da,db,D⟩:=id j;apply aS;try apply bH _
 apply af hJ;apply ah hJ;have h':=an h;clear h;obtain ⟨E,ao,h⟩:=h';try apply bH _
 refine cz hJ _ (Be b x1 a ([109,105,108,108]) ao) fun v ar k u hR=>?_;obtain ⟨dd,rfl,F⟩:=hR;have u:aP ar ((i,.cells #[.int .i64 x1.steps,.int .i64 x1.au,.slice d8 x1.aj.length q] 24)::[]):=u;replace c:=c.mono k;clear l;obtain ⟨_,_,l⟩:=c.op;replace d:=d.mono k;clear m;obtain ⟨_,_,m⟩:=d.op;replace a:=a.mono k;clear n;obtain ⟨_,_,n⟩:=a.op;replace j:=j.mono k;clear D;obtain ⟨_,_,D⟩:=j.op;replace B:=u.hd;replace b:=b.mono k;obtain ⟨d132,df,rfl,dk,dp,dq⟩:=id F;apply aS;try apply bH _
 apply af hJ;apply af hJ;refine aJ hJ fun a0=>?_;apply ah hJ;have h':=aD h;clear h;rcases h' with ⟨G,h⟩|⟨G,h⟩
 .cases h
 try simp only[Int.ofNat_lt] at G
 have h':=aD h;clear h;rcases h' with ⟨H,h⟩|⟨H,h⟩
 .cases h
 try simp only[Int.ofNat_lt] at H
 have h':=aD h;clear h;rcases h' with ⟨I,h⟩|⟨I,h⟩
 .cases h
 try simp only[Int.ofNat_lt] at I
 have h':=aD h;clear h;rcases h' with ⟨J,h⟩|⟨J,h⟩
 .cases h
 try simp only[Int.ofNat_lt] at J
 have h':=aD h;clear h;rcases h' with ⟨K,h⟩|⟨K,h⟩
 .cases h
 try simp only[Int.ofNat_lt] at K
 have h':=an h;clear h;obtain ⟨ds,a2,h⟩:=h';try apply bH _
 intro dt f148;have a3:=aV f148;have L:=aW f148;have a4:=bP.cons L a0;try simp only[aQ] at L
 try apply bH _
 refine bp hJ _ (qx f.1 (c.mono aZ) ([2,3]) ((aI.flat (r:=rI) (e:=3) (cs:=#[.int .i64 2,.int .i64 3]) (fun x=>[.int .i64 x]) ([2,3]) (fun _=>rfl) a3 rfl aB).mono (e8 cV)) a2) (aS ?_);have h':=aD h;clear h;rcases h' with ⟨M,h⟩|⟨M,h⟩
 .cases h
 try simp only[Int.ofNat_lt] at M
 have h':=an h;clear h;obtain ⟨du,a5,h⟩:=h';try apply bH _
 intro dv f154;have a6:=aV f154;have N:=aW f154;have a7:=bP.cons N a4;try simp only[aQ] at N
 try apply bH _
 refine bp hJ _ (qx g.1 (d.mono aZ) ([(-1),0,1]) ((aI.flat (r:=rI) (e:=3) (cs:=#[.int .i64 (-1),.int .i64 0,.int .i64 1]) (fun x=>[.int .i64 x]) ([(-1),0,1]) (fun _=>rfl) a6 rfl aB).mono (e8 cV)) a5) (aS ?_);have h':=aD h;clear h;rcases h' with ⟨O,h⟩|⟨O,h⟩
 .cases h
 try simp only[Int.ofNat_lt] at O
 have h':=aD h;clear h;rcases h' with ⟨P,h⟩|⟨P,h⟩
 .cases h
 try simp only[Int.ofNat_lt] at P
 have h':=an h;clear h;obtain ⟨dC,a8,h⟩:=h';try apply bH _
 intro dE f162;have a9:=aV f162;have Q:=aW f162;have ba:=bP.cons Q a7;try simp only[aQ] at Q
 try apply bH _
 refine bp hJ _ (za C.1 (j.mono aZ) ([(⟨5,3⟩:aU),(⟨6,3⟩:aU)]) ((aI.flat (r:=eH) (e:=31) (cs:=#[.int .i64 5,.int .i64 3,.int .i64 6,.int .i64 3]) aU.cells ([(⟨5,3⟩:aU),(⟨6,3⟩:aU)]) (fun _=>rfl) a9 rfl aB).mono (e8 cV)) a8) (aS ?_);have h':=aD h;clear h;rcases h' with ⟨R,h⟩|⟨R,h⟩
 .cases h
 try simp only[Int.ofNat_lt] at R
 have h':=an h;clear h;obtain ⟨dT,bb,h⟩:=h';try apply bH _
 intro ea f168;have bc:=aV f168;have S:=aW f168;have eb:=bP.cons S ba;try simp only[aQ] at S
 try apply bH _
 refine bp hJ _ (za E.1 (F.mono aZ) ([(⟨3,1⟩:aU)]) ((aI.flat (r:=eH) (e:=31) (cs:=#[.int .i64 3,.int .i64 1]) aU.cells ([(⟨3,1⟩:aU)]) (fun _=>rfl) bc rfl aB).mono (e8 cV)) bb) (aS ?_);try apply bH _
 have h':=aD h;clear h;rcases h' with ⟨T,h⟩|⟨T,h⟩
 .cases h
 try simp only[Int.ofNat_lt] at T
 refine aM hJ cV ?_;apply aR hJ;show Wp _ _ _ _ _;exact cv hJ (Le.sub (.cons _ (.cons _ (.cons _ (.cons _ (.cons₂ _ (List.Sublist.refl _))))))) (IM hJ x1 p f g ab C E b a cV h)
set_option maxHeartbeats 40000000 in
theorem IP {Φ:Goroutine->ag->Prop}(hJ:Closed Tryz.prog true (ef Tryz.prog Φ)){A:Act}{ro:Addr->Option Value}(x1:aL)(b:(aU×Int))(c:(aU×Int))(j:(Bool×Int))(k:(Bool×Int))(l:(Bool×Int))(g:(Int×Int)){m n i:Nat}(f:dh ro){w:Value}(e:aI bK ro w x1.aj)(Q:sz A=367/\A.defers=[]/\slot A 0= .bool false/\slot A 1= .pointer (some ⟨i,0,none⟩)/\slot A 2= .pointer (some ⟨n,0,none⟩)/\slot A 3= .int .i64 b.2/\slot A 4= .pointer (some ⟨m,0,none⟩)/\slot A 5= .int .i64 c.2/\slot A 6= .bool j.1/\slot A 7= .int .i64 j.2/\slot A 8= .bool k.1/\slot A 9= .int .i64 k.2/\slot A 10= .bool l.1/\slot A 11= .int .i64 l.2/\slot A 12= .int .i64 g.1/\slot A 13= .int .i64 g.2)(h:wP x1 b c j k l g=some true):Wp (ef Tryz.prog Φ) (bX (bX (bX (bX (bX (bX (bX (bX (Tryz.f10.body.getD .skip))))))))) (g5 Tryz.prog [.tmp 0] (fun v _=>v= .bool true)) A ⟨ro,(m,.cells #[.int .i64 c.1.step,.int .i64 c.1.cB] 31)::(n,.cells #[.int .i64 b.1.step,.int .i64 b.1.cB] 31)::(i,.cells #[.int .i64 x1.steps,.int .i64 x1.au,w] 24)::[]⟩:=by
 obtain ⟨R,hd,S,k1,T,U,V,W,X,Y,Z,ab,ad,ae,al,ao⟩:=Q;obtain ⟨d8,t,rfl,a8,a9,s⟩:=id e;unfold wP at h;refine iJ hJ fun ar o=>?_;have a0:=ar.nd;try simp only[keys,List.map_cons,List.map_nil,List.map_append,List.cons_append,List.nil_append,List.nodup_cons,List.mem_cons,List.mem_append,List.not_mem_nil,or_false,not_or] at a0
 have o:aP ro ((m,.cells #[.int .i64 c.1.step,.int .i64 c.1.cB] 31)::(n,.cells #[.int .i64 b.1.step,.int .i64 b.1.cB] 31)::(i,.cells #[.int .i64 x1.steps,.int .i64 x1.au,.slice d8 x1.aj.length t] 24)::[]):=o;replace x:=o.hd;replace y:=o.tl.hd;replace z:=o.tl.tl.hd;apply af hJ;apply af hJ;apply ah hJ;have h':=aD h;clear h;rcases h' with ⟨B,h⟩|⟨B,h⟩
 .cases h
 try simp only[Int.ofNat_lt] at B
 have h':=aD h;clear h;rcases h' with ⟨C,h⟩|⟨C,h⟩
 .cases h
 try simp only[Int.ofNat_lt] at C
 have h':=aD h;clear h;rcases h' with ⟨D,h⟩|⟨D,h⟩
 .cases h
 try simp only[Int.ofNat_lt] at D
 have h':=aD h;clear h;rcases h' with ⟨E,h⟩|⟨E,h⟩
 .cases h
 try simp only[Int.ofNat_lt] at E
 have h':=aD h;clear h;rcases h' with ⟨F,h⟩|⟨F,h⟩
 .cases h
 try simp only[Int.ofNat_lt] at F
 have h':=aD h;clear h;rcases h' with ⟨G,h⟩|⟨G,h⟩
 .cases h
 try simp only[Int.ofNat_lt] at G
 have h':=aD h;clear h;rcases h' with ⟨H,h⟩|⟨H,h⟩
 .cases h
 try simp only[Int.ofNat_lt] at H
 have h':=aD h;clear h;rcases h' with ⟨I,h⟩|⟨I,h⟩
 .cases h
 try simp only[Int.ofNat_lt] at I
 have h':=aD h;clear h;rcases h' with ⟨J,h⟩|⟨J,h⟩
 .cases h
 try simp only[Int.ofNat_lt] at J
 have h':=aD h;clear h;rcases h' with ⟨K,h⟩|⟨K,h⟩
 .cases h
 try simp only[Int.ofNat_lt] at K
 have h':=aD h;clear h;rcases h' with ⟨L,h⟩|⟨L,h⟩
 .cases h
 try simp only[Int.ofNat_lt] at L
 try apply bH _
 have h':=aD h;clear h;rcases h' with ⟨M,h⟩|⟨M,h⟩
 .cases h
 try simp only[Int.ofNat_lt] at M
 refine aM hJ cV ?_;apply aR hJ;apply af hJ;generalize a:bB _ _ _=d;have ba:sz d=367:=by rw[<-a];simp only[*,go_sem,-h,-a]
 have bb:d.defers=[]:=by rw[<-a];simp only[*,go_sem,-h,-a]
 have bc:slot d 0= .bool false:=by rw[<-a];simp only[*,go_sem,-h,-a]
 have bd:slot d 1= .pointer (some ⟨i,0,none⟩):=by rw[<-a];simp only[*,go_sem,-h,-a]
 have bj:slot d 3= .int .i64 b.2:=by rw[<-a];simp only[*,go_sem,-h,-a]
 have bk:slot d 5= .int .i64 c.2:=by rw[<-a];simp only[*,go_sem,-h,-a]
 have bm:slot d 7= .int .i64 j.2:=by rw[<-a];simp only[*,go_sem,-h,-a]
 have bo:slot d 9= .int .i64 k.2:=by rw[<-a];simp only[*,go_sem,-h,-a]
 have br:slot d 11= .int .i64 l.2:=by rw[<-a];simp only[*,go_sem,-h,-a]
 have bs:slot d 12= .int .i64 g.1:=by rw[<-a];simp only[*,go_sem,-h,-a]
 have b0:slot d 13= .int .i64 g.2:=by rw[<-a];simp only[*,go_sem,-h,-a]
 clear a R hd S k1 T U V W X Y Z ab ad ae al ao;apply ah hJ;have h':=an h;clear h;obtain ⟨a2,a3,h⟩:=h';try apply bH _
 refine cz hJ _ (F9 f x1 e 1 a3) fun v a4 N p hR=>?_;obtain ⟨b1,rfl,q⟩:=hR;have p:aP a4 ((m,.cells #[.int .i64 c.1.step,.int .i64 c.1.cB] 31)::(n,.cells #[.int .i64 b.1.step,.int .i64 b.1.cB] 31)::(i,.cells #[.int .i64 x1.steps,.int .i64 x1.au,.slice d8 x1.aj.length t] 24)::[]):=p;replace e:=e.mono N;clear s;obtain ⟨_,_,s⟩:=e.op;replace x:=p.hd;replace y:=p.tl.hd;replace z:=p.tl.tl.hd;replace f:=f.mono N;obtain ⟨d92,b2,rfl,b3,b4,O⟩:=id q;apply aS;try apply bH _
 apply af hJ;apply ah hJ;have h':=an h;clear h;obtain ⟨a5,a6,h⟩:=h';try apply bH _
 refine cz hJ _ (Ga f x1 e 1 a6) fun v a7 u r hR=>?_;obtain ⟨ca,rfl,P⟩:=hR;have r:aP a7 ((m,.cells #[.int .i64 c.1.step,.int .i64 c.1.cB] 31)::(n,.cells #[.int .i64 b.1.step,.int .i64 b.1.cB] 31)::(i,.cells #[.int .i64 x1.steps,.int .i64 x1.au,.slice d8 x1.aj.length t] 24)::[]):=r;replace e:=e.mono u;clear s;obtain ⟨_,_,s⟩:=e.op;replace q:=q.mono u;clear O;obtain ⟨_,_,O⟩:=q.op;replace x:=r.hd;replace y:=r.tl.hd;replace z:=r.tl.tl.hd;replace f:=f.mono u;obtain ⟨d104,cb,rfl,cc,cd,cf⟩:=id P;apply aS;try apply bH _
 show Wp _ _ _ _ _;exact cv hJ (Le.sub (.cons _ (.cons _ (.cons₂ _ (List.Sublist.refl _))))) (IN hJ x1 j k l g a2 a5 f q P e cV h)
set_option maxHeartbeats 40000000 in
theorem IQ {ro:Addr->Option Value}(c:dh ro){r:Bool}(z:r=true)(h:iy=some r):e9 Tryz.prog 10 #[] ⟨ro,[]⟩ (fun v _=>v= .bool r):=by
 subst z;unfold iy at h;refine e9.go Tryz.func10 rfl Tryz.ntmps10 Tryz.results10 aB fun Φ hJ A B hd hs=>?_;clear hs;apply af hJ;apply ah hJ;try apply bH _
 apply af hJ;apply ah hJ;have h':=an h;clear h;obtain ⟨x1,C,h⟩:=h';try apply bH _
 refine cz hJ _ (EG C) fun v ba D bb hR=>?_;obtain ⟨bc,rfl,d⟩:=hR;replace c:=c.mono D;obtain ⟨d8,bd,rfl,bj,bk,bm⟩:=id d;apply aS;try apply bH _
 intro E f13;have bo:=aV f13;have F:=aW f13;try simp only[aQ] at F
 try apply bH _
 apply af hJ;refine aJ hJ fun G=>?_;apply ah hJ;have h':=an h;clear h;obtain ⟨g,H,h⟩:=h';try apply bH _
 intro br f15;have I:=aV f15;have i:=aW f15;have J:=bP.cons i G;try simp only[aQ] at i
 intro bs f17;have K:=aV f17;have j:=aW f17;have L:=bP.cons j J;try simp only[aQ] at j
 try apply bH _
 refine bp hJ _ (Ah (c.mono aZ) x1 (d.mono aZ) (⟨[0,2,6],[0,1,0],([]:(List Int))⟩:dW) ((aI.flat (r:=rI) (e:=3) (cs:=#[.int .i64 0,.int .i64 2,.int .i64 6]) (fun x=>[.int .i64 x]) ([0,2,6]) (fun _=>rfl) I rfl aB).mono (e8 cV)) ((aI.flat (r:=rI) (e:=3) (cs:=#[.int .i64 0,.int .i64 1,.int .i64 0]) (fun x=>[.int .i64 x]) ([0,1,0]) (fun _=>rfl) K rfl aB).mono (e8 cV)) (aI.nil _ _) 1 1 H) (aS ?_);try apply bH _
 intro M f21;have b0:=aV f21;have k:=aW f21;have b1:=bP.cons k L;try simp only[aQ] at k
 try apply bH _
 apply af hJ;refine aJ hJ fun N=>?_;apply ah hJ;have h':=an h;clear h;obtain ⟨l,O,h⟩:=h';try apply bH _
 intro b2 f24;have P:=aV f24;have m:=aW f24;have Q:=bP.cons m N;try simp only[aQ] at m
 intro b3 f26;have R:=aV f26;have n:=aW f26;have S:=bP.cons n Q;try simp only[aQ] at n
 try apply bH _
 refine bp hJ _ (Ah (c.mono aZ) x1 (d.mono aZ) (⟨[0,2,6],[0,1,0],([]:(List Int))⟩:dW) ((aI.flat (r:=rI) (e:=3) (cs:=#[.int .i64 0,.int .i64 2,.int .i64 6]) (fun x=>[.int .i64 x]) ([0,2,6]) (fun _=>rfl) P rfl aB).mono (e8 cV)) ((aI.flat (r:=rI) (e:=3) (cs:=#[.int .i64 0,.int .i64 1,.int .i64 0]) (fun x=>[.int .i64 x]) ([0,1,0]) (fun _=>rfl) R rfl aB).mono (e8 cV)) (aI.nil _ _) 2 1 O) (aS ?_);try apply bH _
 intro T f30;have b4:=aV f30;have o:=aW f30;have ca:=bP.cons o S;try simp only[aQ] at o
 try apply bH _
 apply af hJ;refine aJ hJ fun U=>?_;apply ah hJ;have h':=an h;clear h;obtain ⟨f,V,h⟩:=h';try apply bH _
 intro cb f33;have W:=aV f33;have p:=aW f33;have X:=bP.cons p U;try simp only[aQ] at p
 intro cc f35;have Y:=aV f35;have q:=aW f35;have cd:=bP.cons q X;try simp only[aQ] at q
 try apply bH _
 refine bp hJ _ (vD (c.mono aZ) x1 (d.mono aZ) (⟨[0,3,5],[0,0,0],([]:(List Int))⟩:dW) ((aI.flat (r:=rI) (e:=3) (cs:=#[.int .i64 0,.int .i64 3,.int .i64 5]) (fun x=>[.int .i64 x]) ([0,3,5]) (fun _=>rfl) W rfl aB).mono (e8 cV)) ((aI.flat (r:=rI) (e:=3) (cs:=#[.int .i64 0,.int .i64 0,.int .i64 0]) (fun x=>[.int .i64 x]) ([0,0,0]) (fun _=>rfl) Y rfl aB).mono (e8 cV)) (aI.nil _ _) V) (aS ?_);try apply bH _
 apply af hJ;generalize a:bB _ _ _=b;have cf:sz b=367:=by rw[<-a];simp only[*,go_sem,-h,-a]
 have ck:b.defers=[]:=by rw[<-a];simp only[*,go_sem,-h,-a]
 have cl:slot b 0= .bool false:=by rw[<-a];simp only[*,go_sem,-h,-a]
 have cy:slot b 1= .pointer (some ⟨E,0,none⟩):=by rw[<-a];simp only[*,go_sem,-h,-a]
 have c0:slot b 2= .pointer (some ⟨M,0,none⟩):=by rw[<-a];simp only[*,go_sem,-h,-a]
 have da:slot b 3= .int .i64 g.2:=by rw[<-a];simp only[*,go_sem,-h,-a]
 have db:slot b 4= .pointer (some ⟨T,0,none⟩):=by rw[<-a];simp only[*,go_sem,-h,-a]
 have dd:slot b 5= .int .i64 l.2:=by rw[<-a];simp only[*,go_sem,-h,-a]
 have df:slot b 6= .bool f.1:=by rw[<-a];simp only[*,go_sem,-h,-a]
 have dk:slot b 7= .int .i64 f.2:=by rw[<-a];simp only[*,go_sem,-h,-a]
 clear a B hd;refine aJ hJ fun Z=>?_;apply ah hJ;have h':=an h;clear h;obtain ⟨ab,ad,h⟩:=h';try apply bH _
 intro dp f41;have ae:=aV f41;have s:=aW f41;have al:=bP.cons s Z;try simp only[aQ] at s
 intro dq f43;have ao:=aV f43;have t:=aW f43;have ds:=bP.cons t al;try simp only[aQ] at t
 try apply bH _
 refine bp hJ _ (vD (c.mono aZ) x1 (d.mono aZ) (⟨[0,3,6],[0,0,0],([]:(List Int))⟩:dW) ((aI.flat (r:=rI) (e:=3) (cs:=#[.int .i64 0,.int .i64 3,.int .i64 6]) (fun x=>[.int .i64 x]) ([0,3,6]) (fun _=>rfl) ae rfl aB).mono (e8 cV)) ((aI.flat (r:=rI) (e:=3) (cs:=#[.int .i64 0,.int .i64 0,.int .i64 0]) (fun x=>[.int .i64 x]) ([0,0,0]) (fun _=>rfl) ao rfl aB).mono (e8 cV)) (aI.nil _ _) ad) (aS ?_);try apply bH _
 apply af hJ;refine aJ hJ fun ar=>?_;apply ah hJ;have h':=an h;clear h;obtain ⟨a0,a2,h⟩:=h';try apply bH _
 intro dt f48;have a3:=aV f48;have u:=aW f48;have a4:=bP.cons u ar;try simp only[aQ] at u
 intro du f50;have a5:=aV f50;have w:=aW f50;have a6:=bP.cons w a4;try simp only[aQ] at w
 intro dv f52;have a7:=aV f52;have y:=aW f52;have dC:=bP.cons y a6;try simp only[aQ] at y
 try apply bH _
 refine bp hJ _ (vD (c.mono aZ) x1 (d.mono aZ) (⟨[0,3,6],[0,0,0],[2]⟩:dW) ((aI.flat (r:=rI) (e:=3) (cs:=#[.int .i64 0,.int .i64 3,.int .i64 6]) (fun x=>[.int .i64 x]) ([0,3,6]) (fun _=>rfl) a3 rfl aB).mono (e8 cV)) ((aI.flat (r:=rI) (e:=3) (cs:=#[.int .i64 0,.int .i64 0,.int .i64 0]) (fun x=>[.int .i64 x]) ([0,0,0]) (fun _=>rfl) a5 rfl aB).mono (e8 cV)) ((aI.flat (r:=rI) (e:=3) (cs:=#[.int .i64 2]) (fun x=>[.int .i64 x]) ([2]) (fun _=>rfl) a7 rfl aB).mono (e8 cV)) a2) (aS ?_);try apply bH _
 apply af hJ;apply ah hJ;have h':=an h;clear h;obtain ⟨a8,a9,h⟩:=h';try apply bH _
 refine bp hJ _ (oC (c.mono aZ) x1 (d.mono aZ) a9) (aS ?_);try apply bH _
 show Wp _ _ _ _ _;exact cv hJ (Le.sub (.cons _ (.cons _ (.cons _ (.cons _ (.cons _ (.cons _ (.cons _ (.cons₂ _ (.cons _ (.cons _ (.cons₂ _ (.cons _ (.cons _ (.cons₂ _ (List.Sublist.refl _)))))))))))))))) (IP hJ x1 g l f ab a0 a8 c d cV h)
theorem wR:iy=some true:=by decide+kernel
theorem kZ {ro:Addr->Option Value}(a:dh ro){r:Bool}(h:iy=some r):e9 Tryz.prog 10 #[] ⟨ro,[]⟩ (fun v _=>v= .bool r):=
 IQ a (Option.some.inj (h.symm.trans wR)) h
end Go.Proofs.YtcoalekambhghaaGreatDoor
end

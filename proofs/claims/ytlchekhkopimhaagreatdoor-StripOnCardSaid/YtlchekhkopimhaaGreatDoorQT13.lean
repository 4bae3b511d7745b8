/- A part of the proof: QT13. -/
import Derived.Test.YtlchekhkopimhaaGreatDoorQT12
import Derived.Sort.AssemblyPlain
set_option linter.all false
section
namespace Go.Proofs.YtlchekhkopimhaaGreatDoor
open Go Go.Sep Go.Proofs
set_option maxRecDepth 100000
set_option maxHeartbeats 4000000
instance:Inhabited aP:=⟨⟨0,0⟩⟩
def eV (p q:aP):Bool:=decide (p.step<q.step)||(p.step==q.step&&decide (p.cL<q.cL))
def m3 (x:aP):List aP->List aP
 |[]=>[x]
 |y::l=>if eV x y then x::y::l else y::m3 x l
def jA:List aP->List aP
 |[]=>[]
 |x::l=>m3 x (jA l)
def jB (p:aP):Prop:=(-1000000<=p.step/\p.step<=1000000)/\ -1000000<=p.cL/\p.cL<=1000000
instance (p:aP):Decidable (jB p):=by unfold jB;infer_instance
theorem tX (p q:aP):eV p q=true↔p.step<q.step\/(p.step=q.step/\p.cL<q.cL):=by
 simp[eV]
theorem yj (p q:aP):eV p q=false↔¬(p.step<q.step\/(p.step=q.step/\p.cL<q.cL)):=by
 rw[<-tX];simp
theorem tY:Sort.SWO eV where
 irrefl x:=by rw[yj];omega
 trans x y z a b:=by rw[tX] at*;omega
 ntrans x y z a b:=by rw[yj] at*;omega
theorem KJ {p q:aP}(e:eV p q=false)(f:eV q p=false):p=q:=by
 rw[yj] at*;obtain ⟨a,b⟩:=p;obtain ⟨c,d⟩:=q;simp only at e f;obtain rfl:a=c:=aa;obtain rfl:b=d:=aa;rfl
theorem yl (x:aP):∀l,(m3 x l).Perm (x::l)
 |[]=>.refl _
 |y::l=>by
  unfold m3
  split
  .exact .refl _
  .exact ((yl x l).cons y).trans (.swap _ _ _)
theorem ym:∀l,(jA l).Perm l
 |[]=>.refl _
 |x::l=>(yl x _).trans ((ym l).cons x)
abbrev rz (l:List aP):Prop:=l.Pairwise fun a b=>eV b a=false
theorem CP (x:aP):∀l,rz l->rz (m3 x l)
 |[],_=>by simp[m3,rz]
 |y::l,h=>by
  unfold m3
  have h':=List.pairwise_cons.1 h
  split
  .rename_i b
   refine List.pairwise_cons.2 ⟨fun z a=>?_,h⟩
   rcases List.mem_cons.1 a with rfl|a
   .cases c:eV z x with
    |false=>rfl
    |true=>have:=tY.trans _ _ _ b c;rw[tY.irrefl] at this;cases this
   .cases c:eV z x with
    |false=>rfl
    |true=>have:=tY.trans _ _ _ c b;rw[h'.1 z a] at this;cases this
  .rename_i b
   refine List.pairwise_cons.2 ⟨fun z a=>?_,CP x l h'.2⟩
   rcases List.mem_cons.1 ((yl x l).subset a) with rfl|a
   .simpa using b
   .exact h'.1 z a
theorem yo:∀l,rz (jA l)
 |[]=>List.Pairwise.nil
 |x::l=>CP x _ (yo l)
theorem CQ {l l':List aP}(c:l'.Perm l)(h:rz l'):l'=jA l:=
 List.Perm.eq_of_pairwise (fun a b _ _ d e=>KJ e d) h (yo l) (c.trans (ym l).symm)
theorem KL {l l':List aP}(a:l.Perm l'):jA l=jA l':=
 CQ ((ym l).trans a) (yo l)
theorem KM {p q:aP}(a:jB p)(b:jB q):∃n,gW p q=some n/\decide (n<0)=eV p q:=by
 obtain ⟨⟨a1,c⟩,d,f⟩:=a;obtain ⟨⟨g,b2⟩,b3,b4⟩:=b;unfold gW;by_cases e:p.step=q.step
 .refine ⟨_,by rw[show (p.step != q.step)=false by simpa using e];rfl,?_⟩;rw[IntWalk.i64_in _ ⟨aa,aa⟩,Bool.eq_iff_iff,tX,decide_eq_true_iff];omega
 .refine ⟨_,by rw[show (p.step != q.step)=true by simpa using e];rfl,?_⟩;rw[IntWalk.i64_in _ ⟨aa,aa⟩,Bool.eq_iff_iff,tX,decide_eq_true_iff];omega
theorem KN {σ ρ:Type}(f:σ->Option (Fl σ ρ))(n:Nat)(s:σ):aQ f (n+1) s=ai (f s) fun o=>match o with
  | .nx s'=>aQ f n s'
  | .bk s'=>some (.nx s')
  | .br k s'=>some (.br k s')
  | .rt r=>some (.rt r):=rfl
theorem CR (l:List aP){i j:Nat}(hi:i<l.length)(a:j<l.length):Sort.swp l.toArray i j=((l.set i (l[j]'a)).set j (l[i]'hi)).toArray:=by
 unfold Sort.swp;simp[hi,a]
theorem KO {l:List aP}(hs:∀p∈l,jB p)(hlen:l.length<=1000000):∀(j n:Nat),j<l.length->j<n->∃i:Int,aQ (o9 0 gW) n ((j:Int),l)=some (.nx (i,(Sort.insInner eV 0 j l.toArray).toList)):=by
 intro j
 induction j generalizing l with
 |zero=>
  intro n b hn;obtain ⟨n,rfl⟩:∃m,n=m+1:=⟨n - 1,aa⟩
  refine ⟨0,?_⟩;unfold Sort.insInner aQ o9;rfl
 |succ j ih=>
  intro n b hn;obtain ⟨n,rfl⟩:∃m,n=m+1:=⟨n - 1,aa⟩
  have a:j<l.length:=aa;have w:IntKind.i64.wrap (((j+1:Nat):Int) - 1)=(j:Int):=by rw[IntWalk.i64_in _ ⟨aa,aa⟩];omega
  have e1:bD l ((j+1:Nat):Int)=some (l[j+1]'b):=by
   unfold bD;rw[if_pos aa];simp[b]
  have e2:bD l (j:Int)=some (l[j]'a):=by
   unfold bD;rw[if_pos aa];simp[a]
  obtain ⟨c,e,f⟩:=KM (hs _ (List.getElem_mem b)) (hs _ (List.getElem_mem a));have g:l.toArray[j+1]! =l[j+1]'b:=by simp[b]
  have k:l.toArray[j]! =l[j]'a:=by simp[a]
  unfold Sort.insInner aQ o9;simp only[w,e1,e2,e,ai,f,g,k,show decide ((0:Int)<((j+1:Nat):Int))=true from decide_eq_true aa,cond_true,gt_iff_lt,Nat.zero_lt_succ,decide_true,Bool.true_and];cases r:eV (l[j+1]'b) (l[j]'a) with
  |false=>exact ⟨((j+1:Nat):Int),an⟩
  |true=>
   have e3:bD (l.set (j+1) (l[j]'a)) (j:Int)=some (l[j]'a):=by
    unfold bD;rw[if_pos aa];simp[a]
   have o:(((j+1:Nat):Int)).toNat=j+1:=aa;simp only[o,cond_true,ai,e3,Int.toNat_natCast,if_true];rw[CR l b a];have d:((l.set (j+1) (l[j]'a)).set j (l[j+1]'b)).length=l.length:=an;refine ih (l:=(l.set (j+1) (l[j]'a)).set j (l[j+1]'b)) (fun p q=>?_) (by rw[d];exact hlen) n (by rw[d];exact a) aa;rcases List.mem_or_eq_of_mem_set q with h|rfl
   .rcases List.mem_or_eq_of_mem_set h with h|rfl
    .exact hs p h
    .exact hs _ (List.getElem_mem _)
   .exact hs _ (List.getElem_mem _)
theorem CS (lt:aP->aP->Bool):∀(j:Nat) (d:Array aP),(Sort.insInner lt 0 j d).size=d.size
 |0,d=>by unfold Sort.insInner;rfl
 |j+1,d=>by
  unfold Sort.insInner
  split
  .rw[CS lt j];simp[Sort.swp]
  .rfl
theorem CU {P:aP->Prop}:∀(j:Nat) (l:List aP),j<l.length->(∀p∈l,P p)->∀p∈(Sort.insInner eV 0 j l.toArray).toList,P p
 |0,l,_,h=>by unfold Sort.insInner;simpa using h
 |j+1,l,b,h=>by
  unfold Sort.insInner
  split
  .rw[CR l b aa]
   refine CU j _ (by simp;omega) fun p c=>?_
   rcases List.mem_or_eq_of_mem_set c with a|rfl
   .rcases List.mem_or_eq_of_mem_set a with a|rfl
    .exact h p a
    .exact h _ (List.getElem_mem _)
   .exact h _ (List.getElem_mem _)
  .simpa using h
theorem KP {N:Nat}(f:N<=1000000):∀(k i n:Nat) (l:List aP),l.length=N->i+k=N->k<n->(∀p∈l,jB p)->∃j:Int,aQ (mS 0 (N:Int) gW) n ((i:Int),l)=some (.nx (j,(Sort.insOuter eV 0 N i l.toArray).toList)):=by
 intro k
 induction k with
 |zero=>
  intro i n l a hi hn hs;obtain ⟨n,rfl⟩:∃m,n=m+1:=⟨n - 1,aa⟩
  obtain rfl:i=N:=aa;refine ⟨(i:Int),?_⟩;unfold aQ mS;rw[Sort.insOuter,if_neg aa];simp[ai]
 |succ k ih=>
  intro i n l a hi hn hs;obtain ⟨n,rfl⟩:∃m,n=m+1:=⟨n - 1,aa⟩
  obtain ⟨i1,c⟩:=KO hs aa i fu aa (by unfold fu;omega);have w:IntKind.i64.wrap ((i:Int)+1)=((i+1:Nat):Int):=by rw[IntWalk.i64_in _ ⟨aa,aa⟩];omega
  have d:mS 0 (N:Int) gW ((i:Int),l)=some (.nx (((i+1:Nat):Int),(Sort.insInner eV 0 i l.toArray).toList)):=by
   unfold mS;simp only[c,ai,az,w,show decide ((i:Int)<(N:Int))=true from decide_eq_true aa,cond_true]
  rw[KN,d];rw[Sort.insOuter,if_pos aa];have e:(Sort.insInner eV 0 i l.toArray).toList.length=N:=by rw[Array.length_toList,CS];simpa using a
  obtain ⟨j,b⟩:=ih (i+1) n (Sort.insInner eV 0 i l.toArray).toList e aa aa (CU i l aa hs);rw[Array.toArray_toList] at b;exact ⟨j,b⟩
theorem KQ {l:List aP}(c:l≠[])(k:l.length<=1000000)(hs:∀p∈l,jB p):q9 l 0 (l.length:Int) gW=some ((),jA l):=by
 unfold q9;have m:l.isEmpty=false:=by cases l<;>simp at c ⊢
 have q:0<l.length:=List.length_pos_iff.2 c;have w:IntKind.i64.wrap ((0:Int)+1)=((1:Nat):Int):=by rw[IntWalk.i64_in _ ⟨aa,aa⟩];rfl
 obtain ⟨j,a⟩:=KP k (l.length - 1) 1 fu l rfl aa (by unfold fu;omega) hs;simp only[m,cond_false,w,a,ai,az];have f:=Sort.insertionSort_holds (lt:=eV) tY l.toArray 0 l.length aa an;have e:Sort.insertionSort eV l.toArray 0 l.length=Sort.insOuter eV 0 l.length 1 l.toArray:=rfl;rw[e] at f;obtain ⟨⟨g,-,b⟩,h⟩:=f;generalize Sort.insOuter eV 0 l.length 1 l.toArray=d at g b h;have n:d.size=l.length:=by simpa using g
 refine congrArg (fun x=>some ((),x)) (CQ ?_ ?_)
 .have e1:d.extract 0 l.length=d:=by rw[<-n];simp
  have e2:l.toArray.extract 0 l.length=l.toArray:=by
   have:l.length=l.toArray.size:=an;rw[this];simp
  rw[e1,e2] at b;simpa using b
 .refine List.pairwise_iff_getElem.2 fun i j hi a o=>?_;have:=h i j (Nat.zero_le _) o (by rw[Array.length_toList] at a;omega);rw[Array.length_toList] at hi a;simpa [getElem!_pos d i hi,getElem!_pos d j a] using this
theorem KR {l:List aP}{b:Int}(a:l≠[])(e:l.length<=12)(hs:∀p∈l,jB p):rf l 0 (l.length:Int) b gW=some ((),jA l):=by
 unfold rf;have c:l.isEmpty=false:=by cases l<;>simp at a ⊢
 have d:fu=(fu - 1)+1:=rfl;have w:IntKind.i64.wrap ((l.length:Int) - 0)=(l.length:Int):=by rw[Int.sub_zero,IntWalk.i64_in _ ⟨aa,aa⟩]
 rw[c,d];unfold aQ tw;simp only[w,show decide ((l.length:Int)<=12)=true by simp;omega,cond_true,cond_false,KQ a aa hs,ai,az]
theorem CV {n:Nat}(h:n<65536):∃k,jP (IntKind.u64.wrap (n:Int))=some k:=by
 rw[IntWalk.u64_in _ ⟨aa,aa⟩];unfold jP;rw[if_pos ⟨aa,aa⟩];exact ⟨_,rfl⟩
theorem KS {l:List aP}(a:l≠[])(b:l.length<=12)(hs:∀p∈l,jB p):tA l gW=some ((),jA l):=by
 unfold tA;have c:l.isEmpty=false:=by cases l<;>simp at a ⊢
 obtain ⟨k,d⟩:=CV (n:=l.length) aa;simp only[c,cond_false,d,ai,KR a b hs]
theorem KT:tC gW=some ():=by
 unfold tC;obtain ⟨k,a⟩:=CV (n:=0) aa;rw[show IntKind.u64.wrap 0=IntKind.u64.wrap ((0:Nat):Int) from rfl,a];have e:tB 0 0 k gW=some ():=rfl;simp only[ai,e]
def rA (l:List (aP×Bool)):Option (List aP):=if l.length<=12/\∀e∈l,jB e.1 then some (jA (l.map (·.1))) else none
def eW (l:List (aP×Bool)):Obj:=dB (fun k:aP=>k.v) (fun v:Bool=>.bool v) l
theorem KU:∃kd,Tryz.prog.underlying 91=some kd:=Option.isSome_iff_exists.1 aj
theorem KV (a b:aP):ny Tryz.prog 91 a.v b.v=some (a.step==b.step&&(a.cL==b.cL&&true)):=aj
theorem KW (a b:aP):(a==b)=(a.step==b.step&&(a.cL==b.cL&&true)):=by
 obtain ⟨x,y⟩:=a;obtain ⟨z,w⟩:=b;rw[Bool.eq_iff_iff];simp
theorem KX {kd:TypeDesc}:sV (K:=aP) Tryz.prog 91 kd (fun k=>k.v) where
 eq a b Q F h:=by
  rw[KW] at h
  exact (uW (KV a b) h).1
 none a b:=by
  unfold aP.v
  cases kd<;>rfl
 bits a b h:=by
  obtain rfl:a=b:=by simpa using h
  exact ⟨by simp[aP.v,Instr.sameBits],rfl⟩
 plain e k Q F h:=by
  have:bw Tryz.prog (Instr.checkKey e 10000 91 k.v) Q F=Q () F:=aj
  rw[this]
  exact h
theorem KY {R:Value->af->Prop}{F:af}(h:∀b,er F b->R (.map (some b)) (F.push b (eW []))):cR Tryz.prog (Instr.makeMap 139 none) R F:=sw (fun k:aP=>k.v) (fun v:Bool=>.bool v) h
theorem KZ {own:List (Nat×Obj)}{ro:Addr->Option Value}{b:Nat}{l:List (aP×Bool)}{k:aP}{v:Bool}{R:Value->af->Prop}(a:lk own b=some (eW l))(h:R undef ⟨ro,fK own b (eW (cF l k v))⟩):cR Tryz.prog (Instr.mapUpdate 139 (.map (some b)) k.v (.bool v)>>= fun _=>pure undef) R ⟨ro,own⟩:=by
 obtain ⟨kd,c⟩:=KU;exact G4 (fv:=fun v:Bool=>.bool v) (k:=k) (v:=v) (KX (kd:=kd)) (show Tryz.prog.underlying 139=some (.map 91 4) by kernel_rfl) c a h
def ie (l:List (aP×Bool))(i:Nat):aP:=(l.getD i (⟨0,0⟩,false)).1
theorem CW:∀(N:Nat) (l:List Nat),l.Nodup->(∀i∈l,i<N)->l.length<=N
 |0,l,_,h=>by
  cases l with
  |nil=>exact Nat.le_refl _
  |cons x l=>exact absurd (h x an) (Nat.not_lt_zero _)
 |N+1,l,hn,h=>by
  have a:=CW N (l.erase N) (hn.erase N) fun i hi=>by
   rw[hn.mem_erase_iff] at hi
   have:=h i hi.2
   omega
  by_cases hm:N∈l
  .rw[List.length_erase_of_mem hm] at a;omega
  .rw[List.erase_of_not_mem hm] at a;omega
theorem K0 {n:Nat}{seen:List Nat}(a:seen.Nodup)(b:∀i∈seen,i<n)(c:∀i,i<n->i∈seen):seen.Perm (List.range n):=
 (List.perm_ext_iff_of_nodup a List.nodup_range).2 fun i=>⟨fun h=>List.mem_range.2 (b i h),fun h=>c i (List.mem_range.1 h)⟩
theorem K1 (l:List (aP×Bool)):(List.range l.length).map (ie l)=l.map (·.1):=by
 refine List.ext_getElem an fun i a b=>?_;simp at a;simp[ie,List.getD,a]
theorem K2 {l:List (aP×Bool)}{out:List aP}(h:rA l=some out){seen:List Nat}(c:seen.Nodup)(d:∀i∈seen,i<l.length)(f:∀i,i<l.length->i∈seen):
  seen.length<=12/\(∀p∈seen.map (ie l),jB p)/\out=jA (seen.map (ie l)):=by
 unfold rA at h
 split at h
 case isFalse=>cases h
 rename_i g
 have a:=K0 c d f
 have b:(seen.map (ie l)).Perm (l.map (·.1)):=by have:=a.map (ie l);rwa [K1] at this
 refine ⟨by have:=a.length_eq;simp at this;omega,fun p j=>?_,?_⟩
 .obtain ⟨e,he,rfl⟩:=List.mem_map.1 (b.subset j)
  exact g.2 e he
 .rw[<-Option.some.inj h]
  exact KL b.symm
theorem K3 {main:Bool}{J:Goroutine->af->Prop}(hJ:Closed Tryz.prog main J){A:Act}{K ro:Addr->Option Value}(L:Ext K ro){d:Nat}(ab:∀off sp,ro ⟨d,off,sp⟩=none){l:List (aP×Bool)}(ae:sz A=78/\A.defers=[]/\slot A 9= .map (some d)/\slot A 15= .slice none 0 0)
  {r:List aP×Int} (h:ai (rA l) (fun x=>some (x,0))=some r):
  Wp J (bU (bU (bU (bU (bU (bU (bU (Tryz.f43.body.getD .skip)))))))) (iN Tryz.prog [.tmp 4,.tmp 5] (fun v G=>∃aF,Ext K aF/\Le ⟨aF,[]⟩ G/\∃M,v= .tuple #[M,.int .i64 r.2]/\aH eP aF M r.1)) A ⟨ro,[(d,eW l)]⟩:=by
 obtain ⟨al,hd,ao,ar⟩:=ae
 obtain ⟨out,ho,h⟩:=eu h
 obtain rfl:=Option.some.inj h
 clear h
 refine ah hJ ?_
 refine ah hJ ?_
 refine aG hJ ?_
 apply ag _
 have a0:lk [(d,eW l)] d=some (eW l):=by simp[lk]
 refine G5 (fun k:aP=>k.v) (fun v:Bool=>.bool v) (show Tryz.prog.underlying 139=some (.map 91 4) by kernel_rfl) a0 fun c N=>?_
 have rc:=cT N;have s:=cY N
 simp only[aN] at s
 try apply ag _
 refine aU hJ ?_
 refine bP hJ [15,16,67,68,69,70,71,72,73,74] (fun m a2 F'=>∃(seen:List Nat) (ad:Option Addr) (cap:Nat) (f:List (Nat×Obj)),seen.Nodup/\(∀i∈seen,i<l.length)/\(seen=[]->ad=none/\cap=0)/\m=l.length - seen.length/\F'=⟨ro,(c,.mapIter (some d) l.length seen.toArray l.length)::(d,eW l)::f⟩/\aW eP ro 91 (.slice ad seen.length cap) (seen.map (ie l)) f/\slot a2 15= .slice ad seen.length cap) l.length ?_ ?_
 .refine ⟨[],none,0,[],List.nodup_nil,an,an,an,rfl,aW.nil _ _ _,?_⟩
  apply ag _
  try simp
 rintro m n F' o ⟨seen,ad,cap,f,t,u,O,rfl,rfl,hg,P⟩
 have b0:sz n=78:=by rw[o.size];simp only[*,go_sem]
 have kd:n.defers=[]:=by rw[o.defers];simp only[*,go_sem]
 have b1:slot n 66= .pointer (some ⟨c,0,none⟩):=by rw[o.bM 66 aL];simp only[*,go_sem]
 clear o ao ar al hd
 refine ah hJ ?_
 refine aG hJ ?_
 apply ag _
 have w:lk ((c,.mapIter (some d) l.length seen.toArray l.length)::(d,eW l)::f) d=some (eW l):=by
  simp only[lk,if_neg s.1,if_true]
 have y:lk ((c,.mapIter (some d) l.length seen.toArray l.length)::(d,eW l)::f) c=some (.mapIter (some d) l.length seen.toArray l.length):=by
  simp only[lk,if_true]
 refine G6 (fun k:aP=>k.v) (fun v:Bool=>.bool v) w y (fun Q=>?_) (fun i x hi a3=>?_)
 .clear w y
  apply ag _
  refine ah hJ ?_
  refine dr hJ bx ?_
  refine bJ ?_
  simp only[go_sem]
  refine ah hJ ?_
  obtain ⟨hlen,a4,rfl⟩:=K2 ho t u fun i hi=>by simpa using Q i hi
  clear ho h Q
  by_cases R:seen=[]
  .subst R
   obtain ⟨rfl,rfl⟩:=O rfl
   replace P:slot n 15= .slice none 0 0:=P
   refine aG hJ ?_
   apply ag _
   refine bh hJ _ (IZ (bQ:=118) (bY:=#[]) (bZ:=#[]) gW ⟨by simp only[go_sem],fun a5 a6 y0 B z C=>by simp only[go_sem];exact AI y0 B C⟩ KT) ?_
   try apply ag _
   repeat refine ah hJ ?_
   refine aG hJ ?_
   apply ag _
   refine aO ?_
   apply ag _
   exact ⟨_,L,Le.sub (List.nil_sublist _),_,rfl,aH.nil _ _⟩
  .clear O
   refine aC hJ fun b2=>?_
   refine aG hJ ?_
   apply ag _
   refine iw hJ [(c,.mapIter (some d) l.length seen.toArray l.length),(d,eW l)] [] an _ (IW (bQ:=118) (bY:=#[]) (bZ:=#[]) (bT:=.slice ad seen.length cap) (seen.map (ie l)) hg gW ⟨by simp only[go_sem],fun a5 a6 y0 B z C=>by simp only[go_sem];exact AI y0 B C⟩ (KS (by simpa using R) (by simpa using hlen) a4)) (fun v p a7 D E nd=>?_)
   obtain ⟨rfl,q⟩:=a7
   simp only[bN] at E
   subst D
   refine ⟨⟨ro,(c,.mapIter (some d) l.length seen.toArray l.length)::(d,eW l)::p⟩,Le.refl _,?_⟩
   try apply ag _
   repeat refine ah hJ ?_
   refine aG hJ ?_
   apply ag _
   refine aC hJ fun H=>?_
   obtain ⟨S,a8,b3,a9,ba⟩:=q.lY ((c,.mapIter (some d) l.length seen.toArray l.length)::(d,eW l)::[]) [(c,.mapIter (some d) l.length seen.toArray l.length),(d,eW l)] [] an an H (bg.cons rc (bg.cons ab (bg.nil _)))
   refine cq (F:=⟨S,(c,.mapIter (some d) l.length seen.toArray l.length)::(d,eW l)::[]⟩) hJ ba ?_
   refine aO ?_
   apply ag _
   exact ⟨S,L.trans a8,Le.sub (List.nil_sublist _),_,rfl,a9⟩
 .apply ag _
  have bb:i<l.length:=(List.getElem?_eq_some_iff.1 hi).1
  have bc:ie l i=x.1:=by simp[ie,List.getD,hi]
  have T:i∉seen:=by simpa using a3
  have hlen:seen.length<l.length:=by
   rcases Nat.lt_or_ge seen.length l.length with g|g
   .exact g
   .exfalso
    have bd:=CW l.length (i::seen) (List.nodup_cons.2 ⟨T,t⟩) fun j I=>(List.mem_cons.1 I).elim (fun e=>e▸bb) (u j)
    simp at bd
    omega
  refine ah hJ ?_
  refine dn hJ bx ?_
  refine aK hJ ?_
  refine aU hJ ?_
  refine ah hJ ?_
  refine aG hJ ?_
  apply ag _
  have U:lk ((c,.mapIter (some d) l.length (seen.toArray.push i) l.length)::(d,eW l)::f) d=some (eW l):=by
   simp only[lk,if_neg s.1,if_true]
  have V:lk ((c,.mapIter (some d) l.length (seen.toArray.push i) l.length)::(d,eW l)::f) c=some (.mapIter (some d) l.length (seen.toArray.push i) l.length):=by
   simp only[lk,if_true]
  refine G7 (fun k:aP=>k.v) (fun v:Bool=>.bool v) U V hi ?_
  clear w y U V
  apply ag _
  intro W f5;have b4:=cT f5;have bj:=cY f5
  simp only[aN] at bj
  refine aC hJ fun bk=>?_
  refine aG hJ ?_
  apply ag _
  intro X f6;have bm:=cT f6;have Y:=cY f6
  have H:=bO.cons Y bk
  simp only[aN] at Y
  try apply ag _
  have ca:l.length<=12:=by
   unfold rA at ho
   split at ho
   .rename_i bo;exact bo.1
   .cases ho
  refine qh (r:=eP) (l:=seen.map (ie l)) (x:=x.1) (cs:=#[.int .i64 x.1.step,.int .i64 x.1.cL]) (e2:=91) [(X,.cells #[.int .i64 x.1.step,.int .i64 x.1.cL] 91),(W,.cells #[.int .i64 x.1.step,.int .i64 x.1.cL] 91),(c,.mapIter (some d) l.length (seen.toArray.push i) l.length),(d,eW l)] [] an hg H (by simp;omega) rfl bx bm rfl rfl Ao Ao FF Ap rfl FG aL aL (fun v p q D E nd=>?_)
  simp only[bN] at E
  subst D
  obtain ⟨d2,br,rfl,cb⟩:=q.len
  refine ⟨⟨ro,(X,.cells #[.int .i64 x.1.step,.int .i64 x.1.cL] 91)::(W,.cells #[.int .i64 x.1.step,.int .i64 x.1.cL] 91)::(c,.mapIter (some d) l.length (seen.toArray.push i) l.length)::(d,eW l)::p⟩,Le.refl _,?_⟩
  refine aJ ?_
  apply ag _
  have Z:(seen.map (ie l)++[x.1]).length=(seen++[i]).length:=an
  have bs:(seen++[i]).map (ie l)=seen.map (ie l)++[x.1]:=by simp[bc]
  refine ⟨l.length - (seen.length+1),aa,_,Le.sub (.cons _ (.cons _ (List.Sublist.refl _))),seen++[i],d2,br,p,?_,?_,an,an,an,?_,by rw[Z]⟩
  .exact List.nodup_append.2 ⟨t,an,fun a bS b hb e=>T (by simp at hb;rw[<-hb,<-e];exact bS)⟩
  .intro j I
   rcases List.mem_append.1 I with g|g
   .exact u j g
   .simp at g;omega
  .rw[bs,<-Z]
   exact q
def tZ (u0:bE)(a:(List UInt8)):Option Bool:=
 some (u0.bR==a)
theorem K4 {ro:Addr->Option Value}(u0:bE)(a:(List UInt8)){b:Nat}(c:ro ⟨b,0,none⟩=some (.string ⟨⟨a⟩⟩)){r:Bool}(h:tZ u0 a=some r):aE Tryz.prog 112 #[.agg #[.string ⟨⟨u0.bR⟩⟩,.int .i64 u0.e6,.int .i64 u0.row],.pointer (some ⟨b,0,none⟩)] ⟨ro,[]⟩ (fun v _=>v= .bool r):=by
 unfold tZ at h;cases h;refine aE.go Tryz.func112 rfl Tryz.ntmps112 Tryz.results112 an fun main J hJ A d hd hs=>?_;have e:=hs 0;have k1:=hs 1;clear hs;apply aB hJ _;refine bf fun f r1 n1=>?_;try simp only[aN] at n1
 try apply ag _
 apply aB hJ _;apply aO;simp only[*,go_sem]
def pM (u0:aS)(a:(List UInt8)):Option Int:=
 ai (qw u0.marks (fun y0=>tZ y0 a)) fun x9=>some x9
theorem CX {ro:Addr->Option Value}(u0:aS){s1:Value}(c:aH eo ro s1 u0.marks)(a:(List UInt8)){b:Nat}(d:ro ⟨b,0,none⟩=some (.string ⟨⟨a⟩⟩)){r:Int}(h:pM u0 a=some r):aE Tryz.prog 110 #[jj u0 s1,.pointer (some ⟨b,0,none⟩)] ⟨ro,[]⟩ (fun v _=>v= .int .i64 r):=by
 obtain ⟨d3,c4,rfl,j,k,-⟩:=id c;unfold pM at h;refine aE.go Tryz.func110 rfl Tryz.ntmps110 Tryz.results110 an fun main J hJ A l hd hs=>?_;have m:=hs 0;have k1:=hs 1;clear hs;apply aB hJ _;refine bf fun n o e=>?_;try simp only[aN] at e
 try apply ag _
 apply aA hJ;revert h;refine bS fun x9 f h=>?_;cases h;apply ag _;refine bh hJ _ (AH (bQ:=112) (bY:=#[]) (bZ:=#[.pointer (some ⟨b,0,none⟩)]) u0.marks (c.mono aY) (fun y0=>tZ y0 a) ⟨by simp only[go_sem],fun p g y0 q i=>by simp only[go_sem];exact K4 y0 a (g _ _ (aY _ _ d)) i⟩ f) (aJ ?_);try apply ag _
 apply aO;simp only[*,go_sem]
def ua (u0:aS)(a:(aS->Option Int)):Option Bool:=
 ai (a u0) fun x9=>some (decide (0<=x9))
theorem K5 {ro:Addr->Option Value}(u0:aS){s1:Value}(c:aH eo ro s1 u0.marks)(d:(aS->Option Int)){b:FuncId}{e f:Array Value}{g:Nat}(j:aI Tryz.prog b=true/\∀(aF:Addr->Option Value),Ext ro aF->∀(y0:aS) (i:Value) (z:Int),aH eo aF i y0.marks->d y0=some z->aE Tryz.prog b (e++#[jj y0 i]++f) ⟨aF,[]⟩ (fun v _=>v= .int .i64 z))(m:ro ⟨g,0,none⟩=some (.func (.func b) e f)){r:Bool}(h:ua u0 d=some r):aE Tryz.prog 115 #[jj u0 s1,.pointer (some ⟨g,0,none⟩)] ⟨ro,[]⟩ (fun v _=>v= .bool r):=by
 obtain ⟨d3,c4,rfl,n,o,-⟩:=id c;unfold ua at h;refine aE.go Tryz.func115 rfl Tryz.ntmps115 Tryz.results115 an fun main J hJ A p hd hs=>?_;have q:=hs 0;have k1:=hs 1;clear hs;apply aB hJ _;refine bf fun s t k=>?_;try simp only[aN] at k
 try apply ag _
 apply aA hJ;revert h;refine bS fun x9 l h=>?_;cases h;apply ag _;refine bh hJ _ (j.2 _ (fun a v h=>aY a v h) u0 _ _ (c.mono aY) l) (aJ ?_);try apply ag _
 apply aO;simp only[*,go_sem]
def uf (u0:ax)(a:(aS->Option Int)):Option Bool:=
 ai (wq u0.ak (fun y0=>ua y0 a)) fun x9=>some x9
theorem K6 {ro:Addr->Option Value}(u0:ax){s1:Value}(d:aH bK ro s1 u0.ak)(a:(aS->Option Int)){b:FuncId}{e f:Array Value}{c:Nat}(g:aI Tryz.prog b=true/\∀(aF:Addr->Option Value),Ext ro aF->∀(y0:aS) (i:Value) (z:Int),aH eo aF i y0.marks->a y0=some z->aE Tryz.prog b (e++#[jj y0 i]++f) ⟨aF,[]⟩ (fun v _=>v= .int .i64 z))(k:ro ⟨c,0,none⟩=some (.func (.func b) e f)){r:Bool}(h:uf u0 a=some r):aE Tryz.prog 113 #[cn u0 s1,.pointer (some ⟨c,0,none⟩)] ⟨ro,[]⟩ (fun v _=>v= .bool r):=by
 obtain ⟨d3,c4,rfl,q,s,-⟩:=id d;unfold uf at h;refine aE.go Tryz.func113 rfl Tryz.ntmps113 Tryz.results113 an fun main J hJ A t hd hs=>?_;have u:=hs 0;have k1:=hs 1;clear hs;apply aB hJ _;refine bf fun w x l=>?_;try simp only[aN] at l
 try apply ag _
 apply aA hJ;revert h;refine bS fun x9 m h=>?_;cases h;apply ag _;refine bh hJ _ (Gz (bQ:=115) (bY:=#[]) (bZ:=#[.pointer (some ⟨c,0,none⟩)]) u0.ak (d.mono aY) (fun y0=>ua y0 a) ⟨by simp only[go_sem],fun y j y0 _ B n o=>by simp only[go_sem];exact K5 y0 n a ⟨g.1,fun _ p=>g.2 _ (Ext.trans (Ext.trans aY j) p)⟩ (j _ _ (aY _ _ k)) o⟩ m) (aJ ?_);try apply ag _
 apply aO;simp only[*,go_sem]
def yp (b:(dD×Int))(i51:Nat)(c:aS)(d:Int)(i71:Nat)(a:aT)(st:(List (aP×Bool))):Option (Fl (List (aP×Bool)) ((List aP)×Int)):=
 ai (jM a (i51:Int)) fun e=>cond (!e) (ai (bD c.marks d) fun f=>ai (l9 b.1.round a (i51:Int) f) fun g=>some (.nx (cF st g true))) (some (.nx st))
def yq (d:(List UInt8))(a:(dD×Int))(i51:Nat)(b:aS)(st:(List (aP×Bool))):Option (Fl (List (aP×Bool)) ((List aP)×Int)):=
 ai (pM b d) fun c=>cond (decide (c<0)) (some (.nx st)) (ai (b7 (yp a i51 b c) 0 a.1.bF st) fun o=>az o (fun e=>some (.nx e)) (fun _ _=>none) (fun r=>some (.rt r)))
def lI (u0:ax)(b:(List UInt8)):Option ((List aP)×Int):=
 ai (iF u0 (fun y0=>uf y0 (fun y0=>pM y0 b))) fun a=>cond ((a.2 != 0)) (some (([]:(List aP)),a.2)) (ai (b7 (yq b a) 0 u0.ak ([]:(List (aP×Bool)))) fun o=>az o (fun c=>ai (rA c) fun x=>some (x,0)) (fun _ _=>none) (fun r=>some r))
theorem ug {ro:Addr->Option Value}(w:dw ro)(u0:ax){s1:Value}(e:aH bK ro s1 u0.ak)(c:(List UInt8)){r:((List aP)×Int)}(h:lI u0 c=some r):eZ Tryz.prog 43 #[cn u0 s1,.string ⟨⟨c⟩⟩] ro (fun v aF=>∃T,v= .tuple #[T,.int .i64 r.2]/\aH eP aF T r.1):=by
 obtain ⟨d3,c4,rfl,g2,U,-⟩:=id e;unfold lI at h;refine aE.go Tryz.func43 rfl Tryz.ntmps43 Tryz.results43 an fun main J hJ A bo hd hs=>?_;have br:=hs 0;have k1:=hs 1;clear hs;apply aB hJ _;refine bf fun y K bs=>?_;try simp only[aN] at bs
 refine bf fun f V b0=>?_;try simp only[aN] at b0
 try apply ag _
 apply aB hJ _;refine bf fun s D b1=>?_;try simp only[aN] at b1
 try apply ag _
 apply ah hJ;refine aC hJ fun W=>?_;obtain ⟨z,E,X⟩:=iy (b:=f) (o:=(.cells #[.string ⟨⟨c⟩⟩] 9)) [(s,.cells #[.func (.func 110) #[] #[.pointer (some ⟨f,0,none⟩)]] 137)] ((y,bB u0 (sl d3 u0.ak c4))::[]) W V (bg.cons D (bg.cons K (bg.nil _)));clear W;have i:b9 ro f (.cells #[.string ⟨⟨c⟩⟩] 9) ⟨f,0,none⟩=some (.string ⟨⟨c⟩⟩):=by rw[eY V];rfl
 generalize b9 ro f (.cells #[.string ⟨⟨c⟩⟩] 9)=Y at z E X i;refine cq hJ X ?_;replace e:=e.mono z;replace D:=E.hd;replace K:=E.tl.hd;replace w:=w.mono z;simp only[bW] at E;refine aC hJ fun Z=>?_;obtain ⟨t,ab,ad⟩:=iy (b:=s) (o:=(.cells #[.func (.func 110) #[] #[.pointer (some ⟨f,0,none⟩)]] 137)) [] ((y,bB u0 (sl d3 u0.ak c4))::[]) Z D (bg.cons K (bg.nil _));clear Z;have G:b9 Y s (.cells #[.func (.func 110) #[] #[.pointer (some ⟨f,0,none⟩)]] 137) ⟨s,0,none⟩=some (.func (.func 110) #[] #[.pointer (some ⟨f,0,none⟩)]):=by rw[eY D];rfl
 generalize b9 Y s (.cells #[.func (.func 110) #[] #[.pointer (some ⟨f,0,none⟩)]] 137)=g3 at t ab ad G;refine cq hJ ad ?_;replace e:=e.mono t;replace w:=w.mono t;simp only[bW] at ab;replace i:=t _ _ i;apply aG hJ;revert h;refine bS fun a b2 h=>?_;apply ag _;refine cN hJ _ (ku w (bQ:=113) (bY:=#[]) (bZ:=#[.pointer (some ⟨s,0,none⟩)]) u0 e (fun y0=>uf y0 (fun y0=>pM y0 c)) ⟨by simp only[go_sem],fun g4 ae y0 _ g7 b3 b4=>by simp only[go_sem];exact K6 y0 b3 (fun y0=>pM y0 c) ⟨by simp only[go_sem],fun ha ca cb _ hc cc cd=>by simp only[go_sem];exact CX cb cc c (ca _ _ (ae _ _ i)) cd⟩ (ae _ _ G) b4⟩ b2) fun v L B cf hR=>?_;obtain ⟨M,hf,rfl,al,ao⟩:=hR;have ck:=al.oc;simp only[dP] at ck;replace e:=e.mono B;simp only[bW] at cf;replace i:=B _ _ i;replace G:=B _ _ G;obtain ⟨d42,N,rfl,hg,ar,-⟩:=id ao;apply aJ;try apply ag _
 refine bf fun O hh cl=>?_;try simp only[aN] at cl
 try apply ag _
 refine ah hJ (aA hJ ?_);apply ag _;revert h;refine aV hJ (fun cv h=>?_) fun cv h=>?_
 .cases h;apply aB hJ _;refine b5 ?_;exact ⟨_,((z).trans t).trans B,Le.sub (List.nil_sublist _),_,rfl,aH.nil _ _⟩
 refine aK hJ (ah hJ ?_);apply aM hJ _;refine KY fun a0 f49=>?_;have cy:=cT f49;have cS:=cY f49;try simp only[aN] at cS
 apply aJ;try apply ag _
 refine ah hJ (aA hJ ?_);apply ag _;apply aU hJ;revert h;refine bS fun c0 j da=>?_;refine bP hJ (rg 31 34 [10,11,12,14]) (fun m P F'=>∃(i51:Nat) (C:(List (aP×Bool))),m=u0.ak.length - i51/\i51<=u0.ak.length/\b7 (yq c a) i51 (u0.ak.drop i51) C=some c0/\F'=⟨L,(a0,eW C)::(O,.cells #[.int .i64 a.1.round.steps,.int .i64 a.1.round.aR,M,.slice d42 a.1.bF.length N] 104)::(y,bB u0 (sl d3 u0.ak c4))::[]⟩/\slot P 31= .int .i64 (i51:Int)) u0.ak.length ?_ ?_
 .refine ⟨0,([]:(List (aP×Bool))),(Nat.sub_zero _).symm,Nat.zero_le _,j,rfl,?_⟩;simp only[*,go_sem]
 rintro hi db F' a2 ⟨i51,C,rfl,hj,j,rfl,dd⟩;obtain ⟨a3,a4,a5⟩:=a2.pick [4,5,6,7,9,29,30] aL;simp only[*,go_sem] at a3 a4 a5;clear a2 bo hd br k1;apply aB hJ _;apply ah hJ;rcases Nat.lt_or_ge i51 u0.ak.length with df|a6
 .refine cO hJ ?_;apply aK hJ;obtain ⟨u,Q⟩:∃x,u0.ak[i51]?=some x:=⟨_,List.getElem?_eq_getElem df⟩
  rw[e4 Q] at j;revert j;refine bS fun hk h a7=>?_;unfold yq at h;try dsimp only at h
  obtain ⟨a8,hl,dk,dp,g⟩:=e.el _ _ Q;obtain ⟨hn,rfl,a9⟩:=dp;obtain ⟨d60,ba,rfl,ho,hp,dq⟩:=id a9;cases dk;have ds:=g 0 _ rfl;simp only[go_sem] at ds;have dt:=g 1 _ rfl;simp only[go_sem] at dt;have du:=g 2 _ rfl;simp only[go_sem] at du;have dv:=g 3 _ rfl;simp only[go_sem] at dv;have dC:=g 4 _ rfl;simp only[go_sem] at dC;have dE:=g 5 _ rfl;simp only[go_sem] at dE;have dT:=g 6 _ rfl;simp only[go_sem] at dT;clear g Q;refine ah hJ (aU hJ (ah hJ ?_));apply aM hJ _;refine bf fun bb hq ea=>?_;try simp only[aN] at ea
  try apply ag _
  apply aA hJ;revert h;refine bS fun eb ec h=>?_;apply ag _;refine bh hJ _ (CX u (a9.mono aY) c (aY _ _ i) ec) (aJ ?_);try apply ag _
  refine ah hJ (aA hJ ?_);apply ag _;revert h;refine aV hJ (fun ed h=>?_) fun ed h=>?_
  .cases h;apply bJ;simp only[go_sem];have eh:=dY (n:=i51) (by have:=U;omega);apply aM hJ _;refine ⟨u0.ak.length - (i51+1),aa,_,Le.sub (List.Sublist.cons _ (List.Sublist.refl _)),i51+1,C,rfl,aa,a7,rfl,?_⟩;simp only[*,go_sem]
  refine aK hJ (ah hJ ?_);apply aM hJ _;apply aU hJ;revert h;refine bS fun et p ev=>?_;refine bP hJ (rg 44 20 [14]) (fun m P F'=>∃(i71:Nat) (q:(List (aP×Bool))),m=a.1.bF.length - i71/\i71<=a.1.bF.length/\b7 (yp a i51 u eb) i71 (a.1.bF.drop i71) q=some et/\F'=⟨L,(bb,de u (sl d60 u.marks ba))::(a0,eW q)::(O,.cells #[.int .i64 a.1.round.steps,.int .i64 a.1.round.aR,M,.slice d42 a.1.bF.length N] 104)::(y,bB u0 (sl (some a8) u0.ak c4))::[]⟩/\slot P 44= .int .i64 (i71:Int)) a.1.bF.length ?_ ?_
  .refine ⟨0,C,(Nat.sub_zero _).symm,Nat.zero_le _,p,rfl,?_⟩;simp only[*,go_sem]
  rintro m2 eQ F' R ⟨i71,q,rfl,hr,p,rfl,ht⟩;obtain ⟨eS,e0,e1⟩:=R.pick [4,5,6,7,9,10,11,12,29,30,31,32,33,35,36,37,38,39,40,41,42,43] aL;simp only[*,go_sem] at eS e0 e1;have hv:cj (rg 31 34 [10,11,12,14]) eQ db:=(R.eC aL).trans bx;clear R a3 a4 a5 dd;apply aB hJ _;apply ah hJ;rcases Nat.lt_or_ge i71 a.1.bF.length with e2|bc
  .refine cO hJ ?_;apply aK hJ;obtain ⟨H,S⟩:∃x,a.1.bF[i71]?=some x:=⟨_,List.getElem?_eq_getElem e2⟩
   rw[e4 S] at p;revert p;refine bS fun hx h bd=>?_;unfold yp at h;(try dsimp only at h);obtain ⟨e3,fa,fb,fc,d⟩:=ao.el _ _ S;obtain rfl:fa=H.cells:=fc;cases fb;have fg:=d 0 _ rfl;simp only[go_sem] at fg;have fh:=d 1 _ rfl;simp only[go_sem] at fh;have fi:=d 2 _ rfl;simp only[go_sem] at fi;have fj:=d 3 _ rfl;simp only[go_sem] at fj;have fl:=d 4 _ rfl;simp only[go_sem] at fl;have fp:=d 5 _ rfl;simp only[go_sem] at fp;have fr:=d 6 _ rfl;simp only[go_sem] at fr;have fs:=d 7 _ rfl;simp only[go_sem] at fs;have ft:=d 8 _ rfl;simp only[go_sem] at ft;clear d S;refine ah hJ (aU hJ (ah hJ ?_));apply aM hJ _;refine bf fun fu hy fv=>?_;try simp only[aN] at fv
   (try apply ag _);apply aA hJ;revert h;refine bS fun hz fw h=>?_;apply ag _;refine bh hJ _ (sG H (i51:Int) fw) (aJ ?_);(try apply ag _);revert h;refine aV hJ (fun fx h=>?_) fun fx h=>?_
   .refine eN hJ mixed 11 ⟨L,[(fu,gw H),(bb,de u (sl d60 u.marks ba)),(O,.cells #[.int .i64 a.1.round.steps,.int .i64 a.1.round.aR,M,.slice (some e3) a.1.bF.length N] 104),(y,bB u0 (sl (some a8) u0.ak c4))]⟩ bx aj ?_;revert h;refine bS fun bj fz h=>?_;obtain ⟨hA,hB,bk⟩:=cG fz;obtain ⟨hD,gg,gj,gl,I⟩:=dq _ _ bk;obtain rfl:gg=bj.cells:=gl;cases gj;have gn:=I 0 _ rfl;simp only[go_sem] at gn;have gp:=I 1 _ rfl;simp only[go_sem] at gp;have gy:=I 2 _ rfl;simp only[go_sem] at gy;clear I bk;revert h;refine bS fun bm g0 h=>?_;cases h;(try apply ag _);refine ⟨_,dW hJ fun F hF=>v9 a.1.round (al.mono (j6 hF)) H (i51:Int) bj g0,?_⟩;(try apply ag _);refine KZ (l:=q) (k:=bm) (v:=true) bx ?_;refine ⟨bx,?_⟩;(try apply ag _);have g1:=dY (n:=i71) (by have:=ar;omega);apply aM hJ _;refine ⟨a.1.bF.length - (i71+1),aa,_,Le.sub (List.Sublist.cons _ (List.Sublist.refl _)),i71+1,(cF q bm true),rfl,aa,bd,rfl,?_⟩;simp only[*,go_sem]
   cases h;apply aK hJ;have g1:=dY (n:=i71) (by have:=ar;omega);apply aM hJ _;refine ⟨a.1.bF.length - (i71+1),aa,_,Le.sub (List.Sublist.cons _ (List.Sublist.refl _)),i71+1,q,rfl,aa,bd,rfl,?_⟩;simp only[*,go_sem]
  have hE:=Nat.not_lt.2 bc;refine cE hJ ?_;rw[List.drop_eq_nil_of_le bc] at p;obtain rfl:=sI p;clear p;have h:=ev;dsimp only[az] at h;cases h;apply bJ;simp only[go_sem];have eh:=dY (n:=i51) (by have:=U;omega);apply aM hJ _;refine ⟨u0.ak.length - (i51+1),aa,_,Le.sub (List.Sublist.cons _ (List.Sublist.refl _)),i51+1,q,rfl,aa,a7,rfl,?_⟩;simp only[*,go_sem]
 have hG:=Nat.not_lt.2 a6;refine cE hJ ?_;rw[List.drop_eq_nil_of_le a6] at j;obtain rfl:=sI j;clear j;have h:=da;dsimp only[az] at h;apply bJ;simp only[go_sem];apply aB hJ _;show Wp _ _ _ _ _;exact cq hJ (Le.sub (.cons₂ _ (.cons _ (.cons _ (List.Sublist.refl _))))) (K3 hJ (((z).trans t).trans B) cy bx h)
def yt (x1:ax)(a:(ax×Int)):Option Bool:=
 ai (iG a.1) fun b=>ai (lH a.1) fun c=>ai (yh a.1) fun d=>ai (oH 6) fun i=>ai (xD x1 2 i) fun e=>ai (iG e.1) fun f=>ai (iG (⟨x1.steps,0,x1.ak⟩:ax)) fun g=>ai (tg (⟨x1.steps,0,x1.ak⟩:ax)) fun h=>cond ((b.2==0)) (cond ((c.2==0)) (cond ((d.2==0)) (cond ((e.2==0)) (cond ((f.2==0)) (cond ((g.2==0)) (cond ((h.2==0)) (cond ((b.1==1)) (ai (oG c.1 ([3])) fun j=>cond (j) (ai (oG d.1 ([1,3])) fun k=>cond (k) (cond ((f.1==7)) (cond ((g.1==1)) (some (h.1==1)) (some false)) (some false)) (some false)) (some false)) (some false)) (some false)) (some false)) (some false)) (some false)) (some false)) (some false)) (some false)
def yu (x1:ax):Option Bool:=
 ai (o6 x1 4) fun b=>ai (o4 x1) fun c=>ai (tg x1) fun d=>ai (lH x1) fun e=>ai (lu x1) fun a=>ai (wH) fun g=>ai (xA x1 g) fun f=>cond ((b.2 != 0)) (some false) (cond ((c.2 != 0)) (some false) (cond ((d.2 != 0)) (some false) (cond ((e.2 != 0)) (some false) (cond ((a.2.2 != 0)) (some false) (cond ((f.2 != 0)) (some false) (cond ((b.1 != 0)) (some false) (cond (decide (0<(c.1.length:Int))) (some false) (cond ((d.1 != 0)) (some false) (cond (decide (0<(e.1.length:Int))) (some false) (cond ((a.1 != 1)) (some false) (cond ((a.2.1 != 8)) (some false) (yt x1 f))))))))))))
def yw (x1:ax)(a:((List Int)×Int))(b:((List Int)×Int)):Option Bool:=
 ai (lz x1 0) fun c=>ai (lI x1 ([99,104,117,114,99,104])) fun d=>ai (lI x1 ([109,105,108,108])) fun e=>cond ((a.2 != 0)) (some false) (cond ((b.2 != 0)) (some false) (cond ((c.2 != 0)) (some false) (cond ((d.2 != 0)) (some false) (cond ((e.2 != 0)) (some false) (ai (oG a.1 ([2,3])) fun f=>cond (!f) (some false) (ai (oG b.1 ([(-1),0,1])) fun g=>cond (!g) (some false) (cond ((c.1 != 0)) (some false) (ai (sY d.1 ([(⟨5,3⟩:aP),(⟨6,3⟩:aP)])) fun h=>cond (!h) (some false) (ai (sY e.1 ([(⟨3,1⟩:aP)])) fun i=>cond (!i) (some false) (yu x1))))))))))
def yx (x1:ax)(a:(aP×Int))(b:(aP×Int))(c:(Bool×Int))(d:(Bool×Int))(e:(Bool×Int))(f:(Int×Int)):Option Bool:=
 cond ((a.2 != 0)) (some false) (cond ((b.2 != 0)) (some false) (cond ((c.2 != 0)) (some false) (cond ((d.2 != 0)) (some false) (cond ((e.2 != 0)) (some false) (cond ((f.2 != 0)) (some false) (cond (!((a.1.step==4)&&(a.1.cL==4))) (some false) (cond (!((b.1.step==0)&&(b.1.cL==0))) (some false) (cond (!c.1) (some false) (cond (d.1) (some false) (cond (!e.1) (some false) (cond ((f.1 != 16)) (some false) (ai (g6 x1 1) fun g=>ai (lA x1 1) fun h=>yw x1 g h))))))))))))
def fy :Option Bool:=
 ai (wM) fun x1=>ai (tr x1 (⟨[0,2,6],[0,1,0],([]:(List Int))⟩:eJ) 1 1) fun a=>ai (tr x1 (⟨[0,2,6],[0,1,0],([]:(List Int))⟩:eJ) 2 1) fun b=>ai (q8 x1 (⟨[0,3,5],[0,0,0],([]:(List Int))⟩:eJ)) fun c=>ai (q8 x1 (⟨[0,3,6],[0,0,0],([]:(List Int))⟩:eJ)) fun d=>ai (q8 x1 (⟨[0,3,6],[0,0,0],[2]⟩:eJ)) fun e=>ai (iG x1) fun f=>yx x1 a b c d e f
set_option maxHeartbeats 40000000 in
theorem yy {Φ:Goroutine->af->Prop}(hJ:Closed Tryz.prog true (eD Tryz.prog Φ)){A:Act}{ro:Addr->Option Value}(x1:ax)(H:(Int×Int))(I:(Int×Int))(p:((List Int)×Int))(q:(Int×Int))(s:((List Int)×Int))(J:(Int×Int×Int))(c:(ax×Int)){t i:Nat}(a:dw ro){u:Value}(K:aH rI ro u s.1){w:Value}(d:aH bK ro w c.1.ak){j:Value}(b:aH bK ro j x1.ak){L:Value}(M:aH rI ro L p.1)(N:sz A=367/\A.defers=[]/\slot A 0= .bool false/\slot A 1= .pointer (some ⟨i,0,none⟩)/\slot A 3= .int .i64 I.2/\slot A 5= .int .i64 p.2/\slot A 7= .int .i64 q.2/\slot A 9= .int .i64 s.2/\slot A 11= .int .i64 J.2.2/\slot A 12= .int .i64 H.1/\slot A 13= .int .i64 c.2/\slot A 21= .int .i64 q.1/\slot A 22=u/\slot A 25= .pointer (some ⟨t,0,none⟩))(h:yt x1 c=some true):Wp (eD Tryz.prog Φ) (bU (bU (bU (bU (bU (bU (bU (bU (bU (bU (bU (bU (bU (bU (bU (bU (bU (bU (bU (bU (bU (bU (Tryz.f17.body.getD .skip))))))))))))))))))))))) (iN Tryz.prog [.tmp 0] (fun v _=>v= .bool true)) A ⟨ro,(t,bB c.1 w)::(i,bB x1 j)::[]⟩:=by
 obtain ⟨O,hd,P,k1,Q,R,S,T,U,V,W,X,Y,Z⟩:=N;obtain ⟨d199,cl,rfl,cv,cy,-⟩:=id K;obtain ⟨d185,c0,rfl,da,db,-⟩:=id M;unfold yt at h;refine jf hJ fun ab y=>?_;have ad:=ab.nd;try simp only[keys,List.map_cons,List.map_nil,List.map_append,List.cons_append,List.nil_append,List.nodup_cons,List.mem_cons,List.mem_append,List.not_mem_nil,or_false,not_or] at ad
 replace k:=y.tl.hd;simp only[bW] at y;apply aA hJ;revert h;refine bS fun dd ae h=>?_;try apply bt _
 refine bh hJ _ (kz (a.mono aY) c.1 (d.mono aY) ae) (aJ ?_);try apply bt _
 apply aA hJ;revert h;refine bS fun al ao h=>?_;try apply bt _
 refine l6 _ (tV a c.1 d ao) fun v df m z hR=>?_;obtain ⟨dk,rfl,f⟩:=hR;replace d:=d.mono m;replace b:=b.mono m;replace k:=z.tl.hd;replace a:=a.mono m;simp only[bW] at z;apply aJ;try apply bt _
 apply aA hJ;revert h;refine bS fun ar a0 h=>?_;try apply bt _
 refine l6 _ (KE a c.1 d a0) fun v a2 n B hR=>?_;obtain ⟨dp,rfl,o⟩:=hR;replace f:=f.mono n;replace b:=b.mono n;replace k:=B.tl.hd;replace a:=a.mono n;simp only[bW] at B;apply aJ;try apply bt _
 apply ah hJ;refine ey hJ mixed [] (.rd 0 (.rd 1 (.one 2 (.pure 3 (.pure 4 (.pure 5 (.one 6 (.pure 7 .done)))))))) ⟨a2,[(i,bB x1 j)]⟩ dg aj ?_;revert h;refine bS fun a3 a4 h=>?_;try apply bt _
 refine ⟨_,dW hJ fun F hF=>wG 6 a4,gT ?_⟩;revert h;refine bS fun a5 a6 h=>?_;try apply bt _
 refine cN hJ _ (IT a x1 b 2 a3 a6) fun v dq g C hR=>?_;obtain ⟨ds,rfl,D⟩:=hR;replace f:=f.mono g;replace o:=o.mono g;replace b:=b.mono g;replace k:=C.tl.hd;replace a:=a.mono g;simp only[bW] at C;obtain ⟨dt,du,rfl,dv,dC,-⟩:=id D;have dE:=jh (l:=[(i,bB x1 j)]) g (bg.cons k (bg.nil _));refine ⟨dg,?_⟩;refine gT ?_;try apply bt _
 apply aA hJ;revert h;refine bS fun dT a7 h=>?_;try apply bt _
 refine bh hJ _ (kz (a.mono aY) a5.1 (D.mono aY) a7) (aJ ?_);try apply bt _
 apply ah hJ;refine e5 [0,1,3,5,7,9,11,12,13,21,22,26,27] fun ea a8 a9 ba=>?_;simp only[*,go_sem] at a8 a9 ba;clear O hd P k1 Q R S T U V W X Y Z;apply aG hJ;try apply bt _
 apply aA hJ;revert h;refine bS fun eb bb h=>?_;try apply bt _
 refine bh hJ _ (kz (a.mono aY) (⟨x1.steps,0,x1.ak⟩:ax) (b.mono aY) bb) (aJ ?_);try apply bt _
 apply aA hJ;revert h;refine bS fun ec bc h=>?_;try apply bt _
 refine bh hJ _ (BS (a.mono aY) (⟨x1.steps,0,x1.ak⟩:ax) (b.mono aY) bc) (aJ ?_);try apply bt _
 apply ah hJ;refine aC hJ fun bd=>?_;apply aG hJ;revert h;refine cS (fun bj h=>?_) fun bj h=>?_
 .revert h;refine cS (fun bk h=>?_) fun bk h=>?_
  .revert h;refine cS (fun bm h=>?_) fun bm h=>?_
   .revert h;refine cS (fun bo h=>?_) fun bo h=>?_
    .revert h;refine cS (fun br h=>?_) fun br h=>?_
     .revert h;refine cS (fun bs h=>?_) fun bs h=>?_
      .revert h;refine cS (fun b0 h=>?_) fun b0 h=>?_
       .revert h;refine cS (fun b1 h=>?_) fun b1 h=>?_
        .revert h;refine bS fun ed b2 h=>?_;(try apply bt _);refine bf fun eh b3 E=>?_;have b4:=bO.cons E bd;try simp only[aN] at E
         (try apply bt _);refine bh hJ _ (sX al.1 (f.mono aY) ([3]) ((aH.flat (r:=rI) (e:=3) (cs:=#[.int .i64 3]) (fun x=>[.int .i64 x]) ([3]) (fun _=>rfl) b3 rfl an).mono (gb dg)) b2) (aJ ?_);revert h;refine cS (fun ca h=>?_) fun ca h=>?_
         .revert h;refine bS fun et cb h=>?_;(try apply bt _);refine bf fun ev cc G=>?_;have eQ:=bO.cons G b4;try simp only[aN] at G
          (try apply bt _);refine bh hJ _ (sX ar.1 (o.mono aY) ([1,3]) ((aH.flat (r:=rI) (e:=3) (cs:=#[.int .i64 1,.int .i64 3]) (fun x=>[.int .i64 x]) ([1,3]) (fun _=>rfl) cc rfl an).mono (gb dg)) cb) (aJ ?_);revert h;refine cS (fun cd h=>?_) fun cd h=>?_
          .revert h;refine cS (fun cf h=>?_) fun cf h=>?_
           .revert h;refine cS (fun ck h=>?_) fun ck h=>?_
            ·(try apply bt _);have eS:=Option.some.inj h;clear h;apply aO;try simp only[*,go_sem]
            cases h
           cases h
          cases h
         cases h
        cases h
       cases h
      cases h
     cases h
    cases h
   cases h
  cases h
 cases h
set_option maxHeartbeats 40000000 in
theorem K7 {Φ:Goroutine->af->Prop}(hJ:Closed Tryz.prog true (eD Tryz.prog Φ)){A:Act}{ro:Addr->Option Value}(x1:ax)(m:(Int×Int))(Q:((List Int)×Int))(R:((List Int)×Int))(S:(Int×Int))(T:((List aP)×Int))(U:((List aP)×Int)){f:Nat}(a:dw ro){g:Value}(b:aH bK ro g x1.ak)(V:sz A=367/\A.defers=[]/\slot A 0= .bool false/\slot A 1= .pointer (some ⟨f,0,none⟩)/\slot A 3= .int .i64 Q.2/\slot A 5= .int .i64 R.2/\slot A 7= .int .i64 S.2/\slot A 9= .int .i64 T.2/\slot A 11= .int .i64 U.2/\slot A 12= .int .i64 m.1/\slot A 13= .int .i64 m.2)(h:yu x1=some true):Wp (eD Tryz.prog Φ) (bU (bU (bU (bU (bU (bU (bU (bU (bU (bU (bU (bU (bU (bU (bU (Tryz.f17.body.getD .skip)))))))))))))))) (iN Tryz.prog [.tmp 0] (fun v _=>v= .bool true)) A ⟨ro,(f,bB x1 g)::[]⟩:=by
 obtain ⟨W,hd,X,k1,Y,Z,ab,ad,ae,al,ao⟩:=V;unfold yu at h;refine jf hJ fun q y=>?_;have ar:=q.nd;try simp only[keys,List.map_cons,List.map_nil,List.map_append,List.cons_append,List.nil_append,List.nodup_cons,List.mem_cons,List.mem_append,List.not_mem_nil,or_false,not_or] at ar
 replace e:=y.hd;simp only[bW] at y;apply aA hJ;revert h;refine bS fun r a0 h=>?_;try apply bt _
 refine bh hJ _ (BV (a.mono aY) x1 (b.mono aY) 4 a0) (aJ ?_);try apply bt _
 apply aA hJ;revert h;refine bS fun s a2 h=>?_;try apply bt _
 refine cN hJ _ (BT a x1 b a2) fun v ev z B hR=>?_;obtain ⟨eQ,rfl,c⟩:=hR;replace b:=b.mono z;replace e:=B.hd;replace a:=a.mono z;simp only[bW] at B;obtain ⟨d185,eS,rfl,e0,e1,-⟩:=id c;apply aJ;try apply bt _
 apply aA hJ;revert h;refine bS fun t a3 h=>?_;try apply bt _
 refine bh hJ _ (BS (a.mono aY) x1 (b.mono aY) a3) (aJ ?_);try apply bt _
 apply aA hJ;revert h;refine bS fun u a4 h=>?_;try apply bt _
 refine l6 _ (tV a x1 b a4) fun v a5 w C hR=>?_;obtain ⟨e2,rfl,d⟩:=hR;replace b:=b.mono w;replace c:=c.mono w;replace e:=C.hd;replace a:=a.mono w;simp only[bW] at C;obtain ⟨d199,e3,rfl,fa,fb,-⟩:=id d;apply aJ;try apply bt _
 apply aA hJ;revert h;refine bS fun x a6 h=>?_;try apply bt _
 refine bh hJ _ (BU (a.mono aY) x1 (b.mono aY) a6) (aJ ?_);try apply bt _
 apply ah hJ;refine e5 [0,1,3,5,7,9,11,12,13,19,20,21,22,23,24] fun fc a7 a8 a9=>?_;simp only[*,go_sem] at a7 a8 a9;clear W hd X k1 Y Z ab ad ae al ao;refine ey hJ mixed [] (.rd 0 (.two 1 (.two 2 (.pure 3 (.pure 4 (.pure 5 (.one 6 (.one 7 (.pure 8 .done)))))) 6 (.one 2 (.pure 3 (.pure 4 (.pure 5 (.one 7 (.pure 8 .done))))))) 6 (.one 1 (.one 2 (.pure 3 (.pure 4 (.pure 5 (.one 7 (.pure 8 .done))))))))) ⟨a5,[(f,bB x1 g)]⟩ dg aj ?_;try apply bt _
 refine vA ?_ ?_
 .revert h;refine bS fun D ba h=>?_;try apply bt _
  refine cN hJ _ (AX ba) fun v fg i E hR=>?_;obtain ⟨fh,rfl,n⟩:=hR;replace c:=c.mono i;replace d:=d.mono i;replace b:=b.mono i;replace e:=E.hd;replace a:=a.mono i;simp only[bW] at E;obtain ⟨d214,fi,rfl,fj,fl,-⟩:=id n;have fp:=jh (l:=[(f,bB x1 g)]) i (bg.cons e (bg.nil _));refine ⟨dg,?_⟩;refine gT ?_;try apply bt _
  refine vA ?_ ?_
  .revert h;refine bS fun bb bc h=>?_;(try apply bt _);refine cN hJ _ (xB a x1 b D n bc) fun v fr j F hR=>?_;obtain ⟨fs,rfl,G⟩:=hR;replace c:=c.mono j;replace d:=d.mono j;replace b:=b.mono j;replace n:=n.mono j;replace e:=F.hd;replace a:=a.mono j;simp only[bW] at F;obtain ⟨d227,ft,rfl,fu,fv,-⟩:=id G;have fw:=jh (l:=[(f,bB x1 g)]) (i.trans j) (bg.cons e (bg.nil _));refine ⟨dg,?_⟩;refine gT ?_;(try apply bt _);refine bf fun fx fz H=>?_;have gg:=bO.cons H q;try simp only[aN] at H
   (try apply bt _);refine ah hJ (aA hJ ?_);revert h;refine cS (fun bd h=>?_) fun bd h=>?_
   .cases h
   revert h;refine cS (fun bj h=>?_) fun bj h=>?_
   .cases h
   revert h;refine cS (fun bk h=>?_) fun bk h=>?_
   .cases h
   revert h;refine cS (fun bm h=>?_) fun bm h=>?_
   .cases h
   revert h;refine cS (fun bo h=>?_) fun bo h=>?_
   .cases h
   revert h;refine cS (fun br h=>?_) fun br h=>?_
   .cases h
   revert h;refine cS (fun bs h=>?_) fun bs h=>?_
   .cases h
   revert h;refine cS (fun b0 h=>?_) fun b0 h=>?_
   .cases h
   revert h;refine cS (fun b1 h=>?_) fun b1 h=>?_
   .cases h
   revert h;refine cS (fun b2 h=>?_) fun b2 h=>?_
   .cases h
   revert h;refine cS (fun b3 h=>?_) fun b3 h=>?_
   .cases h
   (try apply bt _);revert h;refine cS (fun b4 h=>?_) fun b4 h=>?_
   .cases h
   refine cE hJ ?_;apply aK hJ;show Wp _ _ _ _ _;exact cq hJ (Le.sub (.cons₂ _ (.cons₂ _ (List.Sublist.refl _)))) (yy hJ x1 m r s t u x bb a d G b c dg h)
  revert h;refine bS fun ca cb h=>?_;try apply bt _
  refine bf fun gj gl I=>?_;have gn:=bO.cons I q;try simp only[aN] at I
  try apply bt _
  refine cN hJ _ (xB a x1 b D n cb) fun v gp o J hR=>?_;obtain ⟨gy,rfl,K⟩:=hR;replace c:=c.mono o;replace d:=d.mono o;replace b:=b.mono o;replace e:=J.tl.hd;replace a:=a.mono o;simp only[bW] at J;obtain ⟨g0,g1,rfl,g2,g3,-⟩:=id K;have g4:=jh (l:=[(f,bB x1 g)]) (i.trans o) (bg.cons e (bg.nil _));refine ⟨dg,?_⟩;refine gT ?_;try apply bt _
  refine ah hJ (aA hJ ?_);revert h;refine cS (fun cc h=>?_) fun cc h=>?_
  .cases h
  revert h;refine cS (fun cd h=>?_) fun cd h=>?_
  .cases h
  revert h;refine cS (fun cf h=>?_) fun cf h=>?_
  .cases h
  revert h;refine cS (fun ck h=>?_) fun ck h=>?_
  .cases h
  revert h;refine cS (fun cl h=>?_) fun cl h=>?_
  .cases h
  revert h;refine cS (fun cv h=>?_) fun cv h=>?_
  .cases h
  revert h;refine cS (fun cy h=>?_) fun cy h=>?_
  .cases h
  revert h;refine cS (fun c0 h=>?_) fun c0 h=>?_
  .cases h
  revert h;refine cS (fun da h=>?_) fun da h=>?_
  .cases h
  revert h;refine cS (fun db h=>?_) fun db h=>?_
  .cases h
  revert h;refine cS (fun dd h=>?_) fun dd h=>?_
  .cases h
  try apply bt _
  revert h;refine cS (fun df h=>?_) fun df h=>?_
  .cases h
  refine cE hJ ?_;apply aK hJ;show Wp _ _ _ _ _;exact cq hJ (Le.sub (.cons₂ _ (.cons₂ _ (List.Sublist.refl _)))) (yy hJ x1 m r s t u x ca a d K b c dg h)
 revert h;refine bS fun dk dp h=>?_;try apply bt _
 refine bf fun g7 ha L=>?_;have hc:=bO.cons L q;try simp only[aN] at L
 try apply bt _
 refine cN hJ _ (AX dp) fun v hf k M hR=>?_;obtain ⟨hg,rfl,N⟩:=hR;replace c:=c.mono k;replace d:=d.mono k;replace b:=b.mono k;replace e:=M.tl.hd;replace a:=a.mono k;simp only[bW] at M;obtain ⟨hh,hi,rfl,hj,hk,-⟩:=id N;have hl:=jh (l:=[(f,bB x1 g)]) k (bg.cons e (bg.nil _));refine ⟨dg,?_⟩;refine gT ?_;revert h;refine bS fun dq ds h=>?_;try apply bt _
 refine cN hJ _ (xB a x1 b dk N ds) fun v hn p O hR=>?_;obtain ⟨ho,rfl,P⟩:=hR;replace c:=c.mono p;replace d:=d.mono p;replace b:=b.mono p;replace e:=O.tl.hd;replace a:=a.mono p;simp only[bW] at O;obtain ⟨hp,hq,rfl,hr,hs,-⟩:=id P;have ht:=jh (l:=[(f,bB x1 g)]) (k.trans p) (bg.cons e (bg.nil _));refine ⟨dg,?_⟩;refine gT ?_;try apply bt _
 refine ah hJ (aA hJ ?_);revert h;refine cS (fun dt h=>?_) fun dt h=>?_
 .cases h
 revert h;refine cS (fun du h=>?_) fun du h=>?_
 .cases h
 revert h;refine cS (fun dv h=>?_) fun dv h=>?_
 .cases h
 revert h;refine cS (fun dC h=>?_) fun dC h=>?_
 .cases h
 revert h;refine cS (fun dE h=>?_) fun dE h=>?_
 .cases h
 revert h;refine cS (fun dT h=>?_) fun dT h=>?_
 .cases h
 revert h;refine cS (fun ea h=>?_) fun ea h=>?_
 .cases h
 revert h;refine cS (fun eb h=>?_) fun eb h=>?_
 .cases h
 revert h;refine cS (fun ec h=>?_) fun ec h=>?_
 .cases h
 revert h;refine cS (fun ed h=>?_) fun ed h=>?_
 .cases h
 revert h;refine cS (fun eh h=>?_) fun eh h=>?_
 .cases h
 try apply bt _
 revert h;refine cS (fun et h=>?_) fun et h=>?_
 .cases h
 refine cE hJ ?_;apply aK hJ;show Wp _ _ _ _ _;exact cq hJ (Le.sub (.cons₂ _ (.cons₂ _ (List.Sublist.refl _)))) (yy hJ x1 m r s t u x dq a d P b c dg h)
set_option maxHeartbeats 40000000 in
theorem K8 {Φ:Goroutine->af->Prop}(hJ:Closed Tryz.prog true (eD Tryz.prog Φ)){A:Act}{ro:Addr->Option Value}(x1:ax)(B:(Bool×Int))(C:(Bool×Int))(D:(Bool×Int))(l:(Int×Int))(f:((List Int)×Int))(g:((List Int)×Int)){m:Nat}(a:dw ro){n:Value}(c:aH rI ro n f.1){o:Value}(d:aH rI ro o g.1){p:Value}(b:aH bK ro p x1.ak)(E:sz A=367/\A.defers=[]/\slot A 0= .bool false/\slot A 1= .pointer (some ⟨m,0,none⟩)/\slot A 3= .int .i64 f.2/\slot A 5= .int .i64 g.2/\slot A 7= .int .i64 B.2/\slot A 9= .int .i64 C.2/\slot A 11= .int .i64 D.2/\slot A 12= .int .i64 l.1/\slot A 13= .int .i64 l.2/\slot A 14=n/\slot A 15=o)(h:yw x1 f g=some true):Wp (eD Tryz.prog Φ) (bU (bU (bU (bU (bU (bU (bU (bU (bU (bU (bU (Tryz.f17.body.getD .skip)))))))))))) (iN Tryz.prog [.tmp 0] (fun v _=>v= .bool true)) A ⟨ro,(m,bB x1 p)::[]⟩:=by
 obtain ⟨a5,hd,a6,k1,a7,a8,a9,ba,bb,bc,bd,bj,bk⟩:=E;obtain ⟨d92,bm,rfl,bo,br,-⟩:=id c;obtain ⟨d104,bs,rfl,b0,b1,-⟩:=id d;unfold yw at h;refine jf hJ fun F G=>?_;have H:=F.nd;try simp only[keys,List.map_cons,List.map_nil,List.map_append,List.cons_append,List.nil_append,List.nodup_cons,List.mem_cons,List.mem_append,List.not_mem_nil,or_false,not_or] at H
 simp only[bW] at G;apply aA hJ;revert h;refine bS fun I J h=>?_;try apply bt _
 refine bh hJ _ (th (a.mono aY) x1 (b.mono aY) 0 J) (aJ ?_);try apply bt _
 apply aA hJ;revert h;refine bS fun q K h=>?_;try apply bt _
 refine cN hJ _ (ug a x1 b ([99,104,117,114,99,104]) K) fun v b2 j L hR=>?_;obtain ⟨b3,rfl,k⟩:=hR;replace c:=c.mono j;replace d:=d.mono j;replace b:=b.mono j;replace a:=a.mono j;simp only[bW] at L;obtain ⟨d120,b4,rfl,ca,cb,-⟩:=id k;apply aJ;try apply bt _
 apply aA hJ;revert h;refine bS fun s M h=>?_;try apply bt _
 refine cN hJ _ (ug a x1 b ([109,105,108,108]) M) fun v cc i N hR=>?_;obtain ⟨cd,rfl,t⟩:=hR;replace c:=c.mono i;replace d:=d.mono i;replace b:=b.mono i;replace k:=k.mono i;replace a:=a.mono i;simp only[bW] at N;obtain ⟨d132,cf,rfl,ck,cl,-⟩:=id t;apply aJ;try apply bt _
 refine ah hJ (ah hJ ?_);refine aC hJ fun O=>?_;apply aG hJ;revert h;refine cS (fun P h=>?_) fun P h=>?_
 .cases h
 revert h;refine cS (fun Q h=>?_) fun Q h=>?_
 .cases h
 revert h;refine cS (fun R h=>?_) fun R h=>?_
 .cases h
 revert h;refine cS (fun S h=>?_) fun S h=>?_
 .cases h
 revert h;refine cS (fun T h=>?_) fun T h=>?_
 .cases h
 revert h;refine bS fun cv U h=>?_;try apply bt _
 refine bf fun cy V u=>?_;have W:=bO.cons u O;try simp only[aN] at u
 try apply bt _
 refine bh hJ _ (sX f.1 (c.mono aY) ([2,3]) ((aH.flat (r:=rI) (e:=3) (cs:=#[.int .i64 2,.int .i64 3]) (fun x=>[.int .i64 x]) ([2,3]) (fun _=>rfl) V rfl an).mono (gb dg)) U) (aJ ?_);revert h;refine cS (fun X h=>?_) fun X h=>?_
 .cases h
 revert h;refine bS fun c0 Y h=>?_;try apply bt _
 refine bf fun da Z w=>?_;have ab:=bO.cons w W;try simp only[aN] at w
 try apply bt _
 refine bh hJ _ (sX g.1 (d.mono aY) ([(-1),0,1]) ((aH.flat (r:=rI) (e:=3) (cs:=#[.int .i64 (-1),.int .i64 0,.int .i64 1]) (fun x=>[.int .i64 x]) ([(-1),0,1]) (fun _=>rfl) Z rfl an).mono (gb dg)) Y) (aJ ?_);revert h;refine cS (fun ad h=>?_) fun ad h=>?_
 .cases h
 revert h;refine cS (fun ae h=>?_) fun ae h=>?_
 .cases h
 revert h;refine bS fun db al h=>?_;try apply bt _
 refine bf fun dd ao y=>?_;have ar:=bO.cons y ab;try simp only[aN] at y
 try apply bt _
 refine bh hJ _ (AW q.1 (k.mono aY) ([(⟨5,3⟩:aP),(⟨6,3⟩:aP)]) ((aH.flat (r:=eP) (e:=91) (cs:=#[.int .i64 5,.int .i64 3,.int .i64 6,.int .i64 3]) aP.cells ([(⟨5,3⟩:aP),(⟨6,3⟩:aP)]) (fun _=>rfl) ao rfl an).mono (gb dg)) al) (aJ ?_);revert h;refine cS (fun a0 h=>?_) fun a0 h=>?_
 .cases h
 revert h;refine bS fun df a2 h=>?_;try apply bt _
 refine bf fun dk a3 z=>?_;have dp:=bO.cons z ar;try simp only[aN] at z
 try apply bt _
 refine bh hJ _ (AW s.1 (t.mono aY) ([(⟨3,1⟩:aP)]) ((aH.flat (r:=eP) (e:=91) (cs:=#[.int .i64 3,.int .i64 1]) aP.cells ([(⟨3,1⟩:aP)]) (fun _=>rfl) a3 rfl an).mono (gb dg)) a2) (aJ ?_);try apply bt _
 revert h;refine cS (fun a4 h=>?_) fun a4 h=>?_
 .cases h
 refine cE hJ ?_;apply aK hJ;show Wp _ _ _ _ _;exact cq hJ (Le.sub (.cons _ (.cons _ (.cons _ (.cons _ (.cons₂ _ (List.Sublist.refl _))))))) (K7 hJ x1 l f g I q s a b dg h)
set_option maxHeartbeats 40000000 in
theorem K9 {Φ:Goroutine->af->Prop}(hJ:Closed Tryz.prog true (eD Tryz.prog Φ)){A:Act}{ro:Addr->Option Value}(x1:ax)(c:(aP×Int))(d:(aP×Int))(e:(Bool×Int))(f:(Bool×Int))(g:(Bool×Int))(i:(Int×Int)){l m n:Nat}(a:dw ro){o:Value}(b:aH bK ro o x1.ak)(r:sz A=367/\A.defers=[]/\slot A 0= .bool false/\slot A 1= .pointer (some ⟨n,0,none⟩)/\slot A 2= .pointer (some ⟨m,0,none⟩)/\slot A 3= .int .i64 c.2/\slot A 4= .pointer (some ⟨l,0,none⟩)/\slot A 5= .int .i64 d.2/\slot A 6= .bool e.1/\slot A 7= .int .i64 e.2/\slot A 8= .bool f.1/\slot A 9= .int .i64 f.2/\slot A 10= .bool g.1/\slot A 11= .int .i64 g.2/\slot A 12= .int .i64 i.1/\slot A 13= .int .i64 i.2)(h:yx x1 c d e f g i=some true):Wp (eD Tryz.prog Φ) (bU (bU (bU (bU (bU (bU (bU (bU (Tryz.f17.body.getD .skip))))))))) (iN Tryz.prog [.tmp 0] (fun v _=>v= .bool true)) A ⟨ro,(l,.cells #[.int .i64 d.1.step,.int .i64 d.1.cL] 91)::(m,.cells #[.int .i64 c.1.step,.int .i64 c.1.cL] 91)::(n,bB x1 o)::[]⟩:=by
 obtain ⟨s,hd,t,k1,u,w,x,y,z,B,C,D,E,F,G,H⟩:=r;unfold yx at h;refine jf hJ fun I J=>?_;have K:=I.nd;try simp only[keys,List.map_cons,List.map_nil,List.map_append,List.cons_append,List.nil_append,List.nodup_cons,List.mem_cons,List.mem_append,List.not_mem_nil,or_false,not_or] at K
 simp only[bW] at J;refine ah hJ (aA hJ ?_);revert h;refine cS (fun L h=>?_) fun L h=>?_
 .cases h
 revert h;refine cS (fun M h=>?_) fun M h=>?_
 .cases h
 revert h;refine cS (fun N h=>?_) fun N h=>?_
 .cases h
 revert h;refine cS (fun O h=>?_) fun O h=>?_
 .cases h
 revert h;refine cS (fun P h=>?_) fun P h=>?_
 .cases h
 revert h;refine cS (fun Q h=>?_) fun Q h=>?_
 .cases h
 revert h;refine cS (fun R h=>?_) fun R h=>?_
 .cases h
 revert h;refine cS (fun S h=>?_) fun S h=>?_
 .cases h
 revert h;refine cS (fun T h=>?_) fun T h=>?_
 .cases h
 revert h;refine cS (fun U h=>?_) fun U h=>?_
 .cases h
 revert h;refine cS (fun V h=>?_) fun V h=>?_
 .cases h
 try apply bt _
 revert h;refine cS (fun W h=>?_) fun W h=>?_
 .cases h
 refine cE hJ ?_;refine aK hJ (ah hJ ?_);refine e5 [0,1,3,5,7,9,11,12,13] fun a0 X Y Z=>?_;simp only[*,go_sem] at X Y Z;clear s hd t k1 u w x y z B C D E F G H;apply aG hJ;revert h;refine bS fun ab ad h=>?_;try apply bt _
 refine cN hJ _ (q7 a x1 b 1 ad) fun v a2 p ae hR=>?_;obtain ⟨a3,rfl,j⟩:=hR;replace b:=b.mono p;replace a:=a.mono p;simp only[bW] at ae;obtain ⟨d92,a4,rfl,a5,a6,-⟩:=id j;apply aJ;try apply bt _
 apply aA hJ;revert h;refine bS fun al ao h=>?_;try apply bt _
 refine cN hJ _ (xp a x1 b 1 ao) fun v a7 k ar hR=>?_;obtain ⟨a8,rfl,q⟩:=hR;replace b:=b.mono k;replace j:=j.mono k;replace a:=a.mono k;simp only[bW] at ar;obtain ⟨d104,a9,rfl,ba,bb,-⟩:=id q;apply aJ;try apply bt _
 show Wp _ _ _ _ _;exact cq hJ (Le.sub (.cons _ (.cons _ (.cons₂ _ (List.Sublist.refl _))))) (K8 hJ x1 e f g i ab al a j q b dg h)
set_option maxHeartbeats 40000000 in
theorem La {ro:Addr->Option Value}(a:dw ro){r:Bool}(s:r=true)(h:fy=some r):gd Tryz.prog 17 #[] ⟨ro,[]⟩ (fun v _=>v= .bool r):=by
 subst s;unfold fy at h;refine gd.go Tryz.func17 rfl Tryz.ntmps17 Tryz.results17 an fun Φ hJ A t hd hs=>?_;clear hs;apply aA hJ;try apply bt _
 apply aA hJ;revert h;refine bS fun x1 u h=>?_;try apply bt _
 refine cN hJ _ (Hp u) fun v a8 w a9 hR=>?_;obtain ⟨ba,rfl,b⟩:=hR;replace a:=a.mono w;obtain ⟨d8,bb,rfl,bc,bd,-⟩:=id b;apply aJ;try apply bt _
 refine bf fun bj bk y=>?_;try simp only[aN] at y
 try apply bt _
 apply ah hJ;refine aC hJ fun z=>?_;apply aG hJ;revert h;refine bS fun B C h=>?_;try apply bt _
 refine bf fun bm D c=>?_;have E:=bO.cons c z;try simp only[aN] at c
 refine bf fun bo F d=>?_;have G:=bO.cons d E;try simp only[aN] at d
 try apply bt _
 refine bh hJ _ (B1 (a.mono aY) x1 (b.mono aY) (⟨[0,2,6],[0,1,0],([]:(List Int))⟩:eJ) ((aH.flat (r:=rI) (e:=3) (cs:=#[.int .i64 0,.int .i64 2,.int .i64 6]) (fun x=>[.int .i64 x]) ([0,2,6]) (fun _=>rfl) D rfl an).mono (gb dg)) ((aH.flat (r:=rI) (e:=3) (cs:=#[.int .i64 0,.int .i64 1,.int .i64 0]) (fun x=>[.int .i64 x]) ([0,1,0]) (fun _=>rfl) F rfl an).mono (gb dg)) (aH.nil _ _) 1 1 C) (aJ ?_);try apply bt _
 refine bf fun br bs f=>?_;have b0:=bO.cons f G;try simp only[aN] at f
 try apply bt _
 apply ah hJ;refine aC hJ fun H=>?_;apply aG hJ;revert h;refine bS fun I J h=>?_;try apply bt _
 refine bf fun b1 K g=>?_;have L:=bO.cons g H;try simp only[aN] at g
 refine bf fun b2 M i=>?_;have N:=bO.cons i L;try simp only[aN] at i
 try apply bt _
 refine bh hJ _ (B1 (a.mono aY) x1 (b.mono aY) (⟨[0,2,6],[0,1,0],([]:(List Int))⟩:eJ) ((aH.flat (r:=rI) (e:=3) (cs:=#[.int .i64 0,.int .i64 2,.int .i64 6]) (fun x=>[.int .i64 x]) ([0,2,6]) (fun _=>rfl) K rfl an).mono (gb dg)) ((aH.flat (r:=rI) (e:=3) (cs:=#[.int .i64 0,.int .i64 1,.int .i64 0]) (fun x=>[.int .i64 x]) ([0,1,0]) (fun _=>rfl) M rfl an).mono (gb dg)) (aH.nil _ _) 2 1 J) (aJ ?_);try apply bt _
 refine bf fun b3 b4 j=>?_;have ca:=bO.cons j N;try simp only[aN] at j
 try apply bt _
 apply ah hJ;refine aC hJ fun O=>?_;apply aG hJ;revert h;refine bS fun P Q h=>?_;try apply bt _
 refine bf fun cb R k=>?_;have S:=bO.cons k O;try simp only[aN] at k
 refine bf fun cc T l=>?_;have cd:=bO.cons l S;try simp only[aN] at l
 try apply bt _
 refine bh hJ _ (xy (a.mono aY) x1 (b.mono aY) (⟨[0,3,5],[0,0,0],([]:(List Int))⟩:eJ) ((aH.flat (r:=rI) (e:=3) (cs:=#[.int .i64 0,.int .i64 3,.int .i64 5]) (fun x=>[.int .i64 x]) ([0,3,5]) (fun _=>rfl) R rfl an).mono (gb dg)) ((aH.flat (r:=rI) (e:=3) (cs:=#[.int .i64 0,.int .i64 0,.int .i64 0]) (fun x=>[.int .i64 x]) ([0,0,0]) (fun _=>rfl) T rfl an).mono (gb dg)) (aH.nil _ _) Q) (aJ ?_);try apply bt _
 apply ah hJ;refine e5 [0,1,2,3,4,5,6,7] fun cf U V W=>?_;simp only[*,go_sem] at U V W;clear t hd;refine aC hJ fun X=>?_;apply aG hJ;revert h;refine bS fun Y Z h=>?_;try apply bt _
 refine bf fun ck ab m=>?_;have ad:=bO.cons m X;try simp only[aN] at m
 refine bf fun cl ae n=>?_;have cv:=bO.cons n ad;try simp only[aN] at n
 try apply bt _
 refine bh hJ _ (xy (a.mono aY) x1 (b.mono aY) (⟨[0,3,6],[0,0,0],([]:(List Int))⟩:eJ) ((aH.flat (r:=rI) (e:=3) (cs:=#[.int .i64 0,.int .i64 3,.int .i64 6]) (fun x=>[.int .i64 x]) ([0,3,6]) (fun _=>rfl) ab rfl an).mono (gb dg)) ((aH.flat (r:=rI) (e:=3) (cs:=#[.int .i64 0,.int .i64 0,.int .i64 0]) (fun x=>[.int .i64 x]) ([0,0,0]) (fun _=>rfl) ae rfl an).mono (gb dg)) (aH.nil _ _) Z) (aJ ?_);try apply bt _
 apply ah hJ;refine aC hJ fun al=>?_;apply aG hJ;revert h;refine bS fun ao ar h=>?_;try apply bt _
 refine bf fun cy a0 o=>?_;have a2:=bO.cons o al;try simp only[aN] at o
 refine bf fun cS a3 p=>?_;have a4:=bO.cons p a2;try simp only[aN] at p
 refine bf fun c0 a5 q=>?_;have da:=bO.cons q a4;try simp only[aN] at q
 try apply bt _
 refine bh hJ _ (xy (a.mono aY) x1 (b.mono aY) (⟨[0,3,6],[0,0,0],[2]⟩:eJ) ((aH.flat (r:=rI) (e:=3) (cs:=#[.int .i64 0,.int .i64 3,.int .i64 6]) (fun x=>[.int .i64 x]) ([0,3,6]) (fun _=>rfl) a0 rfl an).mono (gb dg)) ((aH.flat (r:=rI) (e:=3) (cs:=#[.int .i64 0,.int .i64 0,.int .i64 0]) (fun x=>[.int .i64 x]) ([0,0,0]) (fun _=>rfl) a3 rfl an).mono (gb dg)) ((aH.flat (r:=rI) (e:=3) (cs:=#[.int .i64 2]) (fun x=>[.int .i64 x]) ([2]) (fun _=>rfl) a5 rfl an).mono (gb dg)) ar) (aJ ?_);try apply bt _
 apply aA hJ;revert h;refine bS fun a6 a7 h=>?_;try apply bt _
 refine bh hJ _ (kz (a.mono aY) x1 (b.mono aY) a7) (aJ ?_);try apply bt _
 show Wp _ _ _ _ _;exact cq hJ (Le.sub (.cons _ (.cons _ (.cons _ (.cons _ (.cons _ (.cons _ (.cons _ (.cons₂ _ (.cons _ (.cons _ (.cons₂ _ (.cons _ (.cons _ (.cons₂ _ (List.Sublist.refl _)))))))))))))))) (K9 hJ x1 B I P Y ao a6 a b dg h)
theorem rC:fy=some true:=by decide+kernel
theorem gD {ro:Addr->Option Value}(a:dw ro){r:Bool}(h:fy=some r):gd Tryz.prog 17 #[] ⟨ro,[]⟩ (fun v _=>v= .bool r):=
 La a (Option.some.inj (h.symm.trans rC)) h
theorem ig (x y:Int):e7 x y=some (Sort.ltInt x y):=by
 unfold e7 l8 Sort.ltInt;simp[ai]
theorem cz {d:Array Int}{i:Nat}(h:i<d.size):bD d.toList (i:Int)=some d[i]!:=by
 rw[gk];simp[h]
theorem fU {d:Array Int}{i j:Nat}(v:Int)(h:j<d.size):∃z,bD (d.toList.set i v) (j:Int)=some z:=by
 rw[gk];exact ⟨_,List.getElem?_eq_getElem (by simpa using h)⟩
theorem fV {d:Array Int}{i j:Nat}:(d.toList.set i d[j]!).set j d[i]! =(Sort.swp d i j).toList:=by
 unfold Sort.swp;simp
theorem swp_size (d:Array Int)(i j:Nat):(Sort.swp d i j).size=d.size:=by
 unfold Sort.swp;simp
theorem bV {z:Int}{n:Nat}(e:z=(n:Int))(h:n<=1000000000000):IntKind.i64.wrap z=(n:Int):=by rw[wr aa];exact e
def eX {σ ρ:Type}(f:σ->Option (Fl σ ρ))(n:Nat):Fl σ ρ->Option (Fl σ ρ)
 | .nx s'=>aQ f n s'
 | .bk s'=>some (.nx s')
 | .br k s'=>some (.br k s')
 | .rt r=>some (.rt r)
theorem dZ {σ ρ:Type}(f:σ->Option (Fl σ ρ))(n:Nat)(s:σ):aQ f (n+1) s=ai (f s) (eX f n):=rfl
theorem CY (a:Nat):∀(j:Nat) (d:Array Int),(Sort.insInner Sort.ltInt a j d).size=d.size
 |0,_=>rfl
 |j+1,d=>by
  unfold Sort.insInner
  split
  .rw[CY a j,swp_size]
  .rfl
theorem CZ {a:Nat}:∀(j n:Nat) (d:Array Int),j<d.size->d.size<=1000000->j<n->∃i:Int,aQ (kW (a:Int)) n ((j:Int),d.toList)=some (.nx (i,(Sort.insInner Sort.ltInt a j d).toList))
 |0,n,d,b,hd,hn=>by
  obtain ⟨n,rfl⟩:∃m,n=m+1:=⟨n - 1,aa⟩
  refine ⟨0,?_⟩
  rw[dZ]
  unfold kW Sort.insInner
  rw[decide_eq_false (p:=(a:Int)<((0:Nat):Int)) aa]
  rfl
 |j+1,n,d,b,hd,hn=>by
  obtain ⟨n,rfl⟩:∃m,n=m+1:=⟨n - 1,aa⟩
  rw[dZ]
  unfold Sort.insInner
  have w:IntKind.i64.wrap (((j+1:Nat):Int) - 1)=(j:Int):=bV aa aa
  by_cases c:a<j+1
  .obtain ⟨z,e⟩:=fU (d:=d) (i:=j+1) (j:=j) d[j]! aa
   have hb:kW (a:Int) (((j+1:Nat):Int),d.toList)=some (if Sort.ltInt d[j+1]! d[j]! then .nx ((j:Int),(Sort.swp d (j+1) j).toList) else .bk (((j+1:Nat):Int),d.toList)):=by
    unfold kW
    rw[decide_eq_true (p:=(a:Int)<((j+1:Nat):Int)) aa]
    simp only[cond,w,cz b,cz (show j<d.size by omega),ig,ai,Int.toNat_natCast,e,fV]
    cases Sort.ltInt d[j+1]! d[j]!<;>rfl
   rw[hb]
   cases f:Sort.ltInt d[j+1]! d[j]!
   .refine ⟨((j+1:Nat):Int),?_⟩
    simp[ai,eX]
   .obtain ⟨i,hi⟩:=CZ (a:=a) j n (Sort.swp d (j+1) j) (by rw[swp_size];omega) (by rw[swp_size];omega) aa
    refine ⟨i,?_⟩
    simp only[ai,eX,if_true,Bool.and_true,show decide (j+1>a)=true from decide_eq_true c]
    exact hi
  .refine ⟨((j+1:Nat):Int),?_⟩
   unfold kW
   rw[decide_eq_false (p:=(a:Int)<((j+1:Nat):Int)) aa]
   simp only[ai,eX,cond,show decide (j+1>a)=false from decide_eq_false aa,Bool.false_and]
   rfl
theorem C0 {a b:Nat}:∀(k i n:Nat) (d:Array Int),b - i=k->b<=d.size->d.size<=1000000->k<n->i<=1000001->∃s:Int,aQ (mj (a:Int) (b:Int)) n ((i:Int),d.toList)=some (.nx (s,(Sort.insOuter Sort.ltInt a b i d).toList))/\(Sort.insOuter Sort.ltInt a b i d).size=d.size
 |0,i,n,d,c,hb,hd,hn,hi=>by
  obtain ⟨n,rfl⟩:∃m,n=m+1:=⟨n - 1,aa⟩
  rw[dZ]
  unfold mj Sort.insOuter
  rw[decide_eq_false (p:=(i:Int)<(b:Int)) aa,if_neg aa]
  exact ⟨_,rfl,rfl⟩
 |k+1,i,n,d,c,hb,hd,hn,hi=>by
  obtain ⟨n,rfl⟩:∃m,n=m+1:=⟨n - 1,aa⟩
  rw[dZ]
  unfold Sort.insOuter
  rw[if_pos aa]
  obtain ⟨j,e⟩:=CZ (a:=a) i fu d aa hd (by unfold fu;omega)
  have f:mj (a:Int) (b:Int) ((i:Int),d.toList)=some (.nx (((i+1:Nat):Int),(Sort.insInner Sort.ltInt a i d).toList)):=by
   unfold mj
   rw[decide_eq_true (p:=(i:Int)<(b:Int)) aa]
   simp only[cond,e,ai,az,show IntKind.i64.wrap ((i:Int)+1)=((i+1:Nat):Int) from bV aa aa]
  rw[f]
  have hs:=CY a i d
  obtain ⟨s,g,h⟩:=C0 (a:=a) (b:=b) k (i+1) n (Sort.insInner Sort.ltInt a i d) aa aa aa aa aa
  exact ⟨s,g,h.trans hs⟩
theorem Lc {d:Array Int}{a b:Nat}(c:d.size≠0)(hb:b<=d.size)(hd:d.size<=1000000)(i:a<=b):qE d.toList (a:Int) (b:Int)=some ((),(Sort.insertionSort Sort.ltInt d a b).toList)/\(Sort.insertionSort Sort.ltInt d a b).size=d.size:=by
 obtain ⟨s,f,g⟩:=C0 (a:=a) (b:=b) (b - (a+1)) (a+1) fu d rfl hb hd (by unfold fu;omega) aa;refine ⟨?_,g⟩;unfold qE;have e:d.toList.isEmpty=false:=by
  cases h:d.toList with
  |nil=>exact absurd (by rw[<-Array.length_toList,h];rfl) c
  |cons _ _=>rfl
 rw[e,show IntKind.i64.wrap ((a:Int)+1)=((a+1:Nat):Int) from bV aa aa];simp only[cond,f,ai,az];rfl
theorem uj (hi first:Nat):∀(k root:Nat) (d:Array Int),hi - root=k->(Sort.siftDown Sort.ltInt hi first root d).size=d.size:=by
 intro k
 induction k using Nat.strongRecOn with
 |_ k ih=>
  intro root d a;unfold Sort.siftDown;split
  .rfl
  split
  .split
   .rfl
   .split
    .rw[ih (hi - (2*root+2)) aa _ _ rfl,swp_size]
    .rfl
  .split
   .rfl
   .rw[ih (hi - (2*root+1)) aa _ _ rfl,swp_size]
def C1 (t:Bool)(s:Int×List Int):Fl (Int×List Int) (Unit×List Int):=if t then .rt ((),s.2) else .nx s
theorem Ld {hi first:Nat}(u:hi<=1000000)(v:first<=1000000):∀(k root n:Nat) (d:Array Int),hi - root=k->root<=1000000->first+hi<=d.size->d.size<=1000000->k<n->∃(t:Bool) (s:Int),aQ (iR (hi:Int) (first:Int)) n ((root:Int),d.toList)=some (C1 t (s,(Sort.siftDown Sort.ltInt hi first root d).toList)):=by
 intro k
 induction k using Nat.strongRecOn with
 |_ k ih=>
  intro root n d w x hs hd hn;obtain ⟨n,rfl⟩:∃m,n=m+1:=⟨n - 1,aa⟩
  rw[dZ];have w1:IntKind.i64.wrap (2*(root:Int))=((2*root:Nat):Int):=bV aa aa;have w2:IntKind.i64.wrap (((2*root:Nat):Int)+1)=((2*root+1:Nat):Int):=bV aa aa;have w3:IntKind.i64.wrap (((2*root+1:Nat):Int)+1)=((2*root+2:Nat):Int):=bV aa aa;have w4:IntKind.i64.wrap ((first:Int)+((2*root+1:Nat):Int))=((first+(2*root+1):Nat):Int):=bV aa aa;have e:IntKind.i64.wrap (((first+(2*root+1):Nat):Int)+1)=((first+(2*root+1)+1:Nat):Int):=bV aa aa;have f:IntKind.i64.wrap ((first:Int)+(root:Int))=((first+root:Nat):Int):=bV aa aa;have g:IntKind.i64.wrap ((first:Int)+((2*root+2:Nat):Int))=((first+(2*root+2):Nat):Int):=bV aa aa;unfold Sort.siftDown;by_cases l:2*root+1≥hi
  .rw[dif_pos l];have hb:iR (hi:Int) (first:Int) ((root:Int),d.toList)=some (.bk ((root:Int),d.toList)):=by
    unfold iR;simp only[w1,w2,show decide ((hi:Int)<=((2*root+1:Nat):Int))=true from decide_eq_true aa,cond]
   rw[hb];exact ⟨false,_,rfl⟩
  .rw[dif_neg l];have a:first+(2*root+1)<d.size:=aa
   have h:first+root<d.size:=aa
   have step:∀c:Nat,c<hi->c=2*root+1\/c=2*root+2->
     iR (hi:Int) (first:Int) ((root:Int),d.toList)=some (if Sort.ltInt d[first+root]! d[first+c]! then .nx ((c:Int),(Sort.swp d (first+root) (first+c)).toList) else .rt ((),d.toList))->
     ∃(t:Bool) (s:Int),(ai (iR (hi:Int) (first:Int) ((root:Int),d.toList)) (eX (iR (hi:Int) (first:Int)) n))=some (C1 t (s,(if (!Sort.ltInt d[first+root]! d[first+c]!)=true then d else Sort.siftDown Sort.ltInt hi first c (Sort.swp d (first+root) (first+c))).toList)):=by
    intro c y A hb;rw[hb];cases B:Sort.ltInt d[first+root]! d[first+c]!
    .exact ⟨true,0,rfl⟩
    .simp only[ai,eX,if_true,Bool.not_true,Bool.false_eq_true,if_false];exact ih (hi - c) aa c n _ rfl aa (by rw[swp_size];omega) (by rw[swp_size];omega) aa
   by_cases r:2*root+2<hi
   .have o:first+(2*root+1)+1<d.size:=aa
    cases p:Sort.ltInt d[first+(2*root+1)]! d[first+(2*root+1)+1]!
    .rw[if_neg an];refine step (2*root+1) aa (.inl rfl) ?_;obtain ⟨z,b⟩:=fU (d:=d) (i:=first+root) (j:=first+(2*root+1)) d[first+(2*root+1)]! a;unfold iR;simp only[w1,w2,w3,w4,e,f,g,show decide ((hi:Int)<=((2*root+1:Nat):Int))=false from decide_eq_false aa,show decide (((2*root+2:Nat):Int)<(hi:Int))=true from decide_eq_true aa,cond,cz a,cz o,cz h,ig,p,ai,Int.toNat_natCast,b,fV];cases Sort.ltInt d[first+root]! d[first+(2*root+1)]!<;>rfl
    .rw[if_pos (by simp;omega),dif_pos r];refine step (2*root+2) aa (.inr rfl) ?_;have q:first+(2*root+2)<d.size:=aa
     obtain ⟨z,b⟩:=fU (d:=d) (i:=first+root) (j:=first+(2*root+2)) d[first+(2*root+2)]! q;unfold iR;simp only[w1,w2,w3,w4,e,f,g,show decide ((hi:Int)<=((2*root+1:Nat):Int))=false from decide_eq_false aa,show decide (((2*root+2:Nat):Int)<(hi:Int))=true from decide_eq_true aa,cond,cz a,cz o,cz q,cz h,ig,p,ai,Int.toNat_natCast,b,fV];cases Sort.ltInt d[first+root]! d[first+(2*root+2)]!<;>rfl
   .rw[if_neg (by simp;omega)];refine step (2*root+1) aa (.inl rfl) ?_;obtain ⟨z,b⟩:=fU (d:=d) (i:=first+root) (j:=first+(2*root+1)) d[first+(2*root+1)]! a;unfold iR;simp only[w1,w2,w3,w4,e,f,g,show decide ((hi:Int)<=((2*root+1:Nat):Int))=false from decide_eq_false aa,show decide (((2*root+2:Nat):Int)<(hi:Int))=false from decide_eq_false aa,cond,cz a,cz h,ig,ai,Int.toNat_natCast,b,fV];cases Sort.ltInt d[first+root]! d[first+(2*root+1)]!<;>rfl
theorem iY {d:Array Int}(a:d.size≠0):d.toList.isEmpty=false:=by
 cases b:d.toList with
 |nil=>exact absurd (by rw[<-Array.length_toList,b];rfl) a
 |cons _ _=>rfl
theorem C2 {d:Array Int}{root hi first:Nat}(a:d.size≠0)(b:root<=1000000)(hs:first+hi<=d.size)(hd:d.size<=1000000):mm d.toList (root:Int) (hi:Int) (first:Int)=some ((),(Sort.siftDown Sort.ltInt hi first root d).toList):=by
 obtain ⟨t,s,h⟩:=Ld (hi:=hi) (first:=first) aa aa (hi - root) root fu d rfl b hs hd (by unfold fu;omega);unfold mm;rw[iY a];simp only[cond,h,ai];cases t<;>rfl
theorem C3 {hi first:Nat}:∀(k n:Nat) (d:Array Int),d.size≠0->k<=1000000->first+hi<=d.size->d.size<=1000000->k<n->aQ (mo (first:Int) ((first+hi:Nat):Int)) n ((k:Int) - 1,d.toList)=some (.nx (-1,(Sort.heapBuild Sort.ltInt hi first k d).toList))
 |0,n,d,a,b,hs,hd,hn=>by
  obtain ⟨n,rfl⟩:∃m,n=m+1:=⟨n - 1,aa⟩
  rw[dZ]
  unfold mo Sort.heapBuild
  rw[show ((0:Nat):Int) - 1= -1 from rfl]
  rw[decide_eq_false (p:=(0:Int)<= -1) aa]
  rfl
 |k+1,n,d,a,b,hs,hd,hn=>by
  obtain ⟨n,rfl⟩:∃m,n=m+1:=⟨n - 1,aa⟩
  rw[dZ]
  have hb:mo (first:Int) ((first+hi:Nat):Int) (((k+1:Nat):Int) - 1,d.toList)=some (.nx ((k:Int) - 1,(Sort.siftDown Sort.ltInt hi first k d).toList)):=by
   unfold mo
   rw[show ((k+1:Nat):Int) - 1=(k:Int) by omega]
   rw[decide_eq_true (p:=(0:Int)<=(k:Int)) aa,show IntKind.i64.wrap (((first+hi:Nat):Int) - (first:Int))=(hi:Int) from bV aa aa]
   simp only[cond]
   rw[C2 a aa hs hd,wr (show -9223372036854775808<=(k:Int) - 1/\(k:Int) - 1<9223372036854775808 by omega)]
   rfl
  rw[hb]
  simp only[ai,eX]
  have c:=uj hi first (hi - k) k d rfl
  rw[C3 k n _ aa aa aa aa aa]
  rfl
theorem C4 {first:Nat}:∀(k n:Nat) (d:Array Int),d.size≠0->first+k<=d.size->d.size<=1000000->k<n->aQ (qF (first:Int)) n ((k:Int) - 1,d.toList)=some (.nx (-1,(Sort.heapPop Sort.ltInt first k d).toList))
 |0,n,d,c,hs,hd,hn=>by
  obtain ⟨n,rfl⟩:∃m,n=m+1:=⟨n - 1,aa⟩
  rw[dZ]
  unfold qF Sort.heapPop
  rw[show ((0:Nat):Int) - 1= -1 from rfl]
  rw[decide_eq_false (p:=(0:Int)<= -1) aa]
  rfl
 |k+1,n,d,c,hs,hd,hn=>by
  obtain ⟨n,rfl⟩:∃m,n=m+1:=⟨n - 1,aa⟩
  rw[dZ]
  have e:first<d.size:=aa
  have a:first+k<d.size:=aa
  obtain ⟨z,b⟩:=fU (d:=d) (i:=first) (j:=first+k) d[first+k]! a
  have f:=swp_size d first (first+k)
  have hb:qF (first:Int) (((k+1:Nat):Int) - 1,d.toList)=some (.nx ((k:Int) - 1,(Sort.siftDown Sort.ltInt k first 0 (Sort.swp d first (first+k))).toList)):=by
   unfold qF
   rw[show ((k+1:Nat):Int) - 1=(k:Int) by omega]
   rw[decide_eq_true (p:=(0:Int)<=(k:Int)) aa,show IntKind.i64.wrap ((first:Int)+(k:Int))=((first+k:Nat):Int) from bV aa aa]
   simp only[cond,cz a,cz e,ai,Int.toNat_natCast,b,fV]
   have:=C2 (d:=Sort.swp d first (first+k)) (root:=0) (hi:=k) (first:=first) aa aa aa aa
   rw[show ((0:Nat):Int)=0 from rfl] at this
   rw[this,wr (show -9223372036854775808<=(k:Int) - 1/\(k:Int) - 1<9223372036854775808 by omega)]
  rw[hb]
  simp only[ai,eX]
  have b:=uj k first (k - 0) 0 (Sort.swp d first (first+k)) rfl
  rw[C4 k n _ aa aa aa aa]
  rfl
theorem yA (hi first:Nat):∀(k:Nat) (d:Array Int),(Sort.heapBuild Sort.ltInt hi first k d).size=d.size
 |0,_=>rfl
 |k+1,d=>by unfold Sort.heapBuild;rw[yA hi first k,uj hi first _ k d rfl]
theorem C5 (first:Nat):∀(k:Nat) (d:Array Int),(Sort.heapPop Sort.ltInt first k d).size=d.size
 |0,_=>rfl
 |k+1,d=>by unfold Sort.heapPop;rw[C5 first k,uj k first _ 0 _ rfl,swp_size]
theorem Lf (d:Array Int)(a b:Nat):(Sort.heapSort Sort.ltInt d a b).size=d.size:=by
 unfold Sort.heapSort;rw[C5,yA]
theorem Lg {d:Array Int}{a b:Nat}(c:d.size≠0)(hb:b<=d.size)(hd:d.size<=1000000)(g:a<b):qG d.toList (a:Int) (b:Int)=some ((),(Sort.heapSort Sort.ltInt d a b).toList):=by
 unfold qG Sort.heapSort;have w1:IntKind.i64.wrap ((b:Int) - (a:Int))=((b - a:Nat):Int):=bV aa aa;have w2:IntKind.i64.wrap (((b - a:Nat):Int) - 1)=((b - a - 1:Nat):Int):=bV aa aa;have q:gR ((b - a - 1:Nat):Int) 2=some ((((b - a - 1)/2:Nat)):Int):=by
  unfold gR;rw[if_neg aa,Int.tdiv_eq_ediv_of_nonneg aa];rw[wr aa];congr 1
 rw[iY c,w1,w2,q];simp only[cond,ai];have e:=C3 (hi:=b - a) (first:=a) ((b - a - 1)/2+1) fu d c aa aa hd (by unfold fu;omega);rw[show (((b - a - 1)/2+1:Nat):Int) - 1=(((b - a - 1)/2:Nat):Int) by omega,show a+(b - a)=b by omega] at e;rw[e];simp only[az];have h:=yA (b - a) a ((b - a - 1)/2+1) d;have f:=C4 (first:=a) (b - a) fu (Sort.heapBuild Sort.ltInt (b - a) a ((b - a - 1)/2+1) d) aa aa aa (by unfold fu;omega);rw[show ((b - a:Nat):Int) - 1=((b - a - 1:Nat):Int) by omega] at f;rw[f]
theorem Lh:∀(k i j:Nat) (d:Array Int),j - i=k->(Sort.reverseLoop i j d).size=d.size:=by
 intro k
 induction k using Nat.strongRecOn with
 |_ k ih=>
  intro i j d a;unfold Sort.reverseLoop;split
  .rw[ih (j - 1 - (i+1)) aa _ _ _ rfl,swp_size]
  .rfl
theorem Li:∀(k i j n:Nat) (d:Array Int),j - i=k->j<d.size->d.size<=1000000->i<=1000000->k<n->∃s1 s2:Int,aQ (kX) n ((i:Int),(j:Int),d.toList)=some (.nx (s1,s2,(Sort.reverseLoop i j d).toList)):=by
 intro k
 induction k using Nat.strongRecOn with
 |_ k ih=>
  intro i j n d c a hd hi hn;obtain ⟨n,rfl⟩:∃m,n=m+1:=⟨n - 1,aa⟩
  rw[dZ];unfold Sort.reverseLoop;by_cases h:i<j
  .rw[if_pos h];obtain ⟨z,b⟩:=fU (d:=d) (i:=i) (j:=j) d[j]! a;have hb:kX ((i:Int),(j:Int),d.toList)=some (.nx (((i+1:Nat):Int),((j - 1:Nat):Int),(Sort.swp d i j).toList)):=by
    unfold kX;simp only[show decide ((i:Int)<(j:Int))=true from decide_eq_true aa,cond,cz a,cz (show i<d.size by omega),ai,Int.toNat_natCast,b,fV,show IntKind.i64.wrap ((i:Int)+1)=((i+1:Nat):Int) from bV aa aa,show IntKind.i64.wrap ((j:Int) - 1)=((j - 1:Nat):Int) from bV aa aa]
   rw[hb];exact ih (j - 1 - (i+1)) aa (i+1) (j - 1) n _ rfl (by rw[swp_size];omega) (by rw[swp_size];omega) aa aa
  .rw[if_neg h];have hb:kX ((i:Int),(j:Int),d.toList)=some (.bk ((i:Int),(j:Int),d.toList)):=by
    unfold kX;simp only[show decide ((i:Int)<(j:Int))=false from decide_eq_false aa,cond]
   rw[hb];exact ⟨_,_,rfl⟩
theorem Lj (d:Array Int)(a b:Nat):(Sort.reverseRange d a b).size=d.size:=Lh _ a (b - 1) d rfl
theorem Ll {d:Array Int}{a b:Nat}(c:d.size≠0)(hb:b<=d.size)(hd:d.size<=1000000)(e:a<b):ot d.toList (a:Int) (b:Int)=some ((),(Sort.reverseRange d a b).toList):=by
 unfold ot Sort.reverseRange;obtain ⟨s1,s2,h⟩:=Li (b - 1 - a) a (b - 1) fu d rfl aa hd aa (by unfold fu;omega);rw[iY c,show IntKind.i64.wrap ((b:Int) - 1)=((b - 1:Nat):Int) from bV aa aa];simp only[cond,h,ai,az]
theorem yB {d:Array Int}{a b s:Nat}(c:a<d.size)(hb:b<d.size)(hs:s<=1000):
  mq d.toList (a:Int) (b:Int) (s:Int)=some (((((Sort.order2 Sort.ltInt d a b s).1:Int),((Sort.order2 Sort.ltInt d a b s).2.1:Int)),d.toList),((Sort.order2 Sort.ltInt d a b s).2.2:Int))/\
   ((Sort.order2 Sort.ltInt d a b s).1=a\/(Sort.order2 Sort.ltInt d a b s).1=b)/\((Sort.order2 Sort.ltInt d a b s).2.1=a\/(Sort.order2 Sort.ltInt d a b s).2.1=b)/\(Sort.order2 Sort.ltInt d a b s).2.2<=s+1:=by
 unfold mq Sort.order2
 rw[iY aa,cz c,cz hb]
 simp only[cond,ai,ig]
 have w:IntKind.i64.wrap ((s:Int)+1)=((s+1:Nat):Int):=bV aa aa
 cases Sort.ltInt d[b]! d[a]!
 .exact ⟨rfl,.inl rfl,.inr rfl,an⟩
 .exact ⟨by rw[w];rfl,.inr rfl,.inl rfl,an⟩
theorem yC {d:Array Int}{a b c s:Nat}(j:a<d.size)(hb:b<d.size)(g:c<d.size)(hs:s<=100):
  mw d.toList (a:Int) (b:Int) (c:Int) (s:Int)=some ((((Sort.median Sort.ltInt d a b c s).1:Int),d.toList),((Sort.median Sort.ltInt d a b c s).2:Int))/\
   ((Sort.median Sort.ltInt d a b c s).1=a\/(Sort.median Sort.ltInt d a b c s).1=b\/(Sort.median Sort.ltInt d a b c s).1=c)/\(Sort.median Sort.ltInt d a b c s).2<=s+3:=by
 unfold mw Sort.median
 obtain ⟨e1,i,e,l⟩:=yB (d:=d) (a:=a) (b:=b) (s:=s) j hb aa
 rw[iY aa]
 simp only[cond,e1,ai]
 generalize Sort.order2 Sort.ltInt d a b s=r1 at*
 obtain ⟨e2,p2,m,b2⟩:=yB (d:=d) (a:=r1.2.1) (b:=c) (s:=r1.2.2) (by rcases e with h|h<;>rw[h]<;>assumption) g aa
 simp only[e2]
 generalize Sort.order2 Sort.ltInt d r1.2.1 c r1.2.2=r2 at*
 obtain ⟨e3,p3,k,b3⟩:=yB (d:=d) (a:=r1.1) (b:=r2.1) (s:=r2.2.2) (by rcases i with h|h<;>rw[h]<;>assumption) (by
  rcases p2 with h|h
  .rw[h];rcases e with h|h<;>rw[h]<;>assumption
  .rw[h];exact g) aa
 simp only[e3]
 generalize Sort.order2 Sort.ltInt d r1.1 r2.1 r2.2.2=r3 at*
 refine ⟨trivial,?_,aa⟩
 rcases k with h|h
 .rcases i with h'|h'
  .exact .inl (h.trans h')
  .exact .inr (.inl (h.trans h'))
 .rcases p2 with h'|h'
  .rcases e with f|f
   .exact .inl (h.trans (h'.trans f))
   .exact .inr (.inl (h.trans (h'.trans f)))
  .exact .inr (.inr (h.trans h'))
theorem yD {d:Array Int}{a s:Nat}(g:1<=a)(f:a+1<d.size)(hd:d.size<=1000000)(hs:s<=100):
  mz d.toList (a:Int) (s:Int)=some ((((Sort.medianAdjacent Sort.ltInt d a s).1:Int),d.toList),((Sort.medianAdjacent Sort.ltInt d a s).2:Int))/\
   (a - 1<=(Sort.medianAdjacent Sort.ltInt d a s).1/\(Sort.medianAdjacent Sort.ltInt d a s).1<=a+1)/\(Sort.medianAdjacent Sort.ltInt d a s).2<=s+3:=by
 unfold mz Sort.medianAdjacent
 obtain ⟨e,p,q⟩:=yC (d:=d) (a:=a - 1) (b:=a) (c:=a+1) (s:=s) aa aa f hs
 rw[iY aa,show IntKind.i64.wrap ((a:Int) - 1)=((a - 1:Nat):Int) from bV aa aa,show IntKind.i64.wrap ((a:Int)+1)=((a+1:Nat):Int) from bV aa aa]
 simp only[cond,e,ai]
 exact ⟨trivial,aa,q⟩
def kG:Sort.Hint->Int
 | .unknown=>0| .increasing=>1| .decreasing=>2
theorem C6 (n:Nat)(x:Int)(l:List Int):cond ((n:Int)==0) (some ((x,(1:Int)),l)) (cond ((n:Int)==12) (some ((x,2),l)) (some ((x,0),l)))=some ((x,kG (if n=0 then .increasing else if n=12 then .decreasing else .unknown)),l):=by
 by_cases h:n=0
 .subst h;rfl
 .rw[if_neg h,show ((n:Int)==0)=false by simp;omega];by_cases a:n=12
  .subst a;rfl
  .rw[if_neg a,show ((n:Int)==12)=false by simp;omega];rfl
theorem Lm {d:Array Int}{a b:Nat}(o:d.size≠0)(u:a<b)(hb:b<=d.size)(hd:d.size<=1000000):
  qH d.toList (a:Int) (b:Int)=some ((((Sort.choosePivot Sort.ltInt d a b).1:Int),kG (Sort.choosePivot Sort.ltInt d a b).2),d.toList):=by
 unfold qH Sort.choosePivot
 have w1:IntKind.i64.wrap ((b:Int) - (a:Int))=((b - a:Nat):Int):=bV aa aa
 have q:gR ((b - a:Nat):Int) 4=some ((((b - a)/4:Nat)):Int):=by
  unfold gR
  rw[if_neg aa,Int.tdiv_eq_ediv_of_nonneg aa,wr aa]
  congr 1
 have hm:∀k:Nat,k<=3->IntKind.i64.wrap ((a:Int)+IntKind.i64.wrap ((((b - a)/4:Nat):Int)*(k:Int)))=((a+(b - a)/4*k:Nat):Int):=by
  intro k r
  have v:(b - a)/4*k<=3000000:=Nat.le_trans (Nat.mul_le_mul (show (b - a)/4<=1000000 by omega) r) aa
  have e:(((b - a)/4:Nat):Int)*(k:Int)=(((b - a)/4*k:Nat):Int):=by rw[Int.natCast_mul]
  rw[e,show IntKind.i64.wrap ((((b - a)/4*k:Nat)):Int)=(((b - a)/4*k:Nat):Int) from bV rfl aa]
  exact bV aa aa
 have h:=hm 1 aa
 have i:=hm 2 aa
 have j:=hm 3 aa
 simp only[Int.natCast_one,show ((2:Nat):Int)=2 from rfl,show ((3:Nat):Int)=3 from rfl] at h i j
 rw[iY o,w1,q]
 simp only[cond,ai,h,i,j]
 by_cases l:b - a≥8
 .rw[decide_eq_true (p:=(8:Int)<=((b - a:Nat):Int)) aa,if_pos l]
  have n1:(b - a)/4*1=(b - a)/4:=Nat.mul_one _
  have w:(b - a)/4≥2:=aa
  by_cases m:b - a≥50
  .rw[decide_eq_true (p:=(50:Int)<=((b - a:Nat):Int)) aa,if_pos m]
   simp only
   obtain ⟨e1,x,y⟩:=yD (d:=d) (a:=a+(b - a)/4*1) (s:=0) aa aa hd aa
   rw[show ((0:Nat):Int)=0 from rfl] at e1
   simp only[e1]
   generalize Sort.medianAdjacent Sort.ltInt d (a+(b - a)/4*1) 0=g at*
   obtain ⟨e2,p2,z⟩:=yD (d:=d) (a:=a+(b - a)/4*2) (s:=g.2) aa aa hd aa
   simp only[e2]
   generalize Sort.medianAdjacent Sort.ltInt d (a+(b - a)/4*2) g.2=m2 at*
   obtain ⟨e3,p3,A⟩:=yD (d:=d) (a:=a+(b - a)/4*3) (s:=m2.2) aa aa hd aa
   simp only[e3]
   generalize Sort.medianAdjacent Sort.ltInt d (a+(b - a)/4*3) m2.2=n at*
   obtain ⟨f,p4,t⟩:=yC (d:=d) (a:=g.1) (b:=m2.1) (c:=n.1) (s:=n.2) aa aa aa aa
   simp only[f]
   exact C6 _ _ _
  .rw[decide_eq_false (p:=(50:Int)<=((b - a:Nat):Int)) aa,if_neg m]
   simp only
   obtain ⟨f,p4,t⟩:=yC (d:=d) (a:=a+(b - a)/4*1) (b:=a+(b - a)/4*2) (c:=a+(b - a)/4*3) (s:=0) aa aa aa aa
   rw[show ((0:Nat):Int)=0 from rfl] at f
   simp only[f]
   exact C6 _ _ _
 .rw[decide_eq_false (p:=(8:Int)<=((b - a:Nat):Int)) aa,if_neg l]
  rfl
theorem m6 (p:Int->Bool)(d:Array Int)(j:Nat):∀(k i:Nat),j+1 - i=k->i<=Sort.scanUp p d j i/\(Sort.scanUp p d j i<=j+1\/Sort.scanUp p d j i=i)
 |0,i,a=>by
  unfold Sort.scanUp
  rw[if_neg (by simp;omega)]
  exact ⟨Nat.le_refl _,.inr rfl⟩
 |k+1,i,a=>by
  unfold Sort.scanUp
  split
  .obtain ⟨c,b⟩:=m6 p d j k (i+1) aa
   exact ⟨aa,.inl (by rcases b with h|h<;>omega)⟩
  .exact ⟨Nat.le_refl _,.inr rfl⟩
theorem scanDown_le (p:Int->Bool)(d:Array Int)(i:Nat):∀j:Nat,Sort.scanDown p d i j<=j
 |0=>Nat.le_refl _
 |j+1=>by
  unfold Sort.scanDown
  split
  .exact Nat.le_trans (scanDown_le p d i j) aa
  .exact Nat.le_refl _
theorem yE {ρ:Type}{f:Int->Option (Fl Int ρ)}{p:Int->Bool}{d:Array Int}{j:Nat}(a:∀i:Nat,i<=j->f (i:Int)=some (if p d[i]! then .nx ((i+1:Nat):Int) else .bk (i:Int)))
  (b:∀i:Nat,j<i->f (i:Int)=some (.bk (i:Int))):∀(k i n:Nat),j+1 - i=k->k<n->aQ f n (i:Int)=some (.nx ((Sort.scanUp p d j i:Nat):Int))
 |0,i,n,c,hn=>by
  obtain ⟨n,rfl⟩:∃m,n=m+1:=⟨n - 1,aa⟩
  rw[dZ,b i aa]
  unfold Sort.scanUp
  rw[if_neg (by simp;omega)]
  rfl
 |k+1,i,n,c,hn=>by
  obtain ⟨n,rfl⟩:∃m,n=m+1:=⟨n - 1,aa⟩
  rw[dZ,a i aa]
  unfold Sort.scanUp
  cases e:p d[i]!
  .simp only[Bool.and_false,Bool.false_eq_true,if_false,ai,eX]
  .simp only[Bool.and_true,decide_eq_true_eq,if_true,ai,eX,if_pos (show i<=j by omega)]
   exact yE a b k (i+1) n aa aa
theorem yF {ρ:Type}{f:Int->Option (Fl Int ρ)}{p:Int->Bool}{d:Array Int}{i:Nat}(g:1<=i):∀(j n:Nat),(∀a:Nat,a<=j->i<=a->f (a:Int)=some (if p d[a]! then .nx ((a - 1:Nat):Int) else .bk (a:Int)))->
  (∀a:Nat,a<i->f (a:Int)=some (.bk (a:Int)))->j<n->aQ f n (j:Int)=some (.nx ((Sort.scanDown p d i j:Nat):Int))
 |0,n,c,b,hn=>by
  obtain ⟨n,rfl⟩:∃m,n=m+1:=⟨n - 1,aa⟩
  rw[dZ,b 0 aa]
  rfl
 |j+1,n,c,b,hn=>by
  obtain ⟨n,rfl⟩:∃m,n=m+1:=⟨n - 1,aa⟩
  rw[dZ]
  unfold Sort.scanDown
  by_cases e:i<=j+1
  .rw[c (j+1) (Nat.le_refl _) e]
   cases k:p d[j+1]!
   .simp only[Bool.and_false,Bool.false_eq_true,if_false,ai,eX]
   .simp only[Bool.and_true,decide_eq_true_eq,if_true,ai,eX,if_pos e]
    exact yF g j n (fun a h h'=>c a aa h') b aa
  .rw[b (j+1) aa,if_neg (by simp;omega)]
   rfl
theorem C7 {d:Array Int}{a j:Nat}(b:a<d.size)(c:j<d.size)(hd:d.size<=1000000)(i n:Nat)(hn:j+1<n):
  aQ (kZ (a:Int) (j:Int) d.toList) n (i:Int)=some (.nx ((Sort.scanUp (fun x=>Sort.ltInt x d[a]!) d j i:Nat):Int)):=
 yE (p:=fun x=>Sort.ltInt x d[a]!) (fun i hi=>by
  unfold kZ
  rw[decide_eq_true (p:=(i:Int)<=(j:Int)) aa,cz (show i<d.size by omega),cz b,show IntKind.i64.wrap ((i:Int)+1)=((i+1:Nat):Int) from bV aa aa]
  simp only[cond,ai,ig]
  cases Sort.ltInt d[i]! d[a]!<;>rfl) (fun i hi=>by
  unfold kZ
  rw[decide_eq_false (p:=(i:Int)<=(j:Int)) aa]
  rfl) _ i n rfl aa
theorem C8 {d:Array Int}{a i:Nat}(c:1<=i)(e:a<d.size)(hd:d.size<=1000000)(j n:Nat)(g:j<d.size)(hn:j<n):
  aQ (k3 (a:Int) d.toList (i:Int)) n (j:Int)=some (.nx ((Sort.scanDown (fun x=>!Sort.ltInt x d[a]!) d i j:Nat):Int)):=
 yF (p:=fun x=>!Sort.ltInt x d[a]!) c j n (fun b f hi=>by
  unfold k3
  rw[decide_eq_true (p:=(i:Int)<=(b:Int)) aa,cz (show b<d.size by omega),cz e,show IntKind.i64.wrap ((b:Int) - 1)=((b - 1:Nat):Int) from bV aa aa]
  simp only[cond,ai,ig]
  cases Sort.ltInt d[b]! d[a]!<;>rfl) (fun b f=>by
  unfold k3
  rw[decide_eq_false (p:=(i:Int)<=(b:Int)) aa]
  rfl) hn
theorem C9 (a:Nat):∀(k i j:Nat) (d:Array Int),j+1 - i=k->(Sort.partLoop Sort.ltInt a i j d).2.size=d.size/\(Sort.partLoop Sort.ltInt a i j d).1<=j:=by
 intro k
 induction k using Nat.strongRecOn with
 |_ k ih=>
  intro i j d f;unfold Sort.partLoop;have c:=scanDown_le (fun x=>!Sort.ltInt x d[a]!) d (Sort.scanUp (fun x=>Sort.ltInt x d[a]!) d j i) j;simp only;generalize Sort.scanUp (fun x=>Sort.ltInt x d[a]!) d j i=i2 at*;generalize Sort.scanDown (fun x=>!Sort.ltInt x d[a]!) d i2 j=b at*;split
  .exact ⟨rfl,c⟩
  .split
   .rename_i h;obtain ⟨e,g⟩:=ih (b - 1+1 - (i2+1)) aa (i2+1) (b - 1) (Sort.swp d i2 b) rfl;exact ⟨e.trans (swp_size _ _ _),aa⟩
   .exact ⟨rfl,c⟩
theorem Ln {a:Nat}:∀(k i j n:Nat) (d:Array Int),j+1 - i=k->a<i->a<d.size->j<d.size->d.size<=1000000->k<n->∃s:Int,
  aQ (k4 (a:Int)) n ((i:Int),(j:Int),d.toList)=some (.nx (s,((Sort.partLoop Sort.ltInt a i j d).1:Int),(Sort.partLoop Sort.ltInt a i j d).2.toList)):=by
 intro k
 induction k using Nat.strongRecOn with
 |_ k ih=>
  intro i j n d o p c e hd hn
  obtain ⟨n,rfl⟩:∃m,n=m+1:=⟨n - 1,aa⟩
  rw[dZ]
  unfold Sort.partLoop
  obtain ⟨q,r⟩:=m6 (fun x=>Sort.ltInt x d[a]!) d j _ i rfl
  have t:=scanDown_le (fun x=>!Sort.ltInt x d[a]!) d (Sort.scanUp (fun x=>Sort.ltInt x d[a]!) d j i) j
  have e1:=C7 (d:=d) (a:=a) (j:=j) c e hd i fu (by unfold fu;omega)
  have e2:=C8 (d:=d) (a:=a) (i:=Sort.scanUp (fun x=>Sort.ltInt x d[a]!) d j i) aa c hd j fu e (by unfold fu;omega)
  simp only
  generalize Sort.scanUp (fun x=>Sort.ltInt x d[a]!) d j i=i2 at*
  generalize Sort.scanDown (fun x=>!Sort.ltInt x d[a]!) d i2 j=b at*
  by_cases f:i2>b
  .have hb:k4 (a:Int) ((i:Int),(j:Int),d.toList)=some (.bk ((i2:Int),(b:Int),d.toList)):=by
    unfold k4
    simp only[e1,e2,ai,az,show decide ((b:Int)<(i2:Int))=true from decide_eq_true aa,cond]
   rw[hb,if_pos f]
   exact ⟨_,rfl⟩
  .have g:b<d.size:=aa
   have h:i2<d.size:=aa
   obtain ⟨z,l⟩:=fU (d:=d) (i:=i2) (j:=b) d[b]! g
   have hb:k4 (a:Int) ((i:Int),(j:Int),d.toList)=some (.nx (((i2+1:Nat):Int),((b - 1:Nat):Int),(Sort.swp d i2 b).toList)):=by
    unfold k4
    simp only[e1,e2,ai,az,show decide ((b:Int)<(i2:Int))=false from decide_eq_false aa,cond,cz g,cz h,Int.toNat_natCast,l,fV,show IntKind.i64.wrap ((i2:Int)+1)=((i2+1:Nat):Int) from bV aa aa,show IntKind.i64.wrap ((b:Int) - 1)=((b - 1:Nat):Int) from bV aa aa]
   rw[hb,if_neg f,dif_pos aa]
   exact ih (b - 1+1 - (i2+1)) aa (i2+1) (b - 1) n _ rfl aa (by rw[swp_size];omega) (by rw[swp_size];omega) (by rw[swp_size];omega) aa
theorem Lp {d:Array Int}{a b pivot:Nat}(w:a<=pivot)(y:pivot<b)(hb:b<=d.size)(hd:d.size<=1000000):
  qM d.toList (a:Int) (b:Int) (pivot:Int)=some ((((Sort.partition Sort.ltInt d a b pivot).1:Int),(Sort.partition Sort.ltInt d a b pivot).2.1),(Sort.partition Sort.ltInt d a b pivot).2.2.toList):=by
 have n:a<d.size:=aa
 have k:pivot<d.size:=aa
 obtain ⟨A,o⟩:=fU (d:=d) (i:=a) (j:=pivot) d[pivot]! k
 unfold qM Sort.partition
 rw[iY aa]
 simp only[cond,cz k,cz n,ai,Int.toNat_natCast,o]
 have f:(d.toList.set a d[pivot]!).set pivot d[a]! =(Sort.swp d a pivot).toList:=fV
 have B:=swp_size d a pivot
 have w1:IntKind.i64.wrap ((a:Int)+1)=((a+1:Nat):Int):=bV aa aa
 have w2:IntKind.i64.wrap ((b:Int) - 1)=((b - 1:Nat):Int):=bV aa aa
 have l0:qK d.toList (a:Int) (b:Int) (pivot:Int) d[pivot]! d[a]! =kZ (a:Int) ((b - 1:Nat):Int) (Sort.swp d a pivot).toList:=by
  funext st
  unfold qK kZ
  simp only[Int.toNat_natCast,f,w2]
 have p:∀v:Int,qL d.toList (a:Int) (pivot:Int) d[pivot]! d[a]! v=k3 (a:Int) (Sort.swp d a pivot).toList v:=by
  intro v
  funext st
  unfold qL k3
  simp only[Int.toNat_natCast,f]
 simp only[l0,p,f,w1,w2]
 generalize Sort.swp d a pivot=D at*
 have e:a<D.size:=aa
 have e1:=C7 (d:=D) (a:=a) (j:=b - 1) e aa aa (a+1) fu (by unfold fu;omega)
 obtain ⟨C,E⟩:=m6 (fun x=>Sort.ltInt x D[a]!) D (b - 1) _ (a+1) rfl
 have F:=scanDown_le (fun x=>!Sort.ltInt x D[a]!) D (Sort.scanUp (fun x=>Sort.ltInt x D[a]!) D (b - 1) (a+1)) (b - 1)
 have e2:=C8 (d:=D) (a:=a) (i:=Sort.scanUp (fun x=>Sort.ltInt x D[a]!) D (b - 1) (a+1)) aa e aa (b - 1) fu aa (by unfold fu;omega)
 simp only[e1,e2,az]
 generalize Sort.scanUp (fun x=>Sort.ltInt x D[a]!) D (b - 1) (a+1)=i2 at*
 generalize Sort.scanDown (fun x=>!Sort.ltInt x D[a]!) D i2 (b - 1)=c at*
 have g:c<D.size:=aa
 by_cases l:i2>c
 .obtain ⟨z,h⟩:=fU (d:=D) (i:=c) (j:=a) D[a]! e
  simp only[show decide ((c:Int)<(i2:Int))=true from decide_eq_true aa,cz e,cz g,Int.toNat_natCast,h,fV,if_pos l]
 .have q:i2<D.size:=aa
  obtain ⟨z,h⟩:=fU (d:=D) (i:=i2) (j:=c) D[c]! g
  have G:=swp_size D i2 c
  obtain ⟨s,e3⟩:=Ln (a:=a) _ (i2+1) (c - 1) fu (Sort.swp D i2 c) rfl aa aa aa aa (by unfold fu;omega)
  simp only[show decide ((c:Int)<(i2:Int))=false from decide_eq_false aa,cz g,cz q,Int.toNat_natCast,h,fV,if_neg l,show IntKind.i64.wrap ((i2:Int)+1)=((i2+1:Nat):Int) from bV aa aa,show IntKind.i64.wrap ((c:Int) - 1)=((c - 1:Nat):Int) from bV aa aa,e3]
  obtain ⟨H,I⟩:=C9 a _ (i2+1) (c - 1) (Sort.swp D i2 c) rfl
  generalize Sort.partLoop Sort.ltInt a (i2+1) (c - 1) (Sort.swp D i2 c)=r at*
  have t:r.1<r.2.size:=aa
  have m:a<r.2.size:=aa
  obtain ⟨J,u⟩:=fU (d:=r.2) (i:=r.1) (j:=a) r.2[a]! m
  simp only[cz m,cz t,Int.toNat_natCast,u,fV]
theorem Lq {d:Array Int}{a j:Nat}(b:a<d.size)(c:j<d.size)(hd:d.size<=1000000)(i n:Nat)(hn:j+1<n):
  aQ (ov (a:Int) (j:Int) d.toList) n (i:Int)=some (.nx ((Sort.scanUp (fun x=>!Sort.ltInt d[a]! x) d j i:Nat):Int)):=
 yE (p:=fun x=>!Sort.ltInt d[a]! x) (fun i hi=>by
  unfold ov
  rw[decide_eq_true (p:=(i:Int)<=(j:Int)) aa,cz (show i<d.size by omega),cz b,show IntKind.i64.wrap ((i:Int)+1)=((i+1:Nat):Int) from bV aa aa]
  simp only[cond,ai,ig]
  cases Sort.ltInt d[a]! d[i]!<;>rfl) (fun i hi=>by
  unfold ov
  rw[decide_eq_false (p:=(i:Int)<=(j:Int)) aa]
  rfl) _ i n rfl aa
theorem Lr {d:Array Int}{a i:Nat}(c:1<=i)(e:a<d.size)(hd:d.size<=1000000)(j n:Nat)(g:j<d.size)(hn:j<n):
  aQ (ow (a:Int) d.toList (i:Int)) n (j:Int)=some (.nx ((Sort.scanDown (fun x=>Sort.ltInt d[a]! x) d i j:Nat):Int)):=
 yF (p:=fun x=>Sort.ltInt d[a]! x) c j n (fun b f hi=>by
  unfold ow
  rw[decide_eq_true (p:=(i:Int)<=(b:Int)) aa,cz (show b<d.size by omega),cz e,show IntKind.i64.wrap ((b:Int) - 1)=((b - 1:Nat):Int) from bV aa aa]
  simp only[cond,ai,ig]
  cases Sort.ltInt d[a]! d[b]!<;>rfl) (fun b f=>by
  unfold ow
  rw[decide_eq_false (p:=(i:Int)<=(b:Int)) aa]
  rfl) hn
theorem Ls (a:Nat):∀(k i j:Nat) (d:Array Int),j+1 - i=k->(Sort.partEqLoop Sort.ltInt a i j d).2.size=d.size:=by
 intro k
 induction k using Nat.strongRecOn with
 |_ k ih=>
  intro i j d c;unfold Sort.partEqLoop;simp only;generalize Sort.scanUp (fun x=>!Sort.ltInt d[a]! x) d j i=i2 at*;generalize Sort.scanDown (fun x=>Sort.ltInt d[a]! x) d i2 j=b at*;split
  .rfl
  .split
   .rename_i h;exact (ih (b - 1+1 - (i2+1)) aa (i2+1) (b - 1) (Sort.swp d i2 b) rfl).trans (swp_size _ _ _)
   .rfl
theorem Lu {a:Nat}:∀(k i j n:Nat) (d:Array Int),j+1 - i=k->a<i->a<d.size->j<d.size->d.size<=1000000->k<n->∃s:Int,
  aQ (k5 (a:Int)) n ((i:Int),(j:Int),d.toList)=some (.nx (((Sort.partEqLoop Sort.ltInt a i j d).1:Int),s,(Sort.partEqLoop Sort.ltInt a i j d).2.toList)):=by
 intro k
 induction k using Nat.strongRecOn with
 |_ k ih=>
  intro i j n d o p c e hd hn
  obtain ⟨n,rfl⟩:∃m,n=m+1:=⟨n - 1,aa⟩
  rw[dZ]
  unfold Sort.partEqLoop
  obtain ⟨q,r⟩:=m6 (fun x=>!Sort.ltInt d[a]! x) d j _ i rfl
  have t:=scanDown_le (fun x=>Sort.ltInt d[a]! x) d (Sort.scanUp (fun x=>!Sort.ltInt d[a]! x) d j i) j
  have e1:=Lq (d:=d) (a:=a) (j:=j) c e hd i fu (by unfold fu;omega)
  have e2:=Lr (d:=d) (a:=a) (i:=Sort.scanUp (fun x=>!Sort.ltInt d[a]! x) d j i) aa c hd j fu e (by unfold fu;omega)
  simp only
  generalize Sort.scanUp (fun x=>!Sort.ltInt d[a]! x) d j i=i2 at*
  generalize Sort.scanDown (fun x=>Sort.ltInt d[a]! x) d i2 j=b at*
  by_cases f:i2>b
  .have hb:k5 (a:Int) ((i:Int),(j:Int),d.toList)=some (.bk ((i2:Int),(b:Int),d.toList)):=by
    unfold k5
    simp only[e1,e2,ai,az,show decide ((b:Int)<(i2:Int))=true from decide_eq_true aa,cond]
   rw[hb,if_pos f]
   exact ⟨_,rfl⟩
  .have g:b<d.size:=aa
   have h:i2<d.size:=aa
   obtain ⟨z,l⟩:=fU (d:=d) (i:=i2) (j:=b) d[b]! g
   have hb:k5 (a:Int) ((i:Int),(j:Int),d.toList)=some (.nx (((i2+1:Nat):Int),((b - 1:Nat):Int),(Sort.swp d i2 b).toList)):=by
    unfold k5
    simp only[e1,e2,ai,az,show decide ((b:Int)<(i2:Int))=false from decide_eq_false aa,cond,cz g,cz h,Int.toNat_natCast,l,fV,show IntKind.i64.wrap ((i2:Int)+1)=((i2+1:Nat):Int) from bV aa aa,show IntKind.i64.wrap ((b:Int) - 1)=((b - 1:Nat):Int) from bV aa aa]
   rw[hb,if_neg f,dif_pos aa]
   exact ih (b - 1+1 - (i2+1)) aa (i2+1) (b - 1) n _ rfl aa (by rw[swp_size];omega) (by rw[swp_size];omega) (by rw[swp_size];omega) aa
theorem Lv {d:Array Int}{a b pivot:Nat}:(Sort.partitionEqual Sort.ltInt d a b pivot).2.size=d.size:=(Ls a _ _ _ _ rfl).trans (swp_size _ _ _)
theorem Lx {d:Array Int}{a b pivot:Nat}(h:a<=pivot)(k:pivot<b)(hb:b<=d.size)(hd:d.size<=1000000):
  oz d.toList (a:Int) (b:Int) (pivot:Int)=some (((Sort.partitionEqual Sort.ltInt d a b pivot).1:Int),(Sort.partitionEqual Sort.ltInt d a b pivot).2.toList):=by
 have f:a<d.size:=aa
 have c:pivot<d.size:=aa
 obtain ⟨l,g⟩:=fU (d:=d) (i:=a) (j:=pivot) d[pivot]! c
 have m:=swp_size d a pivot
 obtain ⟨s,e⟩:=Lu (a:=a) _ (a+1) (b - 1) fu (Sort.swp d a pivot) rfl aa aa aa aa (by unfold fu;omega)
 unfold oz Sort.partitionEqual
 rw[iY aa]
 simp only[cond,cz c,cz f,ai,Int.toNat_natCast,g,fV,show IntKind.i64.wrap ((a:Int)+1)=((a+1:Nat):Int) from bV aa aa,show IntKind.i64.wrap ((b:Int) - 1)=((b - 1:Nat):Int) from bV aa aa,e,az]
theorem Da (d:Array Int)(b:Nat):∀(k i:Nat),b - i=k->i<=Sort.scanSorted Sort.ltInt d b i/\(i<=b->Sort.scanSorted Sort.ltInt d b i<=b)
 |0,i,a=>by
  unfold Sort.scanSorted
  rw[if_neg (by simp;omega)]
  exact ⟨Nat.le_refl _,fun h=>h⟩
 |k+1,i,a=>by
  unfold Sort.scanSorted
  split
  .obtain ⟨e,c⟩:=Da d b k (i+1) aa
   exact ⟨aa,fun _=>c aa⟩
  .exact ⟨Nat.le_refl _,fun h=>h⟩
theorem Db {d:Array Int}{b:Nat}(hb:b<=d.size)(hd:d.size<=1000000):∀(k i n:Nat),b - i=k->1<=i->k<n->aQ (mA (b:Int) d.toList) n (i:Int)=some (.nx ((Sort.scanSorted Sort.ltInt d b i:Nat):Int))
 |0,i,n,a,c,hn=>by
  obtain ⟨n,rfl⟩:∃m,n=m+1:=⟨n - 1,aa⟩
  rw[dZ]
  unfold mA Sort.scanSorted
  rw[decide_eq_false (p:=(i:Int)<(b:Int)) aa,if_neg (by simp;omega)]
  rfl
 |k+1,i,n,a,c,hn=>by
  obtain ⟨n,rfl⟩:∃m,n=m+1:=⟨n - 1,aa⟩
  rw[dZ]
  have e:mA (b:Int) d.toList (i:Int)=some (if !Sort.ltInt d[i]! d[i - 1]! then .nx ((i+1:Nat):Int) else .bk (i:Int)):=by
   unfold mA
   rw[decide_eq_true (p:=(i:Int)<(b:Int)) aa,show IntKind.i64.wrap ((i:Int) - 1)=((i - 1:Nat):Int) from bV aa aa,show IntKind.i64.wrap ((i:Int)+1)=((i+1:Nat):Int) from bV aa aa,cz (show i<d.size by omega),cz (show i - 1<d.size by omega)]
   simp only[cond,ai,ig]
   cases Sort.ltInt d[i]! d[i - 1]!<;>rfl
  rw[e]
  unfold Sort.scanSorted
  cases f:Sort.ltInt d[i]! d[i - 1]!
  .simp only[Bool.not_false,Bool.and_true,decide_eq_true_eq,if_true,ai,eX,if_pos (show i<b by omega)]
   exact Db hb hd k (i+1) n aa aa aa
  .simp only[Bool.not_true,Bool.and_false,Bool.false_eq_true,if_false,ai,eX]
theorem Dc:∀(j:Nat) (d:Array Int),(Sort.shiftDown Sort.ltInt j d).size=d.size
 |0,_=>rfl
 |j+1,d=>by
  unfold Sort.shiftDown
  split
  .rfl
  .rw[Dc j,swp_size]
theorem Dd (b:Nat):∀(k j:Nat) (d:Array Int),b - j=k->(Sort.shiftUp Sort.ltInt b j d).size=d.size
 |0,j,d,a=>by
  unfold Sort.shiftUp
  rw[if_neg aa]
 |k+1,j,d,a=>by
  unfold Sort.shiftUp
  rw[if_pos aa]
  split
  .rfl
  .rw[Dd b k (j+1) _ aa,swp_size]
theorem De:∀(j n:Nat) (d:Array Int),j<d.size->d.size<=1000000->j<n->∃s:Int,aQ (mB) n ((j:Int),d.toList)=some (.nx (s,(Sort.shiftDown Sort.ltInt j d).toList))
 |0,n,d,a,hd,hn=>by
  obtain ⟨n,rfl⟩:∃m,n=m+1:=⟨n - 1,aa⟩
  rw[dZ]
  unfold mB
  rw[decide_eq_false (p:=(1:Int)<=((0:Nat):Int)) aa]
  exact ⟨_,rfl⟩
 |j+1,n,d,a,hd,hn=>by
  obtain ⟨n,rfl⟩:∃m,n=m+1:=⟨n - 1,aa⟩
  rw[dZ]
  obtain ⟨z,b⟩:=fU (d:=d) (i:=j+1) (j:=j) d[j]! aa
  have hb:mB (((j+1:Nat):Int),d.toList)=some (if Sort.ltInt d[j+1]! d[j]! then .nx ((j:Int),(Sort.swp d (j+1) j).toList) else .bk (((j+1:Nat):Int),d.toList)):=by
   unfold mB
   rw[decide_eq_true (p:=(1:Int)<=((j+1:Nat):Int)) aa,show IntKind.i64.wrap (((j+1:Nat):Int) - 1)=(j:Int) from bV aa aa]
   simp only[cond,cz a,cz (show j<d.size by omega),ai,ig,Int.toNat_natCast,b,fV]
   cases Sort.ltInt d[j+1]! d[j]!<;>rfl
  rw[hb]
  unfold Sort.shiftDown
  cases c:Sort.ltInt d[j+1]! d[j]!
  .exact ⟨_,rfl⟩
  .simp only[if_true,ai,eX,Bool.not_true,Bool.false_eq_true,if_false]
   exact De j n _ (by rw[swp_size];omega) (by rw[swp_size];omega) aa
theorem Df {b:Nat}:∀(k j n:Nat) (d:Array Int),b - j=k->1<=j->b<=d.size->d.size<=1000000->k<n->∃s:Int,aQ (mC (b:Int)) n ((j:Int),d.toList)=some (.nx (s,(Sort.shiftUp Sort.ltInt b j d).toList))
 |0,j,n,d,a,c,hb,hd,hn=>by
  obtain ⟨n,rfl⟩:∃m,n=m+1:=⟨n - 1,aa⟩
  rw[dZ]
  unfold mC Sort.shiftUp
  rw[decide_eq_false (p:=(j:Int)<(b:Int)) aa,if_neg aa]
  exact ⟨_,rfl⟩
 |k+1,j,n,d,a,c,hb,hd,hn=>by
  obtain ⟨n,rfl⟩:∃m,n=m+1:=⟨n - 1,aa⟩
  rw[dZ]
  obtain ⟨z,e⟩:=fU (d:=d) (i:=j) (j:=j - 1) d[j - 1]! aa
  have f:mC (b:Int) ((j:Int),d.toList)=some (if Sort.ltInt d[j]! d[j - 1]! then .nx (((j+1:Nat):Int),(Sort.swp d j (j - 1)).toList) else .bk ((j:Int),d.toList)):=by
   unfold mC
   rw[decide_eq_true (p:=(j:Int)<(b:Int)) aa,show IntKind.i64.wrap ((j:Int) - 1)=((j - 1:Nat):Int) from bV aa aa,show IntKind.i64.wrap ((j:Int)+1)=((j+1:Nat):Int) from bV aa aa]
   simp only[cond,cz (show j<d.size by omega),cz (show j - 1<d.size by omega),ai,ig,Int.toNat_natCast,e,fV]
   cases Sort.ltInt d[j]! d[j - 1]!<;>rfl
  rw[f]
  unfold Sort.shiftUp
  rw[if_pos (show j<b by omega)]
  cases g:Sort.ltInt d[j]! d[j - 1]!
  .exact ⟨_,rfl⟩
  .simp only[if_true,ai,eX,Bool.not_true,Bool.false_eq_true,if_false]
   exact Df k (j+1) n _ aa aa (by rw[swp_size];omega) (by rw[swp_size];omega) aa
theorem Dg {a b:Nat}:∀(s i n:Nat) (d:Array Int),s<=5->a<i->i<=b->b<=d.size->d.size<=1000000->s<n->(Sort.partialIns Sort.ltInt a b s i d).1.size=d.size/\∃o,aQ (jo (a:Int) (b:Int)) n (false,(i:Int),((5 - s:Nat):Int),d.toList)=some o/\
   (o= .rt ((Sort.partialIns Sort.ltInt a b s i d).2,(Sort.partialIns Sort.ltInt a b s i d).1.toList)\/((Sort.partialIns Sort.ltInt a b s i d).2=false/\∃x y:Int,o= .nx (false,x,y,(Sort.partialIns Sort.ltInt a b s i d).1.toList)))
 |0,i,n,d,hs,A,h,hb,hd,hn=>by
  obtain ⟨n,rfl⟩:∃m,n=m+1:=⟨n - 1,aa⟩
  rw[dZ]
  unfold jo
  rw[decide_eq_false (p:=((5 - 0:Nat):Int)<5) aa]
  exact ⟨rfl,_,rfl,.inr ⟨rfl,_,_,rfl⟩⟩
 |s+1,i,n,d,hs,A,h,hb,hd,hn=>by
  obtain ⟨n,rfl⟩:∃m,n=m+1:=⟨n - 1,aa⟩
  rw[dZ]
  have e1:=Db hb hd _ i fu rfl aa (by unfold fu;omega)
  obtain ⟨N,g⟩:=Da d b _ i rfl
  replace g:=g h
  unfold Sort.partialIns
  simp only
  have ws:IntKind.i64.wrap (((5 - (s+1):Nat):Int)+1)=((5 - s:Nat):Int):=bV aa aa
  generalize Sort.scanSorted Sort.ltInt d b i=i2 at*
  by_cases k:i2=b
  .have c:jo (a:Int) (b:Int) (false,(i:Int),((5 - (s+1):Nat):Int),d.toList)=some (.rt (true,d.toList)):=by
    unfold jo
    rw[decide_eq_true (p:=((5 - (s+1):Nat):Int)<5) aa]
    simp only[cond,e1,ai,az,show (((i2:Nat):Int)==(b:Int))=true by simp;omega]
   rw[c,if_pos k]
   exact ⟨rfl,_,rfl,.inl rfl⟩
  rw[if_neg k]
  have l:(((i2:Nat):Int)==(b:Int))=false:=by simp;omega
  have q:IntKind.i64.wrap ((b:Int) - (a:Int))=((b - a:Nat):Int):=bV aa aa
  by_cases r:b - a<50
  .have c:jo (a:Int) (b:Int) (false,(i:Int),((5 - (s+1):Nat):Int),d.toList)=some (.rt (false,d.toList)):=by
    unfold jo
    rw[decide_eq_true (p:=((5 - (s+1):Nat):Int)<5) aa]
    simp only[cond,e1,ai,az,l,q,show decide (((b - a:Nat):Int)<50)=true from decide_eq_true aa]
   rw[c,if_pos r]
   exact ⟨rfl,_,rfl,.inl rfl⟩
  rw[if_neg r]
  have B:i2<d.size:=aa
  have t:i2 - 1<d.size:=aa
  obtain ⟨z,C⟩:=fU (d:=d) (i:=i2) (j:=i2 - 1) d[i2 - 1]! t
  have u:=swp_size d i2 (i2 - 1)
  have E:IntKind.i64.wrap ((i2:Int) - 1)=((i2 - 1:Nat):Int):=bV aa aa
  have F:IntKind.i64.wrap ((i2:Int)+1)=((i2+1:Nat):Int):=bV aa aa
  have G:IntKind.i64.wrap ((i2:Int) - (a:Int))=((i2 - a:Nat):Int):=bV aa aa
  have H:IntKind.i64.wrap ((b:Int) - (i2:Int))=((b - i2:Nat):Int):=bV aa aa
  obtain ⟨s1,e2⟩:=De (i2 - 1) fu (Sort.swp d i2 (i2 - 1)) aa aa (by unfold fu;omega)
  have v:(if i2 - a≥2 then Sort.shiftDown Sort.ltInt (i2 - 1) (Sort.swp d i2 (i2 - 1)) else Sort.swp d i2 (i2 - 1)).size=d.size:=by
   split
   .rw[Dc,u]
   .exact u
  generalize I:(if i2 - a≥2 then Sort.shiftDown Sort.ltInt (i2 - 1) (Sort.swp d i2 (i2 - 1)) else Sort.swp d i2 (i2 - 1))=D at*
  obtain ⟨s2,e3⟩:=Df (b:=b) _ (i2+1) fu D rfl aa aa aa (by unfold fu;omega)
  have J:(if b - i2≥2 then Sort.shiftUp Sort.ltInt b (i2+1) D else D).size=d.size:=by
   split
   .rw[Dd b _ _ _ rfl,v]
   .exact v
  have c:jo (a:Int) (b:Int) (false,(i:Int),((5 - (s+1):Nat):Int),d.toList)=some (.nx (false,(i2:Int),((5 - s:Nat):Int),(if b - i2≥2 then Sort.shiftUp Sort.ltInt b (i2+1) D else D).toList)):=by
   unfold jo
   rw[decide_eq_true (p:=((5 - (s+1):Nat):Int)<5) aa]
   simp only[cond,e1,ai,az,l,q,show decide (((b - a:Nat):Int)<50)=false from decide_eq_false aa,E,F,G,H,cz t,cz B,Int.toNat_natCast,C,fV]
   have f:D.toList=(if i2 - a≥2 then (Sort.shiftDown Sort.ltInt (i2 - 1) (Sort.swp d i2 (i2 - 1))).toList else (Sort.swp d i2 (i2 - 1)).toList):=by
    rw[<-I];split<;>rfl
   by_cases w:i2 - a≥2
   .rw[if_pos w] at f
    rw[<-f] at e2
    simp only[show decide ((2:Int)<=((i2 - a:Nat):Int))=true from decide_eq_true aa,e2]
    by_cases e:b - i2≥2
    .simp only[show decide ((2:Int)<=((b - i2:Nat):Int))=true from decide_eq_true aa,e3,ws,if_pos e]
    .simp only[show decide ((2:Int)<=((b - i2:Nat):Int))=false from decide_eq_false aa,ws,if_neg e]
   .rw[if_neg w] at f
    simp only[show decide ((2:Int)<=((i2 - a:Nat):Int))=false from decide_eq_false aa,<-f]
    by_cases e:b - i2≥2
    .simp only[show decide ((2:Int)<=((b - i2:Nat):Int))=true from decide_eq_true aa,e3,ws,if_pos e]
    .simp only[show decide ((2:Int)<=((b - i2:Nat):Int))=false from decide_eq_false aa,ws,if_neg e]
  rw[c]
  obtain ⟨K,o,L,M⟩:=Dg (a:=a) (b:=b) s i2 n (if b - i2≥2 then Sort.shiftUp Sort.ltInt b (i2+1) D else D) aa aa g aa aa aa
  exact ⟨K.trans J,o,L,M⟩
theorem Ly {d:Array Int}{a b:Nat}(h:a<b)(hb:b<=d.size)(hd:d.size<=1000000):
  oA d.toList (a:Int) (b:Int)=some ((Sort.partialInsertionSort Sort.ltInt d a b).2,(Sort.partialInsertionSort Sort.ltInt d a b).1.toList)/\(Sort.partialInsertionSort Sort.ltInt d a b).1.size=d.size:=by
 obtain ⟨e,o,c,f⟩:=Dg (a:=a) (b:=b) 5 (a+1) fu d aa aa aa hb hd (by unfold fu;omega)
 refine ⟨?_,e⟩
 unfold oA Sort.partialInsertionSort
 rw[show (((5 - 5:Nat)):Int)=0 from rfl] at c
 rw[iY aa,show IntKind.i64.wrap ((a:Int)+1)=((a+1:Nat):Int) from bV aa aa,c]
 rcases f with rfl|⟨g,x,y,rfl⟩
 .rfl
 .rw[g];rfl
theorem yG (u:UInt64):BitVec.ofInt 64 ((u.toNat:Nat):Int)=u.toBitVec:=by
 rw[BitVec.ofInt_natCast];exact BitVec.eq_of_toNat_eq an
theorem Dh (n:Nat)(h:n<18446744073709551616):IntKind.u64.wrap ((n:Nat):Int)=(n:Int):=mL aa
theorem yH (u v:UInt64):gI ((u.toNat:Nat):Int) ((v.toNat:Nat):Int)=(((u ^^^ v).toNat:Nat):Int):=by
 unfold gI;rw[yG,yG];have:(u.toBitVec ^^^ v.toBitVec).toNat=(u ^^^ v).toNat:=rfl;rw[this];exact Dh _ (UInt64.toNat_lt _)
theorem Lz (u:UInt64)(m:Nat)(hm:m<18446744073709551616):fE ((u.toNat:Nat):Int) ((m:Nat):Int)=((u.toNat&&& m:Nat):Int):=by
 unfold fE;rw[yG,BitVec.ofInt_natCast];have:(u.toBitVec&&& BitVec.ofNat 64 m).toNat=u.toNat&&& m:=by
  rw[BitVec.toNat_and,BitVec.toNat_ofNat,Nat.mod_eq_of_lt (by simpa using hm)];rfl
 rw[this];have a:u.toNat&&& m<=m:=Nat.and_le_right;exact Dh _ aa
theorem Di (u:UInt64)(k:Nat)(c:k<64):iO ((u.toNat:Nat):Int) (k:Int)=some (((u<<<(UInt64.ofNat k)).toNat:Nat):Int):=by
 unfold iO;rw[if_neg aa];congr 1;have e:min (k:Int).toNat IntKind.u64.bits=k:=by simp[IntKind.bits];omega
 rw[e,UInt64.toNat_shiftLeft];have b:(UInt64.ofNat k).toNat % 64=k:=by
  rw[UInt64.toNat_ofNat',Nat.mod_eq_of_lt (a:=k) aa];omega
 rw[b,Nat.shiftLeft_eq];unfold IntKind.wrap;simp[IntKind.bits,IntKind.signed]
theorem LA (u:UInt64)(k:Nat)(c:k<64):kP ((u.toNat:Nat):Int) (k:Int)=some (((u>>>(UInt64.ofNat k)).toNat:Nat):Int):=by
 unfold kP;rw[if_neg aa];congr 1;have e:min (k:Int).toNat IntKind.u64.bits=k:=by simp[IntKind.bits];omega
 rw[e,UInt64.toNat_shiftRight];have b:(UInt64.ofNat k).toNat % 64=k:=by
  rw[UInt64.toNat_ofNat',Nat.mod_eq_of_lt (a:=k) aa];omega
 rw[b,Nat.shiftRight_eq_div_pow];rw[Int.fdiv_eq_ediv_of_nonneg _ (Int.le_of_lt (Int.pow_pos aa))];rw[show (2:Int) ^ k=((2 ^ k:Nat):Int) by rw[Int.natCast_pow];rfl,Int.natCast_ediv]
theorem LB (u:UInt64):qI ((u.toNat:Nat):Int)=some ((((Sort.xorNext u).toNat:Nat):Int),(((Sort.xorNext u).toNat:Nat):Int)):=by
 unfold qI Sort.xorNext;have s1:=Di u 13 aa;rw[show ((13:Nat):Int)=13 from rfl] at s1;simp only[s1,ai,yH];have s2:=LA (u ^^^ u<<<UInt64.ofNat 13) 7 aa;rw[show ((7:Nat):Int)=7 from rfl] at s2;simp only[s2,yH];have a:=Di ((u ^^^ u<<<UInt64.ofNat 13) ^^^ (u ^^^ u<<<UInt64.ofNat 13)>>>UInt64.ofNat 7) 17 aa;rw[show ((17:Nat):Int)=17 from rfl] at a;simp only[a,yH];rfl
theorem yI {a b m q:Nat}{d:Array Int}(s:a<=b)(hb:b<=d.size)(hd:d.size<=60000)(hm:m<1000000)(t:1<=m)(hlen:m<=2*(b - a))(i:Nat)(hi:a<=i/\i<b)(v:i<=a+q*2+1)(w:q<=60000)(u:UInt64):
  kY (a:Int) (b:Int) (m:Int) (q:Int) ((i:Int),d.toList,((u.toNat:Nat):Int))=some (.nx (((i+1:Nat):Int),(Sort.breakStep a (b - a) m (u,d) i).2.toList,(((Sort.breakStep a (b - a) m (u,d) i).1.toNat:Nat):Int)))/\(Sort.breakStep a (b - a) m (u,d) i).2.size=d.size:=by
 have w1:IntKind.i64.wrap ((q:Int)*2)=((q*2:Nat):Int):=bV aa aa
 have w2:IntKind.i64.wrap ((a:Int)+((q*2:Nat):Int))=((a+q*2:Nat):Int):=bV aa aa
 have w3:IntKind.i64.wrap (((a+q*2:Nat):Int)+1)=((a+q*2+1:Nat):Int):=bV aa aa
 have w4:IntKind.i64.wrap ((b:Int) - (a:Int))=((b - a:Nat):Int):=bV aa aa
 have k:IntKind.u64.wrap ((m:Int) - 1)=((m - 1:Nat):Int):=by rw[mL aa];omega
 have hand:(Sort.xorNext u).toNat&&& (m - 1)<=m - 1:=Nat.and_le_right
 have e2:=Lz (Sort.xorNext u) (m - 1) aa
 have l:IntKind.i64.wrap ((((Sort.xorNext u).toNat&&& (m - 1):Nat)):Int)=(((Sort.xorNext u).toNat&&& (m - 1):Nat):Int):=bV rfl aa
 have n:(Sort.breakStep a (b - a) m (u,d) i)=(Sort.xorNext u,Sort.swp d i (a+(if (Sort.xorNext u).toNat&&& (m - 1)≥b - a then ((Sort.xorNext u).toNat&&& (m - 1)) - (b - a) else (Sort.xorNext u).toNat&&& (m - 1)))):=rfl
 have o:IntKind.i64.wrap ((i:Int)+1)=((i+1:Nat):Int):=bV aa aa
 rw[n]
 refine ⟨?_,swp_size _ _ _⟩
 unfold kY
 generalize (Sort.xorNext u).toNat&&& (m - 1)=r at*
 simp only[w1,w2,w3,show decide ((i:Int)<=((a+q*2+1:Nat):Int))=true from decide_eq_true aa,cond,LB,ai,w4,k,e2,l,o]
 have g:i<d.size:=aa
 by_cases h:r≥b - a
 .have p:IntKind.i64.wrap (((r:Nat):Int) - ((b - a:Nat):Int))=((r - (b - a):Nat):Int):=bV aa aa
  have e:IntKind.i64.wrap ((a:Int)+((r - (b - a):Nat):Int))=((a+(r - (b - a)):Nat):Int):=bV aa aa
  have c:a+(r - (b - a))<d.size:=aa
  obtain ⟨z,f⟩:=fU (d:=d) (i:=i) (j:=a+(r - (b - a))) d[a+(r - (b - a))]! c
  simp only[show decide (((b - a:Nat):Int)<=((r:Nat):Int))=true from decide_eq_true aa,p,az,e,cz c,cz g,Int.toNat_natCast,f,fV,if_pos h]
 .have e:IntKind.i64.wrap ((a:Int)+((r:Nat):Int))=((a+r:Nat):Int):=bV aa aa
  have c:a+r<d.size:=aa
  obtain ⟨z,f⟩:=fU (d:=d) (i:=i) (j:=a+r) d[a+r]! c
  simp only[show decide (((b - a:Nat):Int)<=((r:Nat):Int))=false from decide_eq_false aa,az,e,cz c,cz g,Int.toNat_natCast,f,fV,if_neg h]
theorem Dj {n:Nat}(a:n≠0):2 ^ Sort.bitsLen n<=2*n/\1<=2 ^ Sort.bitsLen n:=by
 unfold Sort.bitsLen;rw[if_neg a,Nat.pow_succ];have:=Nat.log2_self_le a;exact ⟨aa,by have:=Nat.one_le_two_pow (n:=n.log2);omega⟩
theorem LC {d:Array Int}{a b:Nat}(g:d.size≠0)(c:a<=b)(hb:b<=d.size)(hd:d.size<=60000):ou d.toList (a:Int) (b:Int)=some ((),(Sort.breakPatterns d a b).toList)/\(Sort.breakPatterns d a b).size=d.size:=by
 unfold ou Sort.breakPatterns;have w4:IntKind.i64.wrap ((b:Int) - (a:Int))=((b - a:Nat):Int):=bV aa aa;rw[iY g,w4];simp only[cond];by_cases f:b - a≥8
 .rw[decide_eq_true (p:=(8:Int)<=((b - a:Nat):Int)) aa,if_pos f];obtain ⟨s,p2⟩:=Dj (n:=b - a) aa;have i:(1<<<Sort.bitsLen (b - a):Nat)=2 ^ Sort.bitsLen (b - a):=by rw[Nat.shiftLeft_eq,Nat.one_mul]
  have j:qJ ((b - a:Nat):Int)=some ((2 ^ Sort.bitsLen (b - a):Nat):Int):=by
   unfold qJ jP;rw[mL (show 0<=((b - a:Nat):Int)/\((b - a:Nat):Int)<18446744073709551616 by omega),if_pos aa];simp only[ai,Int.toNat_natCast];have k:e8 (b - a)=Sort.bitsLen (b - a):=rfl;rw[k];unfold iO;rw[if_neg aa,Int.toNat_natCast,Int.one_mul];have t:Sort.bitsLen (b - a)<=17:=by
    rcases Nat.lt_or_ge 17 (Sort.bitsLen (b - a)) with h|h
    .have:=Nat.pow_lt_pow_right (a:=2) aa h;have u:(2:Nat) ^ 17=131072:=aL;omega
    .exact h
   have e:min (Sort.bitsLen (b - a)) IntKind.u64.bits=Sort.bitsLen (b - a):=by simp[IntKind.bits];omega
   rw[e,show (2:Int) ^ Sort.bitsLen (b - a)=((2 ^ Sort.bitsLen (b - a):Nat):Int) by rw[Int.natCast_pow];rfl,mL aa]
  have q:gR ((b - a:Nat):Int) 4=some ((((b - a)/4:Nat)):Int):=by
   unfold gR;rw[if_neg aa,Int.tdiv_eq_ediv_of_nonneg aa,wr aa];congr 1
  have w1:IntKind.i64.wrap ((((b - a)/4:Nat):Int)*2)=(((b - a)/4*2:Nat):Int):=bV aa aa;have w2:IntKind.i64.wrap ((a:Int)+(((b - a)/4*2:Nat):Int))=((a+(b - a)/4*2:Nat):Int):=bV aa aa;have w3:IntKind.i64.wrap (((a+(b - a)/4*2:Nat):Int) - 1)=((a+(b - a)/4*2 - 1:Nat):Int):=bV aa aa;have l:IntKind.u64.wrap ((b - a:Nat):Int)=(((UInt64.ofNat (b - a)).toNat:Nat):Int):=by
   rw[mL aa,UInt64.toNat_ofNat',Nat.mod_eq_of_lt aa]
  simp only[j,q,ai,w1,w2,w3,l];rw[i];generalize hm:2 ^ Sort.bitsLen (b - a)=m at*;generalize v:a+(b - a)/4*2 - 1=i0 at*;obtain ⟨s1,w⟩:=yI (a:=a) (b:=b) (m:=m) (q:=(b - a)/4) (d:=d) c hb hd aa aa aa i0 aa aa aa (UInt64.ofNat (b - a));generalize Sort.breakStep a (b - a) m (UInt64.ofNat (b - a),d) i0=r1 at*;obtain ⟨s2,x⟩:=yI (a:=a) (b:=b) (m:=m) (q:=(b - a)/4) (d:=r1.2) c aa aa aa aa aa (i0+1) aa aa aa r1.1;generalize Sort.breakStep a (b - a) m (r1.1,r1.2) (i0+1)=r2 at*;obtain ⟨o,y⟩:=yI (a:=a) (b:=b) (m:=m) (q:=(b - a)/4) (d:=r2.2) c aa aa aa aa aa (i0+2) aa aa aa r2.1;generalize Sort.breakStep a (b - a) m (r2.1,r2.2) (i0+2)=r3 at*;have key:aQ (kY (a:Int) (b:Int) (m:Int) (((b - a)/4:Nat):Int)) fu ((i0:Int),d.toList,(((UInt64.ofNat (b - a)).toNat:Nat):Int))=some (.nx (((i0+3:Nat):Int),r3.2.toList,((r3.1.toNat:Nat):Int))):=by
   obtain ⟨n,r⟩:∃n,fu=n+1+1+1+1:=⟨999999999999999996,rfl⟩
   rw[r,dZ,s1];simp only[ai,eX];rw[dZ,s2];simp only[ai,eX];rw[dZ,show i0+1+1=i0+2 from rfl,o];simp only[ai,eX];rw[dZ];have:kY (a:Int) (b:Int) (m:Int) (((b - a)/4:Nat):Int) (((i0+2+1:Nat):Int),r3.2.toList,((r3.1.toNat:Nat):Int))=some (.bk (((i0+2+1:Nat):Int),r3.2.toList,((r3.1.toNat:Nat):Int))):=by
    unfold kY;simp only[w1,w2,show IntKind.i64.wrap (((a+(b - a)/4*2:Nat):Int)+1)=((a+(b - a)/4*2+1:Nat):Int) from bV aa aa,show decide (((i0+2+1:Nat):Int)<=((a+(b - a)/4*2+1:Nat):Int))=false from decide_eq_false aa,cond]
   rw[this];rfl
  exact ⟨by rw[key];rfl,aa⟩
 .rw[decide_eq_false (p:=(8:Int)<=((b - a:Nat):Int)) aa,if_neg f];exact ⟨rfl,rfl⟩
theorem LD (a:Nat):∀(k i j:Nat) (d:Array Int),j+1 - i=k->i<=(Sort.partEqLoop Sort.ltInt a i j d).1/\((Sort.partEqLoop Sort.ltInt a i j d).1<=j+1\/(Sort.partEqLoop Sort.ltInt a i j d).1=i):=by
 intro k
 induction k using Nat.strongRecOn with
 |_ k ih=>
  intro i j d g;unfold Sort.partEqLoop;obtain ⟨c,e⟩:=m6 (fun x=>!Sort.ltInt d[a]! x) d j _ i rfl;have l:=scanDown_le (fun x=>Sort.ltInt d[a]! x) d (Sort.scanUp (fun x=>!Sort.ltInt d[a]! x) d j i) j;simp only;generalize Sort.scanUp (fun x=>!Sort.ltInt d[a]! x) d j i=i2 at*;generalize Sort.scanDown (fun x=>Sort.ltInt d[a]! x) d i2 j=b at*;split
  .exact ⟨c,e⟩
  .split
   .rename_i h;obtain ⟨m,f⟩:=ih (b - 1+1 - (i2+1)) aa (i2+1) (b - 1) (Sort.swp d i2 b) rfl;exact ⟨aa,.inl (by rcases f with h|h<;>omega)⟩
   .exact ⟨c,e⟩
theorem LF {d:Array Int}{a b pivot:Nat}(e:a<b):a<(Sort.partitionEqual Sort.ltInt d a b pivot).1/\(Sort.partitionEqual Sort.ltInt d a b pivot).1<=b:=by
 obtain ⟨f,c⟩:=LD a _ (a+1) (b - 1) (Sort.swp d a pivot) rfl;unfold Sort.partitionEqual;exact ⟨aa,by rcases c with h|h<;>omega⟩
theorem yJ (p:Int->Bool)(d:Array Int)(i:Nat):∀j:Nat,i - 1<=Sort.scanDown p d i j\/j<=Sort.scanDown p d i j
 |0=>.inr (Nat.zero_le _)
 |j+1=>by
  unfold Sort.scanDown
  by_cases h:i<=j+1
  .split
   .rcases yJ p d i j with h'|h'
    .exact .inl h'
    .exact .inl aa
   .exact .inr (Nat.le_refl _)
  .rw[if_neg (by simp;omega)]
   exact .inr (Nat.le_refl _)
theorem LG (a:Nat):∀(k i j:Nat) (d:Array Int),j+1 - i=k->a<i->a<=j->a<=(Sort.partLoop Sort.ltInt a i j d).1:=by
 intro k
 induction k using Nat.strongRecOn with
 |_ k ih=>
  intro i j d e f g;unfold Sort.partLoop;obtain ⟨l,m⟩:=m6 (fun x=>Sort.ltInt x d[a]!) d j _ i rfl;have c:=yJ (fun x=>!Sort.ltInt x d[a]!) d (Sort.scanUp (fun x=>Sort.ltInt x d[a]!) d j i) j;simp only;generalize Sort.scanUp (fun x=>Sort.ltInt x d[a]!) d j i=i2 at*;generalize Sort.scanDown (fun x=>!Sort.ltInt x d[a]!) d i2 j=b at*;split
  .rcases c with h|h<;>omega
  .split
   .rename_i h;exact ih (b - 1+1 - (i2+1)) aa (i2+1) (b - 1) (Sort.swp d i2 b) rfl aa aa
   .rcases c with h|h<;>omega
theorem LH {d:Array Int}{a b pivot:Nat}(i:a<b):a<=(Sort.partition Sort.ltInt d a b pivot).1/\(Sort.partition Sort.ltInt d a b pivot).1<b/\(Sort.partition Sort.ltInt d a b pivot).2.2.size=d.size:=by
 unfold Sort.partition;simp only;have hs:=swp_size d a pivot;generalize Sort.swp d a pivot=D at*;obtain ⟨j,k⟩:=m6 (fun x=>Sort.ltInt x D[a]!) D (b - 1) _ (a+1) rfl;have l:=scanDown_le (fun x=>!Sort.ltInt x D[a]!) D (Sort.scanUp (fun x=>Sort.ltInt x D[a]!) D (b - 1) (a+1)) (b - 1);have e:=yJ (fun x=>!Sort.ltInt x D[a]!) D (Sort.scanUp (fun x=>Sort.ltInt x D[a]!) D (b - 1) (a+1)) (b - 1);generalize Sort.scanUp (fun x=>Sort.ltInt x D[a]!) D (b - 1) (a+1)=i2 at*;generalize Sort.scanDown (fun x=>!Sort.ltInt x D[a]!) D i2 (b - 1)=c at*;split
 .exact ⟨by rcases e with h|h<;>omega,by simp only;omega,by simp only;rw[swp_size,hs]⟩
 .have f:=LG a _ (i2+1) (c - 1) (Sort.swp D i2 c) rfl aa aa;obtain ⟨g,m⟩:=C9 a _ (i2+1) (c - 1) (Sort.swp D i2 c) rfl;exact ⟨f,by simp only;omega,by simp only;rw[swp_size,g,swp_size,hs]⟩
theorem uk {α β:Type}(x:α)(f:α->Option β):ai (some x) f=f x:=rfl
theorem um {σ ρ τ:Type}(s:σ)(f:σ->Option τ)(g:Nat->σ->Option τ)(h:ρ->Option τ):az (.bk s) f g h=f s:=rfl
theorem LI {σ ρ τ:Type}(k:Nat)(s:σ)(f:σ->Option τ)(g:Nat->σ->Option τ)(h:ρ->Option τ):az (.br k s) f g h=g k s:=rfl
theorem LJ {σ ρ τ:Type}(r:ρ)(f:σ->Option τ)(g:Nat->σ->Option τ)(h:ρ->Option τ):az (.rt r) f g h=h r:=rfl
def Dk (q:List Int->Int->Int->Int->Option (Unit×List Int))(K:Nat):Prop:=
 ∀(d:Array Int) (a b c:Nat),d.size≠0->a<=b->b<=d.size->d.size<=60000->c<=1000->b - a<K->q d.toList (a:Int) (b:Int) (c:Int)=some ((),(Sort.pdq Sort.ltInt d a b c true true).toList)/\(Sort.pdq Sort.ltInt d a b c true true).size=d.size
theorem LK {q:List Int->Int->Int->Int->Option (Unit×List Int)}{K:Nat}(G:Dk q K):∀(k a b h n:Nat) (g wp:Bool) (d:Array Int),b - a=k->d.size≠0->a<=b->b<=d.size->d.size<=60000->h<=1000->(k<=12\/k<=2*K)->k<n->
  aQ (iB q) n ((a:Int),(b:Int),(h:Int),g,wp,d.toList)=some (.rt ((),(Sort.pdq Sort.ltInt d a b h g wp).toList))/\(Sort.pdq Sort.ltInt d a b h g wp).size=d.size:=by
 intro k
 induction k using Nat.strongRecOn with
 |_ k ih=>
  intro a b h n g wp d a7 A H hb hd a8 hK hn
  obtain ⟨n,rfl⟩:∃m,n=m+1:=⟨n - 1,aa⟩
  rw[dZ]
  have l:IntKind.i64.wrap ((b:Int) - (a:Int))=((b - a:Nat):Int):=bV aa aa
  rw[Sort.pdq]
  by_cases I:b - a<=12
  .obtain ⟨e,z⟩:=Lc (d:=d) (a:=a) (b:=b) A hb aa H
   rw[if_pos I]
   refine ⟨?_,z⟩
   unfold iB
   simp only[l,show decide (((b - a:Nat):Int)<=12)=true from decide_eq_true aa,cond,e,ai,eX]
  rw[if_neg I]
  have r:decide (((b - a:Nat):Int)<=12)=false:=decide_eq_false aa
  by_cases B:h=0
  .have e:=Lg (d:=d) (a:=a) (b:=b) A hb aa aa
   rw[if_pos B]
   refine ⟨?_,Lf d a b⟩
   unfold iB
   subst B
   simp only[l,r,cond,show (((0:Nat):Int)==0)=true from rfl,e,ai,eX]
  rw[if_neg B]
  have w:((h:Int)==0)=false:=by simp;omega
  simp only
  obtain ⟨be,T⟩:=LC (d:=d) (a:=a) (b:=b) A H hb hd
  have e1:(cond (!g) (ai (ou d.toList (a:Int) (b:Int)) fun U=>some (.bk ((IntKind.i64.wrap ((h:Int) - 1)),U.2))) (some (.bk ((h:Int),d.toList))):Option (Fl (Int×(List Int)) (Unit×(List Int))))=
    some (.bk (((if (!g)=true then h - 1 else h:Nat):Int),(if (!g)=true then Sort.breakPatterns d a b else d).toList)):=by
   cases g
   .simp only[Bool.not_false,cond,be,ai,if_true,show IntKind.i64.wrap ((h:Int) - 1)=((h - 1:Nat):Int) from bV aa aa]
   .rfl
  have J:(if (!g)=true then Sort.breakPatterns d a b else d).size=d.size:=by split<;>simp[T]
  have s:(if (!g)=true then h - 1 else h)<=1000:=by split<;>omega
  generalize (if (!g)=true then Sort.breakPatterns d a b else d)=d1 at*
  generalize (if (!g)=true then h - 1 else h)=i at*
  have e2:=Lm (d:=d1) (a:=a) (b:=b) aa aa aa aa
  obtain ⟨c1,c2⟩:=Sort.choosePivot_holds Sort.ltInt d1 a b aa
  generalize Sort.choosePivot Sort.ltInt d1 a b=c at*
  have V:=Ll (d:=d1) (a:=a) (b:=b) aa aa aa aa
  have e3:(cond ((kG c.2==2)) (ai (ot d1.toList (a:Int) (b:Int)) fun W=>some (.bk ((IntKind.i64.wrap ((IntKind.i64.wrap ((b:Int) - 1)) - (IntKind.i64.wrap ((c.1:Int) - (a:Int))))),1,W.2))) (some (.bk ((c.1:Int),kG c.2,d1.toList))):Option (Fl (Int×Int×(List Int)) (Unit×(List Int))))=
    some (.bk (((if c.2= .decreasing then (b - 1) - (c.1 - a) else c.1:Nat):Int),kG (if c.2= .decreasing then .increasing else c.2),(if c.2= .decreasing then Sort.reverseRange d1 a b else d1).toList)):=by
   by_cases j:c.2= .decreasing
   .rw[if_pos j,if_pos j,if_pos j,j]
    simp only[show (kG .decreasing==2)=true from rfl,cond,V,ai,show IntKind.i64.wrap ((b:Int) - 1)=((b - 1:Nat):Int) from bV aa aa,show IntKind.i64.wrap ((c.1:Int) - (a:Int))=((c.1 - a:Nat):Int) from bV aa aa,
     show IntKind.i64.wrap (((b - 1:Nat):Int) - ((c.1 - a:Nat):Int))=((b - 1 - (c.1 - a):Nat):Int) from bV aa aa]
    rfl
   .rw[if_neg j,if_neg j,if_neg j]
    have:(kG c.2==2)=false:=by
     cases X:c.2<;>first|rfl|exact absurd X j
    rw[this];rfl
  have L:(if c.2= .decreasing then Sort.reverseRange d1 a b else d1).size=d.size:=by
   split
   .rw[Lj,J]
   .exact J
  have x:a<=(if c.2= .decreasing then (b - 1) - (c.1 - a) else c.1)/\(if c.2= .decreasing then (b - 1) - (c.1 - a) else c.1)<b:=by split<;>omega
  generalize (if c.2= .decreasing then Sort.reverseRange d1 a b else d1)=d2 at*
  generalize (if c.2= .decreasing then (b - 1) - (c.1 - a) else c.1)=pivot at*
  generalize (if c.2= .decreasing then Sort.Hint.increasing else c.2)=hint at*
  obtain ⟨Y,Z⟩:=Ly (d:=d2) (a:=a) (b:=b) aa aa aa
  have o:(cond g (cond wp (cond ((kG hint==1)) (ai (oA d2.toList (a:Int) (b:Int)) fun C=>cond (C.1) (some (.rt ((),C.2))) (some (.bk C.2))) (some (.bk d2.toList))) (some (.bk d2.toList))) (some (.bk d2.toList)):Option (Fl (List Int) (Unit×(List Int))))=
    some (if (if (g&&wp&&decide (hint= .increasing))=true then Sort.partialInsertionSort Sort.ltInt d2 a b else (d2,false)).2=true then .rt ((),(if (g&&wp&&decide (hint= .increasing))=true then Sort.partialInsertionSort Sort.ltInt d2 a b else (d2,false)).1.toList) else .bk (if (g&&wp&&decide (hint= .increasing))=true then Sort.partialInsertionSort Sort.ltInt d2 a b else (d2,false)).1.toList):=by
   have ab:(kG hint==1)=decide (hint= .increasing):=by cases hint<;>rfl
   rw[ab,Y]
   cases g
   .rfl
   cases wp
   .rfl
   cases decide (hint= .increasing)
   .rfl
   simp only[cond,ai,Bool.and_true,if_true]
   cases (Sort.partialInsertionSort Sort.ltInt d2 a b).2<;>rfl
  have ad:(if (g&&wp&&decide (hint= .increasing))=true then Sort.partialInsertionSort Sort.ltInt d2 a b else (d2,false)).1.size=d.size:=by
   split
   .rw[Z,L]
   .exact L
  generalize (if (g&&wp&&decide (hint= .increasing))=true then Sort.partialInsertionSort Sort.ltInt d2 a b else (d2,false))=pi at*
  by_cases y:pi.2=true
  .rw[if_pos y] at o
   rw[if_pos y]
   refine ⟨?_,ad⟩
   unfold iB
   simp only[l,r,w,cond_false,e1,e2,e3,o,uk,um,LJ,eX]
  rw[if_neg y] at o
  rw[if_neg y]
  have M:pivot<pi.1.size:=aa
  by_cases t:(decide (a>0)&&!Sort.ltInt pi.1[a - 1]! pi.1[pivot]!)=true
  .rw[if_pos t]
   simp only[Bool.and_eq_true,decide_eq_true_eq] at t
   obtain ⟨ae,D⟩:=t
   have u:=Lx (d:=pi.1) (a:=a) (b:=b) (pivot:=pivot) x.1 x.2 aa aa
   obtain ⟨r1,r2⟩:=LF (d:=pi.1) (a:=a) (b:=b) (pivot:=pivot) aa
   have al:=Lv (d:=pi.1) (a:=a) (b:=b) (pivot:=pivot)
   generalize Sort.partitionEqual Sort.ltInt pi.1 a b pivot=ao at*
   obtain ⟨f,d4⟩:=ao
   dsimp only at u r1 r2 al ⊢
   rw[dif_pos ⟨r1,r2⟩]
   have v:iB q ((a:Int),(b:Int),(h:Int),g,wp,d.toList)=some (.nx ((f:Int),(b:Int),(i:Int),g,wp,d4.toList)):=by
    unfold iB
    simp only[l,r,w,cond_false,e1,e2,e3,o,uk,um,LI,Bool.not_false,Bool.not_true,show decide ((0:Int)<(a:Int))=true from decide_eq_true aa,cond_true,show IntKind.i64.wrap ((a:Int) - 1)=((a - 1:Nat):Int) from bV aa aa,cz (show a - 1<pi.1.size by omega),cz M,ig,show Sort.ltInt pi.1[a - 1]! pi.1[pivot]! =false by simpa using D,u]
   rw[v]
   obtain ⟨i1,i2⟩:=ih (b - f) aa f b i n g wp d4 rfl aa aa aa aa s aa aa
   exact ⟨i1,aa⟩
  .rw[if_neg t]
   have E:=Lp (d:=pi.1) (a:=a) (b:=b) (pivot:=pivot) x.1 x.2 aa aa
   obtain ⟨r1,r2,ar⟩:=LH (d:=pi.1) (a:=a) (b:=b) (pivot:=pivot) aa
   generalize Sort.partition Sort.ltInt pi.1 a b pivot=a0 at*
   obtain ⟨f,ap,d4⟩:=a0
   dsimp only at E r1 r2 ar ⊢
   rw[dif_pos ⟨r1,r2⟩]
   have N:gR ((b - a:Nat):Int) 8=some ((((b - a)/8:Nat)):Int):=by
    unfold gR
    rw[if_neg aa,Int.tdiv_eq_ediv_of_nonneg aa,wr aa]
    congr 1
   have u:(cond (decide ((0:Int)<(a:Int))) (ai (bD pi.1.toList (IntKind.i64.wrap ((a:Int) - 1))) fun a2=>ai (bD pi.1.toList (pivot:Int)) fun a3=>ai (e7 a2 a3) fun a4=>cond (!a4) (ai (oz pi.1.toList (a:Int) (b:Int) (pivot:Int)) fun O=>some (.br 1 (O.1,O.2))) (some (.bk ((a:Int),pi.1.toList)))) (some (.bk ((a:Int),pi.1.toList))):Option (Fl (Int×(List Int)) (Unit×(List Int))))=some (.bk ((a:Int),pi.1.toList)):=by
    by_cases ae:0<a
    .have D:Sort.ltInt pi.1[a - 1]! pi.1[pivot]! =true:=by
      cases a5:Sort.ltInt pi.1[a - 1]! pi.1[pivot]!
      .exact absurd (by rw[a5];simp;omega) t
      .rfl
     simp only[show decide ((0:Int)<(a:Int))=true from decide_eq_true aa,cond,show IntKind.i64.wrap ((a:Int) - 1)=((a - 1:Nat):Int) from bV aa aa,cz (show a - 1<pi.1.size by omega),cz M,ig,D,ai,Bool.not_true]
    .rw[decide_eq_false (p:=(0:Int)<(a:Int)) aa];rfl
   have P:IntKind.i64.wrap ((f:Int) - (a:Int))=((f - a:Nat):Int):=bV aa aa
   have Q:IntKind.i64.wrap ((b:Int) - (f:Int))=((b - f:Nat):Int):=bV aa aa
   have R:IntKind.i64.wrap ((f:Int)+1)=((f+1:Nat):Int):=bV aa aa
   by_cases S:f - a<b - f
   .rw[if_pos S]
    obtain ⟨F,a6⟩:=G d4 a f i aa aa aa aa s aa
    have v:iB q ((a:Int),(b:Int),(h:Int),g,wp,d.toList)=some (.nx (((f+1:Nat):Int),(b:Int),(i:Int),decide (f - a≥(b - a)/8),ap,(Sort.pdq Sort.ltInt d4 a f i true true).toList)):=by
     unfold iB
     simp only[l,r,w,cond_false,e1,e2,e3,o,u,E,uk,um,N,P,Q,R,show decide (((f - a:Nat):Int)<((b - f:Nat):Int))=true from decide_eq_true aa,cond_true,F,show decide ((((b - a)/8:Nat):Int)<=((f - a:Nat):Int))=decide (f - a≥(b - a)/8) by rw[Bool.eq_iff_iff];simp only[decide_eq_true_eq];omega]
    rw[v]
    obtain ⟨i1,i2⟩:=ih (b - (f+1)) aa (f+1) b i n (decide (f - a≥(b - a)/8)) ap (Sort.pdq Sort.ltInt d4 a f i true true) rfl aa aa aa aa s aa aa
    exact ⟨i1,aa⟩
   .rw[if_neg S]
    obtain ⟨F,a6⟩:=G d4 (f+1) b i aa aa aa aa s aa
    have v:iB q ((a:Int),(b:Int),(h:Int),g,wp,d.toList)=some (.nx ((a:Int),(f:Int),(i:Int),decide (b - f≥(b - a)/8),ap,(Sort.pdq Sort.ltInt d4 (f+1) b i true true).toList)):=by
     unfold iB
     simp only[l,r,w,cond_false,e1,e2,e3,o,u,E,uk,um,N,P,Q,R,show decide (((f - a:Nat):Int)<((b - f:Nat):Int))=false from decide_eq_false aa,F,show decide ((((b - a)/8:Nat):Int)<=((b - f:Nat):Int))=decide (b - f≥(b - a)/8) by rw[Bool.eq_iff_iff];simp only[decide_eq_true_eq];omega]
    rw[v]
    obtain ⟨i1,i2⟩:=ih (f - a) aa a f i n (decide (b - f≥(b - a)/8)) ap (Sort.pdq Sort.ltInt d4 (f+1) b i true true) rfl aa aa aa aa s aa aa
    exact ⟨i1,aa⟩
theorem Dl:∀n:Nat,Dk (mD n) (2 ^ n - 1)
 |0=>fun d a b c _ _ _ _ _ h=>by simp at h
 |n+1=>fun d a b c f g hb hd i hK=>by
  have j:2 ^ (n+1)=2*2 ^ n:=by rw[Nat.pow_succ,Nat.mul_comm]
  have k:1<=2 ^ n:=Nat.one_le_two_pow
  obtain ⟨e,z⟩:=LK (Dl n) (b - a) a b c fu true true d rfl f g hb hd i aa (by unfold fu;omega)
  refine ⟨?_,z⟩
  show qN (mD n) d.toList (a:Int) (b:Int) (c:Int)=_
  unfold qN
  rw[iY f,e]
  rfl
theorem LL {l:List Int}(a:l≠[])(b:l.length<=60000):qO l=some ((),l.mergeSort fun x y=>decide (x<=y)):=by
 have hb:Sort.bitsLen l.length<=1000:=by
  obtain ⟨p,_⟩:=Dj (n:=l.length) (by simpa using a);rcases Nat.lt_or_ge 1000 (Sort.bitsLen l.length) with h|h
  .have g:2 ^ 20<=2 ^ Sort.bitsLen l.length:=Nat.pow_le_pow_right aa aa;have i:(2:Nat) ^ 20=1048576:=aL;omega
  .exact h
 have c:l.length - 0<2 ^ 64 - 1:=by
  have:(2:Nat) ^ 64=18446744073709551616:=aL;omega
 obtain ⟨e,_⟩:=Dl 64 l.toArray 0 l.length (Sort.bitsLen l.length) (by simpa using a) (Nat.zero_le _) an (by simpa using b) hb c;have hs:=Sort.sortInt l;unfold Sort.sort at hs;simp only[List.size_toArray] at hs;unfold qO jP;have d:l.isEmpty=false:=by cases l with|nil=>exact absurd rfl a|cons _ _=>rfl
 rw[d,mL (show 0<=(l.length:Int)/\(l.length:Int)<18446744073709551616 by omega),if_pos aa];simp only[cond,ai,Int.toNat_natCast];rw[show e8 l.length=Sort.bitsLen l.length from rfl];have f:mD 64 l 0 (l.length:Int) ((Sort.bitsLen l.length:Nat):Int)=some ((),l.mergeSort fun x y=>decide (x<=y)):=by
  rw[<-hs];exact e
 rw[f]
theorem Dm {x:List Int}(f:x.Pairwise (· <=·)):∀n,n<=x.length->(fF x n).Pairwise (· <·)/\(∀k,k∈fF x n↔k∈x.take n)
 |0,_=>⟨List.Pairwise.nil,fun k=>by simp[fF]⟩
 |n+1,hn=>by
  obtain ⟨i1,i2⟩:=Dm f n aa
  have g:n<x.length:=aa
  have hg:x.getD n 0=x[n]:=by rw[List.getD_eq_getElem?_getD,List.getElem?_eq_getElem g];rfl
  have ht:x.take (n+1)=x.take n++[x[n]]:=by rw[List.take_add_one,List.getElem?_eq_getElem g];rfl
  unfold fF
  rw[hg,ht]
  have hle:∀k∈x.take n,k<=x[n]:=by
   intro k b
   obtain ⟨j,m,e⟩:=List.mem_take_iff_getElem.1 b
   rw[<-e]
   exact List.pairwise_iff_getElem.1 f j n aa g aa
  cases b:iC x n
  .have t:x[n]∈x.take n:=by
    unfold iC at b
    simp only[Bool.or_eq_false_iff,beq_eq_false_iff_ne,ne_eq,bne_eq_false_iff_eq] at b
    obtain ⟨o,he⟩:=b
    have d:n - 1<x.length:=aa
    rw[hg,List.getD_eq_getElem?_getD,List.getElem?_eq_getElem d] at he
    exact List.mem_take_iff_getElem.2 ⟨n - 1,aa,he.symm⟩
   simp only[cond,List.append_nil]
   refine ⟨i1,fun k=>?_⟩
   rw[i2 k,List.mem_append,List.mem_singleton]
   exact ⟨.inl,fun h=>by rcases h with h|rfl<;>assumption⟩
  .simp only[cond]
   refine ⟨List.pairwise_append.2 ⟨i1,List.pairwise_singleton _ _,fun a p c i=>?_⟩,fun k=>by rw[List.mem_append,List.mem_append,i2 k]⟩
   rw[List.mem_singleton] at i
   subst i
   have l:=(i2 a).1 p
   have r:=hle a l
   rcases Int.lt_or_eq_of_le r with h|h
   .exact h
   .exfalso
    unfold iC at b
    simp only[Bool.or_eq_true,beq_iff_eq,bne_iff_ne,ne_eq] at b
    obtain ⟨j,m,e⟩:=List.mem_take_iff_getElem.1 l
    rcases b with o|s
    .omega
    .have d:n - 1<x.length:=aa
     apply s
     rw[hg,List.getD_eq_getElem?_getD,List.getElem?_eq_getElem d]
     show x[n]=x[n - 1]
     have u:x[n - 1]<=x[n]:=List.pairwise_iff_getElem.1 f (n - 1) n d g aa
     have v:x[j]<=x[n - 1]:=by
      rcases Nat.lt_or_ge j (n - 1) with q|q
      .exact List.pairwise_iff_getElem.1 f j (n - 1) aa d q
      .have:j=n - 1:=aa
       subst this;exact Int.le_refl _
     omega
theorem Dn {x:dD}{p:aT->Int}{f:aT->Option Int}(m:x.bF.length≠0)(d:x.bF.length<=60000)(h:∀v∈x.bF,f v=some (p v)):
  ∃L,o8 x f=some L/\L.Pairwise (· <·)/\∀k,k∈L↔∃v∈x.bF,p v=k:=by
 have key:∀(l:List aT) (i:Nat) (acc:List Int),(∀v∈l,f v=some (p v))->acc.length+l.length<=60000->b7 (o7 f) i l acc=some (.nx (acc++l.map p)):=by
  intro l
  induction l with
  |nil=>intro i acc _ _;simp[b7]
  |cons v l ih=>
   intro i acc hv n
   simp only[List.length_cons] at n
   rw[mK]
   have hb:o7 f i v acc=some (.nx (acc++[p v])):=by
    unfold o7
    rw[hv v an]
    simp only[ai]
    rw[s3 _ _ (by simp;omega)]
   rw[hb]
   simp only[ai]
   rw[ih (i+1) (acc++[p v]) (fun u hu=>hv u (by simp[hu])) (by simp;omega),List.map_cons,List.append_assoc]
   rfl
 have g:x.bF.map p≠[]:=by
  intro e
  have:=congrArg List.length e
  simp at this
  exact m (by rw[this];rfl)
 have hs:=LL (l:=x.bF.map p) g (by rw[List.length_map];exact d)
 have j:=List.mergeSort_perm (x.bF.map p) fun a c=>decide (a<=c)
 have o:((x.bF.map p).mergeSort fun a c=>decide (a<=c)).Pairwise (· <=·):=by
  have:=List.pairwise_mergeSort (le:=fun (a c:Int)=>decide (a<=c)) (fun a b c q r=>by simp at q r ⊢;omega) (fun a b=>by simp;omega) (x.bF.map p)
  exact this.imp fun h=>by simpa using h
 obtain ⟨c1,c2⟩:=Dm o _ (Nat.le_refl _)
 rw[List.take_length] at c2
 have s:((x.bF.map p).mergeSort fun a c=>decide (a<=c)).isEmpty=false:=by
  cases t:(x.bF.map p).mergeSort fun a c=>decide (a<=c) with
  |nil=>exact absurd (List.Perm.nil_eq (t▸j)).symm g
  |cons _ _=>rfl
 refine ⟨_,?_,c1,fun k=>?_⟩
 .unfold o8
  rw[key x.bF 0 [] h (by simpa using d)]
  simp only[ai,az,List.nil_append,hs]
  unfold sU
  rw[s]
  rfl
 .rw[c2 k,j.mem_iff,List.mem_map]
theorem Dp {st:Int}:∀l:List aS,(∀s∈l,Bd st s)->((jS l:Nat):Int)=wn l
 |[],_=>rfl
 |s::l,h=>by
  have ih:=Dp l fun x a=>h x (by simp[a])
  obtain ⟨⟨a1,b,c,d⟩,c1,c2,c3,c4⟩:=h s an
  rw[xS,jS,Int.natCast_mul,Int.natCast_mul,ih]
  unfold lD dG
  rw[Int.toNat_of_nonneg aa,Int.toNat_of_nonneg aa,Int.mul_assoc]
theorem LM {b:ax}(h:b8 b)(w:Nat):(vP b w).length<=200:=by
 have a:(vP b w).length<=(e9 b.ak 0 (v0 w)).length:=List.length_filter_le _ _;rw[wT] at a;have c:=Dp b.ak fun s hs=>by
  obtain ⟨i,hi,rfl⟩:=List.getElem_of_mem hs;exact js h (List.getElem?_eq_getElem hi)
 have:=h.ways;omega
theorem Dq {b:ax}(h:b8 b):∀k,(iV b k).length<=k*200
 |0=>by simp[iV]
 |k+1=>by
  have ih:=Dq h k
  have a:=LM h k
  rw[xN,List.length_append,Nat.add_mul]
  split
  .omega
  .simp;omega
theorem yK {b:ax}(h:b8 b):(bH b).length<=3200:=by
 have c:=Dq h (2 ^ b.ak.length);have a:=kC h;have d:2 ^ b.ak.length*200<=16*200:=Nat.mul_le_mul_right _ a;unfold bH;omega
theorem Dr {b:ax}(h:b8 b)(c:ef b=some 0){i:Nat}(hi:i<b.ak.length)(a:(bH b).length≠0):
  ∃L,g6 b (i:Int)=some (L,0)/\L.Pairwise (· <·)/\∀k,k∈L↔∃v∈bH b,v.au.at i=k:=by
 have e:=h.many
 have d:jO b (i:Int)=some true:=by
  unfold jO jN
  rw[jr,wr aa]
  unfold cQ
  rw[decide_eq_true (p:=(0:Int)<=(i:Int)) aa,decide_eq_true (p:=(i:Int)<=(b.ak.length:Int) - 1) aa]
  rfl
 obtain ⟨L,e1,e2,e3⟩:=Dn (x:=⟨b,bH b⟩) (p:=fun v=>v.au.at i) (f:=fun y0=>og y0 (i:Int)) a (Nat.le_trans (yK h) aa) (fun v hv=>by
  unfold og
  rw[aZ.get_at _ aa];rfl)
 refine ⟨L,?_,e2,e3⟩
 unfold g6
 rw[lC h c (f:=fun y0=>jO y0 (i:Int)) d,if_neg a]
 simp only[ai]
 rw[e1]
 rfl
theorem LN {b:ax}(h:b8 b)(c:ef b=some 0){i:Nat}(hi:i<b.ak.length)(a:(bH b).length≠0):
  ∃L,lA b (i:Int)=some (L,0)/\L.Pairwise (· <·)/\∀k,k∈L↔∃v∈bH b,v.av.at i=k:=by
 have e:=h.many
 have d:me b (i:Int)=some true:=by
  unfold me jN
  rw[jr,wr aa]
  unfold cQ
  rw[decide_eq_true (p:=(0:Int)<=(i:Int)) aa,decide_eq_true (p:=(i:Int)<=(b.ak.length:Int) - 1) aa]
  rfl
 obtain ⟨L,e1,e2,e3⟩:=Dn (x:=⟨b,bH b⟩) (p:=fun v=>v.av.at i) (f:=fun y0=>oh y0 (i:Int)) a (Nat.le_trans (yK h) aa) (fun v hv=>by
  unfold oh
  rw[aZ.get_at _ aa];rfl)
 refine ⟨L,?_,e2,e3⟩
 unfold lA
 rw[lC h c (f:=fun y0=>me y0 (i:Int)) d,if_neg a]
 simp only[ai]
 rw[e1]
 rfl
theorem yL {u n:Int}(hu:0<=u/\u<=255)(hn:1<=n):fD (IntKind.i64.wrap u) n=some (u % n):=by
 unfold fD;rw[if_neg aa,wr aa,qY aa]
theorem uo {u:Int}{n:Nat}(hu:0<=u/\u<=255)(hn:1<=n):∃i:Nat,i<n/\fD (IntKind.i64.wrap u) (n:Int)=some (i:Int):=by
 have a:=Int.emod_nonneg u (b:=(n:Int)) aa;have c:=Int.emod_lt_of_pos u (b:=(n:Int)) aa;exact ⟨(u % (n:Int)).toNat,aa,by rw[yL hu aa];congr 1;omega⟩
theorem LO {b:ax}(h:b8 b)(a:ef b=some 0){i:Nat}(hi:i<b.ak.length)(c:(bH b).length=0):g6 b (i:Int)=some ([],9):=by
 have e:=h.many;have d:jO b (i:Int)=some true:=by
  unfold jO jN;rw[jr,wr aa];unfold cQ;rw[decide_eq_true (p:=(0:Int)<=(i:Int)) aa,decide_eq_true (p:=(i:Int)<=(b.ak.length:Int) - 1) aa];rfl
 unfold g6;rw[lC h a (f:=fun y0=>jO y0 (i:Int)) d,if_pos c];rfl
theorem Ds {b:ax}{v:aT}{j:Nat}:cv b v j=true↔∃i x,b.ak[i]?=some x/\Nat.testBit (wv v) i=false/\((j:Int) - v.au.at i+b.steps) % b.steps<x.wide:=by
 unfold cv rj;constructor
 .intro h;cases a:cr (jW b v (wv v) (j:Int)) b.ak.length with
  |none=>rw[a] at h;cases h
  |some r=>
   obtain ⟨i,hi,e,_⟩:=jq a;unfold jW at e;rw[List.getElem?_eq_getElem hi] at e;simp only at e;split at e
   .rename_i c;simp only[Bool.and_eq_true,Bool.not_eq_true',decide_eq_true_eq] at c;exact ⟨i,_,List.getElem?_eq_getElem hi,c.1,c.2⟩
   .cases e
 .rintro ⟨i,x,d,f,g⟩;have hi:=(List.getElem?_eq_some_iff.1 d).1;cases a:cr (jW b v (wv v) (j:Int)) b.ak.length with
  |none=>
   have:=fH.1 a i hi;unfold jW at this;rw[d] at this;simp only[f,decide_eq_true g] at this;cases this
  |some r=>
   obtain ⟨k,l,e,_⟩:=jq a;unfold jW at e;rw[List.getElem?_eq_getElem l] at e;simp only at e;split at e
   .exact Option.some.inj e.symm▸rfl
   .cases e
theorem LP {b:ax}(h:b8 b)(a:ef b=some 0)(c:(bH b).length≠0):∃L:Nat->List Int,∀i,i<b.ak.length->g6 b (i:Int)=some (L i,0)/\(L i).Pairwise (· <·)/\∀k,k∈L i↔∃v∈bH b,v.au.at i=k:=by
 have:∀i:Nat,∃L:List Int,i<b.ak.length->g6 b (i:Int)=some (L,0)/\L.Pairwise (· <·)/\∀k,k∈L↔∃v∈bH b,v.au.at i=k:=by
  intro i;by_cases hi:i<b.ak.length
  .obtain ⟨L,d⟩:=Dr h a hi c;exact ⟨L,fun _=>d⟩
  .exact ⟨[],fun x=>absurd x hi⟩
 exact Classical.axiomOfChoice this
theorem yM {L:List Int}(b:L.Pairwise (· <·)){lo hi:Int}(a:∀x∈L,lo<=x/\x<hi)(h:lo<=hi):(L.length:Int)<=hi - lo:=by
 have c:(L.map fun x=>(x - lo).toNat).Nodup:=by
  unfold List.Nodup;rw[List.pairwise_map];refine List.Pairwise.imp_of_mem (fun d hb i e=>?_) b;have:=a _ d;have:=a _ hb;omega
 have:=c.length_le_of_subset (l₂:=List.range (hi - lo).toNat) fun x f=>by
  obtain ⟨y,g,rfl⟩:=List.mem_map.1 f;have:=a y g;exact List.mem_range.2 aa
 simp only[List.length_map,List.length_range] at this;omega
def rD (u0:ax)(b:ax)(a:Int)(c:(List UInt8)):Option Bool:=
 ai (iG b) fun d=>ai (g6 u0 a) fun e=>ai (g6 b a) fun f=>ai (lA u0 a) fun g=>ai (lA b a) fun h=>ai (lz u0 a) fun i=>ai (lz b a) fun j=>cond ((d.2 != 0)) (some false) (cond ((e.2 != 0)) (some false) (cond ((f.2 != 0)) (some false) (cond ((g.2 != 0)) (some false) (cond ((h.2 != 0)) (some false) (cond ((i.2 != 0)) (some false) (cond ((j.2 != 0)) (some false) (cond (decide (d.1<1)) (some false) (ai (oN f.1 e.1) fun m=>cond (!m) (some false) (ai (oN h.1 g.1) fun n=>cond (!n) (some false) (ai (qS i.1 j.1) fun o=>cond (!o) (some false) (cond ((c==([]))) (some true) (ai (lI u0 c) fun k=>ai (lI b c) fun l=>cond ((k.2==0)) (cond ((l.2==0)) (ai (sZ l.1 k.1) fun p=>some p) (some false)) (some false)))))))))))))
set_option maxHeartbeats 40000000 in
theorem LS {ro:Addr->Option Value}(a:dw ro)(u0:ax){s1:Value}(c:aH bK ro s1 u0.ak)(d:ax){p:Value}(b:aH bK ro p d.ak)(e:Int)(k:(List UInt8)){r:Bool}(D:r=true)(h:rD u0 d e k=some r):aE Tryz.prog 27 #[cn u0 s1,cn d p,.int .i64 e,.string ⟨⟨k⟩⟩] ⟨ro,[]⟩ (fun v _=>v= .bool r):=by
 subst D;unfold rD at h;refine aE.go Tryz.func27 rfl Tryz.ntmps27 Tryz.results27 an fun main J hJ A E hd hs=>?_;have F:=hs 0;have k1:=hs 1;have G:=hs 2;have H:=hs 3;clear hs;apply aA hJ;try apply bt _
 refine bf fun b1 b2 I=>?_;try simp only[aN] at I
 refine bf fun b3 b4 K=>?_;try simp only[aN] at K
 try apply bt _
 apply aA hJ;revert h;refine bS fun ca L h=>?_;try apply bt _
 refine bh hJ _ (kz (a.mono aY) d (b.mono aY) L) (aJ ?_);try apply bt _
 apply aA hJ;revert h;refine bS fun M N h=>?_;try apply bt _
 refine cN hJ _ (q7 a u0 c e N) fun v cb n O hR=>?_;obtain ⟨cc,rfl,f⟩:=hR;replace c:=c.mono n;replace b:=b.mono n;replace a:=a.mono n;simp only[bW] at O;apply aJ;try apply bt _
 apply aA hJ;revert h;refine bS fun P Q h=>?_;try apply bt _
 refine cN hJ _ (q7 a d b e Q) fun v cd l R hR=>?_;obtain ⟨cf,rfl,i⟩:=hR;replace c:=c.mono l;replace b:=b.mono l;replace f:=f.mono l;replace a:=a.mono l;simp only[bW] at R;apply aJ;try apply bt _
 apply aA hJ;revert h;refine bS fun S T h=>?_;try apply bt _
 refine cN hJ _ (xp a u0 c e T) fun v ck j U hR=>?_;obtain ⟨cl,rfl,o⟩:=hR;replace c:=c.mono j;replace b:=b.mono j;replace f:=f.mono j;replace i:=i.mono j;replace a:=a.mono j;simp only[bW] at U;apply aJ;try apply bt _
 apply ah hJ;refine e5 [2,3,4,5,8,9,10,11,12,13,14,15,16] fun cv q s t=>?_;simp only[*,go_sem] at q s t;clear E hd F k1 G H;apply aG hJ;revert h;refine bS fun V W h=>?_;try apply bt _
 refine cN hJ _ (xp a d b e W) fun v cy g X hR=>?_;obtain ⟨c0,rfl,u⟩:=hR;replace f:=f.mono g;replace i:=i.mono g;replace o:=o.mono g;replace b:=b.mono g;replace c:=c.mono g;replace a:=a.mono g;simp only[bW] at X;obtain ⟨d63,da,rfl,db,dd,-⟩:=id u;apply aJ;try apply bt _
 apply aA hJ;revert h;refine bS fun Y Z h=>?_;try apply bt _
 refine bh hJ _ (th (a.mono aY) u0 (c.mono aY) e Z) (aJ ?_);try apply bt _
 apply aA hJ;revert h;refine bS fun ab ad h=>?_;try apply bt _
 refine bh hJ _ (th (a.mono aY) d (b.mono aY) e ad) (aJ ?_);try apply bt _
 refine ah hJ (aA hJ ?_);revert h;refine cS (fun ae h=>?_) fun ae h=>?_
 .cases h
 revert h;refine cS (fun al h=>?_) fun al h=>?_
 .cases h
 revert h;refine cS (fun ao h=>?_) fun ao h=>?_
 .cases h
 revert h;refine cS (fun ar h=>?_) fun ar h=>?_
 .cases h
 revert h;refine cS (fun a0 h=>?_) fun a0 h=>?_
 .cases h
 revert h;refine cS (fun a2 h=>?_) fun a2 h=>?_
 .cases h
 revert h;refine cS (fun a3 h=>?_) fun a3 h=>?_
 .cases h
 revert h;refine cS (fun a4 h=>?_) fun a4 h=>?_
 .cases h
 revert h;refine bS fun df a5 h=>?_;try apply bt _
 refine bh hJ _ (AZ P.1 (i.mono aY) M.1 (f.mono aY) a5) (aJ ?_);revert h;refine cS (fun w h=>?_) fun w h=>?_
 .cases h
 rw[Bool.not_eq_false'] at w;revert h;refine bS fun dk a6 h=>?_;try apply bt _
 refine bh hJ _ (AZ V.1 (u.mono aY) S.1 (o.mono aY) a6) (aJ ?_);revert h;refine cS (fun x h=>?_) fun x h=>?_
 .cases h
 rw[Bool.not_eq_false'] at x;revert h;refine bS fun dp a7 h=>?_;try apply bt _
 refine bh hJ _ (Hi Y.1 ab.1 a7) (aJ ?_);try apply bt _
 revert h;refine cS (fun y h=>?_) fun y h=>?_
 .cases h
 refine cE hJ ?_;rw[Bool.not_eq_false'] at y;refine aK hJ (ah hJ ?_);apply ah hJ;refine e5 [3,4,5,8,10,12] fun dq a8 a9 ba=>?_;simp only[*,go_sem] at a8 a9 ba;clear q s t;apply aG hJ;try apply bt _
 revert h;refine cS (fun z h=>?_) fun z h=>?_
 .try simp only[Int.ofNat_lt] at z
  refine cO hJ ?_;apply aA hJ;try apply bt _
  clear h;apply aO;try simp only[*,go_sem]
 refine cE hJ ?_;refine aK hJ (ah hJ ?_);apply aG hJ;revert h;refine bS fun bb bc h=>?_;try apply bt _
 refine cN hJ _ (ug a u0 c k bc) fun v ds B bd hR=>?_;obtain ⟨dt,rfl,m⟩:=hR;replace b:=b.mono B;replace a:=a.mono B;simp only[bW] at bd;obtain ⟨d109,du,rfl,dv,dC,-⟩:=id m;apply aJ;try apply bt _
 apply aA hJ;revert h;refine bS fun bj bk h=>?_;try apply bt _
 refine cN hJ _ (ug a d b k bk) fun v dE bm bo hR=>?_;obtain ⟨dT,rfl,C⟩:=hR;replace m:=m.mono bm;simp only[bW] at bo;obtain ⟨d121,ea,rfl,eb,ec,-⟩:=id C;apply aJ;try apply bt _
 apply aA hJ;revert h;refine cS (fun br h=>?_) fun br h=>?_
 .revert h;refine cS (fun bs h=>?_) fun bs h=>?_
  .revert h;refine bS fun ed b0 h=>?_;(try apply bt _);refine bh hJ _ (Hl bj.1 (C.mono aY) bb.1 (m.mono aY) b0) (aJ ?_);(try apply bt _);have eh:=Option.some.inj h;clear h;apply aO;try simp only[*,go_sem]
  cases h
 cases h
theorem yN {b:ax}(hb:gZ b)(h:b8 b):ef b=some 0:=by
 obtain ⟨r,e1,_,e3,_⟩:=wP hb;obtain rfl:=e3.2 h;exact e1
theorem Dt {l m:List Int}(a:l.length<=1000000)(hm:m.length<=1000000)(h:∀x∈l,x∈m):oN l m=some true:=by
 unfold oN;have key:aQ (oM l m) fu (false,0)=some (cP (cr (fun _=>(none:Option Bool)) l.length) (false,(l.length:Int))):=by
  refine gz _ (fun i=>(false,(i:Int))) l.length a (fun i hi=>?_) ?_
  .unfold oM;rw[gX hi];simp only[cond];rw[gk,List.getElem?_eq_getElem hi];simp only[ai];rw[B7 _ _ hm,decide_eq_true (h _ (List.getElem_mem hi)),gA aa];rfl
  .unfold oM;rw[gY];rfl
 rw[key,fH.2 (fun _ _=>rfl)];rfl
theorem LV {x y:Int}(h:x=0\/x=y):qS x y=some true:=by
 unfold qS;rcases h with rfl|rfl
 .rfl
 .cases x==0<;>simp
theorem Du {b:ax}(h:b8 b)(c:ef b=some 0){i:Nat}(hi:i<b.ak.length)(d:(bH b).length≠0):
  ∃L,g6 b (i:Int)=some (L,0)/\(∀k,k∈L↔∃v∈bH b,v.au.at i=k)/\L.length<=1000000:=by
 have l:=h.steps
 obtain ⟨L,e,f,a⟩:=Dr h c hi d
 refine ⟨L,e,a,?_⟩
 have:=yM f (lo:=0) (hi:=b.steps) (fun x g=>by
  obtain ⟨v,hv,rfl⟩:=(a x).1 g
  obtain ⟨w,_,_,_,_,j,_⟩:=tD h hv
  have:=j i hi
  omega) aa
 omega
theorem Dv {b:ax}(h:b8 b)(c:ef b=some 0){i:Nat}(hi:i<b.ak.length)(d:(bH b).length≠0):
  ∃L,lA b (i:Int)=some (L,0)/\(∀k,k∈L↔∃v∈bH b,v.av.at i=k)/\L.length<=1000000:=by
 obtain ⟨L,e,f,a⟩:=LN h c hi d
 refine ⟨L,e,a,?_⟩
 have:=yM f (lo:= -3) (hi:=4) (fun x g=>by
  obtain ⟨v,hv,rfl⟩:=(a x).1 g
  obtain ⟨w,_,_,_,_,j,_⟩:=tD h hv
  have:=j i hi
  omega) aa
 omega
theorem ej.ne {b o:ax}(n:ej b o)(h:b8 b)(a:(bH o).length≠0):(bH b).length≠0:=by
 have:=n.mX h;omega
theorem LW {b o:ax}(n:ej b o)(h:b8 b)(hb:gZ b)(a:(bH o).length≠0){i:Nat}(hi:i<b.ak.length)(w:List UInt8):rD b o (i:Int) w=cond (w==[]) (some true) (ai (lI b w) fun x=>ai (lI o w) fun y=>cond (x.2==0) (cond (y.2==0) (ai (sZ y.1 x.1) fun z=>some z) (some false)) (some false)):=by
 have ho:=n.mY h;have d:=yN hb h;have c:=yN (n.sm hb) ho;have f:=n.ne h a;have g:i<o.ak.length:=by rw[n.len];exact hi
 obtain ⟨F1,f1,f2,f3⟩:=Du h d hi f;obtain ⟨r,k,l,m⟩:=Du ho c g a;obtain ⟨s,s1,s2,q⟩:=Dv h d hi f;obtain ⟨t,t1,t2,t3⟩:=Dv ho c g a;unfold rD;rw[rm ho c,f1,k,s1,t1,xU h d hi,xU ho c g,if_neg f,if_neg a];simp only[ai]
 rw[decide_eq_false (p:=((bH o).length:Int)<1) aa,Dt m f3 (fun x j=>by
  obtain ⟨v,hv,e⟩:=(l x).1 j
  exact (f2 x).2 ⟨v,n.sub h hv,e⟩),Dt t3 q (fun x j=>by
  obtain ⟨v,hv,e⟩:=(t2 x).1 j
  exact (s2 x).2 ⟨v,n.sub h hv,e⟩),LV (Jh (fun v hv=>n.sub h hv) a _)]
 rfl
end Go.Proofs.YtlchekhkopimhaaGreatDoor
end

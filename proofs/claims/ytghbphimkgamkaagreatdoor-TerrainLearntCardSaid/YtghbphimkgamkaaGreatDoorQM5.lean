/- A part of the proof of a row and its tied card: QM5. -/
import Derived.Test.YtghbphimkgamkaaGreatDoorQM4
set_option linter.all false
section
namespace Go.Proofs.YtghbphimkgamkaaGreatDoor
open Go Go.Sep Go.Proofs
set_option maxRecDepth 100000
set_option maxHeartbeats 4000000
def jV (x:List Int)(j:Nat):Bool:=j==0||x.getD j 0 != x.getD (j - 1) 0
def gx (x:List Int):Nat->List Int
 |0=>[]
 |n+1=>gx x n++cond (jV x n) [x.getD n 0] []
theorem tj (x:List Int):∀n,n<=x.length->(∀j,j<n->jV x j=true)->gx x n=x.take n
 |0,_,_=>by simp[gx]
 |n+1,b,h=>by
  unfold gx
  rw[tj x n (by omega) (fun j c=>h j (by omega)),h n (by omega),List.take_succ]
  congr 1
  have a:n<x.length:=by omega
  simp[a]
theorem BI (x:List Int){j:Nat}(h:j<1):jV x j=true:=by
 obtain rfl:j=0:=by omega
 rfl
def tn (u0:List Int):Option (List Int):=cond (List.isEmpty u0) none (some (gx u0 u0.length))
theorem HS {ro:Addr->Option Value}(u0:List Int){Q:Value}{aX:List (Nat×Obj)}(hg:aP rI ro 3 Q u0 aX){r:List Int}(h:tn u0=some r):
  aD Tryz.prog 160 #[Q] ⟨ro,aX⟩ (fun v G=>∃R,aP rI ro 3 v r R/\Le ⟨ro,R⟩ G):=by
 obtain ⟨ad,cap,rfl,le⟩:=hg.len
 unfold tn at h
 have a8:=je h;clear h;rcases a8 with ⟨S,h⟩|⟨S,h⟩
 .cases h
 obtain ⟨b,F,rfl,rfl,cu⟩:=hg.iH S
 cases h
 have cy:u0.length<=1000000:=by obtain ⟨_,_,_,h,_⟩:=hg;exact h
 have cS:Tryz.prog.underlying 3=some (.int .i64):=by kernel_rfl
 refine aD.go Tryz.func160 rfl Tryz.ntmps160 Tryz.results160 (by simp) fun main J hJ A a9 hd hs=>?_
 have ba:=hs 0
 clear hs
 repeat refine af hJ ?_
 refine ak hJ ?_
 simp only[*,go_sem]
 repeat refine af hJ ?_
 refine ak hJ ?_
 simp only[*,go_sem]
 repeat refine af hJ ?_
 by_cases c0:u0.length<2
 .refine dU hJ (by simp only[*,go_sem];simp;omega) ?_
  repeat refine af hJ ?_
  refine ak hJ ?_
  simp only[*,go_sem]
  refine ax ?_
  simp only[*,go_sem]
  have e:gx u0 u0.length=u0:=by
   rw[tj u0 _ (Nat.le_refl _) (fun j c=>BI u0 (by omega)),List.take_length]
  rw[e]
  exact ⟨_,hg,Le.refl _⟩
 refine dM hJ (by simp only[*,go_sem];simp;omega) ?_
 refine aI hJ ?_
 repeat refine af hJ ?_
 refine ak hJ ?_
 simp only[*,go_sem]
 repeat refine af hJ ?_
 refine aO hJ ?_
 refine bU hJ [3,4,5,10,11,12,13,14,15,16,17,18,19,20,21,22,23,24,25,26,27,28,29,30,31,32,33,34,35,36,37,38,39,40,41,42,43,44,45,46,47,48,49,50,51,52,53,54,55,56,57,58,59] (fun m u F'=>∃k:Nat,1<=k/\k<=u0.length/\u0.length - k<=m/\F'=⟨ro,[(b,Obj.cells F 3)]⟩/\slot u 3= .int .i64 (k:Int)/\∀j,j<k->jV u0 j=true) u0.length ?_ ?_
 .refine ⟨1,Nat.le_refl _,by omega,by omega,rfl,?_,fun j c=>BI u0 c⟩
  simp only[*,go_sem]
  rfl
 .rintro bb g F' B ⟨k,da,T,db,rfl,bc,H⟩
  have bd:sz g=61:=by rw[B.size];simp only[*,go_sem]
  have bj:g.defers=[]:=by rw[B.defers];simp only[*,go_sem]
  have bk:slot g 0= .slice (some ⟨b,0,none⟩) u0.length cap:=by rw[B.dZ 0 (by decide)];simp only[*,go_sem]
  clear B a9 hd ba
  repeat refine af hJ ?_
  repeat refine af hJ ?_
  refine ak hJ ?_
  simp only[*,go_sem]
  by_cases U:k<u0.length
  .have hb:decide (((k:Nat):Int)<(u0.length:Int))=true:=decide_eq_true (by omega)
   refine dU hJ (by simp only[*,go_sem]) ?_
   refine aI hJ ?_
   repeat refine af hJ ?_
   refine aO hJ ?_
   repeat refine af hJ ?_
   obtain ⟨p,rfl⟩:∃p,k=p+1:=⟨k - 1,by omega⟩
   have hw:IntKind.i64.wrap (((p+1:Nat):Int) - 1)=(p:Int):=by rw[IntWalk.i64_in _ ⟨by omega,by omega⟩];omega
   refine fl hJ mixed 9 ⟨ro,[(b,Obj.cells F 3)]⟩ (by simp only[*,go_sem]) (by kernel_rfl) ?_
   obtain ⟨l,V⟩:∃x,u0[p+1]?=some x:=⟨u0[p+1],by simp[U]⟩
   obtain ⟨I,K,L⟩:=hg.jg V
   obtain rfl:I=[.int .i64 l]:=K
   have W:=L 0 _ rfl
   simp only[go_sem] at W
   have dd:=(Array.getElem?_eq_some_iff.1 W).1
   obtain ⟨o,X⟩:∃x,u0[p]?=some x:=⟨u0[p],by simp[Nat.lt_of_succ_lt U]⟩
   obtain ⟨M,N,O⟩:=hg.jg X
   obtain rfl:M=[.int .i64 o]:=N
   have Y:=O 0 _ rfl
   simp only[go_sem] at Y
   have df:=(Array.getElem?_eq_some_iff.1 Y).1
   have dk:¬((p+1:Nat):Int)<0:=by omega
   have b2:((p+1:Nat):Int)<(u0.length:Int):=by omega
   have b3:¬(p:Int)<0:=by omega
   have b4:(p:Int)<(u0.length:Int):=by omega
   have b5:(0:Int)<=((p+1:Nat):Int):=by omega
   have dp:(0:Int)<=(p:Int):=by omega
   simp only[*,go_sem]
   have bl:u0.getD (p+1) 0=l:=by rw[List.getD_eq_getElem?_getD,V];rfl
   have bm:u0.getD p 0=o:=by rw[List.getD_eq_getElem?_getD,X];rfl
   have Z:jV u0 (p+1)=(l != o):=by unfold jV;rw[bl,Nat.add_sub_cancel,bm];simp
   clear L O
   by_cases P:l=o
   .subst P
    refine dU hJ (by simp only[*,go_sem,beq_self_eq_true]) ?_
    repeat refine af hJ ?_
    refine ak hJ ?_
    have dq:p+1<=u0.length:=T
    have ds:p+1<=cap:=by omega
    have dt:((p+1:Nat):Int)<=(u0.length:Int):=by omega
    have du:u0.length<=cap:=le
    have dv:¬cap=p+1:=by omega
    simp only[*,go_sem]
    have bo:slot g 4=slot g 4:=rfl
    repeat refine af hJ ?_
    refine ak hJ ?_
    simp only[*,go_sem]
    repeat refine af hJ ?_
    refine aO hJ ?_
    have e0:gx u0 (p+2)=u0.take (p+1):=by
     show gx u0 (p+1)++cond (jV u0 (p+1)) _ _=_
     rw[Z,tj u0 _ T H];simp
    refine bU hJ [3,5,29,30,31,32,33,34,35,36,37,38,39,40,41,42,43,44,45,46,47,48,49,50,51,52,53] (fun br u F'=>∃(m w:Nat) (arr:Array Value) (x:List Int),1<=m/\m<=u0.length - (p+1)/\u0.length - (p+1) - m<=br/\F'=⟨ro,[(b,Obj.cells arr 3)]⟩/\slot u 5= .int .i64 (m:Int)/\slot u 3= .int .i64 (w:Int)/\
     aP rI ro 3 (.slice (some ⟨b,0,none⟩) u0.length cap) x [(b,.cells arr 3)]/\x.length=u0.length/\(gx u0 (p+(1+m))).length=w/\w<=p+m/\x.take w=gx u0 (p+(1+m))/\∀j,p+m<=j->x[j]?=u0[j]?) u0.length ?_ ?_
    .refine ⟨1,p+1,F,u0,Nat.le_refl _,by omega,by omega,rfl,?_,?_,hg,rfl,?_,Nat.le_refl _,e0.symm,fun _ _=>rfl⟩
     .simp only[*,go_sem];rfl
     .simp only[*,go_sem]
     .show (gx u0 (p+2)).length=p+1
      rw[e0,List.length_take];omega
    .rintro ab C F' s ⟨m,w,arr,x,L,O,dC,rfl,dE,dT,d,ae,t,ea,D,E⟩
     have eb:sz C=61:=by rw[s.size];simp only[*,go_sem]
     have ec:C.defers=[]:=by rw[s.defers];simp only[*,go_sem]
     have ed:slot C 0= .slice (some ⟨b,0,none⟩) u0.length cap:=by rw[s.dZ 0 (by decide)];simp only[*,go_sem]
     have eh:slot C 4= .slice (some ⟨b,p+1,none⟩) (u0.length - (p+1)) (cap - (p+1)):=by rw[s.dZ 4 (by decide)];simp only[*,go_sem]
     clear s bd bj bk bc bo
     repeat refine af hJ ?_
     refine ak hJ ?_
     simp only[*,go_sem]
     by_cases et:m<u0.length - (p+1)
     .have bs:decide (((m:Nat):Int)<((u0.length - (p+1):Nat):Int))=true:=decide_eq_true (by omega)
      refine dU hJ (by simp only[*,go_sem]) ?_
      refine aI hJ ?_
      repeat refine af hJ ?_
      refine aO hJ ?_
      repeat refine af hJ ?_
      obtain ⟨q,rfl⟩:∃q,m=q+1:=⟨m - 1,by omega⟩
      have eu:IntKind.i64.wrap (((q+1:Nat):Int) - 1)=(q:Int):=by rw[IntWalk.i64_in _ ⟨by omega,by omega⟩];omega
      refine fl hJ mixed 9 ⟨ro,[(b,Obj.cells arr 3)]⟩ (by simp only[*,go_sem]) (by kernel_rfl) ?_
      obtain ⟨a,al⟩:∃y,u0[p+(1+(q+1))]?=some y:=⟨u0[p+(1+(q+1))]'(by omega),List.getElem?_eq_getElem _⟩
      obtain ⟨I,K,ao⟩:=d.jg ((E _ (by omega)).trans al)
      obtain rfl:I=[.int .i64 a]:=K
      have ar:=ao 0 _ rfl
      simp only[go_sem] at ar
      have ev:=(Array.getElem?_eq_some_iff.1 ar).1
      obtain ⟨f,a0⟩:∃y,u0[p+(1+q)]?=some y:=⟨u0[p+(1+q)]'(by omega),List.getElem?_eq_getElem _⟩
      obtain ⟨M,N,a2⟩:=d.jg ((E _ (by omega)).trans a0)
      obtain rfl:M=[.int .i64 f]:=N
      have a3:=a2 0 _ rfl
      simp only[go_sem] at a3
      have eQ:=(Array.getElem?_eq_some_iff.1 a3).1
      have c1:¬((q+1:Nat):Int)<0:=by omega
      have c2:((q+1:Nat):Int)<((u0.length - (p+1):Nat):Int):=by omega
      have c3:¬(q:Int)<0:=by omega
      have c4:(q:Int)<((u0.length - (p+1):Nat):Int):=by omega
      have eS:(0:Int)<=((q+1:Nat):Int):=by omega
      have e2:(0:Int)<=(q:Int):=by omega
      simp only[*,go_sem]
      have a4:u0.getD (p+(1+(q+1))) 0=a:=by rw[List.getD_eq_getElem?_getD,al];rfl
      have bz:u0.getD (p+(1+q)) 0=f:=by rw[List.getD_eq_getElem?_getD,a0];rfl
      have bS:jV u0 (p+(1+(q+1)))=(a != f):=by
       unfold jV
       have b0:p+(1+(q+1)) - 1=p+(1+q):=by omega
       rw[b0,a4,bz]
       have:(p+(1+(q+1))==0)=false:=by simp
       rw[this,Bool.false_or]
      have e1:gx u0 (p+(1+(q+1+1)))=gx u0 (p+(1+(q+1)))++cond (a != f) [a] []:=by
       show gx u0 (p+(1+(q+1)))++cond (jV u0 (p+(1+(q+1)))) [u0.getD (p+(1+(q+1))) 0] []=_
       rw[bS,a4]
      have e3:IntKind.i64.wrap (((q+1:Nat):Int)+1)=((q+1+1:Nat):Int):=by rw[IntWalk.i64_in _ ⟨by omega,by omega⟩];omega
      clear ao a2 t
      have t:(gx u0 (p+(1+(q+1)))).length=w:=by rw[<-D,List.length_take];omega
      by_cases a5:a=f
      .subst a5
       simp only[bne_self_eq_false,cond_false,List.append_nil] at e1
       refine dM hJ (by simp only[*,go_sem,bne_self_eq_false]) ?_
       refine aI hJ ?_
       refine ak hJ ?_
       simp only[*,go_sem]
       refine ⟨ab - 1,by omega,_,Le.refl _,q+1+1,w,arr,x,by omega,by omega,by omega,rfl,?_,?_,d,ae,by rw[e1];exact t,by omega,by rw[e1];exact D,fun j c=>E j (by omega)⟩
       .simp only[*,go_sem]
       .simp only[*,go_sem]
      .have b1:(a != f)=true:=by simpa using a5
       rw[b1] at e1
       simp only[cond_true] at e1
       refine dU hJ (by simp only[*,go_sem]) ?_
       repeat refine af hJ ?_
       refine ak hJ ?_
       have d1:(w:Int)<(u0.length:Int):=by omega
       have d2:¬(w:Int)<0:=by omega
       have d3:(0:Int)<=(w:Int):=by omega
       have fa:w<arr.size:=by omega
       simp only[*,go_sem]
       have ca:aP rI ro 3 (.slice (some ⟨b,0,none⟩) u0.length cap) (x.set w a) [(b,Obj.cells (cK arr w [.int .i64 a]) 3)]:=by
        have cb:=d.sB (i:=w) (y:=a) (by omega) (cs:=[.int .i64 a]) rfl
        simpa only[sG,Nat.mul_one,Nat.add_zero] using cb
       have fb:IntKind.i64.wrap ((w:Int)+1)=((w+1:Nat):Int):=by rw[IntWalk.i64_in _ ⟨by omega,by omega⟩];omega
       refine ak hJ ?_
       simp only[*,go_sem]
       refine ak hJ ?_
       simp only[*,go_sem]
       refine ⟨ab - 1,by omega,_,Le.refl _,q+1+1,w+1,_,x.set w a,by omega,by omega,by omega,rfl,?_,?_,ca,by rw[List.length_set];exact ae,?_,by omega,?_,fun j c=>?_⟩
       .simp only[*,go_sem]
       .simp only[*,go_sem]
       .rw[e1,List.length_append,t];rfl
       .rw[e1,<-D,List.take_succ,List.take_set_of_le (Nat.le_refl _),List.getElem?_set_self (by omega)];rfl
       .rw[List.getElem?_set_ne (by omega)];exact E j (by omega)
     .have bs:decide (((m:Nat):Int)<((u0.length - (p+1):Nat):Int))=false:=decide_eq_false (by omega)
      refine dM hJ (by simp only[*,go_sem]) ?_
      refine bO ?_
      simp only[go_sem]
      have a6:p+(1+m)=u0.length:=by omega
      rw[a6] at t
      have d1:(w:Int)<=(u0.length:Int):=by omega
      have d2:¬(w:Int)<0:=by omega
      have d3:(0:Int)<=(w:Int):=by omega
      have d4:w<=u0.length:=by omega
      have d5:w<=cap:=by omega
      have d6:¬cap=w:=by omega
      have d7:(0:Int)<=(w:Int):=by omega
      have d8:(w:Int)<=(cap:Int):=by omega
      have cd:w+(u0.length - w)<=arr.size:=by
       obtain ⟨ls,cf,fg,-⟩:=id d
       rcases cf with ⟨a7,_,_⟩|⟨fi,fo,fp,a7,cl,hs,hle,_⟩
       .cases a7
       .cases cl
        have:rI.n=1:=rfl
        rw[this,Nat.mul_one] at hs
        omega
      repeat refine af hJ ?_
      refine ak hJ ?_
      simp only[*,go_sem,ite_false,if_false]
      refine Gu (pre:=[]) (bp:=[]) (z:=.int .i64 0) (zc:=.int .i64 0) rfl (by kernel_rfl:Tryz.prog.underlying 35=some (.slice 3)) (by kernel_rfl) rfl rfl (by omega) (by simp[au]) cd ?_
      dsimp only[List.nil_append]
      repeat refine af hJ ?_
      refine ak hJ ?_
      simp only[*,go_sem]
      refine ax ?_
      simp only[*,go_sem]
      refine ⟨_,?_,Le.refl _⟩
      have:=d.clear (k:=w) (by omega)
      rw[D,a6] at this
      simpa only[ite_self,Nat.sub_zero] using this
   .have aG:(l==o)=false:=by simpa using P
    refine dM hJ (by simp only[*,go_sem]) ?_
    refine aI hJ ?_
    refine ak hJ ?_
    have fr:IntKind.i64.wrap (((p+1:Nat):Int)+1)=((p+2:Nat):Int):=by rw[IntWalk.i64_in _ ⟨by omega,by omega⟩];omega
    simp only[*,go_sem]
    refine ⟨bb - 1,by omega,_,Le.refl _,p+2,by omega,by omega,by omega,rfl,by simp only[*,go_sem],fun j c=>?_⟩
    rcases Nat.lt_succ_iff_lt_or_eq.1 c with c|rfl
    .exact H j c
    .rw[Z];simpa using P
  .have hb:decide (((k:Nat):Int)<(u0.length:Int))=false:=decide_eq_false (by omega)
   refine dM hJ (by simp only[*,go_sem]) ?_
   refine bO ?_
   simp only[go_sem]
   repeat refine af hJ ?_
   refine ak hJ ?_
   simp only[*,go_sem]
   refine ax ?_
   simp only[*,go_sem]
   obtain rfl:k=u0.length:=by omega
   rw[tj u0 _ (Nat.le_refl _) H,List.take_length]
   exact ⟨_,hg,Le.refl _⟩
def xA (n:Int):Option (List Int):=if 0<=n/\n<=1000 then some [] else none
theorem HT {ro:Addr->Option Value}{R:Value->aa->Prop}{n:Nat}(o:0<n)(p:n<=1000){own:List (Nat×Obj)}
  (h:∀(k b:Nat) (arr:Array Value),n<=k->arr.size=k->dS ⟨ro,own⟩ b->R (.slice (some ⟨b,0,none⟩) n k) ⟨ro,(b,.cells arr 3)::own⟩):
  mw Tryz.prog #[35,3] (.slice none 0 0) (.int .i64 (n:Int)) R ⟨ro,own⟩:=by
 intro ty
 have c:Tryz.prog.underlying 35=some (.slice 3):=by kernel_rfl
 have d:Tryz.prog.underlying 3=some (.int .i64):=by kernel_rfl
 have e:b7 Tryz.prog 3=some 1:=by kernel_rfl
 have f:zeroOf Tryz.prog 3=some (.int .i64 0):=by kernel_rfl
 obtain ⟨info,g,i⟩:∃info,Tryz.prog.info? 3=some info/\info.bytes=8:=⟨_,rfl,by kernel_rfl⟩
 have w1:IntKind.i64.wrap (n:Int)=(n:Int):=IntWalk.i64_in _ ⟨by omega,by omega⟩
 have c1:¬(n:Int)<0:=by omega
 have c2:¬(n:Int)*(8:Nat)>2 ^ 48:=by omega
 have c3:¬0+n<=0:=by omega
 simp only[Builtin.append_,List.getElem?_toArray,List.getElem?_cons_zero,List.getElem?_cons_succ,bw,dy,c,d,eO,e,bI,Ab,if_true,dm,w1,if_neg c1,pK,g,i]
 rw[if_neg c2]
 simp only[Int.toNat_natCast,Nat.zero_add,Bool.not_true,Bool.false_eq_true,if_false]
 have c4:¬n<=0:=by omega
 have j:¬((n:Int)>IntKind.i64.max/\(True\/8=0)):=by
  have:IntKind.i64.max=9223372036854775807:=by decide
  rw[this];omega
 have l:¬Builtin.nextslicecap n 0*8>2 ^ 48:=by
  unfold Builtin.nextslicecap
  rw[if_pos (by omega)]
  omega
 have m:¬n*1=0:=by omega
 rw[if_neg c4,if_neg j,if_neg l]
 rw[vm]
 rw[if_neg (by simp[Question.forced])]
 intro t
 have a:n<=(Question.appendCap n 0 3).cut t:=Nat.le_add_right _ _
 generalize (Question.appendCap n 0 3).cut t=k at a ⊢
 refine vC _ ?_
 simp only[Builtin.firstCells,bI,if_neg m,mg,f,rQ,bw]
 intro b hb
 refine ⟨_,Le.refl _,h k b _ a ?_ hb⟩
 simp only[Array.size_append,Builtin.zeroCells,Array.size_map,Array.size_range,Value.cells]
 simp
 omega
theorem HU {ro:Addr->Option Value}(n:Int){x:List Int}(h:xA n=some x):aD Tryz.prog 140 #[.slice none 0 0,.int .i64 n] ⟨ro,[]⟩ (fun v G=>∃c,aP rI ro 3 v x c/\Le ⟨ro,c⟩ G):=by
 unfold xA at h;split at h
 case isFalse=>cases h
 rename_i g;obtain rfl:=Option.some.inj h;obtain ⟨n,rfl⟩:∃m:Nat,n=m:=⟨n.toNat,by omega⟩
 refine aD.go Tryz.func140 rfl Tryz.ntmps140 Tryz.results140 (by simp) fun main J hJ A j hd hs=>?_;have l:=hs 0;have k1:=hs 1;clear hs;repeat refine af hJ ?_
 refine ak hJ ?_;simp only[*,go_sem];repeat refine af hJ ?_
 refine ak hJ ?_;simp only[*,go_sem];repeat refine af hJ ?_
 have o:¬(n:Int)<0:=by omega
 refine dM hJ (by simp only[*,go_sem,decide_false]) ?_;refine aI hJ ?_;repeat refine af hJ ?_
 refine ak hJ ?_;simp only[*,go_sem];refine Bn rfl (by kernel_rfl:Tryz.prog.underlying 35=some (.slice 3)) (aJ ?_);have e1:IntKind.i64.wrap (((0:Nat):Int) - ((0:Nat):Int))=0:=by decide
 have p:IntKind.i64.wrap ((0:Int) - (0:Int))=0:=by decide
 have e2:IntKind.i64.wrap ((n:Int) - 0)=(n:Int):=by rw[IntWalk.i64_in _ ⟨by omega,by omega⟩];omega
 simp only[*,go_sem];repeat refine af hJ ?_
 refine ak hJ ?_;simp only[*,go_sem];repeat refine af hJ ?_
 by_cases d:0<n
 .have b2:(n:Int)>0:=by omega
  refine dU hJ (by simp only[*,go_sem,decide_true]) ?_;repeat refine af hJ ?_
  refine ak hJ ?_;simp only[*,go_sem];refine Bn rfl (by kernel_rfl:Tryz.prog.underlying 35=some (.slice 3)) (aJ ?_);simp only[*,go_sem];try simp only[Nat.le_refl,Int.le_refl,and_self,if_true,true_and]
  refine HT d (by omega) fun k b arr q e hb=>aJ ?_;have f:∀off sp,ro ⟨b,off,sp⟩=none:=hb.ro;have b3:(0:Int)<=(k:Int):=by omega
  simp only[*,go_sem,Int.le_refl,and_self,if_true,ite_self,Nat.sub_zero];repeat refine af hJ ?_
  refine ak hJ ?_;simp only[*,go_sem];refine ax ?_;simp only[*,go_sem];refine ⟨[(b,.cells arr 3)],⟨[],.inr ⟨b,arr,k,rfl,rfl,?_,Nat.zero_le _,?_,fun x a=>(by cases a),f⟩,rfl,Nat.zero_le _,fun i x a=>by simp at a⟩,Le.refl _⟩
  .show arr.size=k*1;rw[e,Nat.mul_one]
  .simp
 .have b2:¬(0:Int)<(n:Int):=by omega
  refine dM hJ (by simp only[*,go_sem,decide_false]) ?_;refine aI hJ ?_;repeat refine af hJ ?_
  refine ak hJ ?_;simp only[*,go_sem];refine ax ?_;simp only[*,go_sem];exact ⟨[],aP.nil _ _ _,Le.refl _⟩
def ou (u0:aj):Option (aj×Int):=
 ag (fW u0 ([]:(List (aj->Option Int)))) fun a=>cond ((a.2 != 0)) (some ((⟨0,0,(⟨0,0⟩:an),([]:(List bT)),([]:(List bX)),([]:(List bL)),([]:(List bG))⟩:aj),a.2)) (ag (s3 u0.az) fun b=>ag (qy u0.props) fun c=>ag (oo u0.av) fun d=>ag (om u0.told) fun e=>some ((⟨u0.bH,u0.bM,u0.aV,b,c,d,e⟩:aj),0))
theorem xB {ro:Addr->Option Value}(a6:de ro)(u0:aj){s1 z B C:Value}(E:bN ro u0 s1 z B C){r:(aj×Int)}(h:ou u0=some r):eM Tryz.prog 97 #[bv u0 s1 z B C] ro (fun v aM=>∃ao w1 w2 w3,v= .tuple #[bv r.1 ao w1 w2 w3,.int .i64 r.2]/\bN aM r.1 ao w1 w2 w3):=by
 unfold ou at h;have a7:=E.oc;simp only[bC] at a7;refine aD.go Tryz.func97 rfl Tryz.ntmps97 Tryz.results97 (by simp) fun main J hJ A a8 hd hs=>?_;have a9:=hs 0;clear hs;refine ah hJ ?_;simp only[*,go_sem];refine ay fun a F ba=>?_;try simp only[au] at ba
 refine ay fun b G bb=>?_;try simp only[au] at bb
 refine af hJ (ah hJ ?_);revert h;refine bS fun c bc h=>?_;simp only[*,go_sem];refine b9 hJ _ (jT a6 u0 E ([]:(List (aj->Option Int))) (aA.nil _ _) bc) fun v U ae al bd=>?_;obtain ⟨d,f,g,i,j,rfl,bj,bl⟩:=bd;have bm:=bj.oc;simp only[bC] at bm;have bo:=bl.oc;simp only[bC] at bo;replace E:=E.mono ae;replace G:=al.hd;replace F:=al.tl.hd;simp only[bu] at al;refine aJ ?_;simp only[*,go_sem];refine ay fun k K br=>?_;try simp only[au] at br
 refine ah hJ ?_;simp only[*,go_sem];revert h;refine aT hJ (fun bs h=>?_) fun bs h=>?_
 .obtain rfl:=sI h;refine ah hJ ?_;simp only[*,go_sem];refine ax ?_;simp only[*,go_sem];exact ⟨_,ae,Le.sub (List.nil_sublist _),_,_,_,_,rfl,⟨aA.nil _ _,aA.nil _ _,aA.nil _ _,aA.nil _ _⟩⟩
 refine aI hJ (af hJ ?_);refine aC hJ fun cy=>?_;refine eE hJ mixed [13,14,15,16,17,18,19] (.pure 0 (.rd 1 (.pure 3 (.rd 4 (.pure 6 (.rd 7 (.pure 9 (.rd 10 (.one 2 (.pure 12 (.one 5 (.one 8 (.one 11 (.last 13 (.pure 14 (.last 15 (.pure 16 (.last 17 (.pure 18 (.last 19 .done)))))))))))))))))))) ⟨U,[(k,kn c.1 d f g i j),(b,bz 29),(a,bk u0 s1 z B C)]⟩ (by simp only[*,go_sem]) (by kernel_rfl) ?_;revert h;refine bS fun m b0 h=>?_;simp only[*,go_sem];refine dN hJ (aX:=[]) [(k,kn c.1 d f g i j),(b,bz 29),(a,bk u0 s1 z B C)] [] _ (Ht u0.az E.e b0) (fun cS L ar M N c0=>?_);simp only[aS] at N;subst M;obtain ⟨d158,n,rfl,da⟩:=ar.len;refine ⟨⟨U,(k,kn c.1 d f g i j)::(b,bz 29)::(a,bk u0 s1 z B C)::L⟩,Le.refl _,?_⟩;refine ⟨by simp only[*,go_sem],bR ?_⟩;revert h;refine bS fun o b1 h=>?_;simp only[*,go_sem];refine dN hJ (aX:=[]) [(k,kn c.1 d f g i j),(b,bz 29),(a,bk u0 s1 z B C)] L _ (By u0.props E.p b1) (fun db O V M N dd=>?_);simp only[aS] at N;subst M;obtain ⟨d168,q,rfl,df⟩:=V.len;refine ⟨⟨U,(k,kn c.1 d f g i j)::(b,bz 29)::(a,bk u0 s1 z B C)::(O++L)⟩,Le.refl _,?_⟩;refine ⟨by simp only[*,go_sem],bR ?_⟩;revert h;refine bS fun s b2 h=>?_;simp only[*,go_sem];refine dN hJ (aX:=[]) [(k,kn c.1 d f g i j),(b,bz 29),(a,bk u0 s1 z B C)] (O++L) _ (Bx u0.av E.y b2) (fun dk P H M N dp=>?_);simp only[aS] at N;subst M;obtain ⟨d178,u,rfl,dq⟩:=H.len;refine ⟨⟨U,(k,kn c.1 d f g i j)::(b,bz 29)::(a,bk u0 s1 z B C)::(P++(O++L))⟩,Le.refl _,?_⟩;refine ⟨by simp only[*,go_sem],bR ?_⟩;revert h;refine bS fun w b3 h=>?_;obtain rfl:=sI h;simp only[*,go_sem];refine dN hJ (aX:=[]) [(k,kn c.1 d f g i j),(b,bz 29),(a,bk u0 s1 z B C)] (P++(O++L)) _ (wN u0.told E.t b3) (fun ds Q D M N dt=>?_);simp only[aS] at N;subst M;obtain ⟨d188,x,rfl,du⟩:=D.len;refine ⟨⟨U,(k,kn c.1 d f g i j)::(b,bz 29)::(a,bk u0 s1 z B C)::(Q++(P++(O++L)))⟩,Le.refl _,?_⟩;refine ⟨by simp only[*,go_sem],bR ?_⟩;simp only[*,go_sem];refine af hJ ?_;refine eY [1,2,3] fun dv b4 b5 ca=>?_;simp only[*,go_sem] at b4 b5 ca;clear a8 hd a9;refine aC hJ fun dC=>?_;refine ak hJ ?_;simp only[*,go_sem];refine aC hJ fun a0=>?_;obtain ⟨dE,X,R,I,cb⟩:=ar.lB ((k,kn c.1 d f g i j)::(b,bk u0 (sl d158 m n) (sl d168 o q) (sl d178 s u) (sl d188 w x))::(a,bk u0 (sl d158 m n) (sl d168 o q) (sl d178 s u) (sl d188 w x))::(Q++(P++O))) ((k,kn c.1 d f g i j)::(b,bk u0 (sl d158 m n) (sl d168 o q) (sl d178 s u) (sl d188 w x))::(a,bk u0 (sl d158 m n) (sl d168 o q) (sl d178 s u) (sl d188 w x))::(Q++(P++O))) [] (by first|rfl|simp only[aS]|(simp only[aS];rfl)) (by first|rfl|simp only[aS]|(simp only[aS];rfl)) a0 (aE.cons K (aE.cons G (aE.cons F (aE.app D.jK (aE.app H.jK (V.jK))))));clear a0;refine cz hJ cb ?_;obtain ⟨dT,ea,-⟩:=I.op;replace K:=R.hd;replace G:=R.tl.hd;replace F:=R.tl.tl.hd;replace D:=D.mono X R.tl.tl.tl.l;replace H:=H.mono X R.tl.tl.tl.r.l;replace V:=V.mono X R.tl.tl.tl.r.r;simp only[bu] at R;refine aC hJ fun a2=>?_;obtain ⟨eb,Y,S,T,cd⟩:=V.lB ((k,kn c.1 d f g i j)::(b,bk u0 (sl d158 m n) (sl d168 o q) (sl d178 s u) (sl d188 w x))::(a,bk u0 (sl d158 m n) (sl d168 o q) (sl d178 s u) (sl d188 w x))::(Q++P)) ((k,kn c.1 d f g i j)::(b,bk u0 (sl d158 m n) (sl d168 o q) (sl d178 s u) (sl d188 w x))::(a,bk u0 (sl d158 m n) (sl d168 o q) (sl d178 s u) (sl d188 w x))::(Q++P)) [] (by first|rfl|simp only[aS]|(simp only[aS];rfl)) (by first|rfl|simp only[aS]|(simp only[aS];rfl)) a2 (aE.cons K (aE.cons G (aE.cons F (aE.app D.jK (H.jK)))));clear a2;refine cz hJ cd ?_;obtain ⟨ec,ed,-⟩:=T.op;replace I:=I.mono Y;replace K:=S.hd;replace G:=S.tl.hd;replace F:=S.tl.tl.hd;replace D:=D.mono Y S.tl.tl.tl.l;replace H:=H.mono Y S.tl.tl.tl.r;simp only[bu] at S;refine aC hJ fun a3=>?_;obtain ⟨eh,Z,W,ab,cf⟩:=H.lB ((k,kn c.1 d f g i j)::(b,bk u0 (sl d158 m n) (sl d168 o q) (sl d178 s u) (sl d188 w x))::(a,bk u0 (sl d158 m n) (sl d168 o q) (sl d178 s u) (sl d188 w x))::Q) ((k,kn c.1 d f g i j)::(b,bk u0 (sl d158 m n) (sl d168 o q) (sl d178 s u) (sl d188 w x))::(a,bk u0 (sl d158 m n) (sl d168 o q) (sl d178 s u) (sl d188 w x))::Q) [] (by first|rfl|simp only[aS]|(simp only[aS];rfl)) (by first|rfl|simp only[aS]|(simp only[aS];rfl)) a3 (aE.cons K (aE.cons G (aE.cons F (D.jK))));clear a3;refine cz hJ cf ?_;obtain ⟨et,eu,-⟩:=ab.op;replace I:=I.mono Z;replace T:=T.mono Z;replace K:=W.hd;replace G:=W.tl.hd;replace F:=W.tl.tl.hd;replace D:=D.mono Z W.tl.tl.tl;simp only[bu] at W;refine aC hJ fun a4=>?_;obtain ⟨ev,ad,cl,a5,cu⟩:=D.lB ((k,kn c.1 d f g i j)::(b,bk u0 (sl d158 m n) (sl d168 o q) (sl d178 s u) (sl d188 w x))::(a,bk u0 (sl d158 m n) (sl d168 o q) (sl d178 s u) (sl d188 w x))::[]) [(k,kn c.1 d f g i j),(b,bk u0 (sl d158 m n) (sl d168 o q) (sl d178 s u) (sl d188 w x)),(a,bk u0 (sl d158 m n) (sl d168 o q) (sl d178 s u) (sl d188 w x))] [] (by first|rfl|simp only[aS]|(simp only[aS];rfl)) (by first|rfl|simp only[aS]|(simp only[aS];rfl)) a4 (aE.cons K (aE.cons G (aE.cons F (aE.nil _))));clear a4;refine cz hJ cu ?_;obtain ⟨eQ,eS,-⟩:=a5.op;replace I:=I.mono ad;replace T:=T.mono ad;replace ab:=ab.mono ad;simp only[bu] at cl;refine ax ?_;simp only[*,go_sem];exact ⟨_,((((ae).trans X).trans Y).trans Z).trans ad,Le.sub (List.nil_sublist _),_,_,_,_,rfl,⟨I,T,ab,a5⟩⟩
def xC (u0:Int)(a:Int):Option Int:=
 ag (ot u0) fun c=>ag (ot a) fun b=>cond (c) (cond (b) (some 0) (some (-1))) (cond (b) (some 1) (cond (decide (u0<a)) (some (-1)) (cond (decide (a<u0)) (some 1) (some 0))))
theorem HV {ro:Addr->Option Value}(u0:Int)(a:Int){r:Int}(h:xC u0 a=some r):aD Tryz.prog 161 #[.int .i64 u0,.int .i64 a] ⟨ro,[]⟩ (fun v _=>v= .int .i64 r):=by
 unfold xC at h;refine aD.go Tryz.func161 rfl Tryz.ntmps161 Tryz.results161 (by simp) fun main J hJ A j hd hs=>?_;have k:=hs 0;have k1:=hs 1;clear hs;refine ah hJ ?_;simp only[*,go_sem];refine ah hJ ?_;revert h;refine bS fun l b h=>?_;simp only[*,go_sem];refine aU hJ _ (td u0 b) (aJ ?_);simp only[*,go_sem];refine ah hJ ?_;revert h;refine bS fun m c h=>?_;simp only[*,go_sem];refine aU hJ _ (td a c) (aJ ?_);simp only[*,go_sem];refine af hJ (ah hJ ?_);simp only[*,go_sem];revert h;refine aT hJ (fun d h=>?_) fun d h=>?_
 .refine af hJ (ah hJ ?_);simp only[*,go_sem];revert h;refine aT hJ (fun e h=>?_) fun e h=>?_
  .obtain rfl:=sI h;refine ah hJ ?_;simp only[*,go_sem];refine ax ?_;simp only[*,go_sem]
  obtain rfl:=sI h;refine aI hJ (af hJ ?_);refine ak hJ ?_;simp only[*,go_sem];refine ax ?_;simp only[*,go_sem]
 refine aI hJ (af hJ ?_);refine ah hJ ?_;simp only[*,go_sem];revert h;refine aT hJ (fun f h=>?_) fun f h=>?_
 .obtain rfl:=sI h;refine ah hJ ?_;simp only[*,go_sem];refine ax ?_;simp only[*,go_sem]
 refine aI hJ (af hJ ?_);refine ah hJ ?_;simp only[*,go_sem];revert h;refine aT hJ (fun g h=>?_) fun g h=>?_
 .obtain rfl:=sI h;refine ah hJ ?_;simp only[*,go_sem];refine ax ?_;simp only[*,go_sem]
 refine aI hJ (af hJ ?_);refine ah hJ ?_;simp only[*,go_sem];revert h;refine aT hJ (fun i h=>?_) fun i h=>?_
 .obtain rfl:=sI h;refine ah hJ ?_;simp only[*,go_sem];refine ax ?_;simp only[*,go_sem]
 obtain rfl:=sI h;refine aI hJ (af hJ ?_);refine ak hJ ?_;simp only[*,go_sem];refine ax ?_;simp only[*,go_sem]
def xD (a:(List Int))(i16:Nat)(c:Int)(st:Int):Option (Fl Int Int):=
 cond (decide ((a.length:Int)<=(i16:Int))) (some (.rt 1)) (ag (bf a (i16:Int)) fun d=>ag (xC c d) fun b=>cond ((b != 0)) (some (.rt b)) (some (.nx st)))
def xE (u0:(List Int))(a:(List Int)):Option Int:=
 ag (bJ (xD a) 0 u0 0) fun o=>aF o (fun b=>cond (decide ((u0.length:Int)<(a.length:Int))) (some (-1)) (some 0)) (fun _ _=>none) (fun r=>some r)
theorem HW {ro:Addr->Option Value}(u0:(List Int)){s1:Value}(g:aA rI ro s1 u0)(d:(List Int)){i:Value}(j:aA rI ro i d){r:Int}(h:xE u0 d=some r):aD Tryz.prog 117 #[s1,i] ⟨ro,[]⟩ (fun v _=>v= .int .i64 r):=by
 obtain ⟨d3,c4,rfl,U,w,-⟩:=id g;obtain ⟨d10,V,rfl,W,X,-⟩:=id j;unfold xE at h;refine aD.go Tryz.func117 rfl Tryz.ntmps117 Tryz.results117 (by simp) fun main J hJ A y hd hs=>?_;have z:=hs 0;have k1:=hs 1;clear hs;refine ah hJ ?_;simp only[*,go_sem];refine af hJ (ah hJ ?_);simp only[*,go_sem];refine aO hJ ?_;revert h;refine bS fun B a e=>?_;refine bU hJ (rg 11 20 [4,5,6,7,8]) (fun m k F'=>∃(i16:Nat) (c:Int),m=u0.length - i16/\i16<=u0.length/\bJ (xD d) i16 (u0.drop i16) c=some B/\F'=⟨ro,[]⟩/\slot k 11= .int .i64 (i16:Int)/\slot k 4= .int .i64 c) u0.length ?_ ?_
 .refine ⟨0,0,(Nat.sub_zero _).symm,Nat.zero_le _,a,rfl,?_⟩;simp only[*,go_sem]
 rintro Y Z F' l ⟨i16,c,rfl,ab,a,rfl,ad,ae⟩;obtain ⟨C,D,E⟩:=l.pick [0,1,9,10] (by decide);simp only[*,go_sem] at C D E;clear l y hd z k1;refine ah hJ ?_;simp only[*,go_sem];refine af hJ ?_;rcases Nat.lt_or_ge i16 u0.length with F|o
 .refine b8 hJ ?_;refine aI hJ ?_;obtain ⟨p,f⟩:∃x,u0[i16]?=some x:=⟨_,List.getElem?_eq_getElem F⟩
  rw[dg f] at a;revert a;refine bS fun al h b=>?_;unfold xD at h;try dsimp only at h
  obtain ⟨ao,G,H,I,q⟩:=g.el _ _ f;obtain rfl:G=[.int .i64 p]:=I;cases H;have K:=q 0 _ rfl;simp only[go_sem] at K;clear q f;refine af hJ (aO hJ (af hJ ?_));refine ak hJ ?_;simp only[*,go_sem];refine af hJ (ah hJ ?_);simp only[*,go_sem];revert h;refine aT hJ (fun L h=>?_) fun L h=>?_
  .obtain rfl:=sI h;refine ah hJ ?_;simp only[*,go_sem];obtain rfl:=sI b;clear b;have h:=e;dsimp only[aF] at h;obtain rfl:=sI h;refine ax ?_;simp only[*,go_sem]
  refine aI hJ (af hJ ?_);refine ak hJ ?_;revert h;refine bS fun s M h=>?_;obtain ⟨ar,a0,t⟩:=cG M;obtain ⟨a2,N,O,P,u⟩:=j.el _ _ t;obtain rfl:N=[.int .i64 s]:=P;cases O;have Q:=u 0 _ rfl;simp only[go_sem] at Q;clear u t;simp only[*,go_sem];refine ah hJ ?_;revert h;refine bS fun a3 R h=>?_;simp only[*,go_sem];refine aU hJ _ (HV p s R) (aJ ?_);simp only[*,go_sem];refine ah hJ ?_;simp only[*,go_sem];revert h;refine aT hJ (fun S h=>?_) fun S h=>?_
  .obtain rfl:=sI h;refine ah hJ ?_;simp only[*,go_sem];obtain rfl:=sI b;clear b;have h:=e;dsimp only[aF] at h;obtain rfl:=sI h;refine ax ?_;simp only[*,go_sem]
  obtain rfl:=sI h;refine aI hJ ?_;have a4:=cv (n:=i16) (by have:=w;omega);refine ak hJ ?_;simp only[*,go_sem];refine ⟨u0.length - (i16+1),by omega,_,Le.sub (List.Sublist.refl _),i16+1,c,rfl,by omega,b,rfl,?_⟩;simp only[*,go_sem]
 have a5:=Nat.not_lt.2 o;refine b6 hJ ?_;rw[List.drop_eq_nil_of_le o] at a;obtain rfl:=sI a;clear a;have h:=e;dsimp only[aF] at h;refine bO ?_;simp only[go_sem];refine af hJ (ah hJ ?_);simp only[*,go_sem];revert h;refine aT hJ (fun T h=>?_) fun T h=>?_
 .obtain rfl:=sI h;refine ah hJ ?_;simp only[*,go_sem];refine ax ?_;simp only[*,go_sem]
 obtain rfl:=sI h;refine aI hJ (af hJ ?_);refine ak hJ ?_;simp only[*,go_sem];refine ax ?_;simp only[*,go_sem]
def tq (u0:(List Int))(a:(List Int)):Option Bool:=
 cond (decide ((a.length:Int)<(u0.length:Int))) (some true) (cond (((a.length:Int)==(u0.length:Int))) (ag (xE a u0) fun b=>some (decide (b<0))) (some false))
theorem HX {ro:Addr->Option Value}(u0:(List Int)){s1:Value}(d:aA rI ro s1 u0)(a:(List Int)){e:Value}(f:aA rI ro e a){r:Bool}(h:tq u0 a=some r):aD Tryz.prog 116 #[s1,e] ⟨ro,[]⟩ (fun v _=>v= .bool r):=by
 obtain ⟨d3,c4,rfl,i,j,-⟩:=id d;obtain ⟨d10,k,rfl,l,m,-⟩:=id f;unfold tq at h;refine aD.go Tryz.func116 rfl Tryz.ntmps116 Tryz.results116 (by simp) fun main J hJ A n hd hs=>?_;have o:=hs 0;have k1:=hs 1;clear hs;refine ah hJ ?_;simp only[*,go_sem];refine ah hJ ?_;revert h;refine cS (fun b h=>?_) fun b h=>?_
 .obtain rfl:=sI h;try simp only[Int.ofNat_lt] at b
  simp only[*,go_sem];refine ax ?_;simp only[*,go_sem]
 try simp only[Int.ofNat_lt] at b
 revert h;refine cS (fun c h=>?_) fun c h=>?_
 .try simp only[Int.ofNat_lt] at c
  revert h;refine bS fun p g h=>?_;obtain rfl:=sI h;simp only[*,go_sem];refine aU hJ _ (HW a (f.mono aN) u0 (d.mono aN) g) (aJ ?_);simp only[*,go_sem];refine ax ?_;simp only[*,go_sem]
 obtain rfl:=sI h;try simp only[Int.ofNat_lt] at c
 simp only[*,go_sem];refine ax ?_;simp only[*,go_sem]
def jW (u0:aj)(b:Int):Option (Int×Int):=
 ag (fW u0 ([(eP b)])) fun a=>cond ((a.2 != 0)) (some (0,a.2)) (ag (oe a.1 (fun c=>jR c a.1 b)) fun d=>some (d,0))
theorem tr {ro:Addr->Option Value}(j:de ro)(u0:aj){s1 k l m:Value}(i:bN ro u0 s1 k l m)(c:Int){r:(Int×Int)}(h:jW u0 c=some r):aD Tryz.prog 46 #[bv u0 s1 k l m,.int .i64 c] ⟨ro,[]⟩ (fun v _=>v= .tuple #[.int .i64 r.1,.int .i64 r.2]):=by
 unfold jW at h;have G:=i.oc;simp only[bC] at G;refine aD.go Tryz.func46 rfl Tryz.ntmps46 Tryz.results46 (by simp) fun main J hJ A ae hd hs=>?_;have al:=hs 0;have k1:=hs 1;clear hs;refine ah hJ ?_;simp only[*,go_sem];refine ay fun H I K=>?_;try simp only[au] at K
 refine ay fun u L M=>?_;try simp only[au] at M
 refine af hJ ?_;refine aC hJ fun N=>?_;refine ak hJ ?_;revert h;refine bS fun n O h=>?_;simp only[*,go_sem];refine ay fun f w z=>?_;have B:=aQ.cons z N;try simp only[au] at z
 obtain ⟨q,C,D⟩:=fS (b:=f) (o:=(.cells #[.func (.func 102) #[.int .i64 c] #[]] 133)) [] ((u,ic c)::(H,bk u0 s1 k l m)::[]) B w (aE.cons L (aE.cons I (aE.nil _)));have E:aA (c8) (bV ro f (.cells #[.func (.func 102) #[.int .i64 c] #[]] 133)) (.slice (some ⟨f,0,none⟩) 1 1) [(eP c)]:=(aA.one (r:=(c8)) (e:=133) (cs:=#[.func (.func 102) #[.int .i64 c] #[]]) (x:=(eP c)) (own:=[(f,.cells #[.func (.func 102) #[.int .i64 c] #[]] 133)]) w (by simp[lk]) ⟨102,#[.int .i64 c],#[],rfl,⟨by simp only[go_sem],fun P a g _ _ _ _ _ Q R S T h=>by simp only[go_sem];exact sL c g ⟨Q,R,S,T⟩ h⟩⟩)
 generalize bV ro f (.cells #[.func (.func 102) #[.int .i64 c] #[]] 133)=ao at E C q D;refine g6 hJ D ?_;replace i:=i.mono q;replace j:=j.mono q;simp only[bu] at C;have U:=aQ.tl B;refine b9 hJ _ (jT j u0 i ([(eP c)]) E O) fun v ar a0 V W=>?_;obtain ⟨a2,a3,a4,a5,a6,rfl,d,s⟩:=W;have X:=d.oc;simp only[bC] at X;simp only[bu] at V;obtain ⟨d41,a7,rfl,a8,a9,-⟩:=id d.e;obtain ⟨d48,ba,rfl,bb,bc,-⟩:=id d.p;obtain ⟨d55,bd,rfl,bj,bl,-⟩:=id d.y;obtain ⟨d62,bm,rfl,bo,br,-⟩:=id d.t;obtain ⟨d69,bs,rfl,bz,b0,-⟩:=id s;refine aJ ?_;simp only[*,go_sem];refine ay fun Y b1 F=>?_;have b2:=aQ.cons F U;try simp only[au] at F
 refine af hJ (ah hJ ?_);simp only[*,go_sem];revert h;refine aT hJ (fun Z h=>?_) fun Z h=>?_
 .obtain rfl:=sI h;refine ah hJ ?_;simp only[*,go_sem];refine ax ?_;simp only[*,go_sem]
 refine aI hJ (af hJ ?_);refine ak hJ ?_;revert h;refine bS fun b3 ab h=>?_;obtain rfl:=sI h;simp only[*,go_sem];refine aU hJ _ (Bw (dz:=126) (ef:=#[]) (eg:=#[.pointer (some ⟨Y,0,none⟩),.pointer (some ⟨u,0,none⟩)]) n.1 (d.mono aN) (s.mono aN) (fun g=>jR g n.1 c) ⟨by simp only[go_sem],fun P a g b4 ad=>by simp only[go_sem];exact Ho g n.1 (a _ _ (by simp only[aa.cx,go_sem, *])) (a _ _ (by simp only[aa.cx,go_sem, *])) (a _ _ (by simp only[aa.cx,go_sem, *])) (a _ _ (by simp only[aa.cx,go_sem, *])) ((d.e.mono aN).mono a) (a _ _ (by simp only[aa.cx,go_sem, *])) ((d.p.mono aN).mono a) (a _ _ (by simp only[aa.cx,go_sem, *])) ((d.y.mono aN).mono a) (a _ _ (by simp only[aa.cx,go_sem, *])) ((d.t.mono aN).mono a) (a _ _ (by simp only[aa.cx,go_sem, *])) ((s.mono aN).mono a) (a _ _ (by simp only[aa.cx,go_sem, *])) c (a _ _ (by simp only[aa.cx,go_sem, *])) ad⟩ ab) (aJ ?_);simp only[*,go_sem];refine ax ?_;simp only[*,go_sem]
def jo (u0:aj):Option (Int×Int):=
 ag (fW u0 ([]:(List (aj->Option Int)))) fun a=>cond ((a.2 != 0)) (some (0,a.2)) (ag (oe a.1 (fun b=>jS b a.1)) fun c=>some (c,0))
theorem ov {ro:Addr->Option Value}(l:de ro)(u0:aj){s1 g i j:Value}(k:bN ro u0 s1 g i j){r:(Int×Int)}(h:jo u0=some r):aD Tryz.prog 19 #[bv u0 s1 g i j] ⟨ro,[]⟩ (fun v _=>v= .tuple #[.int .i64 r.1,.int .i64 r.2]):=by
 unfold jo at h;have m:=k.oc;simp only[bC] at m;refine aD.go Tryz.func19 rfl Tryz.ntmps19 Tryz.results19 (by simp) fun main J hJ A D hd hs=>?_;have E:=hs 0;clear hs;refine ah hJ ?_;simp only[*,go_sem];refine ay fun F G n=>?_;try simp only[au] at n
 refine ah hJ ?_;revert h;refine bS fun c o h=>?_;simp only[*,go_sem];refine b9 hJ _ (jT l u0 k ([]:(List (aj->Option Int))) (aA.nil _ _) o) fun v H I q s=>?_;obtain ⟨K,L,M,N,O,rfl,b,d⟩:=s;have u:=b.oc;simp only[bC] at u;simp only[bu] at q;obtain ⟨d37,P,rfl,Q,R,-⟩:=id b.e;obtain ⟨d44,S,rfl,T,U,-⟩:=id b.p;obtain ⟨d51,V,rfl,W,X,-⟩:=id b.y;obtain ⟨d58,Y,rfl,Z,ab,-⟩:=id b.t;obtain ⟨d65,ad,rfl,ae,al,-⟩:=id d;refine aJ ?_;simp only[*,go_sem];refine ay fun w ao x=>?_;try simp only[au] at x
 refine af hJ (ah hJ ?_);simp only[*,go_sem];revert h;refine aT hJ (fun z h=>?_) fun z h=>?_
 .obtain rfl:=sI h;refine ah hJ ?_;simp only[*,go_sem];refine ax ?_;simp only[*,go_sem]
 refine aI hJ (af hJ ?_);refine ak hJ ?_;revert h;refine bS fun ar B h=>?_;obtain rfl:=sI h;simp only[*,go_sem];refine aU hJ _ (Bw (dz:=91) (ef:=#[]) (eg:=#[.pointer (some ⟨w,0,none⟩)]) c.1 (b.mono aN) (d.mono aN) (fun f=>jS f c.1) ⟨by simp only[go_sem],fun a0 a f a2 C=>by simp only[go_sem];exact Hp f c.1 (a _ _ (by simp only[aa.cx,go_sem, *])) (a _ _ (by simp only[aa.cx,go_sem, *])) (a _ _ (by simp only[aa.cx,go_sem, *])) (a _ _ (by simp only[aa.cx,go_sem, *])) ((b.e.mono aN).mono a) (a _ _ (by simp only[aa.cx,go_sem, *])) ((b.p.mono aN).mono a) (a _ _ (by simp only[aa.cx,go_sem, *])) ((b.y.mono aN).mono a) (a _ _ (by simp only[aa.cx,go_sem, *])) ((b.t.mono aN).mono a) (a _ _ (by simp only[aa.cx,go_sem, *])) ((d.mono aN).mono a) (a _ _ (by simp only[aa.cx,go_sem, *])) C⟩ B) (aJ ?_);simp only[*,go_sem];refine ax ?_;simp only[*,go_sem]
def xF (a:(cT×Int))(i74:Nat)(i83:Nat)(b:aW)(st:Int):Option (Fl Int (Int×Int×Int)):=
 ag (aW.get b (i74:Int)) fun c=>ag (gO a.1.book (i74:Int) c) fun d=>ag (gv a.1.book d) fun e=>cond (e) (some (.nx (IntKind.i64.wrap (st+1)))) (some (.nx st))
def xG (b:(cT×Int))(i74:Nat)(c:bL)(st:(Int×Int)):Option (Fl (Int×Int) (Int×Int×Int)):=
 ag (bJ (xF b i74) 0 b.1.all 0) fun o=>aF o (fun a=>cond (decide ((if a<IntKind.i64.wrap ((b.1.all.length:Int) - a) then IntKind.i64.wrap ((b.1.all.length:Int) - a) else a)<st.2)) (some (.nx ((i74:Int),(if a<IntKind.i64.wrap ((b.1.all.length:Int) - a) then IntKind.i64.wrap ((b.1.all.length:Int) - a) else a)))) (some (.nx (st.1,st.2)))) (fun _ _=>none) (fun r=>some (.rt r))
def xH (u0:aj):Option (Int×Int×Int):=
 ag (fW u0 ([]:(List (aj->Option Int)))) fun a=>cond ((a.2 != 0)) (some (0,0,a.2)) (ag (bJ (xG a) 0 a.1.book.av ((-1),(a.1.all.length:Int))) fun o=>aF o (fun b=>some (b.1,b.2,0)) (fun _ _=>none) (fun r=>some r))
theorem HY {ro:Addr->Option Value}(V:de ro)(u0:aj){s1 g i j:Value}(w:bN ro u0 s1 g i j){r:(Int×Int×Int)}(h:xH u0=some r):aD Tryz.prog 65 #[bv u0 s1 g i j] ⟨ro,[]⟩ (fun v _=>v= .tuple #[.int .i64 r.1,.int .i64 r.2.1,.int .i64 r.2.2]):=by
 unfold xH at h;have W:=w.oc;simp only[bC] at W;refine aD.go Tryz.func65 rfl Tryz.ntmps65 Tryz.results65 (by simp) fun main J hJ A X hd hs=>?_;have Y:=hs 0;clear hs;refine ah hJ ?_;simp only[*,go_sem];refine ay fun z dp Z=>?_;try simp only[au] at Z
 refine ah hJ ?_;revert h;refine bS fun a ab h=>?_;simp only[*,go_sem];refine b9 hJ _ (jT V u0 w ([]:(List (aj->Option Int))) (aA.nil _ _) ab) fun v B dq ad ae=>?_;obtain ⟨C,D,ds,E,dt,rfl,f,G⟩:=ae;have al:=f.oc;simp only[bC] at al;simp only[bu] at ad;obtain ⟨d51,H,rfl,du,I,-⟩:=id f.y;obtain ⟨d65,K,rfl,dv,L,-⟩:=id G;refine aJ ?_;simp only[*,go_sem];refine ay fun M dC ao=>?_;try simp only[au] at ao
 refine af hJ (ah hJ ?_);simp only[*,go_sem];revert h;refine aT hJ (fun ar h=>?_) fun ar h=>?_
 .obtain rfl:=sI h;refine ah hJ ?_;simp only[*,go_sem];refine ax ?_;simp only[*,go_sem]
 refine aI hJ (af hJ ?_);refine cP hJ mixed 5 2 (by simp only[*,go_sem]) (by kernel_rfl) ?_;simp only[*,go_sem];refine af hJ (ah hJ ?_);simp only[*,go_sem];refine aO hJ ?_;revert h;refine bS fun a0 c a2=>?_;refine bU hJ (rg 27 36 [2,3,6,7,9,10]) (fun m e F'=>∃(i74:Nat) (k:Int) (l:Int),m=a.1.book.av.length - i74/\i74<=a.1.book.av.length/\bJ (xG a) i74 (a.1.book.av.drop i74) (k,l)=some a0/\F'=⟨B,(M,kn a.1 C D (sl d51 a.1.book.av H) E (sl d65 a.1.all K))::(z,bk u0 s1 g i j)::[]⟩/\slot e 27= .int .i64 (i74:Int)/\slot e 2= .int .i64 k/\slot e 3= .int .i64 l) a.1.book.av.length ?_ ?_
 .refine ⟨0,(-1),(a.1.all.length:Int),(Nat.sub_zero _).symm,Nat.zero_le _,c,rfl,?_⟩;simp only[*,go_sem]
 rintro dE a3 F' N ⟨i74,k,l,rfl,dT,c,rfl,a4,a5,a6⟩;obtain ⟨O,P,Q⟩:=N.pick [4,5,26] (by decide);simp only[*,go_sem] at O P Q;clear N X hd Y;refine ah hJ ?_;simp only[*,go_sem];refine af hJ ?_;rcases Nat.lt_or_ge i74 a.1.book.av.length with a7|R
 .refine b8 hJ ?_;refine aI hJ ?_;obtain ⟨a8,q⟩:∃x,a.1.book.av[i74]?=some x:=⟨_,List.getElem?_eq_getElem a7⟩
  rw[dg q] at c;revert c;refine bS fun ea h S=>?_;unfold xG at h;try dsimp only at h
  obtain ⟨a9,ba,bb,bc,o⟩:=f.y.el _ _ q;obtain rfl:ba=a8.cells:=bc;cases bb;have bd:=o 0 _ rfl;simp only[go_sem] at bd;have bj:=o 1 _ rfl;simp only[go_sem] at bj;have bl:=o 2 _ rfl;simp only[go_sem] at bl;clear o q;refine af hJ (aO hJ (af hJ ?_));refine ak hJ ?_;simp only[*,go_sem];refine ah hJ ?_;simp only[*,go_sem];refine af hJ (ah hJ ?_);simp only[*,go_sem];refine aO hJ ?_;revert h;refine bS fun bm d bo=>?_;refine bU hJ (rg 33 17 [7,9]) (fun m e F'=>∃(i83:Nat) (b:Int),m=a.1.all.length - i83/\i83<=a.1.all.length/\bJ (xF a i74) i83 (a.1.all.drop i83) b=some bm/\F'=⟨B,(M,kn a.1 C D (sl (some a9) a.1.book.av H) E (sl d65 a.1.all K))::(z,bk u0 s1 g i j)::[]⟩/\slot e 33= .int .i64 (i83:Int)/\slot e 7= .int .i64 b) a.1.all.length ?_ ?_
  .refine ⟨0,0,(Nat.sub_zero _).symm,Nat.zero_le _,d,rfl,?_⟩;simp only[*,go_sem]
  rintro eb br F' s ⟨i83,b,rfl,ec,d,rfl,ed,eh⟩;obtain ⟨bs,bz,b0⟩:=s.pick [2,3,4,5,6,26,27,28,29,30,31,32] (by decide);simp only[*,go_sem] at bs bz b0;have et:cM (rg 27 36 [2,3,6,7,9,10]) br a3:=(s.gm (by decide)).trans (by simp only[*,go_sem]);clear s O P Q a5 a6 a4;refine ah hJ ?_;simp only[*,go_sem];refine af hJ ?_;rcases Nat.lt_or_ge i83 a.1.all.length with b1|T
  .refine b8 hJ ?_;refine aI hJ ?_;obtain ⟨b2,t⟩:∃x,a.1.all[i83]?=some x:=⟨_,List.getElem?_eq_getElem b1⟩
   rw[dg t] at d;revert d;refine bS fun eu h U=>?_;unfold xF at h;(try dsimp only at h);obtain ⟨ev,b3,b4,b5,p⟩:=G.el _ _ t;obtain rfl:b3=b2.cells:=b5;cases b4;have ca:=p 0 _ rfl;simp only[go_sem] at ca;have cb:=p 1 _ rfl;simp only[go_sem] at cb;have cd:=p 2 _ rfl;simp only[go_sem] at cd;clear p t;refine af hJ (aO hJ (af hJ ?_));refine ak hJ ?_;simp only[*,go_sem];refine ay fun eQ eS cf=>?_;try simp only[au] at cf
   refine af hJ ?_;refine cP hJ mixed 10 3 (by simp only[*,go_sem]) (by kernel_rfl) ?_;revert h;refine bS fun cl cu h=>?_;obtain ⟨e0,e1,cy⟩:=aW.get_some cu;(try simp only[go_sem] at cy);revert h;refine bS fun cS c0 h=>?_;simp only[*,go_sem];refine ⟨_,bD hJ fun F u=>mK a.1.book (f.mono (bY u)) (i74:Int) cl c0,cn ?_⟩;revert h;refine bS fun e2 da h=>?_;simp only[*,go_sem];refine ⟨_,bD hJ fun F u=>mT a.1.book (f.mono (bY u)) cS da,?_⟩;revert h;refine aT hJ (fun db h=>?_) fun db h=>?_
   .obtain rfl:=sI h;refine ak hJ ?_;simp only[*,go_sem];have dd:=cv (n:=i83) (by have:=L;omega);refine ak hJ ?_;simp only[*,go_sem];refine ⟨a.1.all.length - (i83+1),by omega,_,Le.sub (List.Sublist.cons _ (List.Sublist.refl _)),i83+1,(IntKind.i64.wrap (b+1)),rfl,by omega,U,rfl,?_⟩;simp only[*,go_sem]
   obtain rfl:=sI h;refine aI hJ ?_;have dd:=cv (n:=i83) (by have:=L;omega);refine ak hJ ?_;simp only[*,go_sem];refine ⟨a.1.all.length - (i83+1),by omega,_,Le.sub (List.Sublist.cons _ (List.Sublist.refl _)),i83+1,b,rfl,by omega,U,rfl,?_⟩;simp only[*,go_sem]
  have e3:=Nat.not_lt.2 T;refine b6 hJ ?_;rw[List.drop_eq_nil_of_le T] at d;obtain rfl:=sI d;clear d;have h:=bo;dsimp only[aF] at h;refine bO ?_;simp only[go_sem];refine ah hJ ?_;simp only[*,go_sem];refine ah hJ ?_;simp only[*,go_sem];revert h;refine aT hJ (fun df h=>?_) fun df h=>?_
  .obtain rfl:=sI h;refine ak hJ ?_;simp only[*,go_sem];have dk:=cv (n:=i74) (by have:=I;omega);refine ak hJ ?_;simp only[*,go_sem];refine ⟨a.1.book.av.length - (i74+1),by omega,_,Le.sub (List.Sublist.refl _),i74+1,(i74:Int),(if b<IntKind.i64.wrap ((a.1.all.length:Int) - b) then IntKind.i64.wrap ((a.1.all.length:Int) - b) else b),rfl,by omega,S,rfl,?_⟩;simp only[*,go_sem]
  obtain rfl:=sI h;refine aI hJ ?_;have dk:=cv (n:=i74) (by have:=I;omega);refine ak hJ ?_;simp only[*,go_sem];refine ⟨a.1.book.av.length - (i74+1),by omega,_,Le.sub (List.Sublist.refl _),i74+1,k,l,rfl,by omega,S,rfl,?_⟩;simp only[*,go_sem]
 have fa:=Nat.not_lt.2 R;refine b6 hJ ?_;rw[List.drop_eq_nil_of_le R] at c;obtain rfl:=sI c;clear c;have h:=a2;dsimp only[aF] at h;obtain rfl:=sI h;refine bO ?_;simp only[go_sem];refine ah hJ ?_;simp only[*,go_sem];refine ax ?_;simp only[*,go_sem]
def ow (u0:aj):Option Int:=
 cond (((u0.props.length:Int)==3)) (some 2) (some 0)
theorem HZ {ro:Addr->Option Value}(u0:aj){s1 b c d:Value}(a:bN ro u0 s1 b c d){r:Int}(h:ow u0=some r):aD Tryz.prog 83 #[bv u0 s1 b c d] ⟨ro,[]⟩ (fun v _=>v= .int .i64 r):=by
 obtain ⟨d3,c4,rfl,i,j,-⟩:=id a.e;obtain ⟨d10,k,rfl,l,m,-⟩:=id a.p;obtain ⟨d17,n,rfl,o,q,-⟩:=id a.y;obtain ⟨d24,s,rfl,u,w,-⟩:=id a.t;unfold ow at h;refine aD.go Tryz.func83 rfl Tryz.ntmps83 Tryz.results83 (by simp) fun main J hJ A x hd hs=>?_;have z:=hs 0;clear hs;refine ah hJ ?_;simp only[*,go_sem];refine ay fun B C f=>?_;try simp only[au] at f
 refine af hJ (ah hJ ?_);simp only[*,go_sem];revert h;refine aT hJ (fun g h=>?_) fun g h=>?_
 .obtain rfl:=sI h;refine ah hJ ?_;simp only[*,go_sem];refine ax ?_;simp only[*,go_sem]
 obtain rfl:=sI h;refine aI hJ (af hJ ?_);refine ak hJ ?_;simp only[*,go_sem];refine ax ?_;simp only[*,go_sem]
def lK (u0:aj)(c:bG):Option (aj×Int):=
 ag (dH u0) fun a=>cond ((a != 0)) (some ((⟨0,0,(⟨0,0⟩:an),([]:(List bT)),([]:(List bX)),([]:(List bL)),([]:(List bG))⟩:aj),a)) (ag (om u0.told) fun d=>ag (dc d ([c])) fun e=>ag (ou (⟨u0.bH,u0.bM,u0.aV,u0.az,u0.props,u0.av,e⟩:aj)) fun b=>some (b.1,b.2))
theorem qC {ro:Addr->Option Value}(k:de ro)(u0:aj){s1 c d f:Value}(b:bN ro u0 s1 c d f)(a:bG){r:(aj×Int)}(h:lK u0 a=some r):eM Tryz.prog 25 #[bv u0 s1 c d f,.agg #[.int .i64 a.aR,.bool a.bq]] ro (fun v aM=>∃L w1 w2 w3,v= .tuple #[bv r.1 L w1 w2 w3,.int .i64 r.2]/\bN aM r.1 L w1 w2 w3):=by
 unfold lK at h;refine aD.go Tryz.func25 rfl Tryz.ntmps25 Tryz.results25 (by simp) fun main J hJ A b5 hd hs=>?_;have ca:=hs 0;have k1:=hs 1;clear hs;refine ah hJ ?_;simp only[*,go_sem];refine ay fun g u ab=>?_;try simp only[au] at ab
 refine ay fun i w ad=>?_;try simp only[au] at ad
 refine ay fun j z ae=>?_;try simp only[au] at ae
 refine af hJ (ah hJ ?_);revert h;refine bS fun cb al h=>?_;simp only[*,go_sem];refine aU hJ _ (Bt (k.mono aN) u0 (b.e.mono aN) (b.p.mono aN) (b.y.mono aN) (b.t.mono aN) al) (aJ ?_);simp only[*,go_sem];refine ah hJ ?_;simp only[*,go_sem];revert h;refine aT hJ (fun ao h=>?_) fun ao h=>?_
 .obtain rfl:=sI h;refine ah hJ ?_;simp only[*,go_sem];refine ax ?_;simp only[*,go_sem];exact ⟨_,Ext.refl _,Le.sub (List.nil_sublist _),_,_,_,_,rfl,⟨aA.nil _ _,aA.nil _ _,aA.nil _ _,aA.nil _ _⟩⟩
 refine aI hJ (af hJ ?_);refine aC hJ fun ar=>?_;refine eE hJ mixed [7] (.pure 0 (.rd 1 (.rd 3 (.two 2 (.one 4 (.one 5 (.pure 6 (.last 7 .done)))) 4 (.one 2 (.one 5 (.pure 6 (.last 7 .done)))))))) ⟨ro,[(j,bz 29),(i,.cells #[.int .i64 a.aR,.bool a.bq] 54),(g,bk u0 s1 c d f)]⟩ (by simp only[*,go_sem]) (by kernel_rfl) ?_;simp only[*,go_sem];refine kE ?_ ?_
 .revert h;refine bS fun a0 a2 h=>?_;simp only[*,go_sem];refine dN hJ (aX:=[]) [(j,bz 29),(i,.cells #[.int .i64 a.aR,.bool a.bq] 54),(g,bk u0 s1 c d f)] [] _ (wN u0.told b.t a2) (fun cd a3 M m n a4=>?_);simp only[aS] at n;subst m;obtain ⟨d174,cf,rfl,cl⟩:=M.len;refine ⟨⟨ro,(j,bz 29)::(i,.cells #[.int .i64 a.aR,.bool a.bq] 54)::(g,bk u0 s1 c d f)::a3⟩,Le.refl _,?_⟩;refine ⟨by simp only[*,go_sem],bR ?_⟩;revert h;refine bS fun N a5 h=>?_;obtain ⟨a6,O⟩:=dr a5;simp only[*,go_sem];refine ay fun D P Q=>?_;have a7:=aQ.cons Q a4;try simp only[au] at Q
  simp only[*,go_sem];refine ek (r:=di) (l:=a0) (x:=a) (cs:=#[.int .i64 a.aR,.bool a.bq]) (e2:=54) [(D,.cells #[.int .i64 a.aR,.bool a.bq] 54),(j,bz 29),(i,.cells #[.int .i64 a.aR,.bool a.bq] 54),(g,bk u0 s1 c d f)] [] M a7 a6 rfl (by simp only[*,go_sem]) P rfl rfl ez ez iE iG rfl iF (by decide) (by decide) (fun cu a8 E m n cy=>?_);simp only[aS] at n;subst m;rw[<-O] at E;clear O;obtain ⟨d186,a9,rfl,cS⟩:=E.len;refine ⟨⟨ro,(D,.cells #[.int .i64 a.aR,.bool a.bq] 54)::(j,bz 29)::(i,.cells #[.int .i64 a.aR,.bool a.bq] 54)::(g,bk u0 s1 c d f)::a8⟩,Le.refl _,?_⟩;refine ⟨by simp only[*,go_sem],bR ?_⟩;simp only[*,go_sem];refine af hJ ?_;refine aC hJ fun R=>?_;obtain ⟨c0,F,B,S,ba⟩:=E.eX [(D,.cells #[.int .i64 a.aR,.bool a.bq] 54),(j,bz 29),(i,.cells #[.int .i64 a.aR,.bool a.bq] 54),(g,bk u0 s1 c d (sl d186 N a9))] [] R (aE.cons P (aE.cons z (aE.cons w (aE.cons u (aE.nil _)))));clear R;refine cz hJ ba ?_;obtain ⟨da,db,-⟩:=S.op;replace b:=b.mono F;replace z:=B.tl.hd;replace w:=B.tl.tl.hd;replace u:=B.tl.tl.tl.hd;replace k:=k.mono F;simp only[bu] at B;refine ak hJ ?_;revert h;refine bS fun dd bb h=>?_;obtain rfl:=sI h;simp only[*,go_sem];refine b9 hJ _ (xB k (⟨u0.bH,u0.bM,u0.aV,u0.az,u0.props,u0.av,N⟩:aj) ⟨b.e,b.p,b.y,S⟩ bb) fun v df G C H=>?_;obtain ⟨dk,dp,dq,ds,rfl,o⟩:=H;replace b:=b.mono G;replace z:=C.tl.hd;replace w:=C.tl.tl.hd;replace u:=C.tl.tl.tl.hd;replace k:=k.mono G;simp only[bu] at C;obtain ⟨d208,dt,rfl,du,dv,-⟩:=id o.e;obtain ⟨d215,dC,rfl,dE,dT,-⟩:=id o.p;obtain ⟨d222,ea,rfl,eb,ec,-⟩:=id o.y;obtain ⟨d229,ed,rfl,eh,et,-⟩:=id o.t;refine aJ ?_;simp only[*,go_sem];refine ax ?_;simp only[*,go_sem];exact ⟨_,(F).trans G,Le.sub (List.nil_sublist _),_,_,_,_,rfl,o⟩
 revert h;refine bS fun bc bd h=>?_;simp only[*,go_sem];refine ay fun q T U=>?_;have eu:=aQ.cons U ar;try simp only[au] at U
 simp only[*,go_sem];refine dN hJ (aX:=[]) [(q,.cells #[.int .i64 a.aR,.bool a.bq] 54),(j,bz 29),(i,.cells #[.int .i64 a.aR,.bool a.bq] 54),(g,bk u0 s1 c d f)] [] _ (wN u0.told b.t bd) (fun ev bj V m n bl=>?_);simp only[aS] at n;subst m;obtain ⟨d242,eQ,rfl,eS⟩:=V.len;refine ⟨⟨ro,(q,.cells #[.int .i64 a.aR,.bool a.bq] 54)::(j,bz 29)::(i,.cells #[.int .i64 a.aR,.bool a.bq] 54)::(g,bk u0 s1 c d f)::bj⟩,Le.refl _,?_⟩;refine ⟨by simp only[*,go_sem],bR ?_⟩;revert h;refine bS fun W bm h=>?_;obtain ⟨bo,X⟩:=dr bm;simp only[*,go_sem];refine ek (r:=di) (l:=bc) (x:=a) (cs:=#[.int .i64 a.aR,.bool a.bq]) (e2:=54) [(q,.cells #[.int .i64 a.aR,.bool a.bq] 54),(j,bz 29),(i,.cells #[.int .i64 a.aR,.bool a.bq] 54),(g,bk u0 s1 c d f)] [] V bl bo rfl (by simp only[*,go_sem]) T rfl rfl ez ez iE iG rfl iF (by decide) (by decide) (fun e0 br I m n e1=>?_);simp only[aS] at n;subst m;rw[<-X] at I;clear X;obtain ⟨d252,bs,rfl,e3⟩:=I.len;refine ⟨⟨ro,(q,.cells #[.int .i64 a.aR,.bool a.bq] 54)::(j,bz 29)::(i,.cells #[.int .i64 a.aR,.bool a.bq] 54)::(g,bk u0 s1 c d f)::br⟩,Le.refl _,?_⟩;refine ⟨by simp only[*,go_sem],bR ?_⟩;simp only[*,go_sem];refine af hJ ?_;refine aC hJ fun Y=>?_;obtain ⟨fa,K,b0,Z,b1⟩:=I.eX [(q,.cells #[.int .i64 a.aR,.bool a.bq] 54),(j,bz 29),(i,.cells #[.int .i64 a.aR,.bool a.bq] 54),(g,bk u0 s1 c d (sl d252 W bs))] [] Y (aE.cons T (aE.cons z (aE.cons w (aE.cons u (aE.nil _)))));clear Y;refine cz hJ b1 ?_;obtain ⟨fb,fg,-⟩:=Z.op;replace b:=b.mono K;replace k:=k.mono K;simp only[bu] at b0;refine ak hJ ?_;revert h;refine bS fun fi b2 h=>?_;obtain rfl:=sI h;simp only[*,go_sem];refine b9 hJ _ (xB k (⟨u0.bH,u0.bM,u0.aV,u0.az,u0.props,u0.av,W⟩:aj) ⟨b.e,b.p,b.y,Z⟩ b2) fun v fo b3 b4 H=>?_;obtain ⟨fp,fr,fs,ft,rfl,s⟩:=H;simp only[bu] at b4;obtain ⟨fu,fv,rfl,fw,fx,-⟩:=id s.e;obtain ⟨fz,gg,rfl,gl,gn,-⟩:=id s.p;obtain ⟨gp,gB,rfl,gC,gM,-⟩:=id s.y;obtain ⟨gT,gV,rfl,g0,g1,-⟩:=id s.t;refine aJ ?_;simp only[*,go_sem];refine ax ?_;simp only[*,go_sem];exact ⟨_,(K).trans b3,Le.sub (List.nil_sublist _),_,_,_,_,rfl,s⟩
def mW (u0:aj)(c:Int)(a:cj):Option (aj×Int):=
 ag (eZ u0 ([(eP c)])) fun e=>cond ((e.2 != 0)) (some ((⟨0,0,(⟨0,0⟩:an),([]:(List bT)),([]:(List bX)),([]:(List bL)),([]:(List bG))⟩:aj),e.2)) (ag (qj a 0 60) fun g=>cond (!g) (some ((⟨0,0,(⟨0,0⟩:an),([]:(List bT)),([]:(List bX)),([]:(List bL)),([]:(List bG))⟩:aj),1)) (ag (oo u0.av) fun d=>ag (bf d c) fun b=>cond (decide ((if a.high<b.high.high then a.high else b.high.high)<(if b.high.low<a.low then a.low else b.high.low))) (some ((⟨0,0,(⟨0,0⟩:an),([]:(List bT)),([]:(List bX)),([]:(List bL)),([]:(List bG))⟩:aj),9)) (ag (bf d c) fun h=>ag (ou (⟨u0.bH,u0.bM,u0.aV,u0.az,u0.props,(d.set (c).toNat (⟨h.back,(⟨(if b.high.low<a.low then a.low else b.high.low),(if a.high<b.high.high then a.high else b.high.high)⟩:cj)⟩:bL)),u0.told⟩:aj)) fun f=>some (f.1,f.2))))
theorem xI {ro:Addr->Option Value}(g:de ro)(u0:aj){s1 k q l:Value}(f:bN ro u0 s1 k q l)(d:Int)(a:cj){r:(aj×Int)}(h:mW u0 d a=some r):eM Tryz.prog 30 #[bv u0 s1 k q l,.int .i64 d,.agg #[.int .i64 a.low,.int .i64 a.high]] ro (fun v aM=>∃U w1 w2 w3,v= .tuple #[bv r.1 U w1 w2 w3,.int .i64 r.2]/\bN aM r.1 U w1 w2 w3):=by
 unfold mW at h;have ba:=f.oc;simp only[bC] at ba;refine aD.go Tryz.func30 rfl Tryz.ntmps30 Tryz.results30 (by simp) fun main J hJ A bb hd hs=>?_;have bc:=hs 0;have k1:=hs 1;have bd:=hs 2;clear hs;refine ah hJ ?_;simp only[*,go_sem];refine ay fun w z bj=>?_;try simp only[au] at bj
 refine ay fun B C bm=>?_;try simp only[au] at bm
 refine ay fun D E bo=>?_;try simp only[au] at bo
 refine af hJ (af hJ ?_);refine aC hJ fun br=>?_;refine ak hJ ?_;revert h;refine bS fun K bs h=>?_;simp only[*,go_sem];refine ay fun s V W=>?_;have X:=aQ.cons W br;try simp only[au] at W
 obtain ⟨j,u,Y⟩:=fS (b:=s) (o:=(.cells #[.func (.func 102) #[.int .i64 d] #[]] 133)) [] ((D,bz 29)::(B,.cells #[.int .i64 a.low,.int .i64 a.high] 56)::(w,bk u0 s1 k q l)::[]) X V (aE.cons E (aE.cons C (aE.cons z (aE.nil _))));have Z:aA (c8) (bV ro s (.cells #[.func (.func 102) #[.int .i64 d] #[]] 133)) (.slice (some ⟨s,0,none⟩) 1 1) [(eP d)]:=(aA.one (r:=(c8)) (e:=133) (cs:=#[.func (.func 102) #[.int .i64 d] #[]]) (x:=(eP d)) (own:=[(s,.cells #[.func (.func 102) #[.int .i64 d] #[]] 133)]) V (by simp[lk]) ⟨102,#[.int .i64 d],#[],rfl,⟨by simp only[go_sem],fun e3 fa b0 _ _ _ _ _ b1 b2 b3 b4 h=>by simp only[go_sem];exact sL d b0 ⟨b1,b2,b3,b4⟩ h⟩⟩)
 generalize bV ro s (.cells #[.func (.func 102) #[.int .i64 d] #[]] 133)=fb at Z u j Y;refine g6 hJ Y ?_;replace f:=f.mono j;replace E:=u.hd;replace C:=u.tl.hd;replace z:=u.tl.tl.hd;replace g:=g.mono j;simp only[bu] at u;have b5:=aQ.tl X;refine b9 hJ _ (kL g u0 f ([(eP d)]) Z bs) fun v ab m F L=>?_;obtain ⟨M,N,O,P,rfl,ca⟩:=L;have cb:=ca.oc;simp only[bC] at cb;replace f:=f.mono m;replace E:=F.hd;replace C:=F.tl.hd;replace z:=F.tl.tl.hd;replace g:=g.mono m;simp only[bu] at F;refine aJ ?_;simp only[*,go_sem];refine ay fun Q cd ad=>?_;have fg:=aQ.cons ad b5;try simp only[au] at ad
 refine ah hJ ?_;simp only[*,go_sem];revert h;refine aT hJ (fun cf h=>?_) fun cf h=>?_
 .obtain rfl:=sI h;refine ah hJ ?_;simp only[*,go_sem];refine ax ?_;simp only[*,go_sem];exact ⟨_,(j).trans m,Le.sub (List.nil_sublist _),_,_,_,_,rfl,⟨aA.nil _ _,aA.nil _ _,aA.nil _ _,aA.nil _ _⟩⟩
 refine aI hJ (af hJ ?_);refine ah hJ ?_;revert h;refine bS fun fi cl h=>?_;simp only[*,go_sem];refine aU hJ _ (Bq a 0 60 cl) (aJ ?_);simp only[*,go_sem];revert h;refine aT hJ (fun cu h=>?_) fun cu h=>?_
 .obtain rfl:=sI h;refine ah hJ ?_;simp only[*,go_sem];refine ax ?_;simp only[*,go_sem];exact ⟨_,(j).trans m,Le.sub (List.nil_sublist _),_,_,_,_,rfl,⟨aA.nil _ _,aA.nil _ _,aA.nil _ _,aA.nil _ _⟩⟩
 refine aI hJ (af hJ ?_);refine aC hJ fun fo=>?_;refine ak hJ ?_;revert h;refine bS fun G cy h=>?_;simp only[*,go_sem];refine dN hJ (aX:=[]) [(Q,bl K.1 M N O P),(D,bz 29),(B,.cells #[.int .i64 a.low,.int .i64 a.high] 56),(w,bk u0 s1 k q l)] [] _ (Bx u0.av f.y cy) (fun fp cS H c0 da fr=>?_);simp only[aS] at da;subst c0;obtain ⟨d87,ae,rfl,fs⟩:=H.len;refine ⟨⟨ab,(Q,bl K.1 M N O P)::(D,bz 29)::(B,.cells #[.int .i64 a.low,.int .i64 a.high] 56)::(w,bk u0 s1 k q l)::cS⟩,Le.refl _,?_⟩;refine aJ ?_;simp only[*,go_sem];refine af hJ ?_;refine aC hJ fun al=>?_;refine ak hJ ?_;revert h;refine bS fun c db h=>?_;obtain ⟨ft,fu,dd⟩:=cG db;obtain ⟨R,df,dk,rfl,rfl,fv,dp,S⟩:=H.v5 dd;obtain rfl:dk=c.cells:=dp;have dq:=al.nd;simp only[keys,List.map_cons,List.map_nil,List.map_append,List.cons_append,List.nil_append,List.nodup_cons,List.mem_cons,List.mem_append,List.not_mem_nil,or_false,not_or] at dq;have ao:=S 0 _ rfl;simp only[go_sem] at ao;have fw:=(Array.getElem?_eq_some_iff.1 ao).1;have ar:=S 1 _ rfl;simp only[go_sem] at ar;have fx:=(Array.getElem?_eq_some_iff.1 ar).1;have a0:=S 2 _ rfl;simp only[go_sem] at a0;have fz:=(Array.getElem?_eq_some_iff.1 a0).1;simp only[*,go_sem];refine ay fun ds dt a2=>?_;have gg:=aQ.cons a2 al;try simp only[au] at a2
 refine af hJ ?_;refine eY [1,3,5,6,7,10] fun gl du dv dC=>?_;simp only[*,go_sem] at du dv dC;clear bb hd bc k1 bd;refine aC hJ fun dE=>?_;refine ak hJ ?_;simp only[*,go_sem];refine ay fun dT ea a3=>?_;have gn:=aQ.cons a3 dE;try simp only[au] at a3
 refine af hJ (af hJ ?_);refine aC hJ fun gp=>?_;refine ak hJ ?_;simp only[*,go_sem];revert h;refine aT hJ (fun eb h=>?_) fun eb h=>?_
 .obtain rfl:=sI h;refine af hJ ?_;refine aC hJ fun gB=>?_;refine ak hJ ?_;simp only[*,go_sem];refine ax ?_;simp only[*,go_sem];exact ⟨_,(j).trans m,Le.sub (List.nil_sublist _),_,_,_,_,rfl,⟨aA.nil _ _,aA.nil _ _,aA.nil _ _,aA.nil _ _⟩⟩
 refine aI hJ (af hJ ?_);refine aC hJ fun gC=>?_;refine ak hJ ?_;revert h;refine bS fun i ec h=>?_;obtain ⟨gM,gT,a4⟩:=cG ec;obtain ⟨ed,eh,I⟩:=H.jg a4;obtain rfl:ed=i.cells:=eh;have a5:=I 0 _ rfl;simp only[go_sem] at a5;have gV:=(Array.getElem?_eq_some_iff.1 a5).1;have a6:=I 1 _ rfl;simp only[go_sem] at a6;have g0:=(Array.getElem?_eq_some_iff.1 a6).1;have a7:=I 2 _ rfl;simp only[go_sem] at a7;have g1:=(Array.getElem?_eq_some_iff.1 a7).1;have et:aP eG ab 67 (.slice (some ⟨R,0,none⟩) G.length ae) (G.set (d).toNat (⟨i.back,(⟨(if c.high.low<a.low then a.low else c.high.low),(if a.high<c.high.high then a.high else c.high.high)⟩:cj)⟩:bL)) [(R,Obj.cells (cK df ((d).toNat*3+1) [.int .i64 (if c.high.low<a.low then a.low else c.high.low),.int .i64 (if a.high<c.high.high then a.high else c.high.high)]) 67)]:=by have eu:=H.part (y:=(⟨i.back,(⟨(if c.high.low<a.low then a.low else c.high.low),(if a.high<c.high.high then a.high else c.high.high)⟩:cj)⟩:bL)) a4 1 [.int .i64 (if c.high.low<a.low then a.low else c.high.low),.int .i64 (if a.high<c.high.high then a.high else c.high.high)] [.int .i64 i.back,.int .i64 i.high.low,.int .i64 i.high.high] [.int .i64 i.back,.int .i64 (if c.high.low<a.low then a.low else c.high.low),.int .i64 (if a.high<c.high.high then a.high else c.high.high)] I rfl rfl (by simp) rfl;exact eu
 simp only[*,go_sem];refine af hJ ?_;refine aC hJ fun a8=>?_;obtain ⟨g2,T,ev,a9,eQ⟩:=et.eX [(dT,.cells #[.int .i64 (if c.high.low<a.low then a.low else c.high.low),.int .i64 (if a.high<c.high.high then a.high else c.high.high)] 56),(ds,.cells #[.int .i64 c.high.low,.int .i64 c.high.high] 56),(Q,bl K.1 M N O P),(D,bz 29),(B,.cells #[.int .i64 a.low,.int .i64 a.high] 56),(w,bk u0 s1 k (sl (some ⟨R,0,none⟩) G ae) l)] [] a8 (aE.cons ea (aE.cons dt (aE.cons cd (aE.cons E (aE.cons C (aE.cons z (aE.nil _)))))));clear a8;refine cz hJ eQ ?_;obtain ⟨g3,g4,-⟩:=a9.op;replace f:=f.mono T;replace g:=g.mono T;simp only[bu] at ev;refine ak hJ ?_;revert h;refine bS fun ha eS h=>?_;obtain rfl:=sI h;simp only[*,go_sem];refine b9 hJ _ (xB g (⟨u0.bH,u0.bM,u0.aV,u0.az,u0.props,(G.set (d).toNat (⟨i.back,(⟨(if c.high.low<a.low then a.low else c.high.low),(if a.high<c.high.high then a.high else c.high.high)⟩:cj)⟩:bL)),u0.told⟩:aj) ⟨f.e,f.p,a9,f.t⟩ eS) fun v hc e0 e1 L=>?_;obtain ⟨hf,hg,hh,hi,rfl,n⟩:=L;have e2:=n.oc;simp only[bC] at e2;simp only[bu] at e1;obtain ⟨d130,hj,rfl,hk,hl,-⟩:=id n.e;obtain ⟨d137,hn,rfl,ho,hp,-⟩:=id n.p;obtain ⟨d144,hq,rfl,hr,ht,-⟩:=id n.y;obtain ⟨d151,hv,rfl,hx,hy,-⟩:=id n.t;refine aJ ?_;simp only[*,go_sem];refine ax ?_;simp only[*,go_sem];exact ⟨_,(((j).trans m).trans T).trans e0,Le.sub (List.nil_sublist _),_,_,_,_,rfl,n⟩
def BJ (i43:Nat)(a:(List Int))(st:(List Int)):Option (Fl (List Int) (List Int)):=
 ag (dc st a) fun b=>some (.nx b)
def xJ (i9:Nat)(a:(List Int))(st:Int):Option (Fl Int (List Int)):=
 cond (decide ((IntKind.i64.wrap (st+(a.length:Int)))<0)) (none) (some (.nx (IntKind.i64.wrap (st+(a.length:Int)))))
def H6 (i109:Nat)(a:(List Int))(st:(List Int)):Option (Fl (List Int) (List Int)):=
 ag (dc st a) fun b=>some (.nx b)
def xK (u0:(List (List Int))):Option (List Int):=
 ag (bJ (xJ) 0 u0 0) fun o=>aF o (fun a=>ag (xA a) fun b=>ag (bJ (H6) 0 u0 b) fun o=>aF o (fun c=>some c) (fun _ _=>none) (fun r=>some r)) (fun _ _=>none) (fun r=>some r)
theorem H7 {ro:Addr->Option Value}(u0:(List (List Int))){s1:Value}(g:aA (rL rI) ro s1 u0){r:(List Int)}(h:xK u0=some r):eM Tryz.prog 84 #[s1] ro (fun v aM=>∃s,v=s/\aA rI aM s r):=by
 obtain ⟨d3,c4,rfl,bz,t,-⟩:=id g;unfold xK at h;refine aD.go Tryz.func84 rfl Tryz.ntmps84 Tryz.results84 (by simp) fun main J hJ A P hd hs=>?_;have Q:=hs 0;clear hs;refine ah hJ ?_;simp only[*,go_sem];refine ah hJ ?_;simp only[*,go_sem];refine af hJ (ah hJ ?_);simp only[*,go_sem];refine aO hJ ?_;revert h;refine bS fun R a S=>?_;refine bU hJ (rg 11 12 [3,5]) (fun m d F'=>∃(i9:Nat) (e:Int),m=u0.length - i9/\i9<=u0.length/\bJ (xJ) i9 (u0.drop i9) e=some R/\F'=⟨ro,[]⟩/\slot d 11= .int .i64 (i9:Int)/\slot d 3= .int .i64 e) u0.length ?_ ?_
 .refine ⟨0,0,(Nat.sub_zero _).symm,Nat.zero_le _,a,rfl,?_⟩;simp only[*,go_sem]
 rintro b0 b1 F' u ⟨i9,e,rfl,b2,a,rfl,T,U⟩;obtain ⟨w,y,z⟩:=u.pick [0,2,9,10] (by decide);simp only[*,go_sem] at w y z;clear u P hd Q;refine ah hJ ?_;simp only[*,go_sem];refine af hJ ?_;rcases Nat.lt_or_ge i9 u0.length with V|B
 .refine b8 hJ ?_;refine aI hJ ?_;obtain ⟨W,i⟩:∃x,u0[i9]?=some x:=⟨_,List.getElem?_eq_getElem V⟩
  rw[dg i] at a;revert a;refine bS fun b3 h X=>?_;unfold xJ at h;try dsimp only at h
  obtain ⟨b4,b5,Y,Z,C⟩:=g.el _ _ i;obtain ⟨ca,rfl,ab⟩:=Z;obtain ⟨d18,cb,rfl,cd,cf,cl⟩:=id ab;cases Y;have ad:=C 0 _ rfl;simp only[go_sem] at ad;clear C i;refine af hJ (aO hJ (af hJ ?_));refine ak hJ ?_;simp only[*,go_sem];refine ah hJ ?_;simp only[*,go_sem];refine ah hJ ?_;simp only[*,go_sem];revert h;refine aT hJ (fun ae h=>?_) fun ae h=>?_
  .refine ak hJ ?_;cases h
  obtain rfl:=sI h;refine aI hJ ?_;have cu:=cv (n:=i9) (by have:=t;omega);refine ak hJ ?_;simp only[*,go_sem];refine ⟨u0.length - (i9+1),by omega,_,Le.sub (List.Sublist.refl _),i9+1,(IntKind.i64.wrap (e+(W.length:Int))),rfl,by omega,X,rfl,?_⟩;simp only[*,go_sem]
 have cy:=Nat.not_lt.2 B;refine b6 hJ ?_;rw[List.drop_eq_nil_of_le B] at a;obtain rfl:=sI a;clear a;have h:=S;dsimp only[aF] at h;refine bO ?_;simp only[go_sem];refine af hJ ?_;refine aC hJ fun cS=>?_;refine ak hJ ?_;revert h;refine bS fun al ao h=>?_;simp only[*,go_sem];refine dN hJ (aX:=[]) [] [] _ (HU e ao) (fun c0 D E j k da=>?_);simp only[aS] at k;subst j;obtain ⟨d32,ar,rfl,a0⟩:=E.len;refine ⟨⟨ro,D⟩,Le.refl _,?_⟩;refine aJ ?_;simp only[*,go_sem];refine af hJ (af hJ ?_);refine aC hJ fun db=>?_;refine ak hJ ?_;simp only[*,go_sem];refine aO hJ ?_;revert h;refine bS fun a2 b a3=>?_;refine bU hJ (rg 27 8 [6,8]) (fun m d F'=>∃(i43:Nat) (d38:Option Addr) (f:Nat) (o:List (Nat×Obj)) (c:(List Int)),m=u0.length - i43/\i43<=u0.length/\bJ (BJ) i43 (u0.drop i43) c=some a2/\F'=⟨ro,o⟩/\aP rI ro 3 (.slice d38 c.length f) c o/\c.length<=f/\slot d 27= .int .i64 (i43:Int)/\slot d 6= .slice d38 c.length f) u0.length ?_ ?_
 .refine ⟨0,d32,ar,D,al,(Nat.sub_zero _).symm,Nat.zero_le _,b,rfl,E,a0,?_⟩;simp only[*,go_sem]
 rintro dd df F' F ⟨i43,d38,f,o,c,rfl,dk,b,rfl,G,dp,dq,ds⟩;obtain ⟨a4,a5,a6⟩:=F.pick [2,25,26] (by decide);simp only[*,go_sem] at a4 a5 a6;clear F w y z U T;refine ah hJ ?_;simp only[*,go_sem];refine af hJ ?_;rcases Nat.lt_or_ge i43 u0.length with a7|H
 .refine b8 hJ ?_;refine aI hJ ?_;obtain ⟨a8,p⟩:∃x,u0[i43]?=some x:=⟨_,List.getElem?_eq_getElem a7⟩
  rw[dg p] at b;revert b;refine bS fun dt h a9=>?_;unfold BJ at h;try dsimp only at h
  obtain ⟨du,dv,ba,bb,I⟩:=g.el _ _ p;obtain ⟨dC,rfl,K⟩:=bb;obtain ⟨d52,dE,rfl,dT,ea,eb⟩:=id K;cases ba;have bc:=I 0 _ rfl;simp only[go_sem] at bc;clear I p;refine af hJ (aO hJ (af hJ ?_));refine aC hJ fun ec=>?_;refine ak hJ ?_;simp only[*,go_sem];refine aC hJ fun bd=>?_;refine ak hJ ?_;revert h;refine bS fun bj bk h=>?_;obtain rfl:=sI h;obtain ⟨bl,L⟩:=dr bk;simp only[*,go_sem];refine n5 (r:=rI) (l:=c) (xs:=a8) [] [] G bd bl K rfl rfl fQ fQ lg lq rfl lp (by decide) (by decide) (fun ed M q j k eh=>?_);simp only[aS] at k;subst j;rw[<-L] at q;clear L;obtain ⟨d66,bm,rfl,bo⟩:=q.len;refine ⟨⟨ro,M⟩,Le.refl _,?_⟩;refine aJ ?_;simp only[*,go_sem];have et:=cv (n:=i43) (by have:=t;omega);refine ak hJ ?_;simp only[*,go_sem];refine ⟨u0.length - (i43+1),by omega,_,Le.sub (List.Sublist.refl _),i43+1,d66,bm,M,bj,rfl,by omega,a9,rfl,q,bo,?_⟩;simp only[*,go_sem]
 have eu:=Nat.not_lt.2 H;refine b6 hJ ?_;rw[List.drop_eq_nil_of_le H] at b;obtain rfl:=sI b;clear b;have h:=a3;dsimp only[aF] at h;obtain rfl:=sI h;refine bO ?_;simp only[go_sem];refine af hJ ?_;refine aC hJ fun ev=>?_;refine ak hJ ?_;simp only[*,go_sem];refine aC hJ fun N=>?_;obtain ⟨eQ,br,eS,O,bs⟩:=G.eX [] [] N (aE.nil _);clear N;refine cz hJ bs ?_;obtain ⟨e0,e1,-⟩:=O.op;refine ax ?_;simp only[*,go_sem];exact ⟨_,br,Le.sub (List.nil_sublist _),_,rfl,O⟩
def oz (a:Int)(i44:Nat)(b:aW)(st:(List Int)):Option (Fl (List Int) (List Int)):=
 ag (aW.get b a) fun c=>ag (dc st ([c])) fun d=>some (.nx d)
def lM (u0:cT)(a:Int):Option (List Int):=
 ag (bJ (oz a) 0 u0.all ([]:List Int)) fun o=>aF o (fun b=>ag (qB b) fun c=>ag (tn c.2) fun d=>some d) (fun _ _=>none) (fun r=>some r)
theorem tu {ro:Addr->Option Value}(u0:cT){s1 a b c:Value}(b3:bN ro u0.book s1 a b c){y:Value}(z:aA g7 ro y u0.all)(s:Int){r:(List Int)}(h:lM u0 s=some r):eM Tryz.prog 108 #[.agg #[.int .i64 u0.book.bH,.int .i64 u0.book.bM,.int .i64 u0.book.aV.num,.int .i64 u0.book.aV.den,s1,a,b,c,y],.int .i64 s] ro (fun v aM=>∃B,v=B/\aA rI aM B r):=by
 obtain ⟨d31,d,rfl,b4,R,-⟩:=id z;unfold lM at h;refine aD.go Tryz.func108 rfl Tryz.ntmps108 Tryz.results108 (by simp) fun main J hJ A S hd hs=>?_;have T:=hs 0;have k1:=hs 1;clear hs;refine ah hJ ?_;simp only[*,go_sem];refine ay fun e U V=>?_;try simp only[au] at V
 refine ah hJ ?_;simp only[*,go_sem];refine af hJ (ah hJ ?_);simp only[*,go_sem];refine aO hJ ?_;revert h;refine bS fun W g X=>?_;refine bU hJ (rg 11 11 [5,7]) (fun m C F'=>∃(i44:Nat) (d38:Option Addr) (o:Nat) (t:List (Nat×Obj)) (f:(List Int)),m=u0.all.length - i44/\i44<=u0.all.length/\bJ (oz s) i44 (u0.all.drop i44) f=some W/\F'=⟨ro,(e,kn u0 s1 a b c (sl d31 u0.all d))::t⟩/\aP rI ro 3 (.slice d38 f.length o) f t/\f.length<=o/\slot C 11= .int .i64 (i44:Int)/\slot C 5= .slice d38 f.length o) u0.all.length ?_ ?_
 .refine ⟨0,none,0,[],([]:List Int),(Nat.sub_zero _).symm,Nat.zero_le _,g,rfl,aP.nil _ _ _,Nat.le_refl _,?_⟩;simp only[*,go_sem]
 rintro b5 ca F' D ⟨i44,d38,o,t,f,rfl,cb,g,rfl,E,cd,cf,cl⟩;obtain ⟨Y,Z,ab⟩:=D.pick [1,4,9,10] (by decide);simp only[*,go_sem] at Y Z ab;clear D S hd T k1;refine ah hJ ?_;simp only[*,go_sem];refine af hJ ?_;rcases Nat.lt_or_ge i44 u0.all.length with ad|F
 .refine b8 hJ ?_;refine aI hJ ?_;obtain ⟨i,u⟩:∃x,u0.all[i44]?=some x:=⟨_,List.getElem?_eq_getElem ad⟩
  rw[dg u] at g;revert g;refine bS fun cu h ae=>?_;unfold oz at h;try dsimp only at h
  obtain ⟨G,al,ao,ar,p⟩:=z.el _ _ u;obtain rfl:al=i.cells:=ar;cases ao;have a0:=p 0 _ rfl;simp only[go_sem] at a0;have a2:=p 1 _ rfl;simp only[go_sem] at a2;have a3:=p 2 _ rfl;simp only[go_sem] at a3;clear p u;refine af hJ (aO hJ (af hJ ?_));refine aC hJ fun a4=>?_;refine ak hJ ?_;simp only[*,go_sem];refine ay fun H cy I=>?_;have cS:=aQ.cons I a4;try simp only[au] at I
  refine aC hJ fun a5=>?_;refine ak hJ ?_;revert h;refine bS fun q a6 h=>?_;obtain ⟨c0,da,a7⟩:=aW.get_some a6;try simp only[go_sem] at a7
  revert h;refine bS fun a8 a9 h=>?_;obtain rfl:=sI h;obtain ⟨ba,K⟩:=dr a9;simp only[*,go_sem];refine ay fun L bb M=>?_;have bc:=aQ.cons M a5;try simp only[au] at M
  refine ek (r:=rI) (l:=f) (x:=q) (cs:=#[.int .i64 q]) (e2:=3) [(L,ic q),(H,.cells #[.int .i64 i.e0,.int .i64 i.e1,.int .i64 i.e2] 144),(e,kn u0 s1 a b c (sl (some G) u0.all d))] [] E bc ba rfl (by simp only[*,go_sem]) bb rfl rfl fQ fQ lg lq rfl lp (by decide) (by decide) (fun db N w j k dd=>?_);simp only[aS] at k;subst j;rw[<-K] at w;clear K;obtain ⟨d66,bd,rfl,bj⟩:=w.len;refine ⟨⟨ro,(L,ic q)::(H,.cells #[.int .i64 i.e0,.int .i64 i.e1,.int .i64 i.e2] 144)::(e,kn u0 s1 a b c (sl (some G) u0.all d))::N⟩,Le.refl _,?_⟩;refine aJ ?_;simp only[*,go_sem];have df:=cv (n:=i44) (by have:=R;omega);refine ak hJ ?_;simp only[*,go_sem];refine ⟨u0.all.length - (i44+1),by omega,_,Le.sub (List.Sublist.cons _ (List.Sublist.cons _ (List.Sublist.refl _))),i44+1,d66,bd,N,a8,rfl,by omega,ae,rfl,w,bj,?_⟩;simp only[*,go_sem]
 have dk:=Nat.not_lt.2 F;refine b6 hJ ?_;rw[List.drop_eq_nil_of_le F] at g;obtain rfl:=sI g;clear g;have h:=X;dsimp only[aF] at h;refine bO ?_;simp only[go_sem];refine af hJ ?_;refine aC hJ fun dp=>?_;refine ak hJ ?_;revert h;refine bS fun bk bl h=>?_;simp only[*,go_sem];refine dN hJ [(e,kn u0 s1 a b c (sl d31 u0.all d))] [] _ (HR f E bl) (fun dq bm bo j k ds=>?_);obtain ⟨rfl,br⟩:=bo;simp only[aS] at k;subst j;refine ⟨⟨ro,(e,kn u0 s1 a b c (sl d31 u0.all d))::bm⟩,Le.refl _,?_⟩;simp only[*,go_sem];refine af hJ ?_;refine aC hJ fun dt=>?_;refine ak hJ ?_;revert h;refine bS fun du bs h=>?_;obtain rfl:=sI h;simp only[*,go_sem];refine dN hJ [(e,kn u0 s1 a b c (sl d31 u0.all d))] [] _ (HS bk.2 br bs) (fun dv bz O j k dC=>?_);simp only[aS] at k;subst j;obtain ⟨d83,dE,rfl,dT⟩:=O.len;refine ⟨⟨ro,(e,kn u0 s1 a b c (sl d31 u0.all d))::bz⟩,Le.refl _,?_⟩;refine aJ ?_;simp only[*,go_sem];refine aC hJ fun P=>?_;obtain ⟨ea,b0,b1,Q,b2⟩:=O.eX [(e,kn u0 s1 a b c (sl d31 u0.all d))] [] P (aE.cons U (aE.nil _));clear P;refine cz hJ b2 ?_;obtain ⟨eb,ec,-⟩:=Q.op;simp only[bu] at b1;refine ax ?_;simp only[*,go_sem];exact ⟨_,b0,Le.sub (List.nil_sublist _),_,rfl,Q⟩
def xL (u0:cT)(i47:Nat)(i75:Nat)(b:Int)(st:(List bn)):Option (Fl (List bn) (List bn)):=
 ag (gO u0.book (i47:Int) b) fun a=>ag (wJ st a) fun c=>cond (!c) (ag (dc st ([a])) fun d=>some (.nx d)) (some (.nx st))
def xM (u0:cT)(i47:Nat)(c:bL)(st:(List bn)):Option (Fl (List bn) (List bn)):=
 ag (lM u0 (i47:Int)) fun a=>ag (bJ (xL u0 i47) 0 a st) fun o=>aF o (fun b=>some (.nx b)) (fun _ _=>none) (fun r=>some (.rt r))
def tv (u0:cT):Option (List bn):=
 ag (bJ (xM u0) 0 u0.book.av ([]:List bn)) fun o=>aF o (fun a=>some a) (fun _ _=>none) (fun r=>some r)
theorem BK {ro:Addr->Option Value}(u0:cT){s1 c R d:Value}(e:bN ro u0.book s1 c R d){f:Value}(H:aA g7 ro f u0.all){r:(List bn)}(h:tv u0=some r):eM Tryz.prog 68 #[.agg #[.int .i64 u0.book.bH,.int .i64 u0.book.bM,.int .i64 u0.book.aV.num,.int .i64 u0.book.aV.den,s1,c,R,d,f]] ro (fun v aM=>∃S,v=S/\aA jh aM S r):=by
 obtain ⟨d17,o,rfl,eQ,a8,-⟩:=id e.y;unfold tv at h;refine aD.go Tryz.func68 rfl Tryz.ntmps68 Tryz.results68 (by simp) fun main J hJ A a9 hd hs=>?_;have ba:=hs 0;clear hs;refine ah hJ ?_;simp only[*,go_sem];refine ay fun p I bb=>?_;try simp only[au] at bb
 refine ah hJ ?_;simp only[*,go_sem];refine af hJ (ah hJ ?_);simp only[*,go_sem];refine aO hJ ?_;revert h;refine bS fun bc i bd=>?_;refine bU hJ (rg 13 26 [3,4,6,7]) (fun m s F'=>∃(i47:Nat) (w:Addr->Option Value) (d38:Option Addr) (t:Nat) (z:List (Nat×Obj)) (j:(List bn)),m=u0.book.av.length - i47/\i47<=u0.book.av.length/\bJ (xM u0) i47 (u0.book.av.drop i47) j=some bc/\F'=⟨w,(p,kn u0 s1 c (sl d17 u0.book.av o) d f)::z⟩/\Ext ro w/\aP jh w 118 (.slice d38 j.length t) j z/\j.length<=t/\slot s 13= .int .i64 (i47:Int)/\slot s 3= .slice d38 j.length t) u0.book.av.length ?_ ?_
 .refine ⟨0,ro,none,0,[],([]:List bn),(Nat.sub_zero _).symm,Nat.zero_le _,i,rfl,Ext.refl _,aP.nil _ _ _,Nat.le_refl _,?_⟩;simp only[*,go_sem]
 rintro eS bj F' T ⟨i47,w,d38,t,z,j,rfl,e0,i,rfl,B,C,bk,bl,bm⟩;refine fT hJ fun _ U=>?_;replace e:=e.mono B;replace H:=H.mono B;replace I:=U.hd;simp only[bu] at U;obtain ⟨V,W,X⟩:=T.pick [1,2,12] (by decide);simp only[*,go_sem] at V W X;clear T a9 hd ba;refine ah hJ ?_;simp only[*,go_sem];refine af hJ ?_;rcases Nat.lt_or_ge i47 u0.book.av.length with bo|Y
 .refine b8 hJ ?_;refine aI hJ ?_;obtain ⟨br,K⟩:∃x,u0.book.av[i47]?=some x:=⟨_,List.getElem?_eq_getElem bo⟩
  rw[dg K] at i;revert i;refine bS fun e1 h bs=>?_;unfold xM at h;try dsimp only at h
  obtain ⟨D,bz,b0,b1,E⟩:=e.y.el _ _ K;obtain rfl:bz=br.cells:=b1;cases b0;have b2:=E 0 _ rfl;simp only[go_sem] at b2;have b3:=E 1 _ rfl;simp only[go_sem] at b3;have b4:=E 2 _ rfl;simp only[go_sem] at b4;clear E K;refine af hJ (aO hJ (af hJ ?_));refine aC hJ fun e3=>?_;refine ak hJ ?_;simp only[*,go_sem];refine af hJ ?_;refine aC hJ fun fa=>?_;refine ak hJ ?_;revert h;refine bS fun g b5 h=>?_;simp only[*,go_sem];refine b9 hJ _ (tu u0 e H (i47:Int) b5) fun v F L M ca=>?_;obtain ⟨fb,rfl,Z⟩:=ca;replace e:=e.mono L;replace I:=M.hd;replace C:=C.mono L M.tl;simp only[bu] at M;obtain ⟨d64,fg,rfl,fi,ab,-⟩:=id Z;refine aJ ?_;simp only[*,go_sem];refine aO hJ ?_;revert h;refine bS fun cb k cd=>?_;refine bU hJ (rg 20 18 [3,6,7]) (fun m s F'=>∃(i75:Nat) (d70:Option Addr) (q:Nat) (u:List (Nat×Obj)) (b:(List bn)),m=g.length - i75/\i75<=g.length/\bJ (xL u0 i47) i75 (g.drop i75) b=some cb/\F'=⟨F,(p,kn u0 s1 c (sl (some D) u0.book.av o) d f)::u⟩/\aP jh F 118 (.slice d70 b.length q) b u/\b.length<=q/\slot s 20= .int .i64 (i75:Int)/\slot s 3= .slice d70 b.length q) g.length ?_ ?_
  .refine ⟨0,d38,t,z,j,(Nat.sub_zero _).symm,Nat.zero_le _,k,rfl,C,bk,?_⟩;simp only[*,go_sem]
  rintro fo cf F' N ⟨i75,d70,q,u,b,rfl,fp,k,rfl,G,ad,fr,fs⟩;obtain ⟨cl,cu,cy⟩:=N.pick [1,2,4,12,13,14,15,16,17,18,19] (by decide);simp only[*,go_sem] at cl cu cy;have ft:cM (rg 13 26 [3,4,6,7]) cf bj:=(N.gm (by decide)).trans (by simp only[*,go_sem]);clear N V W X bm bl;refine ah hJ ?_;simp only[*,go_sem];refine af hJ ?_;rcases Nat.lt_or_ge i75 g.length with cS|ae
  .refine b8 hJ ?_;refine aI hJ ?_;obtain ⟨al,O⟩:∃x,g[i75]?=some x:=⟨_,List.getElem?_eq_getElem cS⟩
   rw[dg O] at k;revert k;refine bS fun fu h ao=>?_;unfold xL at h;(try dsimp only at h);obtain ⟨fv,c0,da,db,ar⟩:=Z.el _ _ O;obtain rfl:c0=[.int .i64 al]:=db;cases da;have dd:=ar 0 _ rfl;simp only[go_sem] at dd;clear ar O;refine af hJ (aO hJ (af hJ ?_));refine aC hJ fun fw=>?_;refine ak hJ ?_;simp only[*,go_sem];refine af hJ ?_;refine aC hJ fun df=>?_;refine ak hJ ?_;revert h;refine bS fun a dk h=>?_;simp only[*,go_sem];refine aU hJ _ (mK u0.book (e.mono aN) (i47:Int) al dk) (aJ ?_);simp only[*,go_sem];refine ay fun P fx a0=>?_;have fz:=aQ.cons a0 df;try simp only[au] at a0
   refine af hJ ?_;refine aC hJ fun dp=>?_;refine ak hJ ?_;revert h;refine bS fun gg dq h=>?_;simp only[*,go_sem];refine aU hJ _ (G9 b (G.Bo [(P,.cells #[.int .i64 a.back,.int .i64 a.high] 118),(p,kn u0 s1 c (sl (some D) u0.book.av o) d f)] [] (by first|rfl|simp only[aS]|(simp only[aS];rfl)) dp) a dq) (aJ ?_);simp only[*,go_sem];revert h;refine aT hJ (fun ds h=>?_) fun ds h=>?_
   .refine aC hJ fun dt=>?_;refine ak hJ ?_;revert h;refine bS fun du dv h=>?_;obtain rfl:=sI h;obtain ⟨dC,a2⟩:=dr dv;simp only[*,go_sem];refine ay fun a3 dE a4=>?_;have dT:=aQ.cons a4 dt;try simp only[au] at a4
    refine ek (r:=jh) (l:=b) (x:=a) (cs:=#[.int .i64 a.back,.int .i64 a.high]) (e2:=118) [(a3,.cells #[.int .i64 a.back,.int .i64 a.high] 118),(P,.cells #[.int .i64 a.back,.int .i64 a.high] 118),(p,kn u0 s1 c (sl (some D) u0.book.av o) d f)] [] G dT dC rfl (by simp only[*,go_sem]) dE rfl rfl AO AO FM FO rfl FN (by decide) (by decide) (fun gl a5 Q ea eb gn=>?_);simp only[aS] at eb;subst ea;rw[<-a2] at Q;clear a2;obtain ⟨d102,ec,rfl,ed⟩:=Q.len;refine ⟨⟨F,(a3,.cells #[.int .i64 a.back,.int .i64 a.high] 118)::(P,.cells #[.int .i64 a.back,.int .i64 a.high] 118)::(p,kn u0 s1 c (sl (some D) u0.book.av o) d f)::a5⟩,Le.refl _,?_⟩;refine aJ ?_;simp only[*,go_sem];have eh:=cv (n:=i75) (by have:=ab;omega);refine ak hJ ?_;simp only[*,go_sem];refine ⟨g.length - (i75+1),by omega,_,Le.sub (List.Sublist.cons _ (List.Sublist.cons _ (List.Sublist.refl _))),i75+1,d102,ec,a5,du,rfl,by omega,ao,rfl,Q,ed,?_⟩;simp only[*,go_sem]
   obtain rfl:=sI h;refine aI hJ ?_;have eh:=cv (n:=i75) (by have:=ab;omega);refine ak hJ ?_;simp only[*,go_sem];refine ⟨g.length - (i75+1),by omega,_,Le.sub (List.Sublist.cons _ (List.Sublist.refl _)),i75+1,d70,q,u,b,rfl,by omega,ao,rfl,G,ad,?_⟩;simp only[*,go_sem]
  have gp:=Nat.not_lt.2 ae;refine b6 hJ ?_;rw[List.drop_eq_nil_of_le ae] at k;obtain rfl:=sI k;clear k;have h:=cd;dsimp only[aF] at h;obtain rfl:=sI h;refine bO ?_;simp only[go_sem];have gB:=cv (n:=i47) (by have:=a8;omega);refine ak hJ ?_;simp only[*,go_sem];refine ⟨u0.book.av.length - (i47+1),by omega,_,Le.sub (List.Sublist.refl _),i47+1,F,d70,q,u,b,rfl,by omega,bs,rfl,(B.trans L),G,ad,?_⟩;simp only[*,go_sem]
 have gC:=Nat.not_lt.2 Y;refine b6 hJ ?_;rw[List.drop_eq_nil_of_le Y] at i;obtain rfl:=sI i;clear i;have h:=bd;dsimp only[aF] at h;obtain rfl:=sI h;refine bO ?_;simp only[go_sem];refine af hJ ?_;refine aC hJ fun gM=>?_;refine ak hJ ?_;simp only[*,go_sem];refine aC hJ fun a6=>?_;obtain ⟨gT,et,eu,a7,ev⟩:=C.eX [(p,kn u0 s1 c (sl d17 u0.book.av o) d f)] [] a6 (aE.cons I (aE.nil _));clear a6;refine cz hJ ev ?_;obtain ⟨gV,g0,-⟩:=a7.op;simp only[bu] at eu;refine ax ?_;simp only[*,go_sem];exact ⟨_,(B).trans et,Le.sub (List.nil_sublist _),_,rfl,a7⟩
def xN (a:Int)(i109:Nat)(b:bG)(st:((List Int)×(List bG))):Option (Fl ((List Int)×(List bG)) ((List Int)×Int)):=
 ag (vP a (i109:Int)) fun c=>cond (((AB c 1)==1)) (ag (dc st.1 ([(i109:Int)])) fun d=>ag (dc st.2 ([b])) fun e=>some (.nx (d,e))) (some (.nx (st.1,st.2)))
def xO (u0:aj)(a:(aj×Int))(c:Int)(st:((List (List Int))×Int)):Option (Fl ((List (List Int))×Int) ((List Int)×Int)):=
 cond (decide (st.2<c)) (ag (bJ (xN st.2) 0 u0.told (([]:List Int),([]:List bG))) fun o=>aF o (fun b=>ag (s7 (⟨a.1.bH,a.1.bM,a.1.aV,a.1.az,a.1.props,a.1.av,b.2⟩:aj)) fun d=>cond (!d) (ag (dc st.1 ([b.1])) fun e=>some (.nx (e,(IntKind.i64.wrap (st.2+1))))) (some (.nx (st.1,(IntKind.i64.wrap (st.2+1)))))) (fun _ _=>none) (fun r=>some (.rt r))) (some (.bk (st.1,st.2)))
def xP (u0:aj):Option ((List Int)×Int):=
 ag (eZ u0 ([]:(List (aj->Option Int)))) fun a=>cond ((a.2 != 0)) (some (([]:(List Int)),a.2)) (ag (s7 a.1) fun c=>cond (c) (some (([]:(List Int)),0)) (ag (vO 1 (u0.told.length:Int)) fun d=>ag (aZ (xO u0 a d) fu (([]:List (List Int)),0)) fun o=>aF o (fun b=>ag (bf b.1 0) fun e=>ag (jf b.1 1 (b.1.length:Int)) fun f=>ag (wD tq e f) fun g=>some (g,0)) (fun _ _=>none) (fun r=>some r)))
theorem BL {ro:Addr->Option Value}(fv:de ro)(u0:aj){s1 i j b4:Value}(K:bN ro u0 s1 i j b4){r:((List Int)×Int)}(h:xP u0=some r):eM Tryz.prog 40 #[bv u0 s1 i j b4] ro (fun v aM=>∃b5,v= .tuple #[b5,.int .i64 r.2]/\aA rI aM b5 r.1):=by
 obtain ⟨d24,k,rfl,ml,ab,-⟩:=id K.t;unfold xP at h;have fw:=K.oc;simp only[bC] at fw;refine aD.go Tryz.func40 rfl Tryz.ntmps40 Tryz.results40 (by simp) fun main J hJ A fx hd hs=>?_;have fz:=hs 0;clear hs;refine ah hJ ?_;simp only[*,go_sem];refine ay fun o L gg=>?_;try simp only[au] at gg
 refine ah hJ ?_;revert h;refine bS fun b gl h=>?_;simp only[*,go_sem];refine b9 hJ _ (kL fv u0 K ([]:(List (aj->Option Int))) (aA.nil _ _) gl) fun v ca ad cb a7=>?_;obtain ⟨c,d,f,q,rfl,P⟩:=a7;have gn:=P.oc;simp only[bC] at gn;replace K:=K.mono ad;replace L:=cb.hd;simp only[bu] at cb;refine aJ ?_;simp only[*,go_sem];refine ay fun s Q gp=>?_;try simp only[au] at gp
 refine af hJ (ah hJ ?_);simp only[*,go_sem];revert h;refine aT hJ (fun gB h=>?_) fun gB h=>?_
 .obtain rfl:=sI h;refine ah hJ ?_;simp only[*,go_sem];refine ax ?_;simp only[*,go_sem];exact ⟨_,ad,Le.sub (List.nil_sublist _),_,rfl,aA.nil _ _⟩
 refine aI hJ (af hJ ?_);refine ah hJ ?_;revert h;refine bS fun mn gC h=>?_;simp only[*,go_sem];refine aU hJ _ (BB b.1 (P.mono aN) gC) ?_;revert h;refine aT hJ (fun gM h=>?_) fun gM h=>?_
 .obtain rfl:=sI h;refine ah hJ ?_;simp only[*,go_sem];refine ax ?_;simp only[*,go_sem];exact ⟨_,ad,Le.sub (List.nil_sublist _),_,rfl,aA.nil _ _⟩
 refine aI hJ (af hJ ?_);refine ak hJ ?_;simp only[*,go_sem];refine af hJ (ah hJ ?_);revert h;refine bS fun gT cd h=>?_;obtain ⟨mr,gV⟩:=Fx cd;clear cd;try simp only[go_sem] at gV
 simp only[*,go_sem];refine aO hJ ?_;revert h;refine bS fun g0 ae g1=>?_;refine bU hJ (rg 26 40 (rg 6 6 [])) (fun m V F'=>∃(B:Addr->Option Value) (d71:Option Addr) (S:Nat) (w:List (Nat×Obj)) (I:(List (List Int))) (T:Int),aZ (xO u0 b gT) m (I,T)=some g0/\F'=⟨B,(s,bl b.1 c d f q)::(o,bk u0 s1 i j (sl d24 u0.told k))::w⟩/\Ext ca B/\aP (rL rI) B 35 (.slice d71 I.length S) I w/\I.length<=S/\slot V 6= .slice d71 I.length S/\slot V 26= .int .i64 T) fu ?_ ?_
 .refine ⟨ca,none,0,[],([]:List (List Int)),0,ae,rfl,Ext.refl _,aP.nil _ _ _,Nat.le_refl _,?_⟩;simp only[*,go_sem]
 rintro al g2 F' cf ⟨B,d71,S,w,I,T,ae,rfl,W,U,g3,g4,ha⟩;refine fT hJ fun _ a8=>?_;replace P:=P.mono W;replace K:=K.mono W;replace Q:=a8.hd;replace L:=a8.tl.hd;simp only[bu] at a8;obtain ⟨cl,cu,cy⟩:=cf.pick [1,2,3,4,25] (by decide);simp only[*,go_sem] at cl cu cy;clear cf fx hd fz;obtain _|al:=al
 .exact absurd ae (by simp only[aZ,reduceCtorEq,not_false_eq_true])
 revert ae;refine bS fun mx h ao=>?_;unfold xO at h;try dsimp only at h
 refine af hJ ?_;refine aC hJ fun my=>?_;refine ak hJ ?_;simp only[*,go_sem];refine af hJ ?_;revert h;refine aT hJ (fun hc h=>?_) fun hc h=>?_
 .refine aI hJ (af hJ ?_);refine aO hJ (af hJ ?_);refine aC hJ fun m1=>?_;refine ak hJ ?_;simp only[*,go_sem];refine af hJ ?_;refine aC hJ fun m2=>?_;refine ak hJ ?_;simp only[*,go_sem];refine af hJ ?_;refine aC hJ fun hf=>?_;refine ak hJ ?_;simp only[*,go_sem];refine ay fun z hg cS=>?_;have na:=aQ.cons cS hf;try simp only[au] at cS
  refine af hJ ?_;refine aC hJ fun nb=>?_;refine ak hJ ?_;simp only[*,go_sem];refine af hJ (af hJ ?_);refine aC hJ fun nd=>?_;refine ak hJ ?_;simp only[*,go_sem];refine aO hJ ?_;revert h;refine bS fun hh R hi=>?_;refine bU hJ (rg 35 23 [8,10,11]) (fun m V F'=>∃(i109:Nat) (d96:Option Addr) (M:Nat) (X:List (Nat×Obj)) (d103:Option Addr) (u:Nat) (C:List (Nat×Obj)) (D:(List Int)) (g:(List bG)),m=u0.told.length - i109/\i109<=u0.told.length/\bJ (xN T) i109 (u0.told.drop i109) (D,g)=some hh/\F'=⟨B,(z,bl b.1 c d f (sl d103 g u))::(s,bl b.1 c d f q)::(o,bk u0 s1 i j (sl d24 u0.told k))::(X++(C++w))⟩/\aP rI B 3 (.slice d96 D.length M) D X/\D.length<=M/\aP di B 54 (.slice d103 g.length u) g C/\g.length<=u/\slot V 35= .int .i64 (i109:Int)/\slot V 8= .slice d96 D.length M) u0.told.length ?_ ?_
  .refine ⟨0,none,0,[],none,0,[],([]:List Int),([]:List bG),(Nat.sub_zero _).symm,Nat.zero_le _,R,rfl,aP.nil _ _ _,Nat.le_refl _,aP.nil _ _ _,Nat.le_refl _,?_⟩;simp only[*,go_sem]
  rintro nf hj F' a9 ⟨i109,d96,M,X,d103,u,C,D,g,rfl,nm,R,rfl,Y,hk,N,hl,nn,np⟩;obtain ⟨hn,ho,hp⟩:=a9.pick [1,2,3,4,6,7,9,25,26,27,28,29,30,31,32,33,34] (by decide);simp only[*,go_sem] at hn ho hp;have ns:cM (rg 26 40 (rg 6 6 [])) hj g2:=(a9.gm (by decide)).trans (by simp only[*,go_sem]);clear a9 cl cu cy g4 ha;refine ah hJ ?_;simp only[*,go_sem];refine af hJ ?_;rcases Nat.lt_or_ge i109 u0.told.length with hq|c0
  .refine b8 hJ ?_;refine aI hJ ?_;obtain ⟨a,ba⟩:∃x,u0.told[i109]?=some x:=⟨_,List.getElem?_eq_getElem hq⟩
   rw[dg ba] at R;revert R;refine bS fun nx h ar=>?_;unfold xN at h;(try dsimp only at h);obtain ⟨E,hr,ht,hv,bb⟩:=K.t.el _ _ ba;obtain rfl:hr=a.cells:=hv;cases ht;have hx:=bb 0 _ rfl;simp only[go_sem] at hx;have hy:=bb 1 _ rfl;simp only[go_sem] at hy;clear bb ba;refine af hJ (aO hJ (af hJ ?_));refine aC hJ fun hz=>?_;refine ak hJ ?_;simp only[*,go_sem];refine ay fun F nz da=>?_;have nA:=aQ.cons da hz;try simp only[au] at da
   refine af hJ ?_;refine aC hJ fun nH=>?_;refine ak hJ ?_;revert h;refine bS fun nI db h=>?_;obtain ⟨nK,hA⟩:=Fy db;clear db;(try simp only[go_sem] at hA);simp only[*,go_sem];revert h;refine aT hJ (fun hB h=>?_) fun hB h=>?_
   .refine aC hJ fun dd=>?_;refine eE hJ mixed [13] (.pure 0 (.pure 1 (.pure 4 (.pure 5 (.rd 6 (.rd 7 (.two 2 (.two 3 (.one 8 (.one 9 (.pure 10 (.pure 11 (.pure 12 (.last 13 .done)))))) 8 (.one 3 (.one 9 (.pure 10 (.pure 11 (.pure 12 (.last 13 .done))))))) 8 (.one 2 (.one 3 (.one 9 (.pure 10 (.pure 11 (.pure 12 (.last 13 .done)))))))))))))) ⟨B,[(F,.cells #[.int .i64 a.aR,.bool a.bq] 54),(z,bl b.1 c d f (sl d103 g u)),(s,bl b.1 c d f q),(o,bk u0 s1 i j (sl (some E) u0.told k))]⟩ (by simp only[*,go_sem]) (by kernel_rfl) ?_;simp only[*,go_sem];refine kE ?_ ?_
    .simp only[*,go_sem];refine ay fun O df dk=>?_;have dp:=aQ.cons dk dd;try simp only[au] at dk
     simp only[*,go_sem];refine kE ?_ ?_
     .revert h;refine bS fun hD hE h=>?_;obtain ⟨hF,dq⟩:=dr hE;simp only[*,go_sem];refine ek (r:=rI) (l:=D) (x:=(i109:Int)) (cs:=#[.int .i64 (i109:Int)]) (e2:=3) [(O,ic (i109:Int)),(F,.cells #[.int .i64 a.aR,.bool a.bq] 54),(z,bl b.1 c d f (sl d103 g u)),(s,bl b.1 c d f q),(o,bk u0 s1 i j (sl (some E) u0.told k))] (C++w) Y dp hF rfl (by simp only[*,go_sem]) df rfl rfl fQ fQ lg lq rfl lp (by decide) (by decide) (fun nQ a0 bc G H hG=>?_);simp only[aS] at H;subst G;rw[<-dq] at bc;clear dq;obtain ⟨d197,hI,rfl,hK⟩:=bc.len;refine ⟨⟨B,(O,ic (i109:Int))::(F,.cells #[.int .i64 a.aR,.bool a.bq] 54)::(z,bl b.1 c d f (sl d103 g u))::(s,bl b.1 c d f q)::(o,bk u0 s1 i j (sl (some E) u0.told k))::(a0++(C++w))⟩,Le.refl _,?_⟩;refine ⟨by simp only[*,go_sem],bR ?_⟩;revert h;refine bS fun hL hM h=>?_;obtain rfl:=sI h;obtain ⟨hN,ds⟩:=dr hM;simp only[*,go_sem];refine ay fun dt hP du=>?_;have hQ:=aQ.cons du hG;try simp only[au] at du
      simp only[*,go_sem];refine ek (r:=di) (l:=g) (x:=a) (cs:=#[.int .i64 a.aR,.bool a.bq]) (e2:=54) ((dt,.cells #[.int .i64 a.aR,.bool a.bq] 54)::(O,ic (i109:Int))::(F,.cells #[.int .i64 a.aR,.bool a.bq] 54)::(z,bl b.1 c d f (sl d103 g u))::(s,bl b.1 c d f q)::(o,bk u0 s1 i j (sl (some E) u0.told k))::a0) w N hQ hN rfl (by simp only[*,go_sem]) hP rfl rfl ez ez iE iG rfl iF (by decide) (by decide) (fun nR dv bd G H nT=>?_);simp only[aS] at H;subst G;rw[<-ds] at bd;clear ds;obtain ⟨d208,hR,rfl,hS⟩:=bd.len;refine ⟨⟨B,(dt,.cells #[.int .i64 a.aR,.bool a.bq] 54)::(O,ic (i109:Int))::(F,.cells #[.int .i64 a.aR,.bool a.bq] 54)::(z,bl b.1 c d f (sl d103 g u))::(s,bl b.1 c d f q)::(o,bk u0 s1 i j (sl (some E) u0.told k))::(a0++(dv++w))⟩,Le.refl _,?_⟩;refine ⟨by simp only[*,go_sem],bR ?_⟩;simp only[*,go_sem];have bj:=cv (n:=i109) (by have:=ab;omega);refine ak hJ ?_;simp only[*,go_sem];refine ⟨u0.told.length - (i109+1),by omega,_,Le.sub (List.Sublist.cons _ (List.Sublist.cons _ (List.Sublist.cons _ (List.Sublist.refl _)))),i109+1,d197,hI,a0,d208,hR,dv,hD,hL,rfl,by omega,ar,rfl,bc,hK,bd,hS,?_⟩;simp only[*,go_sem]
     revert h;refine bS fun hT hV h=>?_;obtain ⟨hX,dC⟩:=dr hV;simp only[*,go_sem];refine ay fun a2 hY dE=>?_;have hZ:=aQ.cons dE dp;try simp only[au] at dE
     simp only[*,go_sem];refine ek (r:=rI) (l:=D) (x:=(i109:Int)) (cs:=#[.int .i64 (i109:Int)]) (e2:=3) [(a2,.cells #[.int .i64 a.aR,.bool a.bq] 54),(O,ic (i109:Int)),(F,.cells #[.int .i64 a.aR,.bool a.bq] 54),(z,bl b.1 c d f (sl d103 g u)),(s,bl b.1 c d f q),(o,bk u0 s1 i j (sl (some E) u0.told k))] (C++w) Y hZ hX rfl (by simp only[*,go_sem]) df rfl rfl fQ fQ lg lq rfl lp (by decide) (by decide) (fun nV a3 bm G H h0=>?_);simp only[aS] at H;subst G;rw[<-dC] at bm;clear dC;obtain ⟨d219,h1,rfl,h2⟩:=bm.len;refine ⟨⟨B,(a2,.cells #[.int .i64 a.aR,.bool a.bq] 54)::(O,ic (i109:Int))::(F,.cells #[.int .i64 a.aR,.bool a.bq] 54)::(z,bl b.1 c d f (sl d103 g u))::(s,bl b.1 c d f q)::(o,bk u0 s1 i j (sl (some E) u0.told k))::(a3++(C++w))⟩,Le.refl _,?_⟩;refine ⟨by simp only[*,go_sem],bR ?_⟩;revert h;refine bS fun h3 h4 h=>?_;obtain rfl:=sI h;obtain ⟨h5,dT⟩:=dr h4;simp only[*,go_sem];refine ek (r:=di) (l:=g) (x:=a) (cs:=#[.int .i64 a.aR,.bool a.bq]) (e2:=54) ((a2,.cells #[.int .i64 a.aR,.bool a.bq] 54)::(O,ic (i109:Int))::(F,.cells #[.int .i64 a.aR,.bool a.bq] 54)::(z,bl b.1 c d f (sl d103 g u))::(s,bl b.1 c d f q)::(o,bk u0 s1 i j (sl (some E) u0.told k))::a3) w N h0 h5 rfl (by simp only[*,go_sem]) hY rfl rfl ez ez iE iG rfl iF (by decide) (by decide) (fun nX ea bo G H nY=>?_);simp only[aS] at H;subst G;rw[<-dT] at bo;clear dT;obtain ⟨d228,h6,rfl,h7⟩:=bo.len;refine ⟨⟨B,(a2,.cells #[.int .i64 a.aR,.bool a.bq] 54)::(O,ic (i109:Int))::(F,.cells #[.int .i64 a.aR,.bool a.bq] 54)::(z,bl b.1 c d f (sl d103 g u))::(s,bl b.1 c d f q)::(o,bk u0 s1 i j (sl (some E) u0.told k))::(a3++(ea++w))⟩,Le.refl _,?_⟩;refine ⟨by simp only[*,go_sem],bR ?_⟩;simp only[*,go_sem];have bj:=cv (n:=i109) (by have:=ab;omega);refine ak hJ ?_;simp only[*,go_sem];refine ⟨u0.told.length - (i109+1),by omega,_,Le.sub (List.Sublist.cons _ (List.Sublist.cons _ (List.Sublist.cons _ (List.Sublist.refl _)))),i109+1,d219,h1,a3,d228,h6,ea,hT,h3,rfl,by omega,ar,rfl,bm,h2,bo,h7,?_⟩;simp only[*,go_sem]
    revert h;refine bS fun h8 h9 h=>?_;obtain ⟨ib,eb⟩:=dr h9;simp only[*,go_sem];refine ay fun a4 ih ec=>?_;have ik:=aQ.cons ec dd;try simp only[au] at ec
    simp only[*,go_sem];refine ay fun a5 il ed=>?_;have im:=aQ.cons ed ik;try simp only[au] at ed
    simp only[*,go_sem];refine ek (r:=rI) (l:=D) (x:=(i109:Int)) (cs:=#[.int .i64 (i109:Int)]) (e2:=3) [(a5,ic (i109:Int)),(a4,.cells #[.int .i64 a.aR,.bool a.bq] 54),(F,.cells #[.int .i64 a.aR,.bool a.bq] 54),(z,bl b.1 c d f (sl d103 g u)),(s,bl b.1 c d f q),(o,bk u0 s1 i j (sl (some E) u0.told k))] (C++w) Y im ib rfl (by simp only[*,go_sem]) il rfl rfl fQ fQ lg lq rfl lp (by decide) (by decide) (fun n0 a6 br G H iv=>?_);simp only[aS] at H;subst G;rw[<-eb] at br;clear eb;obtain ⟨d241,ix,rfl,jC⟩:=br.len;refine ⟨⟨B,(a5,ic (i109:Int))::(a4,.cells #[.int .i64 a.aR,.bool a.bq] 54)::(F,.cells #[.int .i64 a.aR,.bool a.bq] 54)::(z,bl b.1 c d f (sl d103 g u))::(s,bl b.1 c d f q)::(o,bk u0 s1 i j (sl (some E) u0.told k))::(a6++(C++w))⟩,Le.refl _,?_⟩;refine ⟨by simp only[*,go_sem],bR ?_⟩;revert h;refine bS fun j1 j2 h=>?_;obtain rfl:=sI h;obtain ⟨kh,eh⟩:=dr j2;simp only[*,go_sem];refine ek (r:=di) (l:=g) (x:=a) (cs:=#[.int .i64 a.aR,.bool a.bq]) (e2:=54) ((a5,ic (i109:Int))::(a4,.cells #[.int .i64 a.aR,.bool a.bq] 54)::(F,.cells #[.int .i64 a.aR,.bool a.bq] 54)::(z,bl b.1 c d f (sl d103 g u))::(s,bl b.1 c d f q)::(o,bk u0 s1 i j (sl (some E) u0.told k))::a6) w N iv kh rfl (by simp only[*,go_sem]) ih rfl rfl ez ez iE iG rfl iF (by decide) (by decide) (fun n1 et bs G H n2=>?_);simp only[aS] at H;subst G;rw[<-eh] at bs;clear eh;obtain ⟨d250,kj,rfl,kk⟩:=bs.len;refine ⟨⟨B,(a5,ic (i109:Int))::(a4,.cells #[.int .i64 a.aR,.bool a.bq] 54)::(F,.cells #[.int .i64 a.aR,.bool a.bq] 54)::(z,bl b.1 c d f (sl d103 g u))::(s,bl b.1 c d f q)::(o,bk u0 s1 i j (sl (some E) u0.told k))::(a6++(et++w))⟩,Le.refl _,?_⟩;refine ⟨by simp only[*,go_sem],bR ?_⟩;simp only[*,go_sem];have bj:=cv (n:=i109) (by have:=ab;omega);refine ak hJ ?_;simp only[*,go_sem];refine ⟨u0.told.length - (i109+1),by omega,_,Le.sub (List.Sublist.cons _ (List.Sublist.cons _ (List.Sublist.cons _ (List.Sublist.refl _)))),i109+1,d241,ix,a6,d250,kj,et,h8,j1,rfl,by omega,ar,rfl,br,jC,bs,kk,?_⟩;simp only[*,go_sem]
   obtain rfl:=sI h;refine aI hJ ?_;have bj:=cv (n:=i109) (by have:=ab;omega);refine ak hJ ?_;simp only[*,go_sem];refine ⟨u0.told.length - (i109+1),by omega,_,Le.sub (List.Sublist.cons _ (List.Sublist.refl _)),i109+1,d96,M,X,d103,u,C,D,g,rfl,by omega,ar,rfl,Y,hk,N,hl,?_⟩;simp only[*,go_sem]
  have n3:=Nat.not_lt.2 c0;refine b6 hJ ?_;rw[List.drop_eq_nil_of_le c0] at R;obtain rfl:=sI R;clear R;have h:=hi;dsimp only[aF] at h;refine bO ?_;simp only[go_sem];refine af hJ ?_;refine aC hJ fun kl=>?_;refine ak hJ ?_;revert h;refine bS fun oi km h=>?_;simp only[*,go_sem];refine aU hJ _ (BB (⟨b.1.bH,b.1.bM,b.1.aV,b.1.az,b.1.props,b.1.av,g⟩:aj) ⟨(P.e.mono aN),(P.p.mono aN),(P.y.mono aN),(N.Bo ((z,bl b.1 c d f (sl d103 g u))::(s,bl b.1 c d f q)::(o,bk u0 s1 i j (sl d24 u0.told k))::X) w (by first|rfl|simp only[aS]|(simp only[aS];rfl)) kl)⟩ km) (aJ ?_);simp only[*,go_sem];revert h;refine aT hJ (fun kn h=>?_) fun kn h=>?_
  .refine aC hJ fun eu=>?_;obtain ⟨ev,bz,Z,eQ,kp⟩:=Y.lB ((z,bl b.1 c d f (sl d103 g u))::(s,bl b.1 c d f q)::(o,bk u0 s1 i j (sl d24 u0.told k))::(C++w)) [(z,bl b.1 c d f (sl d103 g u)),(s,bl b.1 c d f q),(o,bk u0 s1 i j (sl d24 u0.told k))] (C++w) (by first|rfl|simp only[aS]|(simp only[aS];rfl)) (by first|rfl|simp only[aS]|(simp only[aS];rfl)) eu (aE.cons hg (aE.cons Q (aE.cons L (aE.app N.jK (U.jK)))));clear eu;refine cz hJ kp ?_;obtain ⟨oj,ox,-⟩:=eQ.op;replace Q:=Z.tl.hd;replace L:=Z.tl.tl.hd;replace N:=N.mono bz Z.tl.tl.tl.l;replace U:=U.mono bz Z.tl.tl.tl.r;simp only[bu] at Z;refine aC hJ fun ks=>?_;refine ak hJ ?_;revert h;refine bS fun kt kv h=>?_;obtain rfl:=sI h;obtain ⟨kx,eS⟩:=dr kv;simp only[*,go_sem];refine ay fun e0 ky e1=>?_;have k0:=aQ.cons e1 ks;try simp only[au] at e1
   refine ek (r:=(rL rI)) (l:=I) (x:=D) (cs:=#[.slice d96 D.length M]) (e2:=35) ((e0,.cells #[.slice d96 D.length M] 35)::(z,bl b.1 c d f (sl d103 g u))::(s,bl b.1 c d f q)::(o,bk u0 s1 i j (sl d24 u0.told k))::C) [] U k0 kx ⟨_,rfl,eQ⟩ (by simp only[*,go_sem]) ky rfl rfl lz lz sj sn rfl sk (by decide) (by decide) (fun oy e3 b0 G H o0=>?_);simp only[aS] at H;subst G;rw[<-eS] at b0;clear eS;obtain ⟨k2,lb,rfl,lh⟩:=b0.len;refine ⟨⟨ev,(e0,.cells #[.slice d96 D.length M] 35)::(z,bl b.1 c d f (sl d103 g u))::(s,bl b.1 c d f q)::(o,bk u0 s1 i j (sl d24 u0.told k))::(C++e3)⟩,Le.refl _,?_⟩;refine aJ ?_;simp only[*,go_sem];refine aC hJ fun o1=>?_;refine ak hJ ?_;simp only[*,go_sem];refine ⟨al,Nat.lt_succ_self _,_,Le.sub (List.Sublist.cons _ (List.Sublist.cons _ (List.Sublist.cons₂ _ (List.Sublist.cons₂ _ ((List.Sublist.refl _).trans (List.sublist_append_right _ _)))))),ev,k2,lb,e3,kt,(IntKind.i64.wrap (T+1)),ao,rfl,(W.trans bz),b0,lh,?_⟩;simp only[*,go_sem]
  obtain rfl:=sI h;refine aI hJ ?_;refine aC hJ fun o2=>?_;refine ak hJ ?_;simp only[*,go_sem];refine ⟨al,Nat.lt_succ_self _,_,Le.sub (List.Sublist.cons _ (List.Sublist.cons₂ _ (List.Sublist.cons₂ _ (((List.Sublist.refl _).trans (List.sublist_append_right _ _)).trans (List.sublist_append_right _ _))))),B,d71,S,w,I,(IntKind.i64.wrap (T+1)),ao,rfl,W,U,g3,?_⟩;simp only[*,go_sem]
 obtain rfl:=sI h;refine bO ?_;simp only[go_sem];obtain rfl:=sI ao;clear ao;have h:=g1;dsimp only[aF] at h;refine af hJ ?_;refine aC hJ fun fa=>?_;obtain ⟨o4,lj,b1,b2,lk⟩:=U.lB ((s,bl b.1 c d f q)::(o,bk u0 s1 i j (sl d24 u0.told k))::[]) [(s,bl b.1 c d f q),(o,bk u0 s1 i j (sl d24 u0.told k))] [] (by first|rfl|simp only[aS]|(simp only[aS];rfl)) (by first|rfl|simp only[aS]|(simp only[aS];rfl)) fa (aE.cons Q (aE.cons L (aE.nil _)));clear fa;refine cz hJ lk ?_;obtain ⟨pa,pb,-⟩:=b2.op;replace Q:=b1.hd;replace L:=b1.tl.hd;simp only[bu] at b1;refine cP hJ mixed 5 2 (by simp only[*,go_sem]) (by kernel_rfl) ?_;revert h;refine bS fun ll ln h=>?_;obtain ⟨pd,pf,fb⟩:=cG ln;obtain ⟨ph,pj,lo,lr,fg⟩:=b2.el _ _ fb;obtain ⟨pk,rfl,fi⟩:=lr;obtain ⟨po,pr,rfl,ps,pt,pv⟩:=id fi;cases lo;have lv:=fg 0 _ rfl;simp only[go_sem] at lv;clear fg fb;revert h;refine bS fun lx ly h=>?_;obtain ⟨pw,px,py,fo⟩:=pY ly;have fp:(1:Int).toNat<=((I.length:Int)).toNat:=by omega
 have lL:((I.length:Int)).toNat<=S:=by omega
 have pA:0<=((I.length:Int)):=by omega
 obtain ⟨pB,l1,l2,fr⟩:=aA.p7 b2 (1:Int).toNat ((I.length:Int)).toNat fp (by omega) fo;simp only[go_sem] at l1 l2 fp lL;obtain ⟨_,_,l3,pC,pD,pL⟩:=id fr;cases l3;clear fo;revert h;refine bS fun pT l4 h=>?_;obtain rfl:=sI h;simp only[*,go_sem];refine b9 hJ _ (G6 (dO:=116) (en:=#[]) (eo:=#[]) tq ⟨by simp only[go_sem],fun p0 p1 ma _ mb _ _ mf mi h=>by simp only[go_sem];exact HX ma mf mb mi h⟩ ll fi lx fr l4) fun v qe fs b3 a7=>?_;obtain ⟨qk,rfl,ft⟩:=a7;replace Q:=b3.hd;replace L:=b3.tl.hd;simp only[bu] at b3;obtain ⟨q0,q1,rfl,ra,rb,-⟩:=id ft;have re:=eN (l:=[(s,bl b.1 c d f q),(o,bk u0 s1 i j (sl d24 u0.told k))]) fs (aE.cons Q (aE.cons L (aE.nil _)));refine ⟨by simp only[*,go_sem],?_⟩;refine mB ?_;simp only[*,go_sem];refine ax ?_;simp only[*,go_sem];exact ⟨_,(((ad).trans W).trans lj).trans fs,Le.sub (List.nil_sublist _),_,rfl,ft⟩
def xQ (a:(cT×Int))(i93:Nat)(b:bn)(st:(List bE)):Option (Fl (List bE) (an×an×Bool×Int)):=
 ag (lI a.1.book b) fun c=>ag (dc st ([c])) fun d=>some (.nx d)
def xR (u0:aj):Option (an×an×Bool×Int):=
 ag (fW u0 ([]:(List (aj->Option Int)))) fun a=>cond ((a.2 != 0)) (some ((⟨0,0⟩:an),(⟨0,0⟩:an),false,a.2)) (ag (tv a.1) fun g=>ag (bJ (xQ a) 0 g ([]:List bE)) fun o=>aF o (fun b=>ag (bf b 0) fun c=>ag (jf b 1 (b.length:Int)) fun d=>ag (mL jj c d) fun h=>ag (mL sN c d) fun i=>ag (jP h.high u0.aV) fun e=>ag (jO i.high u0.aV) fun f=>ag (eB f e) fun j=>cond (j) (some ((⟨0,0⟩:an),(⟨0,0⟩:an),false,0)) (some (e,f,true,0))) (fun _ _=>none) (fun r=>some r))
theorem H8 {ro:Addr->Option Value}(bl:de ro)(u0:aj){s1 f g i:Value}(ab:bN ro u0 s1 f g i){r:(an×an×Bool×Int)}(h:xR u0=some r):aD Tryz.prog 11 #[bv u0 s1 f g i] ⟨ro,[]⟩ (fun v _=>v= .tuple #[r.1.v,r.2.1.v,.bool r.2.2.1,.int .i64 r.2.2.2]):=by
 unfold xR at h;have bm:=ab.oc;simp only[bC] at bm;refine aD.go Tryz.func11 rfl Tryz.ntmps11 Tryz.results11 (by simp) fun main J hJ A bo hd hs=>?_;have br:=hs 0;clear hs;refine ah hJ ?_;simp only[*,go_sem];refine ay fun j L bs=>?_;try simp only[au] at bs
 refine ay fun z M bz=>?_;try simp only[au] at bz
 refine ay fun B N b0=>?_;try simp only[au] at b0
 refine ah hJ ?_;revert h;refine bS fun d b1 h=>?_;simp only[*,go_sem];refine b9 hJ _ (jT bl u0 ab ([]:(List (aj->Option Int))) (aA.nil _ _) b1) fun v gM gT I O=>?_;obtain ⟨k,o,p,q,s,rfl,D,ad⟩:=O;have b2:=D.oc;simp only[bC] at b2;have b3:=ad.oc;simp only[bC] at b3;replace N:=I.hd;replace M:=I.tl.hd;replace L:=I.tl.tl.hd;simp only[bu] at I;refine aJ ?_;simp only[*,go_sem];refine ay fun t ae b4=>?_;try simp only[au] at b4
 refine af hJ (ah hJ ?_);simp only[*,go_sem];revert h;refine aT hJ (fun b5 h=>?_) fun b5 h=>?_
 .obtain rfl:=sI h;refine ah hJ ?_;simp only[*,go_sem];refine ax ?_;simp only[*,go_sem]
 refine aI hJ (af hJ ?_);refine ak hJ ?_;simp only[*,go_sem];refine af hJ (ah hJ ?_);revert h;refine bS fun u ca h=>?_;simp only[*,go_sem];refine b9 hJ _ (BK d.1 D ad ca) fun v P cb E O=>?_;obtain ⟨gV,rfl,al⟩:=O;replace D:=D.mono cb;replace ae:=E.hd;replace N:=E.tl.hd;replace M:=E.tl.tl.hd;replace L:=E.tl.tl.tl.hd;simp only[bu] at E;obtain ⟨d81,g0,rfl,g1,cd,-⟩:=id al;refine aJ ?_;simp only[*,go_sem];refine aO hJ ?_;revert h;refine bS fun cf w cl=>?_;refine bU hJ (rg 25 12 [7,9]) (fun m ao F'=>∃(i93:Nat) (d87:Option Addr) (G:Nat) (Q:List (Nat×Obj)) (e:(List bE)),m=u.length - i93/\i93<=u.length/\bJ (xQ d) i93 (u.drop i93) e=some cf/\F'=⟨P,(t,kn d.1 k o p q s)::(B,rt 0 0)::(z,rt 0 0)::(j,bk u0 s1 f g i)::Q⟩/\aP kG P 122 (.slice d87 e.length G) e Q/\e.length<=G/\slot ao 25= .int .i64 (i93:Int)/\slot ao 7= .slice d87 e.length G) u.length ?_ ?_
 .refine ⟨0,none,0,[],([]:List bE),(Nat.sub_zero _).symm,Nat.zero_le _,w,rfl,aP.nil _ _ _,Nat.le_refl _,?_⟩;simp only[*,go_sem]
 rintro g2 g3 F' ar ⟨i93,d87,G,Q,e,rfl,g4,w,rfl,a0,ha,hc,hf⟩;obtain ⟨cu,cy,cS⟩:=ar.pick [1,2,3,4,5,6,23,24] (by decide);simp only[*,go_sem] at cu cy cS;clear ar bo hd br;refine ah hJ ?_;simp only[*,go_sem];refine af hJ ?_;rcases Nat.lt_or_ge i93 u.length with c0|a2
 .refine b8 hJ ?_;refine aI hJ ?_;obtain ⟨C,R⟩:∃x,u[i93]?=some x:=⟨_,List.getElem?_eq_getElem c0⟩
  rw[dg R] at w;revert w;refine bS fun hg h da=>?_;unfold xQ at h;try dsimp only at h
  obtain ⟨hh,db,dd,df,S⟩:=al.el _ _ R;obtain rfl:db=C.cells:=df;cases dd;have dk:=S 0 _ rfl;simp only[go_sem] at dk;have dp:=S 1 _ rfl;simp only[go_sem] at dp;clear S R;refine af hJ (aO hJ (af hJ ?_));refine aC hJ fun dq=>?_;refine ak hJ ?_;simp only[*,go_sem];refine ay fun a3 hi a4=>?_;have hj:=aQ.cons a4 dq;try simp only[au] at a4
  refine aC hJ fun ds=>?_;refine ak hJ ?_;revert h;refine bS fun a dt h=>?_;simp only[*,go_sem];refine aU hJ _ (sU d.1.book (D.mono aN) C dt) (aJ ?_);revert h;refine bS fun du dv h=>?_;obtain rfl:=sI h;obtain ⟨dC,a5⟩:=dr dv;simp only[*,go_sem];refine ay fun a6 dE a7=>?_;have dT:=aQ.cons a7 ds;try simp only[au] at a7
  refine ek (r:=kG) (l:=e) (x:=a) (cs:=#[.int .i64 a.spot.aL,.int .i64 a.spot.high.num,.int .i64 a.spot.high.den,.int .i64 a.at_,.int .i64 a.high.num,.int .i64 a.high.den]) (e2:=122) [(a6,.cells #[.int .i64 a.spot.aL,.int .i64 a.spot.high.num,.int .i64 a.spot.high.den,.int .i64 a.at_,.int .i64 a.high.num,.int .i64 a.high.den] 122),(a3,.cells #[.int .i64 C.back,.int .i64 C.high] 118),(t,kn d.1 k o p q s),(B,rt 0 0),(z,rt 0 0),(j,bk u0 s1 f g i)] [] a0 dT dC rfl (by simp only[*,go_sem]) dE rfl rfl nU nU vS vU rfl vT (by decide) (by decide) (fun hk a8 T ea eb hl=>?_);simp only[aS] at eb;subst ea;rw[<-a5] at T;clear a5;obtain ⟨d115,ec,rfl,ed⟩:=T.len;refine ⟨⟨P,(a6,.cells #[.int .i64 a.spot.aL,.int .i64 a.spot.high.num,.int .i64 a.spot.high.den,.int .i64 a.at_,.int .i64 a.high.num,.int .i64 a.high.den] 122)::(a3,.cells #[.int .i64 C.back,.int .i64 C.high] 118)::(t,kn d.1 k o p q s)::(B,rt 0 0)::(z,rt 0 0)::(j,bk u0 s1 f g i)::a8⟩,Le.refl _,?_⟩;refine aJ ?_;simp only[*,go_sem];have hn:=cv (n:=i93) (by have:=cd;omega);refine ak hJ ?_;simp only[*,go_sem];refine ⟨u.length - (i93+1),by omega,_,Le.sub (List.Sublist.cons _ (List.Sublist.cons _ (List.Sublist.refl _))),i93+1,d115,ec,a8,du,rfl,by omega,da,rfl,T,ed,?_⟩;simp only[*,go_sem]
 have ho:=Nat.not_lt.2 a2;refine b6 hJ ?_;rw[List.drop_eq_nil_of_le a2] at w;obtain rfl:=sI w;clear w;have h:=cl;dsimp only[aF] at h;refine bO ?_;simp only[go_sem];refine af hJ ?_;refine aC hJ fun a9=>?_;obtain ⟨K,hp,eh,U,et⟩:=a0.eX [(t,kn d.1 k o p q s),(B,rt 0 0),(z,rt 0 0),(j,bk u0 s1 f g i)] [] a9 (aE.cons ae (aE.cons N (aE.cons M (aE.cons L (aE.nil _)))));clear a9;refine cz hJ et ?_;obtain ⟨hq,hr,-⟩:=U.op;simp only[bu] at eh;refine fl hJ mixed 6 ⟨K,[(t,kn d.1 k o p q s),(B,rt 0 0),(z,rt 0 0),(j,bk u0 s1 f g i)]⟩ (by simp only[*,go_sem]) (by kernel_rfl) ?_;revert h;refine bS fun V eu h=>?_;obtain ⟨ht,hv,ba⟩:=cG eu;obtain ⟨hx,ev,eQ,eS,y⟩:=U.el _ _ ba;obtain rfl:ev=V.cells:=eS;cases eQ;have e0:=y 0 _ rfl;simp only[go_sem] at e0;have e1:=y 1 _ rfl;simp only[go_sem] at e1;have e3:=y 2 _ rfl;simp only[go_sem] at e3;have fa:=y 3 _ rfl;simp only[go_sem] at fa;have fb:=y 4 _ rfl;simp only[go_sem] at fb;have fg:=y 5 _ rfl;simp only[go_sem] at fg;clear y ba;revert h;refine bS fun bb fi h=>?_;obtain ⟨hy,hz,hA,bc⟩:=pY fi;have bd:(1:Int).toNat<=((e.length:Int)).toNat:=by omega
 have fo:((e.length:Int)).toNat<=G:=by omega
 have hB:0<=((e.length:Int)):=by omega
 obtain ⟨d132,fp,fr,W⟩:=aA.p7 U (1:Int).toNat ((e.length:Int)).toNat bd (by omega) bc;simp only[go_sem] at fp fr bd fo;obtain ⟨_,_,fs,hD,hE,hF⟩:=id W;cases fs;clear bc;revert h;refine bS fun b ft h=>?_;simp only[*,go_sem];refine ⟨_,bD hJ fun F H=>sM (dO:=71) (en:=#[]) (eo:=#[]) jj ⟨by simp only[go_sem],fun fu fv X Y _ h=>by simp only[go_sem];exact sH X Y h⟩ V bb (W.mono (bY H)) ft,?_⟩;simp only[*,go_sem];refine ay fun Z hG fw=>?_;try simp only[au] at fw
 simp only[*,go_sem];refine af hJ ?_;refine fl hJ mixed 6 ⟨K,[(Z,.cells #[.int .i64 b.spot.aL,.int .i64 b.spot.high.num,.int .i64 b.spot.high.den,.int .i64 b.at_,.int .i64 b.high.num,.int .i64 b.high.den] 122),(t,kn d.1 k o p q s),(B,rt 0 0),(z,rt 0 0),(j,bk u0 s1 f g i)]⟩ (by simp only[*,go_sem]) (by kernel_rfl) ?_;revert h;refine bS fun c fx h=>?_;simp only[*,go_sem];refine ⟨_,bD hJ fun F H=>sM (dO:=72) (en:=#[]) (eo:=#[]) sN ⟨by simp only[go_sem],fun fu fv X Y _ h=>by simp only[go_sem];exact GZ X Y h⟩ V bb (W.mono (bY H)) fx,?_⟩;simp only[*,go_sem];refine ay fun bj hI fz=>?_;try simp only[au] at fz
 simp only[*,go_sem];refine af hJ ?_;refine fl hJ mixed 10 ⟨K,[(bj,.cells #[.int .i64 c.spot.aL,.int .i64 c.spot.high.num,.int .i64 c.spot.high.den,.int .i64 c.at_,.int .i64 c.high.num,.int .i64 c.high.den] 122),(Z,.cells #[.int .i64 b.spot.aL,.int .i64 b.spot.high.num,.int .i64 b.spot.high.den,.int .i64 b.at_,.int .i64 b.high.num,.int .i64 b.high.den] 122),(t,kn d.1 k o p q s),(j,bk u0 s1 f g i)]⟩ (by simp only[*,go_sem]) (by kernel_rfl) ?_;revert h;refine bS fun gg gl h=>?_;simp only[*,go_sem];refine ⟨_,bD hJ fun F H=>qo b.high u0.aV gl,cn ?_⟩;revert h;refine bS fun gn gp h=>?_;simp only[*,go_sem];refine ⟨_,bD hJ fun F H=>qn c.high u0.aV gp,?_⟩;simp only[*,go_sem];refine af hJ (ah hJ ?_);revert h;refine bS fun hK gB h=>?_;simp only[*,go_sem];refine aU hJ _ (ji gn gg gB) ?_;revert h;refine aT hJ (fun gC h=>?_) fun gC h=>?_
 .obtain rfl:=sI h;refine ah hJ ?_;simp only[*,go_sem];refine ax ?_;simp only[*,go_sem]
 refine aI hJ (af hJ ?_);refine eE hJ mixed [] (.two 0 (.two 1 (.one 2 (.one 3 (.pure 4 (.pure 5 .done)))) 2 (.one 1 (.one 3 (.pure 4 (.pure 5 .done))))) 1 (.one 0 (.one 2 (.one 3 (.pure 4 (.pure 5 .done)))))) ⟨K,[(bj,.cells #[.int .i64 c.spot.aL,.int .i64 c.spot.high.num,.int .i64 c.spot.high.den,.int .i64 c.at_,.int .i64 c.high.num,.int .i64 c.high.den] 122),(Z,.cells #[.int .i64 b.spot.aL,.int .i64 b.spot.high.num,.int .i64 b.spot.high.den,.int .i64 b.at_,.int .i64 b.high.num,.int .i64 b.high.den] 122),(t,kn d.1 k o p q s),(j,bk u0 s1 f g i)]⟩ (by simp only[*,go_sem]) (by kernel_rfl) ?_;simp only[*,go_sem];refine kE ?_ ?_
 .simp only[*,go_sem];refine kE ?_ ?_
  .obtain rfl:=sI h;simp only[*,go_sem];refine ax ?_;simp only[*,go_sem]
  obtain rfl:=sI h;simp only[*,go_sem];refine ax ?_;simp only[*,go_sem]
 obtain rfl:=sI h;simp only[*,go_sem];refine ax ?_;simp only[*,go_sem]
def jX (u0:aj)(b:Int):Option ((List Int)×Int):=
 ag (fW u0 ([(eP b)])) fun a=>cond ((a.2 != 0)) (some (([]:(List Int)),a.2)) (ag (lM a.1 b) fun c=>some (c,0))
theorem qD {ro:Addr->Option Value}(g:de ro)(u0:aj){s1 i j k:Value}(f:bN ro u0 s1 i j k)(a:Int){r:((List Int)×Int)}(h:jX u0 a=some r):eM Tryz.prog 37 #[bv u0 s1 i j k,.int .i64 a] ro (fun v aM=>∃m,v= .tuple #[m,.int .i64 r.2]/\aA rI aM m r.1):=by
 unfold jX at h;have D:=f.oc;simp only[bC] at D;refine aD.go Tryz.func37 rfl Tryz.ntmps37 Tryz.results37 (by simp) fun main J hJ A Y hd hs=>?_;have Z:=hs 0;have k1:=hs 1;clear hs;refine ah hJ ?_;simp only[*,go_sem];refine ay fun E F G=>?_;try simp only[au] at G
 refine af hJ ?_;refine aC hJ fun H=>?_;refine ak hJ ?_;revert h;refine bS fun I K h=>?_;simp only[*,go_sem];refine ay fun c n p=>?_;have q:=aQ.cons p H;try simp only[au] at p
 obtain ⟨d,s,t⟩:=fS (b:=c) (o:=(.cells #[.func (.func 102) #[.int .i64 a] #[]] 133)) [] ((E,bk u0 s1 i j k)::[]) q n (aE.cons F (aE.nil _));have u:aA (c8) (bV ro c (.cells #[.func (.func 102) #[.int .i64 a] #[]] 133)) (.slice (some ⟨c,0,none⟩) 1 1) [(eP a)]:=(aA.one (r:=(c8)) (e:=133) (cs:=#[.func (.func 102) #[.int .i64 a] #[]]) (x:=(eP a)) (own:=[(c,.cells #[.func (.func 102) #[.int .i64 a] #[]] 133)]) n (by simp[lk]) ⟨102,#[.int .i64 a],#[],rfl,⟨by simp only[go_sem],fun ab ad L _ _ _ _ _ M N O P h=>by simp only[go_sem];exact sL a L ⟨M,N,O,P⟩ h⟩⟩)
 generalize bV ro c (.cells #[.func (.func 102) #[.int .i64 a] #[]] 133)=ae at u s d t;refine g6 hJ t ?_;replace f:=f.mono d;replace g:=g.mono d;simp only[bu] at s;have Q:=aQ.tl q;refine b9 hJ _ (jT g u0 f ([(eP a)]) u K) fun v al w R l=>?_;obtain ⟨ao,ar,a0,a2,a3,rfl,y,z⟩:=l;have S:=y.oc;simp only[bC] at S;have T:=z.oc;simp only[bC] at T;simp only[bu] at R;refine aJ ?_;simp only[*,go_sem];refine ay fun a4 a5 B=>?_;have a6:=aQ.cons B Q;try simp only[au] at B
 refine af hJ (ah hJ ?_);simp only[*,go_sem];revert h;refine aT hJ (fun U h=>?_) fun U h=>?_
 .obtain rfl:=sI h;refine ah hJ ?_;simp only[*,go_sem];refine ax ?_;simp only[*,go_sem];exact ⟨_,(d).trans w,Le.sub (List.nil_sublist _),_,rfl,aA.nil _ _⟩
 refine aI hJ (af hJ ?_);refine ak hJ ?_;revert h;refine bS fun a7 V h=>?_;obtain rfl:=sI h;simp only[*,go_sem];refine b9 hJ _ (tu I.1 y z a V) fun v a8 W X l=>?_;obtain ⟨a9,rfl,C⟩:=l;simp only[bu] at X;obtain ⟨d89,ba,rfl,bb,bc,-⟩:=id C;refine aJ ?_;simp only[*,go_sem];refine ax ?_;simp only[*,go_sem];exact ⟨_,((d).trans w).trans W,Le.sub (List.nil_sublist _),_,rfl,C⟩
def mX (a:(cT×Int))(i80:Nat)(i102:Nat)(c:Int)(st:(Int×an)):Option (Fl (Int×an) (Int×an×Int)):=
 ag (gO a.1.book (i80:Int) c) fun b=>ag (gv a.1.book b) fun d=>cond (d) (ag (kK a.1.book b) fun e=>ag (eB st.2 e) fun f=>cond (f) (ag (kK a.1.book b) fun g=>some (.nx ((i80:Int),g))) (some (.nx (st.1,st.2)))) (some (.nx (st.1,st.2)))
def qE (a:(cT×Int))(i80:Nat)(d:bL)(st:(Int×an)):Option (Fl (Int×an) (Int×an×Int)):=
 ag (lM a.1 (i80:Int)) fun c=>ag (bJ (mX a i80) 0 c (st.1,st.2)) fun o=>aF o (fun b=>some (.nx (b.1,b.2))) (fun _ _=>none) (fun r=>some (.rt r))
def jq (u0:aj):Option (Int×an×Int):=
 ag (fW u0 ([]:(List (aj->Option Int)))) fun a=>cond ((a.2 != 0)) (some (0,(⟨0,0⟩:an),a.2)) (ag (fU 0) fun c=>ag (bJ (qE a) 0 a.1.book.av ((-1),c)) fun o=>aF o (fun b=>some (b.1,b.2,0)) (fun _ _=>none) (fun r=>some r))
theorem tw {ro:Addr->Option Value}(ar:de ro)(u0:aj){s1 j k l:Value}(R:bN ro u0 s1 j k l){r:(Int×an×Int)}(h:jq u0=some r):aD Tryz.prog 39 #[bv u0 s1 j k l] ⟨ro,[]⟩ (fun v _=>v= .tuple #[.int .i64 r.1,r.2.1.v,.int .i64 r.2.2]):=by
 unfold jq at h;have a0:=R.oc;simp only[bC] at a0;refine aD.go Tryz.func39 rfl Tryz.ntmps39 Tryz.results39 (by simp) fun main J hJ A a2 hd hs=>?_;have a3:=hs 0;clear hs;refine ah hJ ?_;simp only[*,go_sem];refine ay fun w et a4=>?_;try simp only[au] at a4
 refine ay fun z eu a5=>?_;try simp only[au] at a5
 refine ah hJ ?_;revert h;refine bS fun a a6 h=>?_;simp only[*,go_sem];refine b9 hJ _ (jT ar u0 R ([]:(List (aj->Option Int))) (aA.nil _ _) a6) fun v S ev a7 B=>?_;obtain ⟨C,D,eQ,E,G,rfl,b,p⟩:=B;have a8:=b.oc;simp only[bC] at a8;have a9:=p.oc;simp only[bC] at a9;simp only[bu] at a7;obtain ⟨d52,H,rfl,eS,ba,-⟩:=id b.y;refine aJ ?_;simp only[*,go_sem];refine ay fun I e0 bb=>?_;try simp only[au] at bb
 refine af hJ (ah hJ ?_);simp only[*,go_sem];revert h;refine aT hJ (fun bc h=>?_) fun bc h=>?_
 .obtain rfl:=sI h;refine ah hJ ?_;simp only[*,go_sem];refine ax ?_;simp only[*,go_sem]
 refine aI hJ (af hJ ?_);refine ak hJ ?_;revert h;refine bS fun bd bj h=>?_;simp only[*,go_sem];refine aU hJ _ (jN 0 bj) (aJ ?_);simp only[*,go_sem];refine af hJ (ah hJ ?_);simp only[*,go_sem];refine aO hJ ?_;revert h;refine bS fun bl e bm=>?_;refine bU hJ (rg 25 35 [2,6,8,9]) (fun m o F'=>∃(i80:Nat) (q:Addr->Option Value) (s:Int) (f:an),m=a.1.book.av.length - i80/\i80<=a.1.book.av.length/\bJ (qE a) i80 (a.1.book.av.drop i80) (s,f)=some bl/\F'=⟨q,(I,kn a.1 C D (sl d52 a.1.book.av H) E G)::(z,rt f.num f.den)::(w,bk u0 s1 j k l)::[]⟩/\Ext S q/\slot o 25= .int .i64 (i80:Int)/\slot o 2= .int .i64 s) a.1.book.av.length ?_ ?_
 .refine ⟨0,S,(-1),bd,(Nat.sub_zero _).symm,Nat.zero_le _,e,rfl,Ext.refl _,?_⟩;simp only[*,go_sem]
 rintro e1 bo F' T ⟨i80,q,s,f,rfl,e2,e,rfl,K,br,bs⟩;refine fT hJ fun _ bz=>?_;replace b:=b.mono K;replace p:=p.mono K;simp only[bu] at bz;obtain ⟨U,V,W⟩:=T.pick [3,4,5,24] (by decide);simp only[*,go_sem] at U V W;clear T a2 hd a3;refine ah hJ ?_;simp only[*,go_sem];refine af hJ ?_;rcases Nat.lt_or_ge i80 a.1.book.av.length with b0|X
 .refine b8 hJ ?_;refine aI hJ ?_;obtain ⟨b1,L⟩:∃x,a.1.book.av[i80]?=some x:=⟨_,List.getElem?_eq_getElem b0⟩
  rw[dg L] at e;revert e;refine bS fun e3 h b2=>?_;unfold qE at h;try dsimp only at h
  obtain ⟨b3,b4,b5,ca,t⟩:=b.y.el _ _ L;obtain rfl:b4=b1.cells:=ca;cases b5;have cb:=t 0 _ rfl;simp only[go_sem] at cb;have cd:=t 1 _ rfl;simp only[go_sem] at cd;have cf:=t 2 _ rfl;simp only[go_sem] at cf;clear t L;refine af hJ (aO hJ (af hJ ?_));refine ak hJ ?_;simp only[*,go_sem];refine ah hJ ?_;revert h;refine bS fun c cl h=>?_;simp only[*,go_sem];refine b9 hJ _ (tu a.1 b p (i80:Int) cl) fun v Y Z cu B=>?_;obtain ⟨fa,rfl,ab⟩:=B;replace b:=b.mono Z;simp only[bu] at cu;obtain ⟨d95,fb,rfl,fg,M,-⟩:=id ab;refine aJ ?_;simp only[*,go_sem];refine aO hJ ?_;revert h;refine bS fun cy g c0=>?_;refine bU hJ (rg 32 27 [2,8,9]) (fun m o F'=>∃(i102:Nat) (i:Int) (d:an),m=c.length - i102/\i102<=c.length/\bJ (mX a i80) i102 (c.drop i102) (i,d)=some cy/\F'=⟨Y,(I,kn a.1 C D (sl (some b3) a.1.book.av H) E G)::(z,rt d.num d.den)::(w,bk u0 s1 j k l)::[]⟩/\slot o 32= .int .i64 (i102:Int)/\slot o 2= .int .i64 i) c.length ?_ ?_
  .refine ⟨0,s,f,(Nat.sub_zero _).symm,Nat.zero_le _,g,rfl,?_⟩;simp only[*,go_sem]
  rintro fi da F' N ⟨i102,i,d,rfl,fo,g,rfl,fp,fr⟩;obtain ⟨db,dd,df⟩:=N.pick [3,4,5,6,24,25,26,27,28,29,30,31] (by decide);simp only[*,go_sem] at db dd df;have fs:cM (rg 25 35 [2,6,8,9]) da bo:=(N.gm (by decide)).trans (by simp only[*,go_sem]);clear N U V W bs br;refine ah hJ ?_;simp only[*,go_sem];refine af hJ ?_;rcases Nat.lt_or_ge i102 c.length with dk|ad
  .refine b8 hJ ?_;refine aI hJ ?_;obtain ⟨ae,O⟩:∃x,c[i102]?=some x:=⟨_,List.getElem?_eq_getElem dk⟩
   rw[dg O] at g;revert g;refine bS fun ft h P=>?_;unfold mX at h;(try dsimp only at h);obtain ⟨fu,dp,dq,ds,al⟩:=ab.el _ _ O;obtain rfl:dp=[.int .i64 ae]:=ds;cases dq;have dt:=al 0 _ rfl;simp only[go_sem] at dt;clear al O;refine af hJ (aO hJ (af hJ ?_));refine ak hJ ?_;simp only[*,go_sem];refine ah hJ ?_;revert h;refine bS fun Q du h=>?_;simp only[*,go_sem];refine aU hJ _ (mK a.1.book (b.mono aN) (i80:Int) ae du) (aJ ?_);simp only[*,go_sem];refine ay fun fv fw dv=>?_;try simp only[au] at dv
   refine af hJ ?_;refine cP hJ mixed 12 4 (by simp only[*,go_sem]) (by kernel_rfl) ?_;revert h;refine bS fun fx dC h=>?_;simp only[*,go_sem];refine ⟨_,bD hJ fun F u=>mT a.1.book (b.mono (bY u)) Q dC,cn ?_⟩;revert h;refine cS (fun dE h=>?_) fun dE h=>?_
   .revert h;refine bS fun dT ea h=>?_;simp only[*,go_sem];refine ⟨_,bD hJ fun F u=>sV a.1.book (b.mono (bY u)) Q ea,cn ?_⟩;revert h;refine bS fun fz eb h=>?_;simp only[*,go_sem];refine ⟨_,bD hJ fun F u=>ji d dT eb,cn ?_⟩;simp only[*,go_sem];revert h;refine aT hJ (fun ec h=>?_) fun ec h=>?_
    .refine ak hJ ?_;revert h;refine bS fun ed eh h=>?_;obtain rfl:=sI h;simp only[*,go_sem];refine aU hJ _ (sV a.1.book (b.mono aN) Q eh) (aJ ?_);simp only[*,go_sem];have ao:=cv (n:=i102) (by have:=M;omega);refine ak hJ ?_;simp only[*,go_sem];refine ⟨c.length - (i102+1),by omega,_,Le.sub (List.Sublist.cons _ (List.Sublist.refl _)),i102+1,(i80:Int),ed,rfl,by omega,P,rfl,?_⟩;simp only[*,go_sem]
    obtain rfl:=sI h;refine aI hJ ?_;have ao:=cv (n:=i102) (by have:=M;omega);refine ak hJ ?_;simp only[*,go_sem];refine ⟨c.length - (i102+1),by omega,_,Le.sub (List.Sublist.cons _ (List.Sublist.refl _)),i102+1,i,d,rfl,by omega,P,rfl,?_⟩;simp only[*,go_sem]
   obtain rfl:=sI h;simp only[*,go_sem];refine b6 hJ ?_;refine aI hJ ?_;have ao:=cv (n:=i102) (by have:=M;omega);refine ak hJ ?_;simp only[*,go_sem];refine ⟨c.length - (i102+1),by omega,_,Le.sub (List.Sublist.cons _ (List.Sublist.refl _)),i102+1,i,d,rfl,by omega,P,rfl,?_⟩;simp only[*,go_sem]
  have gg:=Nat.not_lt.2 ad;refine b6 hJ ?_;rw[List.drop_eq_nil_of_le ad] at g;obtain rfl:=sI g;clear g;have h:=c0;dsimp only[aF] at h;obtain rfl:=sI h;refine bO ?_;simp only[go_sem];have gl:=cv (n:=i80) (by have:=ba;omega);refine ak hJ ?_;simp only[*,go_sem];refine ⟨a.1.book.av.length - (i80+1),by omega,_,Le.sub (List.Sublist.refl _),i80+1,Y,i,d,rfl,by omega,b2,rfl,(K.trans Z),?_⟩;simp only[*,go_sem]
 have gn:=Nat.not_lt.2 X;refine b6 hJ ?_;rw[List.drop_eq_nil_of_le X] at e;obtain rfl:=sI e;clear e;have h:=bm;dsimp only[aF] at h;obtain rfl:=sI h;refine bO ?_;simp only[go_sem];refine af hJ ?_;refine eE hJ mixed [3,4] (.pure 0 (.rd 1 (.pure 2 (.last 3 (.pure 4 .done))))) ⟨q,[(I,kn a.1 C D (sl d52 a.1.book.av H) E G),(z,rt f.num f.den),(w,bk u0 s1 j k l)]⟩ (by simp only[*,go_sem]) (by kernel_rfl) ?_;simp only[*,go_sem];refine ax ?_;simp only[*,go_sem]
def oA (b:Int)(a:(cT×Int))(i103:Nat)(c:Int)(st:(List an)):Option (Fl (List an) (an×an×Int)):=
 ag (gO a.1.book b c) fun d=>ag (mQ a.1.book d) fun e=>ag (dc st ([e])) fun f=>some (.nx f)
def jY (u0:aj)(b:Int):Option (an×an×Int):=
 ag (fW u0 ([(eP b)])) fun a=>cond ((a.2 != 0)) (some ((⟨0,0⟩:an),(⟨0,0⟩:an),a.2)) (ag (lM a.1 b) fun f=>ag (bJ (oA b a) 0 f ([]:List an)) fun o=>aF o (fun c=>ag (bf c 0) fun d=>ag (jf c 1 (c.length:Int)) fun e=>ag (fV mM d e) fun g=>ag (fV eB d e) fun h=>some (g,h,0)) (fun _ _=>none) (fun r=>some r))
theorem xS {ro:Addr->Option Value}(S:de ro)(u0:aj){s1 f g i:Value}(P:bN ro u0 s1 f g i)(a:Int){r:(an×an×Int)}(h:jY u0 a=some r):aD Tryz.prog 38 #[bv u0 s1 f g i,.int .i64 a] ⟨ro,[]⟩ (fun v _=>v= .tuple #[r.1.v,r.2.1.v,.int .i64 r.2.2]):=by
 unfold jY at h;have b3:=P.oc;simp only[bC] at b3;refine aD.go Tryz.func38 rfl Tryz.ntmps38 Tryz.results38 (by simp) fun main J hJ A b4 hd hs=>?_;have b5:=hs 0;have k1:=hs 1;clear hs;refine ah hJ ?_;simp only[*,go_sem];refine ay fun j G ca=>?_;try simp only[au] at ca
 refine ay fun t H cb=>?_;try simp only[au] at cb
 refine ay fun u I cd=>?_;try simp only[au] at cd
 refine af hJ ?_;refine aC hJ fun cf=>?_;refine ak hJ ?_;revert h;refine bS fun d cl h=>?_;simp only[*,go_sem];refine ay fun K al ao=>?_;have ar:=aQ.cons ao cf;try simp only[au] at ao
 obtain ⟨T,L,a0⟩:=fS (b:=K) (o:=(.cells #[.func (.func 102) #[.int .i64 a] #[]] 133)) [] ((u,rt 0 0)::(t,rt 0 0)::(j,bk u0 s1 f g i)::[]) ar al (aE.cons I (aE.cons H (aE.cons G (aE.nil _))));have a2:aA (c8) (bV ro K (.cells #[.func (.func 102) #[.int .i64 a] #[]] 133)) (.slice (some ⟨K,0,none⟩) 1 1) [(eP a)]:=(aA.one (r:=(c8)) (e:=133) (cs:=#[.func (.func 102) #[.int .i64 a] #[]]) (x:=(eP a)) (own:=[(K,.cells #[.func (.func 102) #[.int .i64 a] #[]] 133)]) al (by simp[lk]) ⟨102,#[.int .i64 a],#[],rfl,⟨by simp only[go_sem],fun a3 a4 M _ _ _ _ _ cu cy cS c0 h=>by simp only[go_sem];exact sL a M ⟨cu,cy,cS,c0⟩ h⟩⟩)
 generalize bV ro K (.cells #[.func (.func 102) #[.int .i64 a] #[]] 133)=gM at a2 L T a0;refine g6 hJ a0 ?_;replace P:=P.mono T;replace I:=L.hd;replace H:=L.tl.hd;replace G:=L.tl.tl.hd;replace S:=S.mono T;simp only[bu] at L;have da:=aQ.tl ar;refine b9 hJ _ (jT S u0 P ([(eP a)]) a2 cl) fun v gT gV Q U=>?_;obtain ⟨w,y,z,B,C,rfl,D,a5⟩:=U;have db:=D.oc;simp only[bC] at db;have dd:=a5.oc;simp only[bC] at dd;replace I:=Q.hd;replace H:=Q.tl.hd;replace G:=Q.tl.tl.hd;simp only[bu] at Q;refine aJ ?_;simp only[*,go_sem];refine ay fun E a6 a7=>?_;have g0:=aQ.cons a7 da;try simp only[au] at a7
 refine af hJ (ah hJ ?_);simp only[*,go_sem];revert h;refine aT hJ (fun df h=>?_) fun df h=>?_
 .obtain rfl:=sI h;refine ah hJ ?_;simp only[*,go_sem];refine ax ?_;simp only[*,go_sem]
 refine aI hJ (af hJ ?_);refine ak hJ ?_;simp only[*,go_sem];refine af hJ (ah hJ ?_);revert h;refine bS fun k dk h=>?_;simp only[*,go_sem];refine b9 hJ _ (tu d.1 D a5 a dk) fun v R dp N U=>?_;obtain ⟨g1,rfl,a8⟩:=U;replace D:=D.mono dp;replace a6:=N.hd;replace I:=N.tl.hd;replace H:=N.tl.tl.hd;replace G:=N.tl.tl.tl.hd;simp only[bu] at N;obtain ⟨d91,g2,rfl,g3,dq,-⟩:=id a8;refine aJ ?_;simp only[*,go_sem];refine aO hJ ?_;revert h;refine bS fun ds p dt=>?_;refine bU hJ (rg 29 16 [8,10]) (fun m a9 F'=>∃(i103:Nat) (d97:Option Addr) (O:Nat) (V:List (Nat×Obj)) (c:(List an)),m=k.length - i103/\i103<=k.length/\bJ (oA a d) i103 (k.drop i103) c=some ds/\F'=⟨R,(E,kn d.1 w y z B C)::(u,rt 0 0)::(t,rt 0 0)::(j,bk u0 s1 f g i)::V⟩/\aP lC R 23 (.slice d97 c.length O) c V/\c.length<=O/\slot a9 29= .int .i64 (i103:Int)/\slot a9 8= .slice d97 c.length O) k.length ?_ ?_
 .refine ⟨0,none,0,[],([]:List an),(Nat.sub_zero _).symm,Nat.zero_le _,p,rfl,aP.nil _ _ _,Nat.le_refl _,?_⟩;simp only[*,go_sem]
 rintro g4 ha F' ba ⟨i103,d97,O,V,c,rfl,hc,p,rfl,bb,hf,hg,hh⟩;obtain ⟨du,dv,dC⟩:=ba.pick [1,4,5,6,7,27,28] (by decide);simp only[*,go_sem] at du dv dC;clear ba b4 hd b5 k1;refine ah hJ ?_;simp only[*,go_sem];refine af hJ ?_;rcases Nat.lt_or_ge i103 k.length with dE|bc
 .refine b8 hJ ?_;refine aI hJ ?_;obtain ⟨bd,W⟩:∃x,k[i103]?=some x:=⟨_,List.getElem?_eq_getElem dE⟩
  rw[dg W] at p;revert p;refine bS fun hi h dT=>?_;unfold oA at h;try dsimp only at h
  obtain ⟨hj,ea,eb,ec,bj⟩:=a8.el _ _ W;obtain rfl:ea=[.int .i64 bd]:=ec;cases eb;have ed:=bj 0 _ rfl;simp only[go_sem] at ed;clear bj W;refine af hJ (aO hJ (af hJ ?_));refine aC hJ fun hk=>?_;refine ak hJ ?_;simp only[*,go_sem];refine aC hJ fun eh=>?_;refine fl hJ mixed 9 ⟨R,[(E,kn d.1 w y z B C),(u,rt 0 0),(t,rt 0 0),(j,bk u0 s1 f g i)]⟩ (by simp only[*,go_sem]) (by kernel_rfl) ?_;revert h;refine bS fun et eu h=>?_;simp only[*,go_sem];refine ⟨_,bD hJ fun F q=>mK d.1.book (D.mono (bY q)) a bd eu,cn ?_⟩;revert h;refine bS fun s ev h=>?_;simp only[*,go_sem];refine ⟨_,bD hJ fun F q=>Bu d.1.book (D.mono (bY q)) et ev,?_⟩;revert h;refine bS fun eQ eS h=>?_;obtain rfl:=sI h;obtain ⟨e0,bl⟩:=dr eS;simp only[*,go_sem];refine ay fun bm e1 bo=>?_;have e3:=aQ.cons bo eh;try simp only[au] at bo
  simp only[*,go_sem];refine ek (r:=lC) (l:=c) (x:=s) (cs:=#[.int .i64 s.num,.int .i64 s.den]) (e2:=23) [(bm,rt s.num s.den),(E,kn d.1 w y z B C),(u,rt 0 0),(t,rt 0 0),(j,bk u0 s1 f g i)] [] bb e3 e0 rfl (by simp only[*,go_sem]) e1 rfl rfl AP AP FI AH rfl FJ (by decide) (by decide) (fun hl br X fa fb hn=>?_);simp only[aS] at fb;subst fa;rw[<-bl] at X;clear bl;obtain ⟨d125,fg,rfl,fi⟩:=X.len;refine ⟨⟨R,(bm,rt s.num s.den)::(E,kn d.1 w y z B C)::(u,rt 0 0)::(t,rt 0 0)::(j,bk u0 s1 f g i)::br⟩,Le.refl _,?_⟩;refine ⟨by simp only[*,go_sem],mB ?_⟩;simp only[*,go_sem];have ho:=cv (n:=i103) (by have:=dq;omega);refine ak hJ ?_;simp only[*,go_sem];refine ⟨k.length - (i103+1),by omega,_,Le.sub (List.Sublist.cons _ (List.Sublist.refl _)),i103+1,d125,fg,br,eQ,rfl,by omega,dT,rfl,X,fi,?_⟩;simp only[*,go_sem]
 have hp:=Nat.not_lt.2 bc;refine b6 hJ ?_;rw[List.drop_eq_nil_of_le bc] at p;obtain rfl:=sI p;clear p;have h:=dt;dsimp only[aF] at h;refine bO ?_;simp only[go_sem];refine af hJ ?_;refine aC hJ fun hq=>?_;refine ak hJ ?_;simp only[*,go_sem];refine af hJ ?_;refine aC hJ fun bs=>?_;obtain ⟨fo,hr,fp,Y,fr⟩:=bb.eX [(E,kn d.1 w y z B C),(u,rt 0 0),(t,rt 0 0),(j,bk u0 s1 f g i)] [] bs (aE.cons a6 (aE.cons I (aE.cons H (aE.cons G (aE.nil _)))));clear bs;refine cz hJ fr ?_;obtain ⟨ht,hv,-⟩:=Y.op;simp only[bu] at fp;refine fl hJ mixed 13 ⟨fo,[(E,kn d.1 w y z B C),(j,bk u0 s1 f g i)]⟩ (by simp only[*,go_sem]) (by kernel_rfl) ?_;revert h;refine bS fun Z fs h=>?_;obtain ⟨hx,hy,bz⟩:=cG fs;obtain ⟨hz,ft,fu,fv,ab⟩:=Y.el _ _ bz;obtain rfl:ft=Z.cells:=fv;cases fu;have fw:=ab 0 _ rfl;simp only[go_sem] at fw;have fx:=ab 1 _ rfl;simp only[go_sem] at fx;clear ab bz;revert h;refine bS fun b0 fz h=>?_;obtain ⟨hA,hB,hD,b1⟩:=pY fz;have b2:(1:Int).toNat<=((c.length:Int)).toNat:=by omega
 have gg:((c.length:Int)).toNat<=O:=by omega
 have hE:0<=((c.length:Int)):=by omega
 obtain ⟨d143,gl,gn,ad⟩:=aA.p7 Y (1:Int).toNat ((c.length:Int)).toNat b2 (by omega) b1;simp only[go_sem] at gl gn b2 gg;obtain ⟨_,_,gp,hF,hG,hI⟩:=id ad;cases gp;clear b1;revert h;refine bS fun hK gB h=>?_;simp only[*,go_sem];refine ⟨_,bD hJ fun F q=>n8 (dO:=110) (en:=#[]) (eo:=#[]) mM ⟨by simp only[go_sem],fun a3 a4 M ae _ h=>by simp only[go_sem];exact G0 M ae h⟩ Z b0 (ad.mono (bY q)) gB,cn ?_⟩;revert h;refine bS fun hL gC h=>?_;obtain rfl:=sI h;simp only[*,go_sem];refine ⟨_,bD hJ fun F q=>n8 (dO:=75) (en:=#[]) (eo:=#[]) eB ⟨by simp only[go_sem],fun a3 a4 M ae _ h=>by simp only[go_sem];exact ji M ae h⟩ Z b0 (ad.mono (bY q)) gC,?_⟩;simp only[*,go_sem];refine ax ?_;simp only[*,go_sem]
def kM (s:List aW)(y:aW):Bool:=s.any fun z=>z.e0==y.e0&&(z.e1==y.e1&&z.e2==y.e2)
def oB (y:aW)(s:List aW):Option (Fl (List aW) Unit):=some (.nx (cond (kM s y) s (s++[y])))
theorem xT {x y:aW}(h:x.v=y.v):x=y:=by
 obtain ⟨a,b,c⟩:=x;obtain ⟨d,e,f⟩:=y;simp only[aW.v,Value.agg.injEq,Array.mk.injEq,List.cons.injEq,Value.int.injEq,true_and,and_true] at h;obtain ⟨rfl,rfl,rfl⟩:=h;rfl
theorem xU {s:List aW}{y:aW}:kM s y=true↔y.v∈s.map aW.v:=by
 unfold kM;simp only[List.any_eq_true,Bool.and_eq_true,beq_iff_eq,List.mem_map];constructor
 .rintro ⟨z,d,e,f,g⟩;refine ⟨z,d,?_⟩;obtain ⟨a,b,c⟩:=z;obtain ⟨i,j,k⟩:=y;simp only at e f g;subst e f g;rfl
 .rintro ⟨z,d,h⟩;obtain rfl:=xT h;exact ⟨z,d,rfl,rfl,rfl⟩
theorem H9 (x y:aW)(F:aa):∃b,(∀(Q:Bool->aa->Prop),Q b F->aY Tryz.prog (Op.equal 144 x.v y.v) Q F)/\(b=true↔y.v=x.v):=by
 have a:jJ Tryz.prog 144=some [true,true,true]:=by kernel_rfl
 have he:mo Tryz.prog 144 x.v y.v=some (x.e0==y.e0&&(x.e1==y.e1&&(x.e2==y.e2&&true))):=by
  simp only[mo,aW.v,a,ja,gJ,Bool.and_self,if_true]
 refine ⟨_,fun Q h=>(vw he h).1,?_⟩;simp only[Bool.and_eq_true,beq_iff_eq,and_true];constructor
 .rintro ⟨c,d,e⟩;simp only[aW.v,c,d,e]
 .intro h;obtain rfl:=xT h;exact ⟨rfl,rfl,rfl⟩
theorem Ia (x:aW)(F:aa)(Q:Unit->aa->Prop)(h:Q () F):aY Tryz.prog (Instr.checkKey false 10000 144 x.v) Q F:=by
 have c:Tryz.prog.underlying 144=some (.array 3 3):=by kernel_rfl
 have d:Tryz.prog.underlying 3=some (.int .i64):=by kernel_rfl
 have f:b7 Tryz.prog 3=some 1:=by kernel_rfl
 have g:cE Tryz.prog 3=some false:=by kernel_rfl
 have e:(10000:Nat)=9998+1+1:=rfl;rw[e];unfold Instr.checkKey;simp only[bw,dy,c,aW.v];simp only[Std.Legacy.Range.forIn_eq_forIn_range',Std.Legacy.Range.size,Nat.sub_zero,Nat.add_one_sub_one,Nat.div_one,List.range',List.forIn_cons,List.forIn_nil,bw,eO,f,part,mh,g,bI,Bool.false_eq_true,if_false,dm];have b:∀(k:IntKind) (a:Int) (Q:Unit->aa->Prop) (G:aa),Q () G->aY Tryz.prog (Instr.checkKey false 9999 3 (.int k a)) Q G:=by
  intro k a Q G i;show aY Tryz.prog (Instr.checkKey false (9998+1) 3 (.int k a)) Q G;unfold Instr.checkKey;simp only[bw,dy,d,bI];exact i
 exact b .i64 x.e0 _ _ (b .i64 x.e1 _ _ (b .i64 x.e2 _ _ h))
def mY (u0:aj):Option (Int×Int):=
 ag (eZ u0 ([]:(List (aj->Option Int)))) fun a=>cond ((a.2 != 0)) (some (0,a.2)) (ag (gr oB (mV a.1) ([]:List aW)) fun o=>aF o (fun st=>some ((st.length:Int),0)) (fun _ _=>none) (fun _=>none))
theorem xV {ro:Addr->Option Value}(M:de ro)(u0:aj){s1 w x B:Value}(E:bN ro u0 s1 w x B){r:(Int×Int)}(h:mY u0=some r):aD Tryz.prog 36 #[bv u0 s1 w x B] ⟨ro,[]⟩ (fun v _=>v= .tuple #[.int .i64 r.1,.int .i64 r.2]):=by
 unfold mY at h;have N:=E.oc;simp only[bC] at N;refine aD.wu Tryz.func36 rfl Tryz.ntmps36 Tryz.results36 (by simp) fun main J hJ A F hd hs=>?_;have O:=hs 0;clear hs;refine ah hJ ?_;simp only[*,go_sem];refine ay fun P bd R=>?_;try simp only[au] at R
 refine ah hJ ?_;revert h;refine bS fun G S h=>?_;simp only[*,go_sem];refine b9 hJ _ (kL M u0 E ([]:(List (aj->Option Int))) (aA.nil _ _) S) fun v H bj T U=>?_;obtain ⟨V,W,X,Y,rfl,k⟩:=U;have Z:=k.oc;simp only[bC] at Z;simp only[bu] at T;refine aJ ?_;simp only[*,go_sem];refine ay fun ab bm ad=>?_;try simp only[au] at ad
 refine af hJ (ah hJ ?_);simp only[*,go_sem];revert h;refine aT hJ (fun ae h=>?_) fun ae h=>?_
 .obtain rfl:=sI h;refine ah hJ ?_;simp only[*,go_sem];refine aC hJ fun C=>?_;replace C:=C.nd;try simp only[keys,List.map_cons,List.map_nil,List.map_append,List.cons_append,List.nil_append,List.nodup_cons,List.mem_cons,List.mem_append,List.not_mem_nil,or_false,not_or] at C
  refine ax ?_;simp only[*,go_sem]
 refine aI hJ ?_;revert h;refine bS fun o l h=>?_;repeat refine af hJ ?_
 refine ak hJ ?_;simp only[*,go_sem,-l];refine Gv fun j f70=>?_;have bo:=eK f70;have al:=fI f70;try simp only[au] at al
 refine aJ ?_;simp only[*,go_sem,-l];refine ay fun q br ao=>?_;try simp only[au] at ao
 repeat refine af hJ ?_
 refine ak hJ ?_;simp only[*,go_sem,-l];refine wq hJ aW.v (by simp only[*,go_sem]) (s0 G.1 k.e k.p k.y k.t) (by kernel_rfl) (by kernel_rfl) (ρ:=Unit) (fun (s:List aW) ar=>∃(es:Array MapEntry) (b:Nat),ar=(q,.cells #[.map (some j)] 156)::(j,.map es b)::(ab,bl G.1 V W X Y)::(P,bk u0 s1 w x B)::[]/\es.toList.map (·.key)=s.map aW.v) (f:=oB) l ?_ ?_ (by decide) ?_ ?_
 .exact ⟨#[],0,rfl,rfl⟩
 .rintro d4 a0 D a2 c d bs I main J hJ _ ⟨es,b,rfl,g⟩;obtain rfl:=Option.some.inj I;clear I;generalize m:mJ _ _ _=u;have bz:sz u=24:=by rw[<-m,wo];simp only[*,go_sem]
  have b0:u.defers=[]:=by rw[<-m];rfl
  have b1:slot u 6= .pointer (some ⟨q,0,none⟩):=by rw[<-m,n4];simp only[*,go_sem]
  have b2:slot u 19=d.v:=by rw[<-m,n4];simp only[*,go_sem]
  clear m F hd O;refine fT hJ fun i a=>?_;replace a:aE H ((a0,.loop D)::(d4,.deferred (some []))::(q,.cells #[.map (some j)] 156)::(j,.map es b)::_):=a;have b3:=a.hd;have b4:=a.tl.hd;have a3:=a.tl.tl.hd;have a4:=a.tl.tl.tl.hd;clear a;replace i:=i.nd;simp only[keys,List.map_cons,List.map_nil,List.map_append,List.cons_append,List.nil_append,List.nodup_cons,List.mem_cons,List.mem_append,List.not_mem_nil,or_false,not_or] at i;refine ak hJ ?_;simp only[*,go_sem,aW.v];refine ay fun b5 ca a5=>?_;try simp only[au] at a5
  simp only[qf,go_sem];refine ⟨D,by simp only[*,go_sem],a2,?_⟩;simp only[*,go_sem,aW.v];refine aO hJ (ak hJ ?_);simp only[*,go_sem,aW.v];refine Gx (es:=es) (clock:=b) (by kernel_rfl:Tryz.prog.underlying 156=some (.map 144 4)) (by simp only[*,go_sem]) (fun Q h=>Ia d _ Q h) (by kernel_rfl:Tryz.prog.underlying 144=some (.array 3 3)) (fun e he=>?_) fun K a6 a7=>?_
  .have:e.key∈es.toList.map (·.key):=List.mem_map_of_mem he;rw[g] at this;obtain ⟨z,F,a8⟩:=List.mem_map.1 this;rw[<-a8];exact H9 d z _
  .simp only[sC,mG,go_sem, *];refine ⟨{D with state:=.busy},rfl,?_⟩;simp only[*,go_sem];refine ⟨_,Le.sub (List.Sublist.cons _ (List.Sublist.refl _)),rfl,K,a6,rfl,?_⟩;have a9:K.toList.map (·.key)=(cond (kM c d) c (c++[d])).map aW.v:=by
    rcases a7 with ⟨hm,he⟩|⟨hm,he⟩
    .have:kM c d=true:=by rw[xU,<-g];exact hm
     rw[this,he,g];rfl
    .have:kM c d=false:=by
      rw[Bool.eq_false_iff];intro L;rw[xU,<-g] at L;exact hm L
     rw[this,he,g];simp only[cond_false,List.map_append,List.map_cons,List.map_nil];rfl
   exact a9
 .rintro d49 ba bb _ c ⟨es,b,rfl,g⟩ i a;refine ⟨fun n=>?_,fun k1 n=>?_⟩
  .subst n;dsimp only[aF] at h;obtain rfl:=sI h;clear l;replace a:aE H ((ba,.loop bb)::(d49,.deferred (some []))::(q,.cells #[.map (some j)] 156)::(j,.map es b)::_):=a;have a3:=a.tl.tl.hd;have a4:=a.tl.tl.tl.hd;clear a;replace i:=i.nd;simp only[keys,List.map_cons,List.map_nil,List.map_append,List.cons_append,List.nil_append,List.nodup_cons,List.mem_cons,List.mem_append,List.not_mem_nil,or_false,not_or] at i;repeat refine af hJ ?_
   refine ak hJ ?_;simp only[*,go_sem];have bc:es.size=c.length:=by simpa using congrArg List.length g
   refine Gw (es:=es) (clock:=b) rfl (by kernel_rfl:Tryz.prog.underlying 156=some (.map 144 4)) (by simp only[*,go_sem]) ?_;rw[bc];refine ax ?_;simp only[*,go_sem]
  .subst n;dsimp only[aF] at h;cases h
 .intro k1 cb n;subst n;dsimp only[aF] at h;cases h
def eT (u0:Int)(a:Int)(b:Int):Option Bool:=
 cond (decide (a<=u0)) (some (decide (u0<=b))) (some false)
theorem hH {ro:Addr->Option Value}(u0:Int)(a:Int)(b:Int){r:Bool}(h:eT u0 a b=some r):aD Tryz.prog 21 #[.int .i64 u0,.int .i64 a,.int .i64 b] ⟨ro,[]⟩ (fun v _=>v= .bool r):=by
 unfold eT at h;refine aD.go Tryz.func21 rfl Tryz.ntmps21 Tryz.results21 (by simp) fun main J hJ A d hd hs=>?_;have e:=hs 0;have k1:=hs 1;have f:=hs 2;clear hs;refine ah hJ ?_;simp only[*,go_sem];refine ah hJ ?_;revert h;refine cS (fun c h=>?_) fun c h=>?_
 .obtain rfl:=sI h;simp only[*,go_sem];refine ax ?_;simp only[*,go_sem]
 obtain rfl:=sI h;simp only[*,go_sem];refine ax ?_;simp only[*,go_sem]
def mZ (u0:aj)(a:Int):Option Bool:=
 ag (bf u0.az 0) fun b=>ag (bf u0.az (IntKind.i64.wrap ((u0.az.length:Int) - 1))) fun c=>ag (eT a b.aL c.aL) fun d=>some d
theorem Ib {ro:Addr->Option Value}(u0:aj){s1 f g i:Value}(a:bN ro u0 s1 f g i)(b:Int){r:Bool}(h:mZ u0 b=some r):aD Tryz.prog 153 #[bv u0 s1 f g i,.int .i64 b] ⟨ro,[]⟩ (fun v _=>v= .bool r):=by
 obtain ⟨d3,c4,rfl,E,G,-⟩:=id a.e;unfold mZ at h;refine aD.go Tryz.func153 rfl Tryz.ntmps153 Tryz.results153 (by simp) fun main J hJ A H hd hs=>?_;have I:=hs 0;have k1:=hs 1;clear hs;refine ah hJ ?_;simp only[*,go_sem];refine ay fun K L n=>?_;try simp only[au] at n
 refine af hJ ?_;refine cP hJ mixed 17 1 (by simp only[*,go_sem]) (by kernel_rfl) ?_;revert h;refine bS fun j o h=>?_;obtain ⟨M,N,k⟩:=cG o;obtain ⟨O,p,q,s,c⟩:=a.e.el _ _ k;obtain rfl:p=j.cells:=s;cases q;have t:=c 0 _ rfl;simp only[go_sem] at t;have u:=c 1 _ rfl;simp only[go_sem] at u;clear c k;revert h;refine bS fun l w h=>?_;obtain ⟨P,Q,m⟩:=cG w;obtain ⟨R,x,y,z,d⟩:=a.e.el _ _ m;obtain rfl:x=l.cells:=z;cases y;have B:=d 0 _ rfl;simp only[go_sem] at B;have C:=d 1 _ rfl;simp only[go_sem] at C;clear d m;revert h;refine bS fun S D h=>?_;obtain rfl:=sI h;simp only[*,go_sem];refine ⟨_,bD hJ fun F T=>hH b j.aL l.aL D,cn ?_⟩;simp only[*,go_sem];refine ax ?_;simp only[*,go_sem]
def m0 (u0:aj)(a:Int):Option Bool:=
 ag (eT a 0 (IntKind.i64.wrap ((u0.av.length:Int) - 1))) fun b=>some b
theorem Ic {ro:Addr->Option Value}(u0:aj){s1 c d f:Value}(a:bN ro u0 s1 c d f)(b:Int){r:Bool}(h:m0 u0 b=some r):aD Tryz.prog 155 #[bv u0 s1 c d f,.int .i64 b] ⟨ro,[]⟩ (fun v _=>v= .bool r):=by
 obtain ⟨d3,c4,rfl,j,k,-⟩:=id a.e;obtain ⟨d10,l,rfl,m,n,-⟩:=id a.p;obtain ⟨d17,o,rfl,q,s,-⟩:=id a.y;obtain ⟨d24,u,rfl,w,x,-⟩:=id a.t;unfold m0 at h;refine aD.go Tryz.func155 rfl Tryz.ntmps155 Tryz.results155 (by simp) fun main J hJ A z hd hs=>?_;have B:=hs 0;have k1:=hs 1;clear hs;refine ah hJ ?_;simp only[*,go_sem];refine ay fun C D g=>?_;try simp only[au] at g
 refine ah hJ ?_;revert h;refine bS fun E i h=>?_;obtain rfl:=sI h;simp only[*,go_sem];refine aU hJ _ (hH b 0 (IntKind.i64.wrap ((u0.av.length:Int) - 1)) i) (aJ ?_);simp only[*,go_sem];refine ax ?_;simp only[*,go_sem]
def fN (u0:an)(a:an):Option Bool:=
 some (decide ((IntKind.i64.wrap (u0.num*a.den))<(IntKind.i64.wrap (a.num*u0.den))))
theorem oC {ro:Addr->Option Value}(u0:an)(a:an){r:Bool}(h:fN u0 a=some r):aD Tryz.prog 57 #[.agg #[.int .i64 u0.num,.int .i64 u0.den],.agg #[.int .i64 a.num,.int .i64 a.den]] ⟨ro,[]⟩ (fun v _=>v= .bool r):=by
 unfold fN at h;obtain rfl:=sI h;refine aD.go Tryz.func57 rfl Tryz.ntmps57 Tryz.results57 (by simp) fun main J hJ A b hd hs=>?_;have c:=hs 0;have k1:=hs 1;clear hs;refine ah hJ ?_;simp only[*,go_sem];refine ay fun d r1 n1=>?_;try simp only[au] at n1
 refine ay fun b2 r2 n2=>?_;try simp only[au] at n2
 refine ah hJ ?_;simp only[*,go_sem];refine ax ?_;simp only[*,go_sem]
def xW (st:(Int×Int)):Option (Fl (Int×Int) an):=
 cond (decide (0<st.2)) (ag (iB st.1 st.2) fun a=>some (.nx (st.2,a))) (some (.bk (st.1,st.2)))
def oD (st:(Int×Int)):Option (Fl (Int×Int) an):=
 cond (decide (0<st.2)) (ag (iB st.1 st.2) fun a=>some (.nx (st.2,a))) (some (.bk (st.1,st.2)))
def iJ (u0:Int)(a:Int):Option an:=
 cond (decide (a<0)) (ag (aZ (xW) fu ((if IntKind.i64.wrap (0 - u0)<IntKind.i64.wrap (0 - (IntKind.i64.wrap (0 - u0))) then IntKind.i64.wrap (0 - (IntKind.i64.wrap (0 - u0))) else IntKind.i64.wrap (0 - u0)),(IntKind.i64.wrap (0 - a)))) fun o=>aF o (fun b=>ag (fJ (IntKind.i64.wrap (0 - u0)) b.1) fun d=>ag (fJ (IntKind.i64.wrap (0 - a)) b.1) fun e=>some (⟨d,e⟩:an)) (fun _ _=>none) (fun r=>some r)) (ag (aZ (oD) fu ((if u0<IntKind.i64.wrap (0 - u0) then IntKind.i64.wrap (0 - u0) else u0),a)) fun o=>aF o (fun c=>ag (fJ u0 c.1) fun f=>ag (fJ a c.1) fun g=>some (⟨f,g⟩:an)) (fun _ _=>none) (fun r=>some r))
theorem Ie {ro:Addr->Option Value}(u0:Int)(b:Int){r:an}(h:iJ u0 b=some r):aD Tryz.prog 81 #[.int .i64 u0,.int .i64 b] ⟨ro,[]⟩ (fun v _=>v=r.v):=by
 unfold iJ at h;refine aD.go Tryz.func81 rfl Tryz.ntmps81 Tryz.results81 (by simp) fun main J hJ A n hd hs=>?_;have o:=hs 0;have k1:=hs 1;clear hs;refine ah hJ ?_;simp only[*,go_sem];refine ay fun p r1 n1=>?_;try simp only[au] at n1
 refine af hJ (ah hJ ?_);simp only[*,go_sem];revert h;refine aT hJ (fun B h=>?_) fun B h=>?_
 .refine ak hJ ?_;simp only[*,go_sem];refine ah hJ ?_;simp only[*,go_sem];refine af hJ (aO hJ ?_);revert h;refine bS fun C c D=>?_;refine bU hJ (rg 18 6 [5,6]) (fun m a F'=>∃(f:Int) (v4:Int),aZ (xW) m (f,v4)=some C/\F'=⟨ro,(p,rt 0 0)::[]⟩/\slot a 5= .int .i64 f/\slot a 6= .int .i64 v4) fu ?_ ?_
  .refine ⟨(if IntKind.i64.wrap (0 - u0)<IntKind.i64.wrap (0 - (IntKind.i64.wrap (0 - u0))) then IntKind.i64.wrap (0 - (IntKind.i64.wrap (0 - u0))) else IntKind.i64.wrap (0 - u0)),(IntKind.i64.wrap (0 - b)),c,rfl,?_⟩;simp only[*,go_sem]
  rintro g R F' q ⟨f,v4,c,rfl,S,T⟩;obtain ⟨E,F,G⟩:=q.pick [0,1,4] (by decide);simp only[*,go_sem] at E F G;clear q n hd o k1;obtain _|g:=g
  .exact absurd c (by simp only[aZ,reduceCtorEq,not_false_eq_true])
  revert c;refine bS fun U h i=>?_;unfold xW at h;try dsimp only at h
  refine af hJ (ah hJ ?_);simp only[*,go_sem];revert h;refine aT hJ (fun H h=>?_) fun H h=>?_
  .refine aI hJ (aO hJ ?_);refine cP hJ mixed 6 1 (by simp only[*,go_sem]) (by kernel_rfl) ?_;revert h;refine bS fun I s h=>?_;obtain rfl:=sI h;obtain ⟨V,W⟩:=pZ s;clear s;simp only[*,go_sem];refine ⟨g,Nat.lt_succ_self _,_,Le.sub (List.Sublist.refl _),v4,I,i,rfl,?_⟩;simp only[*,go_sem]
  obtain rfl:=sI h;refine bO ?_;simp only[go_sem];obtain rfl:=sI i;clear i;have h:=D;dsimp only[aF] at h;refine af hJ ?_;refine cP hJ mixed 7 0 (by simp only[*,go_sem]) (by kernel_rfl) ?_;revert h;refine bS fun X t h=>?_;obtain ⟨Y,Z⟩:=kz t;clear t;revert h;refine bS fun ab u h=>?_;obtain rfl:=sI h;obtain ⟨ad,ae⟩:=kz u;clear u;simp only[*,go_sem];refine ax ?_;simp only[*,go_sem]
 refine aI hJ (af hJ ?_);refine ak hJ ?_;simp only[*,go_sem];refine af hJ (aO hJ ?_);revert h;refine bS fun K d L=>?_;refine bU hJ (rg 18 6 [5,6]) (fun m a F'=>∃(j:Int) (e:Int),aZ (oD) m (j,e)=some K/\F'=⟨ro,(p,rt 0 0)::[]⟩/\slot a 5= .int .i64 j/\slot a 6= .int .i64 e) fu ?_ ?_
 .refine ⟨(if u0<IntKind.i64.wrap (0 - u0) then IntKind.i64.wrap (0 - u0) else u0),b,d,rfl,?_⟩;simp only[*,go_sem]
 rintro k al F' w ⟨j,e,d,rfl,ao,ar⟩;obtain ⟨M,N,O⟩:=w.pick [0,1,4] (by decide);simp only[*,go_sem] at M N O;clear w n hd o k1;obtain _|k:=k
 .exact absurd d (by simp only[aZ,reduceCtorEq,not_false_eq_true])
 revert d;refine bS fun a0 h l=>?_;unfold oD at h;try dsimp only at h
 refine af hJ (ah hJ ?_);simp only[*,go_sem];revert h;refine aT hJ (fun P h=>?_) fun P h=>?_
 .refine aI hJ (aO hJ ?_);refine cP hJ mixed 6 1 (by simp only[*,go_sem]) (by kernel_rfl) ?_;revert h;refine bS fun Q x h=>?_;obtain rfl:=sI h;obtain ⟨a2,a3⟩:=pZ x;clear x;simp only[*,go_sem];refine ⟨k,Nat.lt_succ_self _,_,Le.sub (List.Sublist.refl _),e,Q,l,rfl,?_⟩;simp only[*,go_sem]
 obtain rfl:=sI h;refine bO ?_;simp only[go_sem];obtain rfl:=sI l;clear l;have h:=L;dsimp only[aF] at h;refine af hJ ?_;refine cP hJ mixed 7 0 (by simp only[*,go_sem]) (by kernel_rfl) ?_;revert h;refine bS fun a4 y h=>?_;obtain ⟨a5,a6⟩:=kz y;clear y;revert h;refine bS fun a7 z h=>?_;obtain rfl:=sI h;obtain ⟨a8,a9⟩:=kz z;clear z;simp only[*,go_sem];refine ax ?_;simp only[*,go_sem]
def jZ (u0:an)(a:an):Option an:=
 ag (iJ (IntKind.i64.wrap ((IntKind.i64.wrap (u0.num*a.den)) - (IntKind.i64.wrap (a.num*u0.den)))) (IntKind.i64.wrap (u0.den*a.den))) fun b=>some b
def m3 (u0:aj)(a:bn)(c:Int)(b:an):Option an:=
 ag (iJ (IntKind.i64.wrap ((IntKind.i64.wrap ((IntKind.i64.wrap (a.high*b.den))*(IntKind.i64.wrap (c+a.back))))+(IntKind.i64.wrap ((IntKind.i64.wrap (b.num - (IntKind.i64.wrap (a.high*b.den))))*(IntKind.i64.wrap (u0.bH+a.back)))))) (IntKind.i64.wrap (b.den*(IntKind.i64.wrap (c+a.back))))) fun d=>some d
def lN (u0:cj)(a:Int)(b:Int):Option Bool:=
 cond (decide (a<=u0.low)) (cond (decide (u0.low<=u0.high)) (some (decide (u0.high<=b))) (some false)) (some false)
theorem Ig {ro:Addr->Option Value}(u0:cj)(a:Int)(b:Int){r:Bool}(h:lN u0 a b=some r):aD Tryz.prog 154 #[.agg #[.int .i64 u0.low,.int .i64 u0.high],.int .i64 a,.int .i64 b] ⟨ro,[]⟩ (fun v _=>v= .bool r):=by
 unfold lN at h;refine aD.go Tryz.func154 rfl Tryz.ntmps154 Tryz.results154 (by simp) fun main J hJ A e hd hs=>?_;have f:=hs 0;have k1:=hs 1;have g:=hs 2;clear hs;refine ah hJ ?_;simp only[*,go_sem];refine ay fun i r1 n1=>?_;try simp only[au] at n1
 refine ah hJ ?_;revert h;refine cS (fun c h=>?_) fun c h=>?_
 .revert h;refine cS (fun d h=>?_) fun d h=>?_
  .obtain rfl:=sI h;simp only[*,go_sem];refine ax ?_;simp only[*,go_sem]
  obtain rfl:=sI h;simp only[*,go_sem];refine ax ?_;simp only[*,go_sem]
 obtain rfl:=sI h;simp only[*,go_sem];refine ax ?_;simp only[*,go_sem]
def fY (u0:an)(a:an):Option an:=
 ag (fN u0 a) fun b=>cond (b) (some a) (some u0)
def m4 (u0:cj)(a:cj):Option cj:=
 some (⟨(if u0.low<a.low then a.low else u0.low),(if a.high<u0.high then a.high else u0.high)⟩:cj)
theorem Ih {ro:Addr->Option Value}(u0:cj)(a:cj){r:cj}(h:m4 u0 a=some r):aD Tryz.prog 32 #[.agg #[.int .i64 u0.low,.int .i64 u0.high],.agg #[.int .i64 a.low,.int .i64 a.high]] ⟨ro,[]⟩ (fun v _=>v=r.v):=by
 unfold m4 at h;obtain rfl:=sI h;refine aD.go Tryz.func32 rfl Tryz.ntmps32 Tryz.results32 (by simp) fun main J hJ A b hd hs=>?_;have c:=hs 0;have k1:=hs 1;clear hs;refine ah hJ ?_;simp only[*,go_sem];refine ay fun d r1 n1=>?_;try simp only[au] at n1
 refine ay fun b2 r2 n2=>?_;try simp only[au] at n2
 refine ay fun b3 r3 n3=>?_;try simp only[au] at n3
 refine ah hJ ?_;simp only[*,go_sem];refine ax ?_;simp only[*,go_sem]
def BM (u0:aj)(a:Int)(b:Int):Option bn:=
 ag (bf u0.av a) fun c=>some (⟨c.back,b⟩:bn)
def m5 (u0:aj):Option Bool:=
 cond (decide (20<(u0.az.length:Int))) (some true) (cond (decide (20<(u0.props.length:Int))) (some true) (cond (decide (20<(u0.av.length:Int))) (some true) (some (decide (20<(u0.told.length:Int))))))
theorem Ii {ro:Addr->Option Value}(u0:aj){s1 b c d:Value}(a:bN ro u0 s1 b c d){r:Bool}(h:m5 u0=some r):aD Tryz.prog 9 #[bv u0 s1 b c d] ⟨ro,[]⟩ (fun v _=>v= .bool r):=by
 obtain ⟨d3,c4,rfl,k,l,-⟩:=id a.e;obtain ⟨d10,m,rfl,n,o,-⟩:=id a.p;obtain ⟨d17,q,rfl,s,u,-⟩:=id a.y;obtain ⟨d24,w,rfl,x,z,-⟩:=id a.t;unfold m5 at h;refine aD.go Tryz.func9 rfl Tryz.ntmps9 Tryz.results9 (by simp) fun main J hJ A B hd hs=>?_;have C:=hs 0;clear hs;refine ah hJ ?_;simp only[*,go_sem];refine ay fun D E f=>?_;try simp only[au] at f
 refine ah hJ ?_;revert h;refine cS (fun g h=>?_) fun g h=>?_
 .obtain rfl:=sI h;simp only[*,go_sem];refine ax ?_;simp only[*,go_sem]
 revert h;refine cS (fun i h=>?_) fun i h=>?_
 .obtain rfl:=sI h;simp only[*,go_sem];refine ax ?_;simp only[*,go_sem]
 revert h;refine cS (fun j h=>?_) fun j h=>?_
 .obtain rfl:=sI h;simp only[*,go_sem];refine ax ?_;simp only[*,go_sem]
 obtain rfl:=sI h;simp only[*,go_sem];refine ax ?_;simp only[*,go_sem]
def gy (u0:Int)(a:Int):Option an:=
 some (⟨u0,a⟩:an)
theorem hO {ro:Addr->Option Value}(u0:Int)(a:Int){r:an}(h:gy u0 a=some r):aD Tryz.prog 63 #[.int .i64 u0,.int .i64 a] ⟨ro,[]⟩ (fun v _=>v=r.v):=by
 unfold gy at h;obtain rfl:=sI h;refine aD.go Tryz.func63 rfl Tryz.ntmps63 Tryz.results63 (by simp) fun main J hJ A b hd hs=>?_;have c:=hs 0;have k1:=hs 1;clear hs;refine ah hJ ?_;simp only[*,go_sem];refine ay fun d r1 n1=>?_;try simp only[au] at n1
 refine ah hJ ?_;simp only[*,go_sem];refine ax ?_;simp only[*,go_sem]
def qF (u0:Int)(a:Int):Option cj:=
 some (⟨u0,a⟩:cj)
theorem tA {ro:Addr->Option Value}(u0:Int)(a:Int){r:cj}(h:qF u0 a=some r):aD Tryz.prog 66 #[.int .i64 u0,.int .i64 a] ⟨ro,[]⟩ (fun v _=>v=r.v):=by
 unfold qF at h;obtain rfl:=sI h;refine aD.go Tryz.func66 rfl Tryz.ntmps66 Tryz.results66 (by simp) fun main J hJ A b hd hs=>?_;have c:=hs 0;have k1:=hs 1;clear hs;refine ah hJ ?_;simp only[*,go_sem];refine ay fun d r1 n1=>?_;try simp only[au] at n1
 refine ah hJ ?_;simp only[*,go_sem];refine ax ?_;simp only[*,go_sem]
def m6 (u0:Int)(a:Int):Option bn:=
 some (⟨u0,a⟩:bn)
theorem qG {ro:Addr->Option Value}(u0:Int)(a:Int){r:bn}(h:m6 u0 a=some r):aD Tryz.prog 53 #[.int .i64 u0,.int .i64 a] ⟨ro,[]⟩ (fun v _=>v=r.v):=by
 unfold m6 at h;obtain rfl:=sI h;refine aD.go Tryz.func53 rfl Tryz.ntmps53 Tryz.results53 (by simp) fun main J hJ A b hd hs=>?_;have c:=hs 0;have k1:=hs 1;clear hs;refine ah hJ ?_;simp only[*,go_sem];refine ay fun d r1 n1=>?_;try simp only[au] at n1
 refine ah hJ ?_;simp only[*,go_sem];refine ax ?_;simp only[*,go_sem]
def m7 (u0:Int)(a:Bool):Option bG:=
 some (⟨u0,a⟩:bG)
theorem kN {ro:Addr->Option Value}(u0:Int)(a:Bool){r:bG}(h:m7 u0 a=some r):aD Tryz.prog 33 #[.int .i64 u0,.bool a] ⟨ro,[]⟩ (fun v _=>v=r.v):=by
 unfold m7 at h;obtain rfl:=sI h;refine aD.go Tryz.func33 rfl Tryz.ntmps33 Tryz.results33 (by simp) fun main J hJ A b hd hs=>?_;have c:=hs 0;have k1:=hs 1;clear hs;refine ah hJ ?_;simp only[*,go_sem];refine ay fun d r1 n1=>?_;try simp only[au] at n1
 refine ah hJ ?_;simp only[*,go_sem];refine ax ?_;simp only[*,go_sem]
def jr (u0:aj)(a:bG):Option aj:=
 ag (dc ([]:List bG) u0.told) fun b=>ag (dc b ([a])) fun c=>some (⟨u0.bH,u0.bM,u0.aV,u0.az,u0.props,u0.av,c⟩:aj)
theorem m8 {ro:Addr->Option Value}(u0:aj){s1 b c N:Value}(j:bN ro u0 s1 b c N)(a:bG){r:aj}(h:jr u0 a=some r):eM Tryz.prog 27 #[bv u0 s1 b c N,.agg #[.int .i64 a.aR,.bool a.bq]] ro (fun v aM=>∃O w1 w2 w3,v=bv r O w1 w2 w3/\bN aM r O w1 w2 w3):=by
 obtain ⟨d24,i,rfl,eQ,eS,-⟩:=id j.t;unfold jr at h;have b0:=j.oc;simp only[bC] at b0;refine aD.go Tryz.func27 rfl Tryz.ntmps27 Tryz.results27 (by simp) fun main J hJ A e0 hd hs=>?_;have e1:=hs 0;have k1:=hs 1;clear hs;refine ah hJ ?_;simp only[*,go_sem,-h];refine ay fun d q b1=>?_;try simp only[au] at b1
 refine ay fun f s b2=>?_;try simp only[au] at b2
 refine ay fun g u b3=>?_;try simp only[au] at b3
 refine af hJ ?_;refine aC hJ fun P=>?_;refine eE hJ mixed [8] (.pure 1 (.rd 2 (.rd 4 (.two 0 (.two 3 (.one 5 (.one 6 (.pure 7 (.last 8 .done)))) 5 (.one 3 (.one 6 (.pure 7 (.last 8 .done))))) 5 (.one 0 (.one 3 (.one 6 (.pure 7 (.last 8 .done))))))))) ⟨ro,[(g,bz 29),(f,.cells #[.int .i64 a.aR,.bool a.bq] 54),(d,bk u0 s1 b c (sl d24 u0.told i))]⟩ (by simp only[*,go_sem,-h]) (by kernel_rfl) ?_;simp only[*,go_sem,-h];refine kE ?_ ?_
 .simp only[*,go_sem,-h];refine ay fun C Q R=>?_;have S:=aQ.cons R P;try simp only[au] at R
  simp only[*,go_sem,-h];refine kE ?_ ?_
  .revert h;refine bS fun b4 b5 h=>?_;obtain ⟨ca,T⟩:=dr b5;simp only[*,go_sem,-h];have cb:aP di ro 54 (.slice (some ⟨C,0,none⟩) 0 0) ([]:List bG) [(C,.cells #[] 54)]:=aP.empty Q;refine n5 (r:=di) (l:=([]:List bG)) (xs:=u0.told) [] ((g,bz 29)::(f,.cells #[.int .i64 a.aR,.bool a.bq] 54)::(d,bk u0 s1 b c (sl d24 u0.told i))::[]) cb S ca j.t rfl rfl ez ez iE iG rfl iF (by decide) (by decide) (fun e3 w F k m U=>?_);simp only[aS] at m;subst k;rw[<-T] at F;clear T;obtain ⟨d144,fa,rfl,fb⟩:=F.len;have cd:=aQ.back (l:=(g,bz 29)::(f,.cells #[.int .i64 a.aR,.bool a.bq] 54)::(d,bk u0 s1 b c (sl d24 u0.told i))::w) (l':=[]++(w++([(g,bz 29),(f,.cells #[.int .i64 a.aR,.bool a.bq] 54),(d,bk u0 s1 b c (sl d24 u0.told i))]++[]))) [] [(g,bz 29),(f,.cells #[.int .i64 a.aR,.bool a.bq] 54),(d,bk u0 s1 b c (sl d24 u0.told i))] w [] (by first|rfl|simp only[aS]|(simp only[aS];rfl)) (by first|rfl|simp only[aS]|(simp only[aS];rfl)) (by first|exact U|simpa only[List.append_nil,List.nil_append,List.cons_append,List.append_assoc] using U);refine ⟨⟨ro,(g,bz 29)::(f,.cells #[.int .i64 a.aR,.bool a.bq] 54)::(d,bk u0 s1 b c (sl d24 u0.told i))::w⟩,Le.back [] [(g,bz 29),(f,.cells #[.int .i64 a.aR,.bool a.bq] 54),(d,bk u0 s1 b c (sl d24 u0.told i))] w [] (by first|rfl|simp only[aS]|(simp only[aS];rfl)) (by first|rfl|simp only[aS]|(simp only[aS];rfl)),?_⟩;refine ⟨by simp only[*,go_sem,-h],bR ?_⟩;revert h;refine bS fun V cf h=>?_;obtain ⟨cl,W⟩:=dr cf;simp only[*,go_sem,-h];refine ay fun G X Y=>?_;have cu:=aQ.cons Y cd;try simp only[au] at Y
   simp only[*,go_sem,-h];refine ek (r:=di) (l:=b4) (x:=a) (cs:=#[.int .i64 a.aR,.bool a.bq]) (e2:=54) [(G,.cells #[.int .i64 a.aR,.bool a.bq] 54),(g,bz 29),(f,.cells #[.int .i64 a.aR,.bool a.bq] 54),(d,bk u0 s1 b c (sl d24 u0.told i))] [] F cu cl rfl (by simp only[*,go_sem,-h]) X rfl rfl ez ez iE iG rfl iF (by decide) (by decide) (fun fg cy H k m fi=>?_);simp only[aS] at m;subst k;rw[<-W] at H;clear W;obtain ⟨d158,Z,rfl,fo⟩:=H.len;refine ⟨⟨ro,(G,.cells #[.int .i64 a.aR,.bool a.bq] 54)::(g,bz 29)::(f,.cells #[.int .i64 a.aR,.bool a.bq] 54)::(d,bk u0 s1 b c (sl d24 u0.told i))::cy⟩,Le.refl _,?_⟩;refine ⟨by simp only[*,go_sem,-h],bR ?_⟩;simp only[*,go_sem,-h];refine af hJ ?_;refine aC hJ fun fp=>?_;refine ak hJ ?_;simp only[*,go_sem,-h];obtain rfl:=sI h;refine aC hJ fun ab=>?_;obtain ⟨fr,ad,D,ae,cS⟩:=H.eX [(G,.cells #[.int .i64 a.aR,.bool a.bq] 54),(g,bk u0 s1 b c (sl d158 V Z)),(f,.cells #[.int .i64 a.aR,.bool a.bq] 54),(d,bk u0 s1 b c (sl d158 V Z))] [] ab (aE.cons X (aE.cons u (aE.cons s (aE.cons q (aE.nil _)))));clear ab;refine cz hJ cS ?_;obtain ⟨fs,ft,-⟩:=ae.op;replace j:=j.mono ad;replace u:=D.tl.hd;replace s:=D.tl.tl.hd;replace q:=D.tl.tl.tl.hd;simp only[bu] at D;refine ax ?_;simp only[*,go_sem];exact ⟨_,ad,Le.sub (List.nil_sublist _),_,_,_,_,rfl,⟨j.e,j.p,j.y,ae⟩⟩
  revert h;refine bS fun c0 da h=>?_;obtain ⟨db,al⟩:=dr da;simp only[*,go_sem,-h];refine ay fun n ao ar=>?_;have dd:=aQ.cons ar S;try simp only[au] at ar
  simp only[*,go_sem,-h];have df:aP di ro 54 (.slice (some ⟨C,0,none⟩) 0 0) ([]:List bG) [(C,.cells #[] 54)]:=aP.empty Q;refine n5 (r:=di) (l:=([]:List bG)) (xs:=u0.told) [(n,.cells #[.int .i64 a.aR,.bool a.bq] 54)] ((g,bz 29)::(f,.cells #[.int .i64 a.aR,.bool a.bq] 54)::(d,bk u0 s1 b c (sl d24 u0.told i))::[]) df dd db j.t rfl rfl ez ez iE iG rfl iF (by decide) (by decide) (fun fu z I k m a0=>?_);simp only[aS] at m;subst k;rw[<-al] at I;clear al;obtain ⟨d179,fv,rfl,fw⟩:=I.len;have dk:=aQ.back (l:=(n,.cells #[.int .i64 a.aR,.bool a.bq] 54)::(g,bz 29)::(f,.cells #[.int .i64 a.aR,.bool a.bq] 54)::(d,bk u0 s1 b c (sl d24 u0.told i))::z) (l':=[(n,.cells #[.int .i64 a.aR,.bool a.bq] 54)]++(z++([(g,bz 29),(f,.cells #[.int .i64 a.aR,.bool a.bq] 54),(d,bk u0 s1 b c (sl d24 u0.told i))]++[]))) [(n,.cells #[.int .i64 a.aR,.bool a.bq] 54)] [(g,bz 29),(f,.cells #[.int .i64 a.aR,.bool a.bq] 54),(d,bk u0 s1 b c (sl d24 u0.told i))] z [] (by first|rfl|simp only[aS]|(simp only[aS];rfl)) (by first|rfl|simp only[aS]|(simp only[aS];rfl)) (by first|exact a0|simpa only[List.append_nil,List.nil_append,List.cons_append,List.append_assoc] using a0);refine ⟨⟨ro,(n,.cells #[.int .i64 a.aR,.bool a.bq] 54)::(g,bz 29)::(f,.cells #[.int .i64 a.aR,.bool a.bq] 54)::(d,bk u0 s1 b c (sl d24 u0.told i))::z⟩,Le.back [(n,.cells #[.int .i64 a.aR,.bool a.bq] 54)] [(g,bz 29),(f,.cells #[.int .i64 a.aR,.bool a.bq] 54),(d,bk u0 s1 b c (sl d24 u0.told i))] z [] (by first|rfl|simp only[aS]|(simp only[aS];rfl)) (by first|rfl|simp only[aS]|(simp only[aS];rfl)),?_⟩;refine ⟨by simp only[*,go_sem,-h],bR ?_⟩;revert h;refine bS fun a2 dp h=>?_;obtain ⟨dq,a3⟩:=dr dp;simp only[*,go_sem,-h];refine ek (r:=di) (l:=c0) (x:=a) (cs:=#[.int .i64 a.aR,.bool a.bq]) (e2:=54) [(n,.cells #[.int .i64 a.aR,.bool a.bq] 54),(g,bz 29),(f,.cells #[.int .i64 a.aR,.bool a.bq] 54),(d,bk u0 s1 b c (sl d24 u0.told i))] [] I dk dq rfl (by simp only[*,go_sem,-h]) ao rfl rfl ez ez iE iG rfl iF (by decide) (by decide) (fun fx ds K k m fz=>?_);simp only[aS] at m;subst k;rw[<-a3] at K;clear a3;obtain ⟨d191,a4,rfl,gg⟩:=K.len;refine ⟨⟨ro,(n,.cells #[.int .i64 a.aR,.bool a.bq] 54)::(g,bz 29)::(f,.cells #[.int .i64 a.aR,.bool a.bq] 54)::(d,bk u0 s1 b c (sl d24 u0.told i))::ds⟩,Le.refl _,?_⟩;refine ⟨by simp only[*,go_sem,-h],bR ?_⟩;simp only[*,go_sem,-h];refine af hJ ?_;refine aC hJ fun gl=>?_;refine ak hJ ?_;simp only[*,go_sem,-h];obtain rfl:=sI h;refine aC hJ fun a5=>?_;obtain ⟨gn,a6,E,a7,dt⟩:=K.eX [(n,.cells #[.int .i64 a.aR,.bool a.bq] 54),(g,bk u0 s1 b c (sl d191 a2 a4)),(f,.cells #[.int .i64 a.aR,.bool a.bq] 54),(d,bk u0 s1 b c (sl d191 a2 a4))] [] a5 (aE.cons ao (aE.cons u (aE.cons s (aE.cons q (aE.nil _)))));clear a5;refine cz hJ dt ?_;obtain ⟨gp,gB,-⟩:=a7.op;replace j:=j.mono a6;replace u:=E.tl.hd;replace s:=E.tl.tl.hd;replace q:=E.tl.tl.tl.hd;simp only[bu] at E;refine ax ?_;simp only[*,go_sem];exact ⟨_,a6,Le.sub (List.nil_sublist _),_,_,_,_,rfl,⟨j.e,j.p,j.y,a7⟩⟩
 revert h;refine bS fun du dv h=>?_;obtain ⟨dC,a8⟩:=dr dv;simp only[*,go_sem,-h];refine ay fun o a9 ba=>?_;have dE:=aQ.cons ba P;try simp only[au] at ba
 simp only[*,go_sem,-h];refine ay fun bb dT bc=>?_;have ea:=aQ.cons bc dE;try simp only[au] at bc
 simp only[*,go_sem,-h];have eb:aP di ro 54 (.slice (some ⟨bb,0,none⟩) 0 0) ([]:List bG) [(bb,.cells #[] 54)]:=aP.empty dT;refine n5 (r:=di) (l:=([]:List bG)) (xs:=u0.told) [] ((o,.cells #[.int .i64 a.aR,.bool a.bq] 54)::(g,bz 29)::(f,.cells #[.int .i64 a.aR,.bool a.bq] 54)::(d,bk u0 s1 b c (sl d24 u0.told i))::[]) eb ea dC j.t rfl rfl ez ez iE iG rfl iF (by decide) (by decide) (fun gC B L k m bd=>?_);simp only[aS] at m;subst k;rw[<-a8] at L;clear a8;obtain ⟨d214,gM,rfl,gT⟩:=L.len;have ec:=aQ.back (l:=(o,.cells #[.int .i64 a.aR,.bool a.bq] 54)::(g,bz 29)::(f,.cells #[.int .i64 a.aR,.bool a.bq] 54)::(d,bk u0 s1 b c (sl d24 u0.told i))::B) (l':=[]++(B++([(o,.cells #[.int .i64 a.aR,.bool a.bq] 54),(g,bz 29),(f,.cells #[.int .i64 a.aR,.bool a.bq] 54),(d,bk u0 s1 b c (sl d24 u0.told i))]++[]))) [] [(o,.cells #[.int .i64 a.aR,.bool a.bq] 54),(g,bz 29),(f,.cells #[.int .i64 a.aR,.bool a.bq] 54),(d,bk u0 s1 b c (sl d24 u0.told i))] B [] (by first|rfl|simp only[aS]|(simp only[aS];rfl)) (by first|rfl|simp only[aS]|(simp only[aS];rfl)) (by first|exact bd|simpa only[List.append_nil,List.nil_append,List.cons_append,List.append_assoc] using bd);refine ⟨⟨ro,(o,.cells #[.int .i64 a.aR,.bool a.bq] 54)::(g,bz 29)::(f,.cells #[.int .i64 a.aR,.bool a.bq] 54)::(d,bk u0 s1 b c (sl d24 u0.told i))::B⟩,Le.back [] [(o,.cells #[.int .i64 a.aR,.bool a.bq] 54),(g,bz 29),(f,.cells #[.int .i64 a.aR,.bool a.bq] 54),(d,bk u0 s1 b c (sl d24 u0.told i))] B [] (by first|rfl|simp only[aS]|(simp only[aS];rfl)) (by first|rfl|simp only[aS]|(simp only[aS];rfl)),?_⟩;refine ⟨by simp only[*,go_sem,-h],bR ?_⟩;revert h;refine bS fun bj ed h=>?_;obtain ⟨eh,bl⟩:=dr ed;simp only[*,go_sem,-h];refine ek (r:=di) (l:=du) (x:=a) (cs:=#[.int .i64 a.aR,.bool a.bq]) (e2:=54) [(o,.cells #[.int .i64 a.aR,.bool a.bq] 54),(g,bz 29),(f,.cells #[.int .i64 a.aR,.bool a.bq] 54),(d,bk u0 s1 b c (sl d24 u0.told i))] [] L ec eh rfl (by simp only[*,go_sem,-h]) a9 rfl rfl ez ez iE iG rfl iF (by decide) (by decide) (fun gV et M k m g0=>?_);simp only[aS] at m;subst k;rw[<-bl] at M;clear bl;obtain ⟨d226,bm,rfl,g1⟩:=M.len;refine ⟨⟨ro,(o,.cells #[.int .i64 a.aR,.bool a.bq] 54)::(g,bz 29)::(f,.cells #[.int .i64 a.aR,.bool a.bq] 54)::(d,bk u0 s1 b c (sl d24 u0.told i))::et⟩,Le.refl _,?_⟩;refine ⟨by simp only[*,go_sem,-h],bR ?_⟩;simp only[*,go_sem,-h];refine af hJ ?_;refine aC hJ fun g2=>?_;refine ak hJ ?_;simp only[*,go_sem,-h];obtain rfl:=sI h;refine aC hJ fun bo=>?_;obtain ⟨g3,br,eu,bs,ev⟩:=M.eX [(o,.cells #[.int .i64 a.aR,.bool a.bq] 54),(g,bk u0 s1 b c (sl d226 bj bm)),(f,.cells #[.int .i64 a.aR,.bool a.bq] 54),(d,bk u0 s1 b c (sl d226 bj bm))] [] bo (aE.cons a9 (aE.cons u (aE.cons s (aE.cons q (aE.nil _)))));clear bo;refine cz hJ ev ?_;obtain ⟨g4,ha,-⟩:=bs.op;replace j:=j.mono br;simp only[bu] at eu;refine ax ?_;simp only[*,go_sem];exact ⟨_,br,Le.sub (List.nil_sublist _),_,_,_,_,rfl,⟨j.e,j.p,j.y,bs⟩⟩
def xX (a:(List Int))(b:Int)(st:(Int×(List bX))):Option (Fl (Int×(List bX)) aj):=
 cond (decide (st.1<(a.length:Int))) (ag (bf a st.1) fun c=>ag (dc st.2 ([(⟨c,b⟩:bX)])) fun d=>some (.nx ((IntKind.i64.wrap (st.1+1)),d))) (some (.bk (st.1,st.2)))
def xY (u0:aj)(a:(List Int))(b:Int):Option aj:=
 ag (dc ([]:List bX) u0.props) fun c=>ag (aZ (xX a b) fu (0,c)) fun o=>aF o (fun d=>some (⟨u0.bH,u0.bM,u0.aV,u0.az,d.2,u0.av,u0.told⟩:aj)) (fun _ _=>none) (fun r=>some r)
theorem Ij {ro:Addr->Option Value}(u0:aj){s1 H a b:Value}(k:bN ro u0 s1 H a b)(w:(List Int)){I:Value}(K:aA rI ro I w)(n:Int){r:aj}(h:xY u0 w n=some r):eM Tryz.prog 60 #[bv u0 s1 H a b,I,.int .i64 n] ro (fun v aM=>∃L w1 w2 w3,v=bv r L w1 w2 w3/\bN aM r L w1 w2 w3):=by
 obtain ⟨d10,c,rfl,dd,df,-⟩:=id k.p;obtain ⟨d31,dk,rfl,dp,dq,-⟩:=id K;unfold xY at h;have ad:=k.oc;simp only[bC] at ad;refine aD.go Tryz.func60 rfl Tryz.ntmps60 Tryz.results60 (by simp) fun main J hJ A ae hd hs=>?_;have al:=hs 0;have k1:=hs 1;have ao:=hs 2;clear hs;refine ah hJ ?_;simp only[*,go_sem];refine ay fun f ar a0=>?_;try simp only[au] at a0
 refine ay fun g a2 a3=>?_;try simp only[au] at a3
 refine ah hJ ?_;simp only[*,go_sem];refine ay fun i a4 a5=>?_;try simp only[au] at a5
 refine af hJ ?_;refine aC hJ fun a6=>?_;refine ak hJ ?_;revert h;refine bS fun a7 a8 h=>?_;obtain ⟨a9,M⟩:=dr a8;simp only[*,go_sem];refine ay fun N ba O=>?_;have bb:=aQ.cons O a6;try simp only[au] at O
 simp only[*,go_sem];have bc:aP eF ro 70 (.slice (some ⟨N,0,none⟩) 0 0) ([]:List bX) [(N,.cells #[] 70)]:=aP.empty ba;refine n5 (r:=eF) (l:=([]:List bX)) (xs:=u0.props) [] ((i,bk u0 s1 (sl d10 u0.props c) a b)::(g,bz 29)::(f,bk u0 s1 (sl d10 u0.props c) a b)::[]) bc bb a9 k.p rfl rfl lu lu so su rfl sr (by decide) (by decide) (fun ds o z B C P=>?_);simp only[aS] at C;subst B;rw[<-M] at z;clear M;obtain ⟨d48,bd,rfl,bj⟩:=z.len;have dt:=aQ.back (l:=(i,bk u0 s1 (sl d10 u0.props c) a b)::(g,bz 29)::(f,bk u0 s1 (sl d10 u0.props c) a b)::o) (l':=[]++(o++([(i,bk u0 s1 (sl d10 u0.props c) a b),(g,bz 29),(f,bk u0 s1 (sl d10 u0.props c) a b)]++[]))) [] [(i,bk u0 s1 (sl d10 u0.props c) a b),(g,bz 29),(f,bk u0 s1 (sl d10 u0.props c) a b)] o [] (by first|rfl|simp only[aS]|(simp only[aS];rfl)) (by first|rfl|simp only[aS]|(simp only[aS];rfl)) (by first|exact P|simpa only[List.append_nil,List.nil_append,List.cons_append,List.append_assoc] using P);refine ⟨⟨ro,(i,bk u0 s1 (sl d10 u0.props c) a b)::(g,bz 29)::(f,bk u0 s1 (sl d10 u0.props c) a b)::o⟩,Le.back [] [(i,bk u0 s1 (sl d10 u0.props c) a b),(g,bz 29),(f,bk u0 s1 (sl d10 u0.props c) a b)] o [] (by first|rfl|simp only[aS]|(simp only[aS];rfl)) (by first|rfl|simp only[aS]|(simp only[aS];rfl)),?_⟩;refine aJ ?_;simp only[*,go_sem];refine af hJ (af hJ ?_);refine aC hJ fun du=>?_;refine ak hJ ?_;simp only[*,go_sem];refine aO hJ ?_;revert h;refine bS fun bl s bm=>?_;refine bU hJ (rg 15 17 [8]) (fun m bo F'=>∃(d57:Option Addr) (j:Nat) (D:List (Nat×Obj)) (u:Int) (d:(List bX)),aZ (xX w n) m (u,d)=some bl/\F'=⟨ro,(i,bk u0 s1 (sl d57 d j) a b)::(g,bz 29)::(f,bk u0 s1 (sl d10 u0.props c) a b)::D⟩/\aP eF ro 70 (.slice d57 d.length j) d D/\d.length<=j/\slot bo 8= .int .i64 u) fu ?_ ?_
 .refine ⟨d48,bd,o,0,a7,s,rfl,z,bj,?_⟩;simp only[*,go_sem]
 rintro E dv F' Q ⟨d57,j,D,u,d,s,rfl,R,dC,dE⟩;obtain ⟨br,bs,b0⟩:=Q.pick [1,2,6,7] (by decide);simp only[*,go_sem] at br bs b0;clear Q ae hd al k1 ao;obtain _|E:=E
 .exact absurd s (by simp only[aZ,reduceCtorEq,not_false_eq_true])
 revert s;refine bS fun dT h F=>?_;unfold xX at h;try dsimp only at h
 refine af hJ (af hJ ?_);refine aC hJ fun ea=>?_;refine ak hJ ?_;simp only[*,go_sem];revert h;refine aT hJ (fun b1 h=>?_) fun b1 h=>?_
 .refine aI hJ (af hJ ?_);refine aO hJ ?_;refine aC hJ fun b2=>?_;refine eE hJ mixed [11] (.pure 0 (.rd 1 (.pure 2 (.pure 3 (.pure 4 (.rd 5 (.pure 6 (.pure 7 (.one 8 (.one 9 (.pure 10 (.last 11 .done)))))))))))) ⟨ro,[(i,bk u0 s1 (sl d57 d j) a b),(g,bz 29),(f,bk u0 s1 (sl d10 u0.props c) a b)]⟩ (by simp only[*,go_sem]) (by kernel_rfl) ?_;revert h;refine bS fun q b3 h=>?_;obtain ⟨eb,ec,S⟩:=cG b3;obtain ⟨ed,b4,b5,ca,T⟩:=K.el _ _ S;obtain rfl:b4=[.int .i64 q]:=ca;cases b5;have cb:=T 0 _ rfl;simp only[go_sem] at cb;clear T S;revert h;refine bS fun cd cf h=>?_;obtain rfl:=sI h;obtain ⟨cl,U⟩:=dr cf;simp only[*,go_sem];refine ay fun V cu W=>?_;have cy:=aQ.cons W b2;try simp only[au] at W
  simp only[*,go_sem];refine ek (r:=eF) (l:=d) (x:=(⟨q,n⟩:bX)) (cs:=#[.int .i64 q,.int .i64 n]) (e2:=70) [(V,.cells #[.int .i64 q,.int .i64 n] 70),(i,bk u0 s1 (sl d57 d j) a b),(g,bz 29),(f,bk u0 s1 (sl d10 u0.props c) a b)] [] R cy cl rfl (by simp only[*,go_sem]) cu rfl rfl lu lu so su rfl sr (by decide) (by decide) (fun eh X G B C et=>?_);simp only[aS] at C;subst B;rw[<-U] at G;clear U;obtain ⟨d111,cS,rfl,c0⟩:=G.len;refine ⟨⟨ro,(V,.cells #[.int .i64 q,.int .i64 n] 70)::(i,bk u0 s1 (sl d57 d j) a b)::(g,bz 29)::(f,bk u0 s1 (sl d10 u0.props c) a b)::X⟩,Le.refl _,?_⟩;refine ⟨by simp only[*,go_sem],bR ?_⟩;simp only[*,go_sem];refine aC hJ fun eu=>?_;refine ak hJ ?_;simp only[*,go_sem];refine ⟨E,Nat.lt_succ_self _,_,Le.sub (List.Sublist.cons _ (List.Sublist.refl _)),d111,cS,X,(IntKind.i64.wrap (u+1)),cd,F,rfl,G,c0,?_⟩;simp only[*,go_sem]
 obtain rfl:=sI h;refine bO ?_;simp only[go_sem];obtain rfl:=sI F;clear F;have h:=bm;dsimp only[aF] at h;obtain rfl:=sI h;refine af hJ ?_;refine aC hJ fun ev=>?_;refine ak hJ ?_;simp only[*,go_sem];refine aC hJ fun Y=>?_;obtain ⟨eQ,Z,da,ab,db⟩:=R.eX [(i,bk u0 s1 (sl d57 d j) a b),(g,bk u0 s1 (sl d57 d j) a b),(f,bk u0 s1 (sl d10 u0.props c) a b)] [] Y (aE.cons a4 (aE.cons a2 (aE.cons ar (aE.nil _))));clear Y;refine cz hJ db ?_;obtain ⟨eS,e0,-⟩:=ab.op;replace k:=k.mono Z;simp only[bu] at da;refine ax ?_;simp only[*,go_sem];exact ⟨_,Z,Le.sub (List.nil_sublist _),_,_,_,_,rfl,⟨k.e,ab,k.y,k.t⟩⟩
def lO (u0:aj)(a:Int)(c:cj):Option aj:=
 ag (dc ([]:List bL) u0.av) fun b=>ag (bf b a) fun d=>some (⟨u0.bH,u0.bM,u0.aV,u0.az,u0.props,(b.set (a).toNat (⟨d.back,c⟩:bL)),u0.told⟩:aj)
theorem Ik {ro:Addr->Option Value}(u0:aj){s1 b B c:Value}(i:bN ro u0 s1 b B c)(s:Int)(a:cj){r:aj}(h:lO u0 s a=some r):eM Tryz.prog 31 #[bv u0 s1 b B c,.int .i64 s,.agg #[.int .i64 a.low,.int .i64 a.high]] ro (fun v aM=>∃C w1 w2 w3,v=bv r C w1 w2 w3/\bN aM r C w1 w2 w3):=by
 obtain ⟨d17,n,rfl,bc,bd,-⟩:=id i.y;unfold lO at h;have S:=i.oc;simp only[bC] at S;refine aD.go Tryz.func31 rfl Tryz.ntmps31 Tryz.results31 (by simp) fun main J hJ A bj hd hs=>?_;have bl:=hs 0;have k1:=hs 1;have bm:=hs 2;clear hs;refine ah hJ ?_;simp only[*,go_sem,-h];refine ay fun d T U=>?_;try simp only[au] at U
 refine ay fun f V W=>?_;try simp only[au] at W
 refine ay fun g X Y=>?_;try simp only[au] at Y
 refine af hJ ?_;refine aC hJ fun Z=>?_;refine ak hJ ?_;revert h;refine bS fun k ab h=>?_;obtain ⟨ad,D⟩:=dr ab;simp only[*,go_sem,-h];refine ay fun E ae G=>?_;have al:=aQ.cons G Z;try simp only[au] at G
 simp only[*,go_sem,-h];have ao:aP eG ro 67 (.slice (some ⟨E,0,none⟩) 0 0) ([]:List bL) [(E,.cells #[] 67)]:=aP.empty ae;refine n5 (r:=eG) (l:=([]:List bL)) (xs:=u0.av) [] ((g,bz 29)::(f,.cells #[.int .i64 a.low,.int .i64 a.high] 56)::(d,bk u0 s1 b (sl d17 u0.av n) c)::[]) ao al ad i.y rfl rfl si si AK AM rfl AL (by decide) (by decide) (fun bo u w ar a0 H=>?_);simp only[aS] at a0;subst ar;rw[<-D] at w;clear D;obtain ⟨d41,q,rfl,br⟩:=w.len;have bs:=aQ.back (l:=(g,bz 29)::(f,.cells #[.int .i64 a.low,.int .i64 a.high] 56)::(d,bk u0 s1 b (sl d17 u0.av n) c)::u) (l':=[]++(u++([(g,bz 29),(f,.cells #[.int .i64 a.low,.int .i64 a.high] 56),(d,bk u0 s1 b (sl d17 u0.av n) c)]++[]))) [] [(g,bz 29),(f,.cells #[.int .i64 a.low,.int .i64 a.high] 56),(d,bk u0 s1 b (sl d17 u0.av n) c)] u [] (by first|rfl|simp only[aS]|(simp only[aS];rfl)) (by first|rfl|simp only[aS]|(simp only[aS];rfl)) (by first|exact H|simpa only[List.append_nil,List.nil_append,List.cons_append,List.append_assoc] using H);refine ⟨⟨ro,(g,bz 29)::(f,.cells #[.int .i64 a.low,.int .i64 a.high] 56)::(d,bk u0 s1 b (sl d17 u0.av n) c)::u⟩,Le.back [] [(g,bz 29),(f,.cells #[.int .i64 a.low,.int .i64 a.high] 56),(d,bk u0 s1 b (sl d17 u0.av n) c)] u [] (by first|rfl|simp only[aS]|(simp only[aS];rfl)) (by first|rfl|simp only[aS]|(simp only[aS];rfl)),?_⟩;refine aJ ?_;simp only[*,go_sem,-h];refine af hJ ?_;refine aC hJ fun a2=>?_;refine ak hJ ?_;revert h;refine bS fun m a3 h=>?_;obtain ⟨b0,b1,I⟩:=cG a3;obtain ⟨j,K,a4,rfl,rfl,b2,a5,x⟩:=w.v5 I;obtain rfl:a4=m.cells:=a5;have a6:=a2.nd;simp only[keys,List.map_cons,List.map_nil,List.map_append,List.cons_append,List.nil_append,List.nodup_cons,List.mem_cons,List.mem_append,List.not_mem_nil,or_false,not_or] at a6;have L:=x 0 _ rfl;simp only[go_sem] at L;have b3:=(Array.getElem?_eq_some_iff.1 L).1;have M:=x 1 _ rfl;simp only[go_sem] at M;have b4:=(Array.getElem?_eq_some_iff.1 M).1;have N:=x 2 _ rfl;simp only[go_sem] at N;have b5:=(Array.getElem?_eq_some_iff.1 N).1;have O:aP eG ro 67 (.slice (some ⟨j,0,none⟩) k.length q) (k.set (s).toNat (⟨m.back,a⟩:bL)) [(j,Obj.cells (cK K ((s).toNat*3+1) [.int .i64 a.low,.int .i64 a.high]) 67)]:=by have a7:=w.part (y:=(⟨m.back,a⟩:bL)) I 1 [.int .i64 a.low,.int .i64 a.high] [.int .i64 m.back,.int .i64 m.high.low,.int .i64 m.high.high] [.int .i64 m.back,.int .i64 a.low,.int .i64 a.high] x rfl rfl (by simp) rfl;exact a7
 simp only[*,go_sem,-h];refine af hJ ?_;obtain ⟨a8,z⟩:∃o,o=(cK K ((s).toNat*3+1) [.int .i64 a.low,.int .i64 a.high]):=⟨_,rfl⟩
 refine cz (F:=⟨ro,(g,bz 29)::(f,.cells #[.int .i64 a.low,.int .i64 a.high] 56)::(d,bk u0 s1 b (sl (some ⟨j,0,none⟩) k q) c)::[(j,Obj.cells a8 67)]⟩) hJ (by rw[z];exact Le.refl _) ?_;rw[<-z] at O;clear z;refine aC hJ fun ca=>?_;refine ak hJ ?_;simp only[*,go_sem,-h];obtain rfl:=sI h;refine aC hJ fun P=>?_;obtain ⟨a9,Q,ba,R,bb⟩:=O.eX [(g,bk u0 s1 b (sl (some ⟨j,0,none⟩) k q) c),(f,.cells #[.int .i64 a.low,.int .i64 a.high] 56),(d,bk u0 s1 b (sl (some ⟨j,0,none⟩) k q) c)] [] P (aE.cons X (aE.cons V (aE.cons T (aE.nil _))));clear P;refine cz (F:=⟨a9,(g,bk u0 s1 b (sl (some ⟨j,0,none⟩) k q) c)::(f,.cells #[.int .i64 a.low,.int .i64 a.high] 56)::(d,bk u0 s1 b (sl (some ⟨j,0,none⟩) k q) c)::[]⟩) hJ bb ?_;obtain ⟨cb,cd,-⟩:=R.op;replace i:=i.mono Q;simp only[bu] at ba;refine ax ?_;simp only[*,go_sem];exact ⟨_,Q,Le.sub (List.nil_sublist _),_,_,_,_,rfl,⟨i.e,i.p,R,i.t⟩⟩
def xZ :Option aj:=
 ag (gy 1 2) fun a=>ag (qF 10 12) fun b=>ag (qF 10 10) fun c=>some (⟨20,2,a,[(⟨0,2⟩:bT),(⟨8,4⟩:bT),(⟨14,4⟩:bT)],([]:(List bX)),[(⟨2,b⟩:bL),(⟨4,c⟩:bL)],([]:(List bG))⟩:aj)
theorem Il {ro:Addr->Option Value}{r:aj}(h:xZ=some r):eM Tryz.prog 59 #[] ro (fun v aM=>∃m w1 w2 w3,v=bv r m w1 w2 w3/\bN aM r m w1 w2 w3):=by
 unfold xZ at h;refine aD.go Tryz.func59 rfl Tryz.ntmps59 Tryz.results59 (by simp) fun main J hJ A H hd hs=>?_;clear hs;refine ah hJ ?_;simp only[*,go_sem];refine ay fun n r1 n1=>?_;try simp only[au] at n1
 refine af hJ ?_;refine aC hJ fun C=>?_;refine ak hJ ?_;revert h;refine bS fun g D h=>?_;simp only[*,go_sem];refine aU hJ _ (hO 1 2 D) (aJ ?_);revert h;refine bS fun a E h=>?_;simp only[*,go_sem];refine ay fun b5 p q=>?_;have F:=aQ.cons q C;try simp only[au] at q
 refine aU hJ _ (tA 10 12 E) (aJ ?_);revert h;refine bS fun c G h=>?_;obtain rfl:=sI h;simp only[*,go_sem];refine aU hJ _ (tA 10 10 G) (aJ ?_);simp only[*,go_sem];refine ay fun d i s=>?_;have I:=aQ.cons s F;try simp only[au] at s
 simp only[*,go_sem];refine aC hJ fun t=>?_;obtain ⟨u,j,w⟩:=fS (b:=b5) (o:=(.cells #[.int .i64 0,.int .i64 2,.int .i64 8,.int .i64 4,.int .i64 14,.int .i64 4] 44)) [(d,.cells #[.int .i64 2,.int .i64 a.low,.int .i64 a.high,.int .i64 4,.int .i64 c.low,.int .i64 c.high] 67)] ((n,.cells #[.int .i64 20,.int .i64 2,.int .i64 g.num,.int .i64 g.den,.slice (some ⟨b5,0,none⟩) 3 3,.slice none 0 0,.slice (some ⟨d,0,none⟩) 2 2,.slice none 0 0] 29)::[]) t p (aE.cons i (aE.cons r1 (aE.nil _)));clear t;have f:aA e8 (bV ro b5 (.cells #[.int .i64 0,.int .i64 2,.int .i64 8,.int .i64 4,.int .i64 14,.int .i64 4] 44)) (.slice (some ⟨b5,0,none⟩) 3 3) [(⟨0,2⟩:bT),(⟨8,4⟩:bT),(⟨14,4⟩:bT)]:=(aA.flat (r:=e8) (e:=44) (cs:=#[.int .i64 0,.int .i64 2,.int .i64 8,.int .i64 4,.int .i64 14,.int .i64 4]) bT.cells ([(⟨0,2⟩:bT),(⟨8,4⟩:bT),(⟨14,4⟩:bT)]) (fun _=>rfl) p rfl (by simp))
 generalize bV ro b5 (.cells #[.int .i64 0,.int .i64 2,.int .i64 8,.int .i64 4,.int .i64 14,.int .i64 4] 44)=x at u j w f;refine cz hJ w ?_;obtain ⟨K,L,-⟩:=f.op;replace i:=j.hd;replace r1:=j.tl.hd;simp only[bu] at j;refine aC hJ fun y=>?_;obtain ⟨k,z,B⟩:=fS (b:=d) (o:=(.cells #[.int .i64 2,.int .i64 a.low,.int .i64 a.high,.int .i64 4,.int .i64 c.low,.int .i64 c.high] 67)) [] ((n,.cells #[.int .i64 20,.int .i64 2,.int .i64 g.num,.int .i64 g.den,.slice (some ⟨b5,0,none⟩) ([(⟨0,2⟩:bT),(⟨8,4⟩:bT),(⟨14,4⟩:bT)]).length 3,.slice none 0 0,.slice (some ⟨d,0,none⟩) 2 2,.slice none 0 0] 29)::[]) y i (aE.cons r1 (aE.nil _));clear y;have l:aA eG (bV x d (.cells #[.int .i64 2,.int .i64 a.low,.int .i64 a.high,.int .i64 4,.int .i64 c.low,.int .i64 c.high] 67)) (.slice (some ⟨d,0,none⟩) 2 2) [(⟨2,a⟩:bL),(⟨4,c⟩:bL)]:=(aA.flat (r:=eG) (e:=67) (cs:=#[.int .i64 2,.int .i64 a.low,.int .i64 a.high,.int .i64 4,.int .i64 c.low,.int .i64 c.high]) bL.cells ([(⟨2,a⟩:bL),(⟨4,c⟩:bL)]) (fun _=>rfl) i rfl (by simp))
 generalize bV x d (.cells #[.int .i64 2,.int .i64 a.low,.int .i64 a.high,.int .i64 4,.int .i64 c.low,.int .i64 c.high] 67)=M at k z B l;refine cz hJ B ?_;obtain ⟨N,O,-⟩:=l.op;replace f:=f.mono k;simp only[bu] at z;refine ax ?_;simp only[*,go_sem];exact ⟨_,(u).trans k,Le.sub (List.nil_sublist _),_,_,_,_,rfl,f,aA.nil _ _,l,aA.nil _ _⟩
def qH (u0:aj)(st:(Int×Int)):Option (Fl (Int×Int) Int):=
 cond (decide (st.2<(u0.az.length:Int))) (ag (bf u0.az st.2) fun a=>ag (eT a.aL 0 (IntKind.i64.wrap (u0.bH - 1))) fun b=>cond (!b) (some (.rt 1)) (ag (eT a.high 0 60) fun c=>cond (!c) (some (.rt 1)) (cond (decide (0<st.2)) (ag (bf u0.az (IntKind.i64.wrap (st.2 - 1))) fun d=>cond (decide (a.aL<=d.aL)) (some (.rt 7)) (some (.nx (st.1,(IntKind.i64.wrap (st.2+1)))))) (some (.nx (st.1,(IntKind.i64.wrap (st.2+1)))))))) (some (.bk (st.1,st.2)))
def m9 (u0:aj):Option Int:=
 ag (eT (u0.az.length:Int) 2 5) fun a=>cond (!a) (some 2) (ag (aZ (qH u0) fu (0,0)) fun o=>aF o (fun b=>some 0) (fun _ _=>none) (fun r=>some r))
theorem Im {ro:Addr->Option Value}(u0:aj){s1 i j k:Value}(l:bN ro u0 s1 i j k){r:Int}(h:m9 u0=some r):aD Tryz.prog 98 #[bv u0 s1 i j k] ⟨ro,[]⟩ (fun v _=>v= .int .i64 r):=by
 obtain ⟨d3,c4,rfl,al,ao,-⟩:=id l.e;unfold m9 at h;refine aD.go Tryz.func98 rfl Tryz.ntmps98 Tryz.results98 (by simp) fun main J hJ A w hd hs=>?_;have x:=hs 0;clear hs;refine ah hJ ?_;simp only[*,go_sem];refine ay fun y ar z=>?_;try simp only[au] at z
 refine af hJ (ah hJ ?_);revert h;refine bS fun a0 B h=>?_;simp only[*,go_sem];refine aU hJ _ (hH (u0.az.length:Int) 2 5 B) (aJ ?_);simp only[*,go_sem];revert h;refine aT hJ (fun C h=>?_) fun C h=>?_
 .obtain rfl:=sI h;refine ah hJ ?_;simp only[*,go_sem];refine ax ?_;simp only[*,go_sem]
 refine aI hJ (af hJ ?_);refine ah hJ ?_;simp only[*,go_sem];refine aO hJ ?_;revert h;refine bS fun D d f=>?_;refine bU hJ (rg 10 39 [2,3,4]) (fun m q F'=>∃(b:Int) (c:Int),aZ (qH u0) m (b,c)=some D/\F'=⟨ro,(y,bk u0 (sl d3 u0.az c4) i j k)::[]⟩/\slot q 2= .int .i64 b/\slot q 3= .int .i64 c) fu ?_ ?_
 .refine ⟨0,0,d,rfl,?_⟩;simp only[*,go_sem]
 rintro g a2 F' s ⟨b,c,d,rfl,a3,a4⟩;obtain ⟨E,F,G⟩:=s.pick [1] (by decide);simp only[*,go_sem] at E F G;clear s w hd x;obtain _|g:=g
 .exact absurd d (by simp only[aZ,reduceCtorEq,not_false_eq_true])
 revert d;refine bS fun a5 h a=>?_;unfold qH at h;try dsimp only at h
 refine af hJ (ah hJ ?_);simp only[*,go_sem];revert h;refine aT hJ (fun H h=>?_) fun H h=>?_
 .refine aI hJ (af hJ ?_);refine aO hJ (af hJ ?_);refine ak hJ ?_;revert h;refine bS fun n I h=>?_;obtain ⟨a6,a7,t⟩:=cG I;obtain ⟨a8,K,L,M,o⟩:=l.e.el _ _ t;obtain rfl:K=n.cells:=M;cases L;have N:=o 0 _ rfl;simp only[go_sem] at N;have O:=o 1 _ rfl;simp only[go_sem] at O;clear o t;simp only[*,go_sem];refine ay fun a9 ba P=>?_;try simp only[au] at P
  refine af hJ (ah hJ ?_);revert h;refine bS fun bb Q h=>?_;simp only[*,go_sem];refine aU hJ _ (hH n.aL 0 (IntKind.i64.wrap (u0.bH - 1)) Q) (aJ ?_);revert h;refine cS (fun R h=>?_) fun R h=>?_
  .obtain rfl:=sI h;simp only[*,go_sem];refine b8 hJ ?_;refine ah hJ ?_;simp only[*,go_sem];obtain rfl:=sI a;clear a;have h:=f;dsimp only[aF] at h;obtain rfl:=sI h;refine ax ?_;simp only[*,go_sem]
  revert h;refine bS fun bc S h=>?_;simp only[*,go_sem];refine aU hJ _ (hH n.high 0 60 S) (aJ ?_);simp only[*,go_sem];revert h;refine aT hJ (fun T h=>?_) fun T h=>?_
  .obtain rfl:=sI h;refine ah hJ ?_;simp only[*,go_sem];obtain rfl:=sI a;clear a;have h:=f;dsimp only[aF] at h;obtain rfl:=sI h;refine ax ?_;simp only[*,go_sem]
  refine aI hJ (af hJ ?_);refine cP hJ mixed 14 2 (by simp only[*,go_sem]) (by kernel_rfl) ?_;revert h;refine cS (fun U h=>?_) fun U h=>?_
  .revert h;refine bS fun V W h=>?_;obtain ⟨bd,bj,u⟩:=cG W;obtain ⟨bl,X,Y,Z,p⟩:=l.e.el _ _ u;obtain rfl:X=V.cells:=Z;cases Y;have ab:=p 0 _ rfl;simp only[go_sem] at ab;have ad:=p 1 _ rfl;simp only[go_sem] at ad;clear p u;simp only[*,go_sem];revert h;refine aT hJ (fun ae h=>?_) fun ae h=>?_
   .obtain rfl:=sI h;refine ah hJ ?_;simp only[*,go_sem];obtain rfl:=sI a;clear a;have h:=f;dsimp only[aF] at h;obtain rfl:=sI h;refine ax ?_;simp only[*,go_sem]
   obtain rfl:=sI h;refine aI hJ (ak hJ ?_);simp only[*,go_sem];refine ⟨g,Nat.lt_succ_self _,_,Le.sub (List.Sublist.cons _ (List.Sublist.refl _)),b,(IntKind.i64.wrap (c+1)),a,rfl,?_⟩;simp only[*,go_sem]
  obtain rfl:=sI h;simp only[*,go_sem];refine b6 hJ ?_;refine aI hJ (ak hJ ?_);simp only[*,go_sem];refine ⟨g,Nat.lt_succ_self _,_,Le.sub (List.Sublist.cons _ (List.Sublist.refl _)),b,(IntKind.i64.wrap (c+1)),a,rfl,?_⟩;simp only[*,go_sem]
 obtain rfl:=sI h;refine bO ?_;simp only[go_sem];obtain rfl:=sI a;clear a;have h:=f;dsimp only[aF] at h;obtain rfl:=sI h;refine ah hJ ?_;simp only[*,go_sem];refine ax ?_;simp only[*,go_sem]
def BN (u0:aj)(st:(Int×Int)):Option (Fl (Int×Int) Int):=
 cond (decide (st.2<(u0.told.length:Int))) (ag (bf u0.told st.2) fun a=>ag (m0 u0 a.aR) fun b=>cond (!b) (some (.rt 6)) (some (.nx (st.1,(IntKind.i64.wrap (st.2+1)))))) (some (.bk (st.1,st.2)))
def BO (u0:aj)(st:(Int×Int)):Option (Fl (Int×Int) Int):=
 cond (decide (st.2<(u0.av.length:Int))) (ag (bf u0.av st.2) fun a=>ag (eT a.back 1 20) fun b=>cond (!b) (some (.rt 1)) (ag (lN a.high 0 60) fun c=>cond (!c) (some (.rt 1)) (cond (decide (3<=(IntKind.i64.wrap (a.high.high - a.high.low)))) (some (.rt 1)) (some (.nx (st.1,(IntKind.i64.wrap (st.2+1)))))))) (some (.bk (st.1,st.2)))
def qI (u0:aj)(st:(Int×Int)):Option (Fl (Int×Int) Int):=
 cond (decide (st.2<(u0.props.length:Int))) (ag (bf u0.props st.2) fun a=>ag (mZ u0 a.place) fun b=>cond (!b) (some (.rt 6)) (ag (eT a.dh 1 20) fun c=>cond (!c) (some (.rt 1)) (some (.nx (st.1,(IntKind.i64.wrap (st.2+1))))))) (some (.bk (st.1,st.2)))
def x2 (u0:aj)(st:(Int×Int)):Option (Fl (Int×Int) Int):=
 cond (decide (st.2<(u0.av.length:Int))) (ag (bf u0.av st.2) fun a=>ag (eT a.back 1 20) fun b=>cond (!b) (some (.rt 1)) (ag (lN a.high 0 60) fun c=>cond (!c) (some (.rt 1)) (cond (decide (3<=(IntKind.i64.wrap (a.high.high - a.high.low)))) (some (.rt 1)) (some (.nx (st.1,(IntKind.i64.wrap (st.2+1)))))))) (some (.bk (st.1,st.2)))
def x3 (u0:aj)(st:(Int×Int)):Option (Fl (Int×Int) Int):=
 cond (decide (st.2<(u0.told.length:Int))) (ag (bf u0.told st.2) fun a=>ag (m0 u0 a.aR) fun b=>cond (!b) (some (.rt 6)) (some (.nx (st.1,(IntKind.i64.wrap (st.2+1)))))) (some (.bk (st.1,st.2)))
def nc (u0:aj):Option Int:=
 cond (decide (3<(u0.props.length:Int))) (some 2) (ag (aZ (qI u0) fu (0,0)) fun o=>aF o (fun a=>ag (eT (u0.av.length:Int) 1 3) fun b=>cond (!b) (some 2) (ag (aZ (x2 u0) fu (a.1,0)) fun o=>aF o (fun c=>cond (decide (3<(u0.told.length:Int))) (some 2) (ag (aZ (x3 u0) fu (c.1,0)) fun o=>aF o (fun d=>some 0) (fun _ _=>none) (fun r=>some r))) (fun _ _=>none) (fun r=>some r))) (fun _ _=>none) (fun r=>some r))
theorem Io {ro:Addr->Option Value}(u0:aj){s1 N O P:Value}(b:bN ro u0 s1 N O P){r:Int}(h:nc u0=some r):aD Tryz.prog 99 #[bv u0 s1 N O P] ⟨ro,[]⟩ (fun v _=>v= .int .i64 r):=by
 obtain ⟨d10,w,rfl,eb,ec,-⟩:=id b.p;obtain ⟨d17,x,rfl,ed,eh,-⟩:=id b.y;obtain ⟨d24,z,rfl,et,eu,-⟩:=id b.t;unfold nc at h;refine aD.go Tryz.func99 rfl Tryz.ntmps99 Tryz.results99 (by simp) fun main J hJ A ao hd hs=>?_;have ar:=hs 0;clear hs;refine ah hJ ?_;simp only[*,go_sem];refine ay fun B ev a0=>?_;try simp only[au] at a0
 refine af hJ (ah hJ ?_);simp only[*,go_sem];revert h;refine aT hJ (fun a2 h=>?_) fun a2 h=>?_
 .obtain rfl:=sI h;refine ah hJ ?_;simp only[*,go_sem];refine ax ?_;simp only[*,go_sem]
 refine aI hJ (af hJ ?_);refine ah hJ ?_;simp only[*,go_sem];refine aO hJ ?_;revert h;refine bS fun a3 i C=>?_;refine bU hJ (rg 11 24 [2,3]) (fun m c F'=>∃(e:Int) (j:Int),aZ (qI u0) m (e,j)=some a3/\F'=⟨ro,(B,bk u0 s1 (sl d10 u0.props w) (sl d17 u0.av x) (sl d24 u0.told z))::[]⟩/\slot c 2= .int .i64 e/\slot c 3= .int .i64 j) fu ?_ ?_
 .refine ⟨0,0,i,rfl,?_⟩;simp only[*,go_sem]
 rintro D eQ F' Q ⟨e,j,i,rfl,a4,a5⟩;obtain ⟨R,S,T⟩:=Q.pick [1] (by decide);simp only[*,go_sem] at R S T;clear Q ao hd ar;obtain _|D:=D
 .exact absurd i (by simp only[aZ,reduceCtorEq,not_false_eq_true])
 revert i;refine bS fun eS h d=>?_;unfold qI at h;try dsimp only at h
 refine af hJ (ah hJ ?_);simp only[*,go_sem];revert h;refine aT hJ (fun a6 h=>?_) fun a6 h=>?_
 .refine aI hJ (af hJ ?_);refine aO hJ (af hJ ?_);refine af hJ ?_;refine cP hJ mixed 9 1 (by simp only[*,go_sem]) (by kernel_rfl) ?_;revert h;refine bS fun E a7 h=>?_;obtain ⟨e0,e1,U⟩:=cG a7;obtain ⟨e2,a8,a9,ba,G⟩:=b.p.el _ _ U;obtain rfl:a8=E.cells:=ba;cases a9;have bb:=G 0 _ rfl;simp only[go_sem] at bb;have bc:=G 1 _ rfl;simp only[go_sem] at bc;clear G U;revert h;refine bS fun e3 bd h=>?_;simp only[*,go_sem];refine ⟨_,bD hJ fun F H=>Ib u0 (b.mono (bY H)) E.place bd,cn ?_⟩;simp only[*,go_sem];revert h;refine aT hJ (fun bj h=>?_) fun bj h=>?_
  .obtain rfl:=sI h;refine ah hJ ?_;simp only[*,go_sem];obtain rfl:=sI d;clear d;have h:=C;dsimp only[aF] at h;obtain rfl:=sI h;refine ax ?_;simp only[*,go_sem]
  refine aI hJ (af hJ ?_);refine ak hJ ?_;revert h;refine bS fun fa bl h=>?_;simp only[*,go_sem];refine aU hJ _ (hH E.dh 1 20 bl) (aJ ?_);simp only[*,go_sem];revert h;refine aT hJ (fun bm h=>?_) fun bm h=>?_
  .obtain rfl:=sI h;refine ah hJ ?_;simp only[*,go_sem];obtain rfl:=sI d;clear d;have h:=C;dsimp only[aF] at h;obtain rfl:=sI h;refine ax ?_;simp only[*,go_sem]
  obtain rfl:=sI h;refine aI hJ (ak hJ ?_);simp only[*,go_sem];refine ⟨D,Nat.lt_succ_self _,_,Le.sub (List.Sublist.refl _),e,(IntKind.i64.wrap (j+1)),d,rfl,?_⟩;simp only[*,go_sem]
 obtain rfl:=sI h;refine bO ?_;simp only[go_sem];obtain rfl:=sI d;clear d;have h:=C;dsimp only[aF] at h;refine af hJ (ah hJ ?_);revert h;refine bS fun fb bo h=>?_;simp only[*,go_sem];refine aU hJ _ (hH (u0.av.length:Int) 1 3 bo) (aJ ?_);simp only[*,go_sem];revert h;refine aT hJ (fun br h=>?_) fun br h=>?_
 .obtain rfl:=sI h;refine ah hJ ?_;simp only[*,go_sem];refine ax ?_;simp only[*,go_sem]
 refine aI hJ (af hJ ?_);refine ah hJ ?_;simp only[*,go_sem];refine aO hJ ?_;revert h;refine bS fun bs k l=>?_;refine bU hJ (rg 40 32 [2,4,5]) (fun m c F'=>∃(f:Int) (n:Int),aZ (BO u0) m (f,n)=some bs/\F'=⟨ro,(B,bk u0 s1 (sl d10 u0.props w) (sl d17 u0.av x) (sl d24 u0.told z))::[]⟩/\slot c 2= .int .i64 f/\slot c 4= .int .i64 n) fu ?_ ?_
 .refine ⟨e,0,k,rfl,?_⟩;simp only[*,go_sem]
 rintro I fg F' V ⟨f,n,k,rfl,bz,b0⟩;obtain ⟨W,X,Y⟩:=V.pick [1] (by decide);simp only[*,go_sem] at W X Y;clear V R S T a4 a5;obtain _|I:=I
 .exact absurd k (by simp only[aZ,reduceCtorEq,not_false_eq_true])
 revert k;refine bS fun fi h a=>?_;unfold BO at h;try dsimp only at h
 refine af hJ (ah hJ ?_);simp only[*,go_sem];revert h;refine aT hJ (fun b1 h=>?_) fun b1 h=>?_
 .refine aI hJ (af hJ ?_);refine aO hJ (af hJ ?_);refine ak hJ ?_;revert h;refine bS fun K b2 h=>?_;obtain ⟨fo,fp,Z⟩:=cG b2;obtain ⟨fr,b3,b4,b5,o⟩:=b.y.el _ _ Z;obtain rfl:b3=K.cells:=b5;cases b4;have ca:=o 0 _ rfl;simp only[go_sem] at ca;have cb:=o 1 _ rfl;simp only[go_sem] at cb;have cd:=o 2 _ rfl;simp only[go_sem] at cd;clear o Z;simp only[*,go_sem];refine ay fun fs ft cf=>?_;try simp only[au] at cf
  refine ah hJ ?_;revert h;refine bS fun fv cl h=>?_;simp only[*,go_sem];refine aU hJ _ (hH K.back 1 20 cl) (aJ ?_);revert h;refine cS (fun cu h=>?_) fun cu h=>?_
  .obtain rfl:=sI h;simp only[*,go_sem];refine b8 hJ ?_;refine ah hJ ?_;simp only[*,go_sem];obtain rfl:=sI a;clear a;have h:=l;dsimp only[aF] at h;obtain rfl:=sI h;refine ax ?_;simp only[*,go_sem]
  revert h;refine bS fun fw cy h=>?_;simp only[*,go_sem];refine aU hJ _ (Ig K.high 0 60 cy) (aJ ?_);revert h;refine cS (fun c0 h=>?_) fun c0 h=>?_
  .obtain rfl:=sI h;simp only[*,go_sem];refine b8 hJ ?_;refine ah hJ ?_;simp only[*,go_sem];obtain rfl:=sI a;clear a;have h:=l;dsimp only[aF] at h;obtain rfl:=sI h;refine ax ?_;simp only[*,go_sem]
  simp only[*,go_sem];revert h;refine aT hJ (fun da h=>?_) fun da h=>?_
  .obtain rfl:=sI h;refine ah hJ ?_;simp only[*,go_sem];obtain rfl:=sI a;clear a;have h:=l;dsimp only[aF] at h;obtain rfl:=sI h;refine ax ?_;simp only[*,go_sem]
  obtain rfl:=sI h;refine aI hJ (ak hJ ?_);simp only[*,go_sem];refine ⟨I,Nat.lt_succ_self _,_,Le.sub (List.Sublist.cons _ (List.Sublist.refl _)),f,(IntKind.i64.wrap (n+1)),a,rfl,?_⟩;simp only[*,go_sem]
 obtain rfl:=sI h;refine bO ?_;simp only[go_sem];obtain rfl:=sI a;clear a;have h:=l;dsimp only[aF] at h;refine af hJ (ah hJ ?_);simp only[*,go_sem];revert h;refine aT hJ (fun db h=>?_) fun db h=>?_
 .obtain rfl:=sI h;refine ah hJ ?_;simp only[*,go_sem];refine ax ?_;simp only[*,go_sem]
 refine aI hJ (af hJ ?_);refine ah hJ ?_;simp only[*,go_sem];refine aO hJ ?_;revert h;refine bS fun dd q ab=>?_;refine bU hJ (rg 76 16 [2,6]) (fun m c F'=>∃(s:Int) (u:Int),aZ (BN u0) m (s,u)=some dd/\F'=⟨ro,(B,bk u0 s1 (sl d10 u0.props w) (sl d17 u0.av x) (sl d24 u0.told z))::[]⟩/\slot c 2= .int .i64 s/\slot c 6= .int .i64 u) fu ?_ ?_
 .refine ⟨f,0,q,rfl,?_⟩;simp only[*,go_sem]
 rintro L fx F' ad ⟨s,u,q,rfl,fz,gg⟩;obtain ⟨df,dk,dp⟩:=ad.pick [1] (by decide);simp only[*,go_sem] at df dk dp;clear ad W X Y bz b0;obtain _|L:=L
 .exact absurd q (by simp only[aZ,reduceCtorEq,not_false_eq_true])
 revert q;refine bS fun gl h g=>?_;unfold BN at h;try dsimp only at h
 refine af hJ (ah hJ ?_);simp only[*,go_sem];revert h;refine aT hJ (fun dq h=>?_) fun dq h=>?_
 .refine aI hJ (af hJ ?_);refine aO hJ (af hJ ?_);refine cP hJ mixed 9 1 (by simp only[*,go_sem]) (by kernel_rfl) ?_;revert h;refine bS fun ae ds h=>?_;obtain ⟨gn,gp,al⟩:=cG ds;obtain ⟨gB,dt,du,dv,M⟩:=b.t.el _ _ al;obtain rfl:dt=ae.cells:=dv;cases du;have dC:=M 0 _ rfl;simp only[go_sem] at dC;have dE:=M 1 _ rfl;simp only[go_sem] at dE;clear M al;revert h;refine bS fun gC dT h=>?_;simp only[*,go_sem];refine ⟨_,bD hJ fun F H=>Ic u0 (b.mono (bY H)) ae.aR dT,cn ?_⟩;simp only[*,go_sem];revert h;refine aT hJ (fun ea h=>?_) fun ea h=>?_
  .obtain rfl:=sI h;refine ah hJ ?_;simp only[*,go_sem];obtain rfl:=sI g;clear g;have h:=ab;dsimp only[aF] at h;obtain rfl:=sI h;refine ax ?_;simp only[*,go_sem]
  obtain rfl:=sI h;refine aI hJ (ak hJ ?_);simp only[*,go_sem];refine ⟨L,Nat.lt_succ_self _,_,Le.sub (List.Sublist.refl _),s,(IntKind.i64.wrap (u+1)),g,rfl,?_⟩;simp only[*,go_sem]
 obtain rfl:=sI h;refine bO ?_;simp only[go_sem];obtain rfl:=sI g;clear g;have h:=ab;dsimp only[aF] at h;obtain rfl:=sI h;refine ah hJ ?_;simp only[*,go_sem];refine ax ?_;simp only[*,go_sem]
def fZ (u0:aj):Option Int:=
 ag (eT u0.bH 2 60) fun c=>cond (!c) (some 1) (ag (eT u0.bM 0 60) fun d=>cond (!d) (some 1) (ag (eT u0.aV.den 1 20) fun e=>cond (!e) (some 1) (ag (eT u0.aV.num 0 20) fun f=>cond (!f) (some 1) (ag (iJ u0.aV.num u0.aV.den) fun a=>cond (!((a.num==u0.aV.num)&&(a.den==u0.aV.den))) (some 3) (ag (m9 u0) fun b=>cond ((b != 0)) (some b) (ag (nc u0) fun g=>some g))))))
theorem x4 {ro:Addr->Option Value}(u0:aj){s1 a b c:Value}(d:bN ro u0 s1 a b c){r:Int}(h:fZ u0=some r):aD Tryz.prog 28 #[bv u0 s1 a b c] ⟨ro,[]⟩ (fun v _=>v= .int .i64 r):=by
 unfold fZ at h;refine aD.go Tryz.func28 rfl Tryz.ntmps28 Tryz.results28 (by simp) fun main J hJ A e hd hs=>?_;have f:=hs 0;clear hs;refine ah hJ ?_;simp only[*,go_sem];refine ay fun E G g=>?_;try simp only[au] at g
 refine af hJ (ah hJ ?_);revert h;refine bS fun H i h=>?_;simp only[*,go_sem];refine aU hJ _ (hH u0.bH 2 60 i) (aJ ?_);revert h;refine cS (fun j h=>?_) fun j h=>?_
 .obtain rfl:=sI h;simp only[*,go_sem];refine b8 hJ ?_;refine ah hJ ?_;simp only[*,go_sem];refine ax ?_;simp only[*,go_sem]
 revert h;refine bS fun I k h=>?_;simp only[*,go_sem];refine aU hJ _ (hH u0.bM 0 60 k) (aJ ?_);revert h;refine cS (fun l h=>?_) fun l h=>?_
 .obtain rfl:=sI h;simp only[*,go_sem];refine b8 hJ ?_;refine ah hJ ?_;simp only[*,go_sem];refine ax ?_;simp only[*,go_sem]
 revert h;refine bS fun K m h=>?_;simp only[*,go_sem];refine aU hJ _ (hH u0.aV.den 1 20 m) (aJ ?_);revert h;refine cS (fun n h=>?_) fun n h=>?_
 .obtain rfl:=sI h;simp only[*,go_sem];refine b8 hJ ?_;refine ah hJ ?_;simp only[*,go_sem];refine ax ?_;simp only[*,go_sem]
 revert h;refine bS fun L o h=>?_;simp only[*,go_sem];refine aU hJ _ (hH u0.aV.num 0 20 o) (aJ ?_);simp only[*,go_sem];revert h;refine aT hJ (fun p h=>?_) fun p h=>?_
 .obtain rfl:=sI h;refine ah hJ ?_;simp only[*,go_sem];refine ax ?_;simp only[*,go_sem]
 refine aI hJ (af hJ ?_);refine af hJ ?_;refine cP hJ mixed 10 1 (by simp only[*,go_sem]) (by kernel_rfl) ?_;revert h;refine bS fun M q h=>?_;simp only[*,go_sem];refine ⟨_,bD hJ fun F N=>Ie u0.aV.num u0.aV.den q,cn ?_⟩;simp only[*,go_sem];revert h;refine aT hJ (fun s h=>?_) fun s h=>?_
 .obtain rfl:=sI h;refine af hJ ?_;refine eY [1,2] fun O t u w=>?_;simp only[*,go_sem] at t u w;clear e hd f;refine ak hJ ?_;simp only[*,go_sem];refine ax ?_;simp only[*,go_sem]
 refine aI hJ (af hJ ?_);refine af hJ ?_;refine eY [1,2] fun P x y z=>?_;simp only[*,go_sem] at x y z;clear e hd f;refine ak hJ ?_;revert h;refine bS fun Q B h=>?_;simp only[*,go_sem];refine aU hJ _ (Im u0 (d.mono aN) B) (aJ ?_);simp only[*,go_sem];refine ah hJ ?_;simp only[*,go_sem];revert h;refine aT hJ (fun C h=>?_) fun C h=>?_
 .obtain rfl:=sI h;refine ah hJ ?_;simp only[*,go_sem];refine ax ?_;simp only[*,go_sem]
 refine aI hJ (af hJ ?_);refine ak hJ ?_;revert h;refine bS fun R D h=>?_;obtain rfl:=sI h;simp only[*,go_sem];refine aU hJ _ (Io u0 (d.mono aN) D) (aJ ?_);simp only[*,go_sem];refine ax ?_;simp only[*,go_sem]
theorem Ip:Tryz.prog.underlying 3=some (.int .i64):=by kernel_rfl
theorem Iq:Tryz.prog.underlying 5=some (.int .u8):=by kernel_rfl
attribute [go_sem] Ip Iq
def oE (u0:aj):Option Bool:=
 ag (m5 u0) fun a=>cond (!a) (ag (fZ u0) fun b=>some (b==0)) (some false)
theorem Ir {ro:Addr->Option Value}(u0:aj){s1 b c d:Value}(a:bN ro u0 s1 b c d){r:Bool}(h:oE u0=some r):aD Tryz.prog 18 #[bv u0 s1 b c d] ⟨ro,[]⟩ (fun v _=>v= .bool r):=by
 obtain ⟨d3,c4,rfl,k,l,-⟩:=id a.e;obtain ⟨d10,m,rfl,n,o,-⟩:=id a.p;obtain ⟨d17,q,rfl,s,u,-⟩:=id a.y;obtain ⟨d24,w,rfl,x,z,-⟩:=id a.t;unfold oE at h;refine aD.go Tryz.func18 rfl Tryz.ntmps18 Tryz.results18 (by simp) fun main J hJ A B hd hs=>?_;have C:=hs 0;clear hs;refine ah hJ ?_;simp only[*,go_sem];refine ay fun D E f=>?_;try simp only[au] at f
 refine ah hJ ?_;revert h;refine bS fun F g h=>?_;simp only[*,go_sem];refine aU hJ _ (Ii u0 (a.mono aN) g) (aJ ?_);revert h;refine cS (fun i h=>?_) fun i h=>?_
 .revert h;refine bS fun G j h=>?_;obtain rfl:=sI h;simp only[*,go_sem];refine aU hJ _ (x4 u0 (a.mono aN) j) (aJ ?_);simp only[*,go_sem];refine ax ?_;simp only[*,go_sem]
 obtain rfl:=sI h;simp only[*,go_sem];refine ax ?_;simp only[*,go_sem]
def qJ (u0:(List Int))(a:Int)(st:(Bool×Int)):Option (Fl (Bool×Int) Bool):=
 cond (decide (st.2<(u0.length:Int))) (ag (bf u0 st.2) fun b=>cond ((b==a)) (some (.rt true)) (some (.nx (st.1,(IntKind.i64.wrap (st.2+1)))))) (some (.bk (st.1,st.2)))
def qK (u0:(List Int))(a:Int):Option Bool:=
 ag (aZ (qJ u0 a) fu (false,0)) fun o=>aF o (fun b=>some false) (fun _ _=>none) (fun r=>some r)
theorem It {ro:Addr->Option Value}(u0:(List Int)){s1:Value}(g:aA rI ro s1 u0)(e:Int){r:Bool}(h:qK u0 e=some r):aD Tryz.prog 54 #[s1,.int .i64 e] ⟨ro,[]⟩ (fun v _=>v= .bool r):=by
 obtain ⟨d3,c4,rfl,F,G,-⟩:=id g;unfold qK at h;refine aD.go Tryz.func54 rfl Tryz.ntmps54 Tryz.results54 (by simp) fun main J hJ A o hd hs=>?_;have p:=hs 0;have k1:=hs 1;clear hs;refine ah hJ ?_;simp only[*,go_sem];refine af hJ (ah hJ ?_);simp only[*,go_sem];refine aO hJ ?_;revert h;refine bS fun q b i=>?_;refine bU hJ (rg 4 14 []) (fun m j F'=>∃(c:Bool) (d:Int),aZ (qJ u0 e) m (c,d)=some q/\F'=⟨ro,[]⟩/\slot j 4= .bool c/\slot j 5= .int .i64 d) fu ?_ ?_
 .refine ⟨false,0,b,rfl,?_⟩;simp only[*,go_sem]
 rintro f H F' k ⟨c,d,b,rfl,I,K⟩;obtain ⟨s,t,u⟩:=k.pick [0,1] (by decide);simp only[*,go_sem] at s t u;clear k o hd p k1;obtain _|f:=f
 .exact absurd b (by simp only[aZ,reduceCtorEq,not_false_eq_true])
 revert b;refine bS fun L h a=>?_;unfold qJ at h;try dsimp only at h
 refine af hJ (ah hJ ?_);simp only[*,go_sem];revert h;refine aT hJ (fun w h=>?_) fun w h=>?_
 .refine aI hJ (af hJ ?_);refine aO hJ (af hJ ?_);refine ak hJ ?_;revert h;refine bS fun x y h=>?_;obtain ⟨M,N,l⟩:=cG y;obtain ⟨O,z,B,C,n⟩:=g.el _ _ l;obtain rfl:z=[.int .i64 x]:=C;cases B;have D:=n 0 _ rfl;simp only[go_sem] at D;clear n l;simp only[*,go_sem];revert h;refine aT hJ (fun E h=>?_) fun E h=>?_
  .obtain rfl:=sI h;refine ah hJ ?_;simp only[*,go_sem];obtain rfl:=sI a;clear a;have h:=i;dsimp only[aF] at h;obtain rfl:=sI h;refine ax ?_;simp only[*,go_sem]
  obtain rfl:=sI h;refine aI hJ (ak hJ ?_);simp only[*,go_sem];refine ⟨f,Nat.lt_succ_self _,_,Le.sub (List.Sublist.refl _),c,(IntKind.i64.wrap (d+1)),a,rfl,?_⟩;simp only[*,go_sem]
 obtain rfl:=sI h;refine bO ?_;simp only[go_sem];obtain rfl:=sI a;clear a;have h:=i;dsimp only[aF] at h;obtain rfl:=sI h;refine ah hJ ?_;simp only[*,go_sem];refine ax ?_;simp only[*,go_sem]
def oF (u0:(List Int))(a:(List Int))(st:(Bool×Int)):Option (Fl (Bool×Int) Bool):=
 cond (decide (st.2<(u0.length:Int))) (ag (bf u0 st.2) fun b=>ag (qK a b) fun c=>cond (!c) (some (.rt false)) (some (.nx (st.1,(IntKind.i64.wrap (st.2+1)))))) (some (.bk (st.1,st.2)))
def qL (u0:(List Int))(a:(List Int)):Option Bool:=
 ag (aZ (oF u0 a) fu (false,0)) fun o=>aF o (fun b=>some true) (fun _ _=>none) (fun r=>some r)
theorem Iu {ro:Addr->Option Value}(u0:(List Int)){s1:Value}(g:aA rI ro s1 u0)(b:(List Int)){i:Value}(q:aA rI ro i b){r:Bool}(h:qL u0 b=some r):aD Tryz.prog 100 #[s1,i] ⟨ro,[]⟩ (fun v _=>v= .bool r):=by
 obtain ⟨d3,c4,rfl,I,K,-⟩:=id g;unfold qL at h;refine aD.go Tryz.func100 rfl Tryz.ntmps100 Tryz.results100 (by simp) fun main J hJ A s hd hs=>?_;have t:=hs 0;have k1:=hs 1;clear hs;refine ah hJ ?_;simp only[*,go_sem];refine af hJ (ah hJ ?_);simp only[*,go_sem];refine aO hJ ?_;revert h;refine bS fun u c j=>?_;refine bU hJ (rg 4 15 []) (fun m k F'=>∃(d:Bool) (e:Int),aZ (oF u0 b) m (d,e)=some u/\F'=⟨ro,[]⟩/\slot k 4= .bool d/\slot k 5= .int .i64 e) fu ?_ ?_
 .refine ⟨false,0,c,rfl,?_⟩;simp only[*,go_sem]
 rintro f L F' l ⟨d,e,c,rfl,M,N⟩;obtain ⟨w,x,y⟩:=l.pick [0,1] (by decide);simp only[*,go_sem] at w x y;clear l s hd t k1;obtain _|f:=f
 .exact absurd c (by simp only[aZ,reduceCtorEq,not_false_eq_true])
 revert c;refine bS fun O h a=>?_;unfold oF at h;try dsimp only at h
 refine af hJ (ah hJ ?_);simp only[*,go_sem];revert h;refine aT hJ (fun z h=>?_) fun z h=>?_
 .refine aI hJ (af hJ ?_);refine aO hJ (af hJ ?_);refine ak hJ ?_;revert h;refine bS fun n B h=>?_;obtain ⟨P,Q,o⟩:=cG B;obtain ⟨R,C,D,E,p⟩:=g.el _ _ o;obtain rfl:C=[.int .i64 n]:=E;cases D;have F:=p 0 _ rfl;simp only[go_sem] at F;clear p o;revert h;refine bS fun S G h=>?_;simp only[*,go_sem];refine aU hJ _ (It b (q.mono aN) n G) (aJ ?_);simp only[*,go_sem];revert h;refine aT hJ (fun H h=>?_) fun H h=>?_
  .obtain rfl:=sI h;refine ah hJ ?_;simp only[*,go_sem];obtain rfl:=sI a;clear a;have h:=j;dsimp only[aF] at h;obtain rfl:=sI h;refine ax ?_;simp only[*,go_sem]
  obtain rfl:=sI h;refine aI hJ (ak hJ ?_);simp only[*,go_sem];refine ⟨f,Nat.lt_succ_self _,_,Le.sub (List.Sublist.refl _),d,(IntKind.i64.wrap (e+1)),a,rfl,?_⟩;simp only[*,go_sem]
 obtain rfl:=sI h;refine bO ?_;simp only[go_sem];obtain rfl:=sI a;clear a;have h:=j;dsimp only[aF] at h;obtain rfl:=sI h;refine ah hJ ?_;simp only[*,go_sem];refine ax ?_;simp only[*,go_sem]
def oG (u0:an)(a:an)(b:an):Option Bool:=
 cond (decide (0<u0.den)) (cond (decide (0<a.den)) (cond (decide (0<b.den)) (ag (fN u0 a) fun c=>cond (!c) (ag (fN b u0) fun d=>some (!d)) (some false)) (some false)) (some false)) (some false)
theorem BP {ro:Addr->Option Value}(u0:an)(a:an)(b:an){r:Bool}(h:oG u0 a b=some r):aD Tryz.prog 55 #[.agg #[.int .i64 u0.num,.int .i64 u0.den],.agg #[.int .i64 a.num,.int .i64 a.den],.agg #[.int .i64 b.num,.int .i64 b.den]] ⟨ro,[]⟩ (fun v _=>v= .bool r):=by
 unfold oG at h;refine aD.go Tryz.func55 rfl Tryz.ntmps55 Tryz.results55 (by simp) fun main J hJ A j hd hs=>?_;have k:=hs 0;have k1:=hs 1;have l:=hs 2;clear hs;refine ah hJ ?_;simp only[*,go_sem];refine ay fun m r1 n1=>?_;try simp only[au] at n1
 refine ay fun b2 r2 n2=>?_;try simp only[au] at n2
 refine ay fun b3 r3 n3=>?_;try simp only[au] at n3
 refine ah hJ ?_;revert h;refine cS (fun c h=>?_) fun c h=>?_
 .revert h;refine cS (fun d h=>?_) fun d h=>?_
  .revert h;refine cS (fun e h=>?_) fun e h=>?_
   .revert h;refine bS fun n f h=>?_;simp only[*,go_sem];refine aU hJ _ (oC u0 a f) (aJ ?_);revert h;refine cS (fun g h=>?_) fun g h=>?_
    .revert h;refine bS fun o i h=>?_;obtain rfl:=sI h;simp only[*,go_sem];refine aU hJ _ (oC b u0 i) (aJ ?_);simp only[*,go_sem];refine ax ?_;simp only[*,go_sem]
    obtain rfl:=sI h;simp only[*,go_sem];refine ax ?_;simp only[*,go_sem]
   obtain rfl:=sI h;simp only[*,go_sem];refine ax ?_;simp only[*,go_sem]
  obtain rfl:=sI h;simp only[*,go_sem];refine ax ?_;simp only[*,go_sem]
 obtain rfl:=sI h;simp only[*,go_sem];refine ax ?_;simp only[*,go_sem]
end Go.Proofs.YtghbphimkgamkaaGreatDoor
end

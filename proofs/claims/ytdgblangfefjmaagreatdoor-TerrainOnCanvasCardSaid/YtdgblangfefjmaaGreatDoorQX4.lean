/- A part of the proof: QX4. -/
import Derived.Test.YtdgblangfefjmaaGreatDoorQX3
set_option linter.all false
section
namespace Go.Proofs.YtdgblangfefjmaaGreatDoor
open Go Go.Sep Go.Proofs
set_option maxRecDepth 100000
set_option maxHeartbeats 4000000
def jH (x:List Int)(j:Nat):Bool:=j==0||x.getD j 0 != x.getD (j - 1) 0
def gv (x:List Int):Nat->List Int
 |0=>[]
 |n+1=>gv x n++cond (jH x n) [x.getD n 0] []
theorem rQ (x:List Int):∀n,n<=x.length->(∀j,j<n->jH x j=true)->gv x n=x.take n
 |0,_,_=>by simp[gv]
 |n+1,b,h=>by
  unfold gv
  rw[rQ x n aa (fun j c=>h j aa),h n aa,List.take_succ]
  congr 1
  have a:n<x.length:=aa
  simp[a]
theorem Ag (x:List Int){j:Nat}(h:j<1):jH x j=true:=by
 obtain rfl:j=0:=aa;rfl
def vT (u0:List Int):Option (List Int):=cond (List.isEmpty u0) none (some (gv u0 u0.length))
theorem Fs {ro:Addr->Option Value}(u0:List Int){Q:Value}{bh:List (Nat×Obj)}(hg:aZ rI ro 3 Q u0 bh){r:List Int}(h:vT u0=some r):
  aA Tryz.prog 141 #[Q] ⟨ro,bh⟩ (fun v G=>∃R,aZ rI ro 3 v r R/\Le ⟨ro,R⟩ G):=by
 obtain ⟨ad,cap,rfl,le⟩:=hg.len
 unfold vT at h
 have a8:=gJ h;clear h;rcases a8 with ⟨S,h⟩|⟨S,h⟩
 .cases h
 obtain ⟨b,F,rfl,rfl,cy⟩:=hg.iy S
 cases h
 have cS:u0.length<=1000000:=by obtain ⟨_,_,_,h,_⟩:=hg;exact h
 have c0:Tryz.prog.underlying 3=some (.int .i64):=ai
 refine aA.go Tryz.func141 rfl Tryz.ntmps141 Tryz.results141 av fun main J hJ A a9 hd hs=>?_
 have ba:=hs 0
 clear hs
 repeat refine ah hJ ?_
 refine aG hJ ?_
 apply ag _
 repeat refine ah hJ ?_
 refine aG hJ ?_
 apply ag _
 repeat refine ah hJ ?_
 by_cases da:u0.length<2
 .refine c5 hJ (by simp only[*,go_sem];simp;omega) ?_
  repeat refine ah hJ ?_
  refine aG hJ ?_
  apply ag _
  refine aJ ?_
  apply ag _
  have e:gv u0 u0.length=u0:=by
   rw[rQ u0 _ (Nat.le_refl _) (fun j c=>Ag u0 aa),List.take_length]
  rw[e]
  exact ⟨_,hg,Le.refl _⟩
 refine cW hJ (by simp only[*,go_sem];simp;omega) ?_
 refine aK hJ ?_
 repeat refine ah hJ ?_
 refine aG hJ ?_
 apply ag _
 repeat refine ah hJ ?_
 refine aW hJ ?_
 refine b7 hJ [3,4,5,10,11,12,13,14,15,16,17,18,19,20,21,22,23,24,25,26,27,28,29,30,31,32,33,34,35,36,37,38,39,40,41,42,43,44,45,46,47,48,49,50,51,52,53,54,55,56,57,58,59] (fun m u F'=>∃k:Nat,1<=k/\k<=u0.length/\u0.length - k<=m/\F'=⟨ro,[(b,Obj.cells F 3)]⟩/\slot u 3= .int .i64 (k:Int)/\∀j,j<k->jH u0 j=true) u0.length ?_ ?_
 .refine ⟨1,Nat.le_refl _,aa,aa,rfl,?_,fun j c=>Ag u0 c⟩
  apply ag _
  rfl
 .rintro bb g F' B ⟨k,db,T,dd,rfl,bc,H⟩
  have bd:sz g=61:=by rw[B.size];simp only[*,go_sem]
  have bj:g.defers=[]:=by rw[B.defers];simp only[*,go_sem]
  have bk:slot g 0= .slice (some ⟨b,0,none⟩) u0.length cap:=by rw[B.fD 0 aO];simp only[*,go_sem]
  clear B a9 hd ba
  repeat refine ah hJ ?_
  repeat refine ah hJ ?_
  refine aG hJ ?_
  apply ag _
  by_cases U:k<u0.length
  .have hb:decide (((k:Nat):Int)<(u0.length:Int))=true:=decide_eq_true aa
   refine c5 hJ aI ?_
   refine aK hJ ?_
   repeat refine ah hJ ?_
   refine aW hJ ?_
   repeat refine ah hJ ?_
   obtain ⟨p,rfl⟩:∃p,k=p+1:=⟨k - 1,aa⟩
   have hw:IntKind.i64.wrap (((p+1:Nat):Int) - 1)=(p:Int):=by rw[IntWalk.i64_in _ ⟨aa,aa⟩];omega
   refine eg hJ mixed 9 ⟨ro,[(b,Obj.cells F 3)]⟩ aI ai ?_
   obtain ⟨l,V⟩:∃x,u0[p+1]?=some x:=⟨u0[p+1],by simp[U]⟩
   obtain ⟨I,K,L⟩:=hg.iX V
   obtain rfl:I=[.int .i64 l]:=K
   have W:=L 0 _ rfl
   simp only[go_sem] at W
   have df:=(Array.getElem?_eq_some_iff.1 W).1
   obtain ⟨o,X⟩:∃x,u0[p]?=some x:=⟨u0[p],by simp[Nat.lt_of_succ_lt U]⟩
   obtain ⟨M,N,O⟩:=hg.iX X
   obtain rfl:M=[.int .i64 o]:=N
   have Y:=O 0 _ rfl
   simp only[go_sem] at Y
   have dk:=(Array.getElem?_eq_some_iff.1 Y).1
   have dp:¬((p+1:Nat):Int)<0:=aa
   have b2:((p+1:Nat):Int)<(u0.length:Int):=aa
   have b3:¬(p:Int)<0:=aa
   have b4:(p:Int)<(u0.length:Int):=aa
   have b5:(0:Int)<=((p+1:Nat):Int):=aa
   have dq:(0:Int)<=(p:Int):=aa
   apply ag _
   have bl:u0.getD (p+1) 0=l:=by rw[List.getD_eq_getElem?_getD,V];rfl
   have bm:u0.getD p 0=o:=by rw[List.getD_eq_getElem?_getD,X];rfl
   have Z:jH u0 (p+1)=(l != o):=by unfold jH;rw[bl,Nat.add_sub_cancel,bm];simp
   clear L O
   by_cases P:l=o
   .subst P
    refine c5 hJ (by simp only[*,go_sem,beq_self_eq_true]) ?_
    repeat refine ah hJ ?_
    refine aG hJ ?_
    have ds:p+1<=u0.length:=T
    have dt:p+1<=cap:=aa
    have du:((p+1:Nat):Int)<=(u0.length:Int):=aa
    have dv:u0.length<=cap:=le
    have dC:¬cap=p+1:=aa
    apply ag _
    have bo:slot g 4=slot g 4:=rfl
    repeat refine ah hJ ?_
    refine aG hJ ?_
    apply ag _
    repeat refine ah hJ ?_
    refine aW hJ ?_
    have e0:gv u0 (p+2)=u0.take (p+1):=by
     show gv u0 (p+1)++cond (jH u0 (p+1)) _ _=_
     rw[Z,rQ u0 _ T H];simp
    refine b7 hJ [3,5,29,30,31,32,33,34,35,36,37,38,39,40,41,42,43,44,45,46,47,48,49,50,51,52,53] (fun br u F'=>∃(m w:Nat) (arr:Array Value) (x:List Int),1<=m/\m<=u0.length - (p+1)/\u0.length - (p+1) - m<=br/\F'=⟨ro,[(b,Obj.cells arr 3)]⟩/\slot u 5= .int .i64 (m:Int)/\slot u 3= .int .i64 (w:Int)/\
     aZ rI ro 3 (.slice (some ⟨b,0,none⟩) u0.length cap) x [(b,.cells arr 3)]/\x.length=u0.length/\(gv u0 (p+(1+m))).length=w/\w<=p+m/\x.take w=gv u0 (p+(1+m))/\∀j,p+m<=j->x[j]?=u0[j]?) u0.length ?_ ?_
    .refine ⟨1,p+1,F,u0,Nat.le_refl _,aa,aa,rfl,?_,?_,hg,rfl,?_,Nat.le_refl _,e0.symm,fun _ _=>rfl⟩
     .apply ag _;rfl
     .simp only[*,go_sem]
     .show (gv u0 (p+2)).length=p+1
      rw[e0,List.length_take];omega
    .rintro ab C F' s ⟨m,w,arr,x,L,O,dE,rfl,dT,ea,d,ae,t,eb,D,E⟩
     have ec:sz C=61:=by rw[s.size];simp only[*,go_sem]
     have ed:C.defers=[]:=by rw[s.defers];simp only[*,go_sem]
     have eh:slot C 0= .slice (some ⟨b,0,none⟩) u0.length cap:=by rw[s.fD 0 aO];simp only[*,go_sem]
     have et:slot C 4= .slice (some ⟨b,p+1,none⟩) (u0.length - (p+1)) (cap - (p+1)):=by rw[s.fD 4 aO];simp only[*,go_sem]
     clear s bd bj bk bc bo
     repeat refine ah hJ ?_
     refine aG hJ ?_
     apply ag _
     by_cases ev:m<u0.length - (p+1)
     .have bs:decide (((m:Nat):Int)<((u0.length - (p+1):Nat):Int))=true:=decide_eq_true aa
      refine c5 hJ aI ?_
      refine aK hJ ?_
      repeat refine ah hJ ?_
      refine aW hJ ?_
      repeat refine ah hJ ?_
      obtain ⟨q,rfl⟩:∃q,m=q+1:=⟨m - 1,aa⟩
      have eQ:IntKind.i64.wrap (((q+1:Nat):Int) - 1)=(q:Int):=by rw[IntWalk.i64_in _ ⟨aa,aa⟩];omega
      refine eg hJ mixed 9 ⟨ro,[(b,Obj.cells arr 3)]⟩ aI ai ?_
      obtain ⟨a,al⟩:∃y,u0[p+(1+(q+1))]?=some y:=⟨u0[p+(1+(q+1))]'aa,List.getElem?_eq_getElem _⟩
      obtain ⟨I,K,ao⟩:=d.iX ((E _ aa).trans al)
      obtain rfl:I=[.int .i64 a]:=K
      have ar:=ao 0 _ rfl
      simp only[go_sem] at ar
      have eS:=(Array.getElem?_eq_some_iff.1 ar).1
      obtain ⟨f,a0⟩:∃y,u0[p+(1+q)]?=some y:=⟨u0[p+(1+q)]'aa,List.getElem?_eq_getElem _⟩
      obtain ⟨M,N,a2⟩:=d.iX ((E _ aa).trans a0)
      obtain rfl:M=[.int .i64 f]:=N
      have a3:=a2 0 _ rfl
      simp only[go_sem] at a3
      have e2:=(Array.getElem?_eq_some_iff.1 a3).1
      have c1:¬((q+1:Nat):Int)<0:=aa
      have c2:((q+1:Nat):Int)<((u0.length - (p+1):Nat):Int):=aa
      have c3:¬(q:Int)<0:=aa
      have c4:(q:Int)<((u0.length - (p+1):Nat):Int):=aa
      have e3:(0:Int)<=((q+1:Nat):Int):=aa
      have fa:(0:Int)<=(q:Int):=aa
      apply ag _
      have a4:u0.getD (p+(1+(q+1))) 0=a:=by rw[List.getD_eq_getElem?_getD,al];rfl
      have bz:u0.getD (p+(1+q)) 0=f:=by rw[List.getD_eq_getElem?_getD,a0];rfl
      have bS:jH u0 (p+(1+(q+1)))=(a != f):=by
       unfold jH
       have b0:p+(1+(q+1)) - 1=p+(1+q):=aa
       rw[b0,a4,bz]
       have:(p+(1+(q+1))==0)=false:=av
       rw[this,Bool.false_or]
      have e1:gv u0 (p+(1+(q+1+1)))=gv u0 (p+(1+(q+1)))++cond (a != f) [a] []:=by
       show gv u0 (p+(1+(q+1)))++cond (jH u0 (p+(1+(q+1)))) [u0.getD (p+(1+(q+1))) 0] []=_
       rw[bS,a4]
      have fb:IntKind.i64.wrap (((q+1:Nat):Int)+1)=((q+1+1:Nat):Int):=by rw[IntWalk.i64_in _ ⟨aa,aa⟩];omega
      clear ao a2 t
      have t:(gv u0 (p+(1+(q+1)))).length=w:=by rw[<-D,List.length_take];omega
      by_cases a5:a=f
      .subst a5
       simp only[bne_self_eq_false,cond_false,List.append_nil] at e1
       refine cW hJ (by simp only[*,go_sem,bne_self_eq_false]) ?_
       refine aK hJ ?_
       refine aG hJ ?_
       apply ag _
       refine ⟨ab - 1,aa,_,Le.refl _,q+1+1,w,arr,x,aa,aa,aa,rfl,?_,?_,d,ae,by rw[e1];exact t,aa,by rw[e1];exact D,fun j c=>E j aa⟩
       .simp only[*,go_sem]
       .simp only[*,go_sem]
      .have b1:(a != f)=true:=by simpa using a5
       rw[b1] at e1
       simp only[cond_true] at e1
       refine c5 hJ aI ?_
       repeat refine ah hJ ?_
       refine aG hJ ?_
       have d1:(w:Int)<(u0.length:Int):=aa
       have d2:¬(w:Int)<0:=aa
       have d3:(0:Int)<=(w:Int):=aa
       have fg:w<arr.size:=aa
       apply ag _
       have ca:aZ rI ro 3 (.slice (some ⟨b,0,none⟩) u0.length cap) (x.set w a) [(b,Obj.cells (cU arr w [.int .i64 a]) 3)]:=by
        have cb:=d.qL (i:=w) (y:=a) aa (cs:=[.int .i64 a]) rfl
        simpa only[qS,Nat.mul_one,Nat.add_zero] using cb
       have fi:IntKind.i64.wrap ((w:Int)+1)=((w+1:Nat):Int):=by rw[IntWalk.i64_in _ ⟨aa,aa⟩];omega
       refine aG hJ ?_
       apply ag _
       refine aG hJ ?_
       apply ag _
       refine ⟨ab - 1,aa,_,Le.refl _,q+1+1,w+1,_,x.set w a,aa,aa,aa,rfl,?_,?_,ca,by rw[List.length_set];exact ae,?_,aa,?_,fun j c=>?_⟩
       .simp only[*,go_sem]
       .simp only[*,go_sem]
       .rw[e1,List.length_append,t];rfl
       .rw[e1,<-D,List.take_succ,List.take_set_of_le (Nat.le_refl _),List.getElem?_set_self aa];rfl
       .rw[List.getElem?_set_ne aa];exact E j aa
     .have bs:decide (((m:Nat):Int)<((u0.length - (p+1):Nat):Int))=false:=decide_eq_false aa
      refine cW hJ aI ?_
      refine bT ?_
      simp only[go_sem]
      have a6:p+(1+m)=u0.length:=aa
      rw[a6] at t
      have d1:(w:Int)<=(u0.length:Int):=aa
      have d2:¬(w:Int)<0:=aa
      have d3:(0:Int)<=(w:Int):=aa
      have d4:w<=u0.length:=aa
      have d5:w<=cap:=aa
      have d6:¬cap=w:=aa
      have d7:(0:Int)<=(w:Int):=aa
      have d8:(w:Int)<=(cap:Int):=aa
      have cd:w+(u0.length - w)<=arr.size:=by
       obtain ⟨ls,cf,fp,-⟩:=id d
       rcases cf with ⟨a7,_,_⟩|⟨fr,fs,ft,a7,cl,hs,hle,_⟩
       .cases a7
       .cases cl
        have:rI.n=1:=rfl
        rw[this,Nat.mul_one] at hs
        omega
      repeat refine ah hJ ?_
      refine aG hJ ?_
      simp only[*,go_sem,ite_false,if_false]
      refine DW (pre:=[]) (bw:=[]) (z:=.int .i64 0) (zc:=.int .i64 0) rfl (by kernel_rfl:Tryz.prog.underlying 60=some (.slice 3)) ai rfl rfl aa (by simp[au]) cd ?_
      dsimp only[List.nil_append]
      repeat refine ah hJ ?_
      refine aG hJ ?_
      apply ag _
      refine aJ ?_
      apply ag _
      refine ⟨_,?_,Le.refl _⟩
      have:=d.clear (k:=w) aa
      rw[D,a6] at this
      simpa only[ite_self,Nat.sub_zero] using this
   .have fu:(l==o)=false:=by simpa using P
    refine cW hJ aI ?_
    refine aK hJ ?_
    refine aG hJ ?_
    have fv:IntKind.i64.wrap (((p+1:Nat):Int)+1)=((p+2:Nat):Int):=by rw[IntWalk.i64_in _ ⟨aa,aa⟩];omega
    apply ag _
    refine ⟨bb - 1,aa,_,Le.refl _,p+2,aa,aa,aa,rfl,aI,fun j c=>?_⟩
    rcases Nat.lt_succ_iff_lt_or_eq.1 c with c|rfl
    .exact H j c
    .rw[Z];simpa using P
  .have hb:decide (((k:Nat):Int)<(u0.length:Int))=false:=decide_eq_false aa
   refine cW hJ aI ?_
   refine bT ?_
   simp only[go_sem]
   repeat refine ah hJ ?_
   refine aG hJ ?_
   apply ag _
   refine aJ ?_
   apply ag _
   obtain rfl:k=u0.length:=aa
   rw[rQ u0 _ (Nat.le_refl _) H,List.take_length]
   exact ⟨_,hg,Le.refl _⟩
def vU (n:Int):Option (List Int):=if 0<=n/\n<=1000 then some [] else none
theorem Ft {ro:Addr->Option Value}{R:Value->af->Prop}{n:Nat}(o:0<n)(p:n<=1000){own:List (Nat×Obj)}
  (h:∀(k b:Nat) (arr:Array Value),n<=k->arr.size=k->ez ⟨ro,own⟩ b->R (.slice (some ⟨b,0,none⟩) n k) ⟨ro,(b,.cells arr 3)::own⟩):
  lT Tryz.prog #[60,3] (.slice none 0 0) (.int .i64 (n:Int)) R ⟨ro,own⟩:=by
 intro ty
 have c:Tryz.prog.underlying 60=some (.slice 3):=ai
 have d:Tryz.prog.underlying 3=some (.int .i64):=ai
 have e:bZ Tryz.prog 3=some 1:=ai
 have f:zeroOf Tryz.prog 3=some (.int .i64 0):=ai
 obtain ⟨info,g,i⟩:∃info,Tryz.prog.info? 3=some info/\info.bytes=8:=⟨_,rfl,ai⟩
 have w1:IntKind.i64.wrap (n:Int)=(n:Int):=IntWalk.i64_in _ ⟨aa,aa⟩
 have c1:¬(n:Int)<0:=aa
 have c2:¬(n:Int)*(8:Nat)>2 ^ 48:=aa
 have c3:¬0+n<=0:=aa
 simp only[Builtin.append_,List.getElem?_toArray,List.getElem?_cons_zero,List.getElem?_cons_succ,bF,dO,c,d,eY,e,bP,yH,if_true,dH,w1,if_neg c1,ow,g,i]
 rw[if_neg c2]
 simp only[Int.toNat_natCast,Nat.zero_add,Bool.not_true,Bool.false_eq_true,if_false]
 have c4:¬n<=0:=aa
 have j:¬((n:Int)>IntKind.i64.max/\(True\/8=0)):=by
  have:IntKind.i64.max=9223372036854775807:=aO
  rw[this];omega
 have l:¬Builtin.nextslicecap n 0*8>2 ^ 48:=by
  unfold Builtin.nextslicecap
  rw[if_pos aa]
  omega
 have m:¬n*1=0:=aa
 rw[if_neg c4,if_neg j,if_neg l]
 rw[tu]
 rw[if_neg (by simp[Question.forced])]
 intro t
 have a:n<=(Question.appendCap n 0 3).cut t:=Nat.le_add_right _ _
 generalize (Question.appendCap n 0 3).cut t=k at a ⊢
 refine tL _ ?_
 simp only[Builtin.firstCells,bP,if_neg m,lK,f,ql,bF]
 intro b hb
 refine ⟨_,Le.refl _,h k b _ a ?_ hb⟩
 simp only[Array.size_append,Builtin.zeroCells,Array.size_map,Array.size_range,Value.cells]
 simp
 omega
theorem Fu {ro:Addr->Option Value}(n:Int){x:List Int}(h:vU n=some x):aA Tryz.prog 143 #[.slice none 0 0,.int .i64 n] ⟨ro,[]⟩ (fun v G=>∃c,aZ rI ro 3 v x c/\Le ⟨ro,c⟩ G):=by
 unfold vU at h;split at h
 case isFalse=>cases h
 rename_i g;obtain rfl:=Option.some.inj h;obtain ⟨n,rfl⟩:∃m:Nat,n=m:=⟨n.toNat,aa⟩
 refine aA.go Tryz.func143 rfl Tryz.ntmps143 Tryz.results143 av fun main J hJ A j hd hs=>?_;have l:=hs 0;have k1:=hs 1;clear hs;repeat apply ah hJ
 apply aM hJ _;repeat apply ah hJ
 apply aM hJ _;repeat apply ah hJ
 have o:¬(n:Int)<0:=aa;refine cW hJ (by simp only[*,go_sem,decide_false]) ?_;apply aK hJ;repeat apply ah hJ
 apply aM hJ _;refine zV rfl (by kernel_rfl:Tryz.prog.underlying 60=some (.slice 3)) (aP ?_);have e1:IntKind.i64.wrap (((0:Nat):Int) - ((0:Nat):Int))=0:=aO;have p:IntKind.i64.wrap ((0:Int) - (0:Int))=0:=aO;have e2:IntKind.i64.wrap ((n:Int) - 0)=(n:Int):=by rw[IntWalk.i64_in _ ⟨aa,aa⟩];omega
 apply ag _;repeat apply ah hJ
 apply aM hJ _;repeat apply ah hJ
 by_cases d:0<n
 .have b2:(n:Int)>0:=aa;refine c5 hJ (by simp only[*,go_sem,decide_true]) ?_;repeat apply ah hJ
  apply aM hJ _;refine zV rfl (by kernel_rfl:Tryz.prog.underlying 60=some (.slice 3)) (aP ?_);apply ag _;try simp only[Nat.le_refl,Int.le_refl,and_self,if_true,true_and]
  refine Ft d aa fun k b arr q e hb=>aP ?_;have f:∀off sp,ro ⟨b,off,sp⟩=none:=hb.ro;have b3:(0:Int)<=(k:Int):=aa;simp only[*,go_sem,Int.le_refl,and_self,if_true,ite_self,Nat.sub_zero];repeat apply ah hJ
  apply aM hJ _;refine b9 ?_;refine ⟨[(b,.cells arr 3)],⟨[],.inr ⟨b,arr,k,rfl,rfl,?_,Nat.zero_le _,?_,fun x a=>(by cases a),f⟩,rfl,Nat.zero_le _,fun i x a=>by simp at a⟩,Le.refl _⟩
  .show arr.size=k*1;rw[e,Nat.mul_one]
  .simp
 .have b2:¬(0:Int)<(n:Int):=aa;refine cW hJ (by simp only[*,go_sem,decide_false]) ?_;apply aK hJ;repeat apply ah hJ
  apply aM hJ _;refine b9 ?_;exact ⟨[],aZ.nil _ _ _,Le.refl _⟩
def rR (u0:aC):Option (aC×Int):=
 aj (iC u0 ([]:(List (aC->Option Int)))) fun a=>cond ((a.2 != 0)) (some ((⟨0,0,(⟨0,0⟩:ay),([]:(List b8)),([]:(List c7)),([]:(List dc)),([]:(List cn))⟩:aC),a.2)) (aj (ve u0.aR) fun b=>aj (rD u0.props) fun c=>aj (rC u0.aU) fun d=>aj (rA u0.told) fun e=>some ((⟨u0.bE,u0.cD,u0.bx,b,c,d,e⟩:aC),0))
theorem vV {ro:Addr->Option Value}(a6:dy ro)(u0:aC){s1 z B C:Value}(E:bV ro u0 s1 z B C){r:(aC×Int)}(h:rR u0=some r):eT Tryz.prog 105 #[bv u0 s1 z B C] ro (fun v aT=>∃ao w1 w2 w3,v= .tuple #[bv r.1 ao w1 w2 w3,.int .i64 r.2]/\bV aT r.1 ao w1 w2 w3):=by
 unfold rR at h;have a7:=E.oc;simp only[bN] at a7;refine aA.go Tryz.func105 rfl Tryz.ntmps105 Tryz.results105 av fun main J hJ A a8 hd hs=>?_;have a9:=hs 0;clear hs;apply aD hJ _;refine az fun a F ba=>?_;try simp only[au] at ba
 refine az fun b G bb=>?_;try simp only[au] at bb
 refine ah hJ (an hJ ?_);revert h;refine bS fun c bc h=>?_;apply ag _;refine cr hJ _ (jF a6 u0 E ([]:(List (aC->Option Int))) (aB.nil _ _) bc) fun v U ae al bd=>?_;obtain ⟨d,f,g,i,j,rfl,bj,bl⟩:=bd;have bm:=bj.oc;simp only[bN] at bm;have bo:=bl.oc;simp only[bN] at bo;replace E:=E.mono ae;replace G:=al.hd;replace F:=al.tl.hd;simp only[bC] at al;apply aP;apply ag _;refine az fun k K br=>?_;try simp only[au] at br
 apply aD hJ _;revert h;refine aX hJ (fun bs h=>?_) fun bs h=>?_
 .cases h;apply aD hJ _;refine b9 ?_;exact ⟨_,ae,Le.sub (List.nil_sublist _),_,_,_,_,rfl,⟨aB.nil _ _,aB.nil _ _,aB.nil _ _,aB.nil _ _⟩⟩
 refine aK hJ (ah hJ ?_);refine aE hJ fun cS=>?_;refine e5 hJ mixed [13,14,15,16,17,18,19] (.pure 0 (.rd 1 (.pure 3 (.rd 4 (.pure 6 (.rd 7 (.pure 9 (.rd 10 (.one 2 (.pure 12 (.one 5 (.one 8 (.one 11 (.last 13 (.pure 14 (.last 15 (.pure 16 (.last 17 (.pure 18 (.last 19 .done)))))))))))))))))))) ⟨U,[(k,kn c.1 d f g i j),(b,bz 29),(a,bk u0 s1 z B C)]⟩ aI ai ?_;revert h;refine bS fun m b0 h=>?_;apply ag _;refine ei hJ (bh:=[]) [(k,kn c.1 d f g i j),(b,bz 29),(a,bk u0 s1 z B C)] [] _ (EY u0.aR E.e b0) (fun c0 L ar M N da=>?_);simp only[bn] at N;subst M;obtain ⟨d158,n,rfl,db⟩:=ar.len;refine ⟨⟨U,(k,kn c.1 d f g i j)::(b,bz 29)::(a,bk u0 s1 z B C)::L⟩,Le.refl _,?_⟩;refine ⟨aI,cm ?_⟩;revert h;refine bS fun o b1 h=>?_;apply ag _;refine ei hJ (bh:=[]) [(k,kn c.1 d f g i j),(b,bz 29),(a,bk u0 s1 z B C)] L _ (z6 u0.props E.p b1) (fun dd O V M N df=>?_);simp only[bn] at N;subst M;obtain ⟨d168,q,rfl,dk⟩:=V.len;refine ⟨⟨U,(k,kn c.1 d f g i j)::(b,bz 29)::(a,bk u0 s1 z B C)::(O++L)⟩,Le.refl _,?_⟩;refine ⟨aI,cm ?_⟩;revert h;refine bS fun s b2 h=>?_;apply ag _;refine ei hJ (bh:=[]) [(k,kn c.1 d f g i j),(b,bz 29),(a,bk u0 s1 z B C)] (O++L) _ (z5 u0.aU E.y b2) (fun dp P H M N dq=>?_);simp only[bn] at N;subst M;obtain ⟨d178,u,rfl,ds⟩:=H.len;refine ⟨⟨U,(k,kn c.1 d f g i j)::(b,bz 29)::(a,bk u0 s1 z B C)::(P++(O++L))⟩,Le.refl _,?_⟩;refine ⟨aI,cm ?_⟩;revert h;refine bS fun w b3 h=>?_;cases h;apply ag _;refine ei hJ (bh:=[]) [(k,kn c.1 d f g i j),(b,bz 29),(a,bk u0 s1 z B C)] (P++(O++L)) _ (vc u0.told E.t b3) (fun dt Q D M N du=>?_);simp only[bn] at N;subst M;obtain ⟨d188,x,rfl,dv⟩:=D.len;refine ⟨⟨U,(k,kn c.1 d f g i j)::(b,bz 29)::(a,bk u0 s1 z B C)::(Q++(P++(O++L)))⟩,Le.refl _,?_⟩;refine ⟨aI,cm ?_⟩;apply ag _;apply ah hJ;refine eU [1,2,3] fun dC b4 b5 ca=>?_;simp only[*,go_sem] at b4 b5 ca;clear a8 hd a9;refine aE hJ fun dE=>?_;apply aM hJ _;refine aE hJ fun a0=>?_;obtain ⟨dT,X,R,I,cb⟩:=ar.kS ((k,kn c.1 d f g i j)::(b,bk u0 (sl d158 m n) (sl d168 o q) (sl d178 s u) (sl d188 w x))::(a,bk u0 (sl d158 m n) (sl d168 o q) (sl d178 s u) (sl d188 w x))::(Q++(P++O))) ((k,kn c.1 d f g i j)::(b,bk u0 (sl d158 m n) (sl d168 o q) (sl d178 s u) (sl d188 w x))::(a,bk u0 (sl d158 m n) (sl d168 o q) (sl d178 s u) (sl d188 w x))::(Q++(P++O))) [] (by first|rfl|simp only[bn]|(simp only[bn];rfl)) (by first|rfl|simp only[bn]|(simp only[bn];rfl)) a0 (aF.cons K (aF.cons G (aF.cons F (aF.app D.jx (aF.app H.jx (V.jx))))));clear a0;refine cN hJ cb ?_;obtain ⟨ea,eb,-⟩:=I.op;replace K:=R.hd;replace G:=R.tl.hd;replace F:=R.tl.tl.hd;replace D:=D.mono X R.tl.tl.tl.l;replace H:=H.mono X R.tl.tl.tl.r.l;replace V:=V.mono X R.tl.tl.tl.r.r;simp only[bC] at R;refine aE hJ fun a2=>?_;obtain ⟨ec,Y,S,T,cd⟩:=V.kS ((k,kn c.1 d f g i j)::(b,bk u0 (sl d158 m n) (sl d168 o q) (sl d178 s u) (sl d188 w x))::(a,bk u0 (sl d158 m n) (sl d168 o q) (sl d178 s u) (sl d188 w x))::(Q++P)) ((k,kn c.1 d f g i j)::(b,bk u0 (sl d158 m n) (sl d168 o q) (sl d178 s u) (sl d188 w x))::(a,bk u0 (sl d158 m n) (sl d168 o q) (sl d178 s u) (sl d188 w x))::(Q++P)) [] (by first|rfl|simp only[bn]|(simp only[bn];rfl)) (by first|rfl|simp only[bn]|(simp only[bn];rfl)) a2 (aF.cons K (aF.cons G (aF.cons F (aF.app D.jx (H.jx)))));clear a2;refine cN hJ cd ?_;obtain ⟨ed,eh,-⟩:=T.op;replace I:=I.mono Y;replace K:=S.hd;replace G:=S.tl.hd;replace F:=S.tl.tl.hd;replace D:=D.mono Y S.tl.tl.tl.l;replace H:=H.mono Y S.tl.tl.tl.r;simp only[bC] at S;refine aE hJ fun a3=>?_;obtain ⟨et,Z,W,ab,cf⟩:=H.kS ((k,kn c.1 d f g i j)::(b,bk u0 (sl d158 m n) (sl d168 o q) (sl d178 s u) (sl d188 w x))::(a,bk u0 (sl d158 m n) (sl d168 o q) (sl d178 s u) (sl d188 w x))::Q) ((k,kn c.1 d f g i j)::(b,bk u0 (sl d158 m n) (sl d168 o q) (sl d178 s u) (sl d188 w x))::(a,bk u0 (sl d158 m n) (sl d168 o q) (sl d178 s u) (sl d188 w x))::Q) [] (by first|rfl|simp only[bn]|(simp only[bn];rfl)) (by first|rfl|simp only[bn]|(simp only[bn];rfl)) a3 (aF.cons K (aF.cons G (aF.cons F (D.jx))));clear a3;refine cN hJ cf ?_;obtain ⟨ev,eQ,-⟩:=ab.op;replace I:=I.mono Z;replace T:=T.mono Z;replace K:=W.hd;replace G:=W.tl.hd;replace F:=W.tl.tl.hd;replace D:=D.mono Z W.tl.tl.tl;simp only[bC] at W;refine aE hJ fun a4=>?_;obtain ⟨eS,ad,cl,a5,cy⟩:=D.kS ((k,kn c.1 d f g i j)::(b,bk u0 (sl d158 m n) (sl d168 o q) (sl d178 s u) (sl d188 w x))::(a,bk u0 (sl d158 m n) (sl d168 o q) (sl d178 s u) (sl d188 w x))::[]) [(k,kn c.1 d f g i j),(b,bk u0 (sl d158 m n) (sl d168 o q) (sl d178 s u) (sl d188 w x)),(a,bk u0 (sl d158 m n) (sl d168 o q) (sl d178 s u) (sl d188 w x))] [] (by first|rfl|simp only[bn]|(simp only[bn];rfl)) (by first|rfl|simp only[bn]|(simp only[bn];rfl)) a4 (aF.cons K (aF.cons G (aF.cons F (aF.nil _))));clear a4;refine cN hJ cy ?_;obtain ⟨e0,e1,-⟩:=a5.op;replace I:=I.mono ad;replace T:=T.mono ad;replace ab:=ab.mono ad;simp only[bC] at cl;refine b9 ?_;exact ⟨_,((((ae).trans X).trans Y).trans Z).trans ad,Le.sub (List.nil_sublist _),_,_,_,_,rfl,⟨I,T,ab,a5⟩⟩
def vW (u0:Int)(a:Int):Option Int:=
 aj (nt u0) fun c=>aj (nt a) fun b=>cond (c) (cond (b) (some 0) (some (-1))) (cond (b) (some 1) (cond (decide (u0<a)) (some (-1)) (cond (decide (a<u0)) (some 1) (some 0))))
theorem Fv {ro:Addr->Option Value}(u0:Int)(a:Int){r:Int}(h:vW u0 a=some r):aA Tryz.prog 155 #[.int .i64 u0,.int .i64 a] ⟨ro,[]⟩ (fun v _=>v= .int .i64 r):=by
 unfold vW at h;refine aA.go Tryz.func155 rfl Tryz.ntmps155 Tryz.results155 av fun main J hJ A j hd hs=>?_;have k:=hs 0;have k1:=hs 1;clear hs;apply aD hJ _;apply an hJ;revert h;refine bS fun l b h=>?_;apply ag _;refine bf hJ _ (rM u0 b) (aP ?_);apply ag _;apply an hJ;revert h;refine bS fun m c h=>?_;apply ag _;refine bf hJ _ (rM a c) (aP ?_);apply ag _;refine ah hJ (an hJ ?_);apply ag _;revert h;refine aX hJ (fun d h=>?_) fun d h=>?_
 .refine ah hJ (an hJ ?_);apply ag _;revert h;refine aX hJ (fun e h=>?_) fun e h=>?_
  .cases h;apply aD hJ _;apply aJ;simp only[*,go_sem]
  cases h;refine aK hJ (ah hJ ?_);apply aM hJ _;apply aJ;simp only[*,go_sem]
 refine aK hJ (ah hJ ?_);apply aD hJ _;revert h;refine aX hJ (fun f h=>?_) fun f h=>?_
 .cases h;apply aD hJ _;apply aJ;simp only[*,go_sem]
 refine aK hJ (ah hJ ?_);apply aD hJ _;revert h;refine aX hJ (fun g h=>?_) fun g h=>?_
 .cases h;apply aD hJ _;apply aJ;simp only[*,go_sem]
 refine aK hJ (ah hJ ?_);apply aD hJ _;revert h;refine aX hJ (fun i h=>?_) fun i h=>?_
 .cases h;apply aD hJ _;apply aJ;simp only[*,go_sem]
 cases h;refine aK hJ (ah hJ ?_);apply aM hJ _;apply aJ;simp only[*,go_sem]
def vX (a:(List Int))(i16:Nat)(c:Int)(st:Int):Option (Fl Int Int):=
 cond (decide ((a.length:Int)<=(i16:Int))) (some (.rt 1)) (aj (bH a (i16:Int)) fun d=>aj (vW c d) fun b=>cond ((b != 0)) (some (.rt b)) (some (.nx st)))
def vY (u0:(List Int))(a:(List Int)):Option Int:=
 aj (bQ (vX a) 0 u0 0) fun o=>aL o (fun b=>cond (decide ((u0.length:Int)<(a.length:Int))) (some (-1)) (some 0)) (fun _ _=>none) (fun r=>some r)
theorem Fw {ro:Addr->Option Value}(u0:(List Int)){s1:Value}(g:aB rI ro s1 u0)(d:(List Int)){i:Value}(j:aB rI ro i d){r:Int}(h:vY u0 d=some r):aA Tryz.prog 111 #[s1,i] ⟨ro,[]⟩ (fun v _=>v= .int .i64 r):=by
 obtain ⟨d3,c4,rfl,U,w,-⟩:=id g;obtain ⟨d10,V,rfl,W,X,-⟩:=id j;unfold vY at h;refine aA.go Tryz.func111 rfl Tryz.ntmps111 Tryz.results111 av fun main J hJ A y hd hs=>?_;have z:=hs 0;have k1:=hs 1;clear hs;apply aD hJ _;refine ah hJ (an hJ ?_);apply ag _;apply aW hJ;revert h;refine bS fun B a e=>?_;refine b7 hJ (rg 11 20 [4,5,6,7,8]) (fun m k F'=>∃(i16:Nat) (c:Int),m=u0.length - i16/\i16<=u0.length/\bQ (vX d) i16 (u0.drop i16) c=some B/\F'=⟨ro,[]⟩/\slot k 11= .int .i64 (i16:Int)/\slot k 4= .int .i64 c) u0.length ?_ ?_
 .refine ⟨0,0,(Nat.sub_zero _).symm,Nat.zero_le _,a,rfl,?_⟩;simp only[*,go_sem]
 rintro Y Z F' l ⟨i16,c,rfl,ab,a,rfl,ad,ae⟩;obtain ⟨C,D,E⟩:=l.pick [0,1,9,10] aO;simp only[*,go_sem] at C D E;clear l y hd z k1;apply aD hJ _;apply ah hJ;rcases Nat.lt_or_ge i16 u0.length with F|o
 .refine cz hJ ?_;apply aK hJ;obtain ⟨p,f⟩:∃x,u0[i16]?=some x:=⟨_,List.getElem?_eq_getElem F⟩
  rw[dr f] at a;revert a;refine bS fun al h b=>?_;unfold vX at h;try dsimp only at h
  obtain ⟨ao,G,H,I,q⟩:=g.el _ _ f;obtain rfl:G=[.int .i64 p]:=I;cases H;have K:=q 0 _ rfl;simp only[go_sem] at K;clear q f;refine ah hJ (aW hJ (ah hJ ?_));apply aM hJ _;refine ah hJ (an hJ ?_);apply ag _;revert h;refine aX hJ (fun L h=>?_) fun L h=>?_
  .cases h;apply aD hJ _;obtain rfl:=sI b;clear b;have h:=e;dsimp only[aL] at h;cases h;apply aJ;simp only[*,go_sem]
  refine aK hJ (ah hJ ?_);apply aG hJ;revert h;refine bS fun s M h=>?_;obtain ⟨ar,a0,t⟩:=c6 M;obtain ⟨a2,N,O,P,u⟩:=j.el _ _ t;obtain rfl:N=[.int .i64 s]:=P;cases O;have Q:=u 0 _ rfl;simp only[go_sem] at Q;clear u t;apply ag _;apply an hJ;revert h;refine bS fun a3 R h=>?_;apply ag _;refine bf hJ _ (Fv p s R) (aP ?_);apply ag _;apply aD hJ _;revert h;refine aX hJ (fun S h=>?_) fun S h=>?_
  .cases h;apply aD hJ _;obtain rfl:=sI b;clear b;have h:=e;dsimp only[aL] at h;cases h;apply aJ;simp only[*,go_sem]
  cases h;apply aK hJ;have a4:=cw (n:=i16) (by have:=w;omega);apply aM hJ _;refine ⟨u0.length - (i16+1),aa,_,Le.sub (List.Sublist.refl _),i16+1,c,rfl,aa,b,rfl,?_⟩;simp only[*,go_sem]
 have a5:=Nat.not_lt.2 o;refine cB hJ ?_;rw[List.drop_eq_nil_of_le o] at a;obtain rfl:=sI a;clear a;have h:=e;dsimp only[aL] at h;apply bT;simp only[go_sem];refine ah hJ (an hJ ?_);apply ag _;revert h;refine aX hJ (fun T h=>?_) fun T h=>?_
 .cases h;apply aD hJ _;apply aJ;simp only[*,go_sem]
 cases h;refine aK hJ (ah hJ ?_);apply aM hJ _;apply aJ;simp only[*,go_sem]
def rS (u0:(List Int))(a:(List Int)):Option Bool:=
 cond (decide ((a.length:Int)<(u0.length:Int))) (some true) (cond (((a.length:Int)==(u0.length:Int))) (aj (vY a u0) fun b=>some (decide (b<0))) (some false))
theorem Fx {ro:Addr->Option Value}(u0:(List Int)){s1:Value}(d:aB rI ro s1 u0)(a:(List Int)){e:Value}(f:aB rI ro e a){r:Bool}(h:rS u0 a=some r):aA Tryz.prog 110 #[s1,e] ⟨ro,[]⟩ (fun v _=>v= .bool r):=by
 obtain ⟨d3,c4,rfl,i,j,-⟩:=id d;obtain ⟨d10,k,rfl,l,m,-⟩:=id f;unfold rS at h;refine aA.go Tryz.func110 rfl Tryz.ntmps110 Tryz.results110 av fun main J hJ A n hd hs=>?_;have o:=hs 0;have k1:=hs 1;clear hs;apply aD hJ _;apply an hJ;revert h;refine cS (fun b h=>?_) fun b h=>?_
 .cases h;try simp only[Int.ofNat_lt] at b
  apply ag _;apply aJ;simp only[*,go_sem]
 try simp only[Int.ofNat_lt] at b
 revert h;refine cS (fun c h=>?_) fun c h=>?_
 .try simp only[Int.ofNat_lt] at c
  revert h;refine bS fun p g h=>?_;cases h;apply ag _;refine bf hJ _ (Fw a (f.mono bg) u0 (d.mono bg) g) (aP ?_);apply ag _;apply aJ;simp only[*,go_sem]
 cases h;try simp only[Int.ofNat_lt] at c
 apply ag _;apply aJ;simp only[*,go_sem]
def rT (u0:aC)(b:Int):Option (Int×Int):=
 aj (iC u0 ([(fI b)])) fun a=>cond ((a.2 != 0)) (some (0,a.2)) (aj (ri a.1 (fun c=>ru c a.1 b)) fun d=>some (d,0))
theorem Ah {ro:Addr->Option Value}(j:dy ro)(u0:aC){s1 k l m:Value}(i:bV ro u0 s1 k l m)(c:Int){r:(Int×Int)}(h:rT u0 c=some r):aA Tryz.prog 39 #[bv u0 s1 k l m,.int .i64 c] ⟨ro,[]⟩ (fun v _=>v= .tuple #[.int .i64 r.1,.int .i64 r.2]):=by
 unfold rT at h;have G:=i.oc;simp only[bN] at G;refine aA.go Tryz.func39 rfl Tryz.ntmps39 Tryz.results39 av fun main J hJ A ae hd hs=>?_;have al:=hs 0;have k1:=hs 1;clear hs;apply aD hJ _;refine az fun H I K=>?_;try simp only[au] at K
 refine az fun u L M=>?_;try simp only[au] at M
 apply ah hJ;refine aE hJ fun N=>?_;apply aG hJ;revert h;refine bS fun n O h=>?_;apply ag _;refine az fun f w z=>?_;have B:=aY.cons z N;try simp only[au] at z
 obtain ⟨q,C,D⟩:=e4 (b:=f) (o:=(.cells #[.func (.func 83) #[.int .i64 c] #[]] 111)) [] ((u,ic c)::(H,bk u0 s1 k l m)::[]) B w (aF.cons L (aF.cons I (aF.nil _)));have E:aB (dx) (bR ro f (.cells #[.func (.func 83) #[.int .i64 c] #[]] 111)) (.slice (some ⟨f,0,none⟩) 1 1) [(fI c)]:=(aB.one (r:=(dx)) (e:=111) (cs:=#[.func (.func 83) #[.int .i64 c] #[]]) (x:=(fI c)) (own:=[(f,.cells #[.func (.func 83) #[.int .i64 c] #[]] 111)]) w (by simp[lk]) ⟨83,#[.int .i64 c],#[],rfl,⟨by simp only[go_sem],fun P a g _ _ _ _ _ Q R S T h=>by simp only[go_sem];exact qX c g ⟨Q,R,S,T⟩ h⟩⟩)
 generalize bR ro f (.cells #[.func (.func 83) #[.int .i64 c] #[]] 111)=ao at E C q D;refine gK hJ D ?_;replace i:=i.mono q;replace j:=j.mono q;simp only[bC] at C;have U:=aY.tl B;refine cr hJ _ (jF j u0 i ([(fI c)]) E O) fun v ar a0 V W=>?_;obtain ⟨a2,a3,a4,a5,a6,rfl,d,s⟩:=W;have X:=d.oc;simp only[bN] at X;simp only[bC] at V;obtain ⟨d41,a7,rfl,a8,a9,-⟩:=id d.e;obtain ⟨d48,ba,rfl,bb,bc,-⟩:=id d.p;obtain ⟨d55,bd,rfl,bj,bl,-⟩:=id d.y;obtain ⟨d62,bm,rfl,bo,br,-⟩:=id d.t;obtain ⟨d69,bs,rfl,bz,b0,-⟩:=id s;apply aP;apply ag _;refine az fun Y b1 F=>?_;have b2:=aY.cons F U;try simp only[au] at F
 refine ah hJ (an hJ ?_);apply ag _;revert h;refine aX hJ (fun Z h=>?_) fun Z h=>?_
 .cases h;apply aD hJ _;apply aJ;simp only[*,go_sem]
 refine aK hJ (ah hJ ?_);apply aG hJ;revert h;refine bS fun b3 ab h=>?_;cases h;apply ag _;refine bf hJ _ (z4 (dF:=91) (en:=#[]) (eo:=#[.pointer (some ⟨Y,0,none⟩),.pointer (some ⟨u,0,none⟩)]) n.1 (d.mono bg) (s.mono bg) (fun g=>ru g n.1 c) ⟨by simp only[go_sem],fun P a g b4 ad=>by simp only[go_sem];exact ET g n.1 (a _ _ (by simp only[af.cG,go_sem, *])) (a _ _ (by simp only[af.cG,go_sem, *])) (a _ _ (by simp only[af.cG,go_sem, *])) (a _ _ (by simp only[af.cG,go_sem, *])) ((d.e.mono bg).mono a) (a _ _ (by simp only[af.cG,go_sem, *])) ((d.p.mono bg).mono a) (a _ _ (by simp only[af.cG,go_sem, *])) ((d.y.mono bg).mono a) (a _ _ (by simp only[af.cG,go_sem, *])) ((d.t.mono bg).mono a) (a _ _ (by simp only[af.cG,go_sem, *])) ((s.mono bg).mono a) (a _ _ (by simp only[af.cG,go_sem, *])) c (a _ _ (by simp only[af.cG,go_sem, *])) ad⟩ ab) (aP ?_);apply ag _;apply aJ;simp only[*,go_sem]
def pn (u0:aC):Option (Int×Int):=
 aj (iC u0 ([]:(List (aC->Option Int)))) fun a=>cond ((a.2 != 0)) (some (0,a.2)) (aj (ri a.1 (fun b=>ry b a.1)) fun c=>some (c,0))
theorem rU {ro:Addr->Option Value}(l:dy ro)(u0:aC){s1 g i j:Value}(k:bV ro u0 s1 g i j){r:(Int×Int)}(h:pn u0=some r):aA Tryz.prog 40 #[bv u0 s1 g i j] ⟨ro,[]⟩ (fun v _=>v= .tuple #[.int .i64 r.1,.int .i64 r.2]):=by
 unfold pn at h;have m:=k.oc;simp only[bN] at m;refine aA.go Tryz.func40 rfl Tryz.ntmps40 Tryz.results40 av fun main J hJ A D hd hs=>?_;have E:=hs 0;clear hs;apply aD hJ _;refine az fun F G n=>?_;try simp only[au] at n
 apply an hJ;revert h;refine bS fun c o h=>?_;apply ag _;refine cr hJ _ (jF l u0 k ([]:(List (aC->Option Int))) (aB.nil _ _) o) fun v H I q s=>?_;obtain ⟨K,L,M,N,O,rfl,b,d⟩:=s;have u:=b.oc;simp only[bN] at u;simp only[bC] at q;obtain ⟨d37,P,rfl,Q,R,-⟩:=id b.e;obtain ⟨d44,S,rfl,T,U,-⟩:=id b.p;obtain ⟨d51,V,rfl,W,X,-⟩:=id b.y;obtain ⟨d58,Y,rfl,Z,ab,-⟩:=id b.t;obtain ⟨d65,ad,rfl,ae,al,-⟩:=id d;apply aP;apply ag _;refine az fun w ao x=>?_;try simp only[au] at x
 refine ah hJ (an hJ ?_);apply ag _;revert h;refine aX hJ (fun z h=>?_) fun z h=>?_
 .cases h;apply aD hJ _;apply aJ;simp only[*,go_sem]
 refine aK hJ (ah hJ ?_);apply aG hJ;revert h;refine bS fun ar B h=>?_;cases h;apply ag _;refine bf hJ _ (z4 (dF:=92) (en:=#[]) (eo:=#[.pointer (some ⟨w,0,none⟩)]) c.1 (b.mono bg) (d.mono bg) (fun f=>ry f c.1) ⟨by simp only[go_sem],fun a0 a f a2 C=>by simp only[go_sem];exact EU f c.1 (a _ _ (by simp only[af.cG,go_sem, *])) (a _ _ (by simp only[af.cG,go_sem, *])) (a _ _ (by simp only[af.cG,go_sem, *])) (a _ _ (by simp only[af.cG,go_sem, *])) ((b.e.mono bg).mono a) (a _ _ (by simp only[af.cG,go_sem, *])) ((b.p.mono bg).mono a) (a _ _ (by simp only[af.cG,go_sem, *])) ((b.y.mono bg).mono a) (a _ _ (by simp only[af.cG,go_sem, *])) ((b.t.mono bg).mono a) (a _ _ (by simp only[af.cG,go_sem, *])) ((d.mono bg).mono a) (a _ _ (by simp only[af.cG,go_sem, *])) C⟩ B) (aP ?_);apply ag _;apply aJ;simp only[*,go_sem]
def vZ (a:(dw×Int))(i74:Nat)(i83:Nat)(b:bG)(st:Int):Option (Fl Int (Int×Int×Int)):=
 aj (bG.get b (i74:Int)) fun c=>aj (kg a.1.book (i74:Int) c) fun d=>aj (jE a.1.book d) fun e=>cond (e) (some (.nx (IntKind.i64.wrap (st+1)))) (some (.nx st))
def v5 (b:(dw×Int))(i74:Nat)(c:dc)(st:(Int×Int)):Option (Fl (Int×Int) (Int×Int×Int)):=
 aj (bQ (vZ b i74) 0 b.1.all 0) fun o=>aL o (fun a=>cond (decide ((if a<IntKind.i64.wrap ((b.1.all.length:Int) - a) then IntKind.i64.wrap ((b.1.all.length:Int) - a) else a)<st.2)) (some (.nx ((i74:Int),(if a<IntKind.i64.wrap ((b.1.all.length:Int) - a) then IntKind.i64.wrap ((b.1.all.length:Int) - a) else a)))) (some (.nx (st.1,st.2)))) (fun _ _=>none) (fun r=>some (.rt r))
def v7 (u0:aC):Option (Int×Int×Int):=
 aj (iC u0 ([]:(List (aC->Option Int)))) fun a=>cond ((a.2 != 0)) (some (0,0,a.2)) (aj (bQ (v5 a) 0 a.1.book.aU ((-1),(a.1.all.length:Int))) fun o=>aL o (fun b=>some (b.1,b.2,0)) (fun _ _=>none) (fun r=>some r))
theorem Fy {ro:Addr->Option Value}(V:dy ro)(u0:aC){s1 g i j:Value}(w:bV ro u0 s1 g i j){r:(Int×Int×Int)}(h:v7 u0=some r):aA Tryz.prog 45 #[bv u0 s1 g i j] ⟨ro,[]⟩ (fun v _=>v= .tuple #[.int .i64 r.1,.int .i64 r.2.1,.int .i64 r.2.2]):=by
 unfold v7 at h;have W:=w.oc;simp only[bN] at W;refine aA.go Tryz.func45 rfl Tryz.ntmps45 Tryz.results45 av fun main J hJ A X hd hs=>?_;have Y:=hs 0;clear hs;apply aD hJ _;refine az fun z dq Z=>?_;try simp only[au] at Z
 apply an hJ;revert h;refine bS fun a ab h=>?_;apply ag _;refine cr hJ _ (jF V u0 w ([]:(List (aC->Option Int))) (aB.nil _ _) ab) fun v B ds ad ae=>?_;obtain ⟨C,D,dt,E,du,rfl,f,G⟩:=ae;have al:=f.oc;simp only[bN] at al;simp only[bC] at ad;obtain ⟨d51,H,rfl,dv,I,-⟩:=id f.y;obtain ⟨d65,K,rfl,dC,L,-⟩:=id G;apply aP;apply ag _;refine az fun M dE ao=>?_;try simp only[au] at ao
 refine ah hJ (an hJ ?_);apply ag _;revert h;refine aX hJ (fun ar h=>?_) fun ar h=>?_
 .cases h;apply aD hJ _;apply aJ;simp only[*,go_sem]
 refine aK hJ (ah hJ ?_);refine cM hJ mixed 5 2 aI ai ?_;apply ag _;refine ah hJ (an hJ ?_);apply ag _;apply aW hJ;revert h;refine bS fun a0 c a2=>?_;refine b7 hJ (rg 27 36 [2,3,6,7,9,10]) (fun m e F'=>∃(i74:Nat) (k:Int) (l:Int),m=a.1.book.aU.length - i74/\i74<=a.1.book.aU.length/\bQ (v5 a) i74 (a.1.book.aU.drop i74) (k,l)=some a0/\F'=⟨B,(M,kn a.1 C D (sl d51 a.1.book.aU H) E (sl d65 a.1.all K))::(z,bk u0 s1 g i j)::[]⟩/\slot e 27= .int .i64 (i74:Int)/\slot e 2= .int .i64 k/\slot e 3= .int .i64 l) a.1.book.aU.length ?_ ?_
 .refine ⟨0,(-1),(a.1.all.length:Int),(Nat.sub_zero _).symm,Nat.zero_le _,c,rfl,?_⟩;simp only[*,go_sem]
 rintro dT a3 F' N ⟨i74,k,l,rfl,ea,c,rfl,a4,a5,a6⟩;obtain ⟨O,P,Q⟩:=N.pick [4,5,26] aO;simp only[*,go_sem] at O P Q;clear N X hd Y;apply aD hJ _;apply ah hJ;rcases Nat.lt_or_ge i74 a.1.book.aU.length with a7|R
 .refine cz hJ ?_;apply aK hJ;obtain ⟨a8,q⟩:∃x,a.1.book.aU[i74]?=some x:=⟨_,List.getElem?_eq_getElem a7⟩
  rw[dr q] at c;revert c;refine bS fun eb h S=>?_;unfold v5 at h;try dsimp only at h
  obtain ⟨a9,ba,bb,bc,o⟩:=f.y.el _ _ q;obtain rfl:ba=a8.cells:=bc;cases bb;have bd:=o 0 _ rfl;simp only[go_sem] at bd;have bj:=o 1 _ rfl;simp only[go_sem] at bj;have bl:=o 2 _ rfl;simp only[go_sem] at bl;clear o q;refine ah hJ (aW hJ (ah hJ ?_));apply aM hJ _;apply aD hJ _;refine ah hJ (an hJ ?_);apply ag _;apply aW hJ;revert h;refine bS fun bm d bo=>?_;refine b7 hJ (rg 33 17 [7,9]) (fun m e F'=>∃(i83:Nat) (b:Int),m=a.1.all.length - i83/\i83<=a.1.all.length/\bQ (vZ a i74) i83 (a.1.all.drop i83) b=some bm/\F'=⟨B,(M,kn a.1 C D (sl (some a9) a.1.book.aU H) E (sl d65 a.1.all K))::(z,bk u0 s1 g i j)::[]⟩/\slot e 33= .int .i64 (i83:Int)/\slot e 7= .int .i64 b) a.1.all.length ?_ ?_
  .refine ⟨0,0,(Nat.sub_zero _).symm,Nat.zero_le _,d,rfl,?_⟩;simp only[*,go_sem]
  rintro ec br F' s ⟨i83,b,rfl,ed,d,rfl,eh,et⟩;obtain ⟨bs,bz,b0⟩:=s.pick [2,3,4,5,6,26,27,28,29,30,31,32] aO;simp only[*,go_sem] at bs bz b0;have ev:cR (rg 27 36 [2,3,6,7,9,10]) br a3:=(s.gq aO).trans aI;clear s O P Q a5 a6 a4;apply aD hJ _;apply ah hJ;rcases Nat.lt_or_ge i83 a.1.all.length with b1|T
  .refine cz hJ ?_;apply aK hJ;obtain ⟨b2,t⟩:∃x,a.1.all[i83]?=some x:=⟨_,List.getElem?_eq_getElem b1⟩
   rw[dr t] at d;revert d;refine bS fun eQ h U=>?_;unfold vZ at h;(try dsimp only at h);obtain ⟨eS,b3,b4,b5,p⟩:=G.el _ _ t;obtain rfl:b3=b2.cells:=b5;cases b4;have ca:=p 0 _ rfl;simp only[go_sem] at ca;have cb:=p 1 _ rfl;simp only[go_sem] at cb;have cd:=p 2 _ rfl;simp only[go_sem] at cd;clear p t;refine ah hJ (aW hJ (ah hJ ?_));apply aM hJ _;refine az fun e0 e1 cf=>?_;try simp only[au] at cf
   apply ah hJ;refine cM hJ mixed 10 3 aI ai ?_;revert h;refine bS fun cl cy h=>?_;obtain ⟨e2,e3,cS⟩:=bG.get_some cy;(try simp only[go_sem] at cS);revert h;refine bS fun c0 da h=>?_;apply ag _;refine ⟨_,bD hJ fun F u=>mb a.1.book (f.mono (cx u)) (i74:Int) cl da,bY ?_⟩;revert h;refine bS fun fa db h=>?_;apply ag _;refine ⟨_,bD hJ fun F u=>mm a.1.book (f.mono (cx u)) c0 db,?_⟩;revert h;refine aX hJ (fun dd h=>?_) fun dd h=>?_
   .cases h;apply aM hJ _;have df:=cw (n:=i83) (by have:=L;omega);apply aM hJ _;refine ⟨a.1.all.length - (i83+1),aa,_,Le.sub (List.Sublist.cons _ (List.Sublist.refl _)),i83+1,(IntKind.i64.wrap (b+1)),rfl,aa,U,rfl,?_⟩;simp only[*,go_sem]
   cases h;apply aK hJ;have df:=cw (n:=i83) (by have:=L;omega);apply aM hJ _;refine ⟨a.1.all.length - (i83+1),aa,_,Le.sub (List.Sublist.cons _ (List.Sublist.refl _)),i83+1,b,rfl,aa,U,rfl,?_⟩;simp only[*,go_sem]
  have fb:=Nat.not_lt.2 T;refine cB hJ ?_;rw[List.drop_eq_nil_of_le T] at d;obtain rfl:=sI d;clear d;have h:=bo;dsimp only[aL] at h;apply bT;simp only[go_sem];apply aD hJ _;apply aD hJ _;revert h;refine aX hJ (fun dk h=>?_) fun dk h=>?_
  .cases h;apply aM hJ _;have dp:=cw (n:=i74) (by have:=I;omega);apply aM hJ _;refine ⟨a.1.book.aU.length - (i74+1),aa,_,Le.sub (List.Sublist.refl _),i74+1,(i74:Int),(if b<IntKind.i64.wrap ((a.1.all.length:Int) - b) then IntKind.i64.wrap ((a.1.all.length:Int) - b) else b),rfl,aa,S,rfl,?_⟩;simp only[*,go_sem]
  cases h;apply aK hJ;have dp:=cw (n:=i74) (by have:=I;omega);apply aM hJ _;refine ⟨a.1.book.aU.length - (i74+1),aa,_,Le.sub (List.Sublist.refl _),i74+1,k,l,rfl,aa,S,rfl,?_⟩;simp only[*,go_sem]
 have fg:=Nat.not_lt.2 R;refine cB hJ ?_;rw[List.drop_eq_nil_of_le R] at c;obtain rfl:=sI c;clear c;have h:=a2;dsimp only[aL] at h;cases h;apply bT;simp only[go_sem];apply aD hJ _;apply aJ;simp only[*,go_sem]
def nu (u0:aC):Option Int:=
 cond (((u0.props.length:Int)==3)) (some 2) (some 0)
theorem Fz {ro:Addr->Option Value}(u0:aC){s1 b c d:Value}(a:bV ro u0 s1 b c d){r:Int}(h:nu u0=some r):aA Tryz.prog 99 #[bv u0 s1 b c d] ⟨ro,[]⟩ (fun v _=>v= .int .i64 r):=by
 obtain ⟨d3,c4,rfl,i,j,-⟩:=id a.e;obtain ⟨d10,k,rfl,l,m,-⟩:=id a.p;obtain ⟨d17,n,rfl,o,q,-⟩:=id a.y;obtain ⟨d24,s,rfl,u,w,-⟩:=id a.t;unfold nu at h;refine aA.go Tryz.func99 rfl Tryz.ntmps99 Tryz.results99 av fun main J hJ A x hd hs=>?_;have z:=hs 0;clear hs;apply aD hJ _;refine az fun B C f=>?_;try simp only[au] at f
 refine ah hJ (an hJ ?_);apply ag _;revert h;refine aX hJ (fun g h=>?_) fun g h=>?_
 .cases h;apply aD hJ _;apply aJ;simp only[*,go_sem]
 cases h;refine aK hJ (ah hJ ?_);apply aM hJ _;apply aJ;simp only[*,go_sem]
def rV (u0:aC)(c:cn):Option (aC×Int):=
 aj (jD u0) fun a=>cond ((a != 0)) (some ((⟨0,0,(⟨0,0⟩:ay),([]:(List b8)),([]:(List c7)),([]:(List dc)),([]:(List cn))⟩:aC),a)) (aj (rA u0.told) fun d=>aj (eA d ([c])) fun e=>aj (rR (⟨u0.bE,u0.cD,u0.bx,u0.aR,u0.props,u0.aU,e⟩:aC)) fun b=>some (b.1,b.2))
theorem rW {ro:Addr->Option Value}(k:dy ro)(u0:aC){s1 c d f:Value}(b:bV ro u0 s1 c d f)(a:cn){r:(aC×Int)}(h:rV u0 a=some r):eT Tryz.prog 46 #[bv u0 s1 c d f,.agg #[.int .i64 a.aS,.bool a.bL]] ro (fun v aT=>∃L w1 w2 w3,v= .tuple #[bv r.1 L w1 w2 w3,.int .i64 r.2]/\bV aT r.1 L w1 w2 w3):=by
 unfold rV at h;refine aA.go Tryz.func46 rfl Tryz.ntmps46 Tryz.results46 av fun main J hJ A b5 hd hs=>?_;have ca:=hs 0;have k1:=hs 1;clear hs;apply aD hJ _;refine az fun g u ab=>?_;try simp only[au] at ab
 refine az fun i w ad=>?_;try simp only[au] at ad
 refine az fun j z ae=>?_;try simp only[au] at ae
 refine ah hJ (an hJ ?_);revert h;refine bS fun cb al h=>?_;apply ag _;refine bf hJ _ (z1 (k.mono bg) u0 (b.e.mono bg) (b.p.mono bg) (b.y.mono bg) (b.t.mono bg) al) (aP ?_);apply ag _;apply aD hJ _;revert h;refine aX hJ (fun ao h=>?_) fun ao h=>?_
 .cases h;apply aD hJ _;refine b9 ?_;exact ⟨_,Ext.refl _,Le.sub (List.nil_sublist _),_,_,_,_,rfl,⟨aB.nil _ _,aB.nil _ _,aB.nil _ _,aB.nil _ _⟩⟩
 refine aK hJ (ah hJ ?_);refine aE hJ fun ar=>?_;refine e5 hJ mixed [7] (.pure 0 (.rd 1 (.rd 3 (.two 2 (.one 4 (.one 5 (.pure 6 (.last 7 .done)))) 4 (.one 2 (.one 5 (.pure 6 (.last 7 .done)))))))) ⟨ro,[(j,bz 29),(i,.cells #[.int .i64 a.aS,.bool a.bL] 101),(g,bk u0 s1 c d f)]⟩ aI ai ?_;apply ag _;refine j3 ?_ ?_
 .revert h;refine bS fun a0 a2 h=>?_;apply ag _;refine ei hJ (bh:=[]) [(j,bz 29),(i,.cells #[.int .i64 a.aS,.bool a.bL] 101),(g,bk u0 s1 c d f)] [] _ (vc u0.told b.t a2) (fun cd a3 M m n a4=>?_);simp only[bn] at n;subst m;obtain ⟨d174,cf,rfl,cl⟩:=M.len;refine ⟨⟨ro,(j,bz 29)::(i,.cells #[.int .i64 a.aS,.bool a.bL] 101)::(g,bk u0 s1 c d f)::a3⟩,Le.refl _,?_⟩;refine ⟨aI,cm ?_⟩;revert h;refine bS fun N a5 h=>?_;obtain ⟨a6,O⟩:=dQ a5;apply ag _;refine az fun D P Q=>?_;have a7:=aY.cons Q a4;try simp only[au] at Q
  apply ag _;refine eI (r:=dD) (l:=a0) (x:=a) (cs:=#[.int .i64 a.aS,.bool a.bL]) (e2:=101) [(D,.cells #[.int .i64 a.aS,.bool a.bL] 101),(j,bz 29),(i,.cells #[.int .i64 a.aS,.bool a.bL] 101),(g,bk u0 s1 c d f)] [] M a7 a6 rfl aI P rfl rfl eM eM ir iw rfl iu aO aO (fun cy a8 E m n cS=>?_);simp only[bn] at n;subst m;rw[<-O] at E;clear O;obtain ⟨d186,a9,rfl,c0⟩:=E.len;refine ⟨⟨ro,(D,.cells #[.int .i64 a.aS,.bool a.bL] 101)::(j,bz 29)::(i,.cells #[.int .i64 a.aS,.bool a.bL] 101)::(g,bk u0 s1 c d f)::a8⟩,Le.refl _,?_⟩;refine ⟨aI,cm ?_⟩;apply ag _;apply ah hJ;refine aE hJ fun R=>?_;obtain ⟨da,F,B,S,ba⟩:=E.fj [(D,.cells #[.int .i64 a.aS,.bool a.bL] 101),(j,bz 29),(i,.cells #[.int .i64 a.aS,.bool a.bL] 101),(g,bk u0 s1 c d (sl d186 N a9))] [] R (aF.cons P (aF.cons z (aF.cons w (aF.cons u (aF.nil _)))));clear R;refine cN hJ ba ?_;obtain ⟨db,dd,-⟩:=S.op;replace b:=b.mono F;replace z:=B.tl.hd;replace w:=B.tl.tl.hd;replace u:=B.tl.tl.tl.hd;replace k:=k.mono F;simp only[bC] at B;apply aG hJ;revert h;refine bS fun df bb h=>?_;cases h;apply ag _;refine cr hJ _ (vV k (⟨u0.bE,u0.cD,u0.bx,u0.aR,u0.props,u0.aU,N⟩:aC) ⟨b.e,b.p,b.y,S⟩ bb) fun v dk G C H=>?_;obtain ⟨dp,dq,ds,dt,rfl,o⟩:=H;replace b:=b.mono G;replace z:=C.tl.hd;replace w:=C.tl.tl.hd;replace u:=C.tl.tl.tl.hd;replace k:=k.mono G;simp only[bC] at C;obtain ⟨d208,du,rfl,dv,dC,-⟩:=id o.e;obtain ⟨d215,dE,rfl,dT,ea,-⟩:=id o.p;obtain ⟨d222,eb,rfl,ec,ed,-⟩:=id o.y;obtain ⟨d229,eh,rfl,et,ev,-⟩:=id o.t;apply aP;apply ag _;refine b9 ?_;exact ⟨_,(F).trans G,Le.sub (List.nil_sublist _),_,_,_,_,rfl,o⟩
 revert h;refine bS fun bc bd h=>?_;apply ag _;refine az fun q T U=>?_;have eQ:=aY.cons U ar;try simp only[au] at U
 apply ag _;refine ei hJ (bh:=[]) [(q,.cells #[.int .i64 a.aS,.bool a.bL] 101),(j,bz 29),(i,.cells #[.int .i64 a.aS,.bool a.bL] 101),(g,bk u0 s1 c d f)] [] _ (vc u0.told b.t bd) (fun eS bj V m n bl=>?_);simp only[bn] at n;subst m;obtain ⟨d242,e0,rfl,e1⟩:=V.len;refine ⟨⟨ro,(q,.cells #[.int .i64 a.aS,.bool a.bL] 101)::(j,bz 29)::(i,.cells #[.int .i64 a.aS,.bool a.bL] 101)::(g,bk u0 s1 c d f)::bj⟩,Le.refl _,?_⟩;refine ⟨aI,cm ?_⟩;revert h;refine bS fun W bm h=>?_;obtain ⟨bo,X⟩:=dQ bm;apply ag _;refine eI (r:=dD) (l:=bc) (x:=a) (cs:=#[.int .i64 a.aS,.bool a.bL]) (e2:=101) [(q,.cells #[.int .i64 a.aS,.bool a.bL] 101),(j,bz 29),(i,.cells #[.int .i64 a.aS,.bool a.bL] 101),(g,bk u0 s1 c d f)] [] V bl bo rfl aI T rfl rfl eM eM ir iw rfl iu aO aO (fun e3 br I m n fa=>?_);simp only[bn] at n;subst m;rw[<-X] at I;clear X;obtain ⟨d252,bs,rfl,fb⟩:=I.len;refine ⟨⟨ro,(q,.cells #[.int .i64 a.aS,.bool a.bL] 101)::(j,bz 29)::(i,.cells #[.int .i64 a.aS,.bool a.bL] 101)::(g,bk u0 s1 c d f)::br⟩,Le.refl _,?_⟩;refine ⟨aI,cm ?_⟩;apply ag _;apply ah hJ;refine aE hJ fun Y=>?_;obtain ⟨fg,K,b0,Z,b1⟩:=I.fj [(q,.cells #[.int .i64 a.aS,.bool a.bL] 101),(j,bz 29),(i,.cells #[.int .i64 a.aS,.bool a.bL] 101),(g,bk u0 s1 c d (sl d252 W bs))] [] Y (aF.cons T (aF.cons z (aF.cons w (aF.cons u (aF.nil _)))));clear Y;refine cN hJ b1 ?_;obtain ⟨fi,fp,-⟩:=Z.op;replace b:=b.mono K;replace k:=k.mono K;simp only[bC] at b0;apply aG hJ;revert h;refine bS fun fr b2 h=>?_;cases h;apply ag _;refine cr hJ _ (vV k (⟨u0.bE,u0.cD,u0.bx,u0.aR,u0.props,u0.aU,W⟩:aC) ⟨b.e,b.p,b.y,Z⟩ b2) fun v fs b3 b4 H=>?_;obtain ⟨ft,fu,fv,fw,rfl,s⟩:=H;simp only[bC] at b4;obtain ⟨fx,fz,rfl,gg,gl,-⟩:=id s.e;obtain ⟨gn,gp,rfl,gB,gC,-⟩:=id s.p;obtain ⟨gV,g0,rfl,g1,g2,-⟩:=id s.y;obtain ⟨g3,g4,rfl,ha,hc,-⟩:=id s.t;apply aP;apply ag _;refine b9 ?_;exact ⟨_,(K).trans b3,Le.sub (List.nil_sublist _),_,_,_,_,rfl,s⟩
def v8 (u0:aC)(c:Int)(a:dK):Option (aC×Int):=
 aj (gO u0 ([(fI c)])) fun e=>cond ((e.2 != 0)) (some ((⟨0,0,(⟨0,0⟩:ay),([]:(List b8)),([]:(List c7)),([]:(List dc)),([]:(List cn))⟩:aC),e.2)) (aj (oX a 0 60) fun g=>cond (!g) (some ((⟨0,0,(⟨0,0⟩:ay),([]:(List b8)),([]:(List c7)),([]:(List dc)),([]:(List cn))⟩:aC),1)) (aj (rC u0.aU) fun d=>aj (bH d c) fun b=>cond (decide ((if a.high<b.high.high then a.high else b.high.high)<(if b.high.low<a.low then a.low else b.high.low))) (some ((⟨0,0,(⟨0,0⟩:ay),([]:(List b8)),([]:(List c7)),([]:(List dc)),([]:(List cn))⟩:aC),9)) (aj (bH d c) fun h=>aj (rR (⟨u0.bE,u0.cD,u0.bx,u0.aR,u0.props,(d.set (c).toNat (⟨h.back,(⟨(if b.high.low<a.low then a.low else b.high.low),(if a.high<b.high.high then a.high else b.high.high)⟩:dK)⟩:dc)),u0.told⟩:aC)) fun f=>some (f.1,f.2))))
theorem Ai {ro:Addr->Option Value}(g:dy ro)(u0:aC){s1 k q l:Value}(f:bV ro u0 s1 k q l)(d:Int)(a:dK){r:(aC×Int)}(h:v8 u0 d a=some r):eT Tryz.prog 48 #[bv u0 s1 k q l,.int .i64 d,.agg #[.int .i64 a.low,.int .i64 a.high]] ro (fun v aT=>∃U w1 w2 w3,v= .tuple #[bv r.1 U w1 w2 w3,.int .i64 r.2]/\bV aT r.1 U w1 w2 w3):=by
 unfold v8 at h;have ba:=f.oc;simp only[bN] at ba;refine aA.go Tryz.func48 rfl Tryz.ntmps48 Tryz.results48 av fun main J hJ A bb hd hs=>?_;have bc:=hs 0;have k1:=hs 1;have bd:=hs 2;clear hs;apply aD hJ _;refine az fun w z bj=>?_;try simp only[au] at bj
 refine az fun B C bm=>?_;try simp only[au] at bm
 refine az fun D E bo=>?_;try simp only[au] at bo
 refine ah hJ (ah hJ ?_);refine aE hJ fun br=>?_;apply aG hJ;revert h;refine bS fun K bs h=>?_;apply ag _;refine az fun s V W=>?_;have X:=aY.cons W br;try simp only[au] at W
 obtain ⟨j,u,Y⟩:=e4 (b:=s) (o:=(.cells #[.func (.func 83) #[.int .i64 d] #[]] 111)) [] ((D,bz 29)::(B,.cells #[.int .i64 a.low,.int .i64 a.high] 47)::(w,bk u0 s1 k q l)::[]) X V (aF.cons E (aF.cons C (aF.cons z (aF.nil _))));have Z:aB (dx) (bR ro s (.cells #[.func (.func 83) #[.int .i64 d] #[]] 111)) (.slice (some ⟨s,0,none⟩) 1 1) [(fI d)]:=(aB.one (r:=(dx)) (e:=111) (cs:=#[.func (.func 83) #[.int .i64 d] #[]]) (x:=(fI d)) (own:=[(s,.cells #[.func (.func 83) #[.int .i64 d] #[]] 111)]) V (by simp[lk]) ⟨83,#[.int .i64 d],#[],rfl,⟨by simp only[go_sem],fun fb fg b0 _ _ _ _ _ b1 b2 b3 b4 h=>by simp only[go_sem];exact qX d b0 ⟨b1,b2,b3,b4⟩ h⟩⟩)
 generalize bR ro s (.cells #[.func (.func 83) #[.int .i64 d] #[]] 111)=fi at Z u j Y;refine gK hJ Y ?_;replace f:=f.mono j;replace E:=u.hd;replace C:=u.tl.hd;replace z:=u.tl.tl.hd;replace g:=g.mono j;simp only[bC] at u;have b5:=aY.tl X;refine cr hJ _ (ki g u0 f ([(fI d)]) Z bs) fun v ab m F L=>?_;obtain ⟨M,N,O,P,rfl,ca⟩:=L;have cb:=ca.oc;simp only[bN] at cb;replace f:=f.mono m;replace E:=F.hd;replace C:=F.tl.hd;replace z:=F.tl.tl.hd;replace g:=g.mono m;simp only[bC] at F;apply aP;apply ag _;refine az fun Q cd ad=>?_;have fp:=aY.cons ad b5;try simp only[au] at ad
 apply aD hJ _;revert h;refine aX hJ (fun cf h=>?_) fun cf h=>?_
 .cases h;apply aD hJ _;refine b9 ?_;exact ⟨_,(j).trans m,Le.sub (List.nil_sublist _),_,_,_,_,rfl,⟨aB.nil _ _,aB.nil _ _,aB.nil _ _,aB.nil _ _⟩⟩
 refine aK hJ (ah hJ ?_);apply an hJ;revert h;refine bS fun fr cl h=>?_;apply ag _;refine bf hJ _ (zY a 0 60 cl) (aP ?_);apply ag _;revert h;refine aX hJ (fun cy h=>?_) fun cy h=>?_
 .cases h;apply aD hJ _;refine b9 ?_;exact ⟨_,(j).trans m,Le.sub (List.nil_sublist _),_,_,_,_,rfl,⟨aB.nil _ _,aB.nil _ _,aB.nil _ _,aB.nil _ _⟩⟩
 refine aK hJ (ah hJ ?_);refine aE hJ fun fs=>?_;apply aG hJ;revert h;refine bS fun G cS h=>?_;apply ag _;refine ei hJ (bh:=[]) [(Q,bl K.1 M N O P),(D,bz 29),(B,.cells #[.int .i64 a.low,.int .i64 a.high] 47),(w,bk u0 s1 k q l)] [] _ (z5 u0.aU f.y cS) (fun ft c0 H da db fu=>?_);simp only[bn] at db;subst da;obtain ⟨d87,ae,rfl,fv⟩:=H.len;refine ⟨⟨ab,(Q,bl K.1 M N O P)::(D,bz 29)::(B,.cells #[.int .i64 a.low,.int .i64 a.high] 47)::(w,bk u0 s1 k q l)::c0⟩,Le.refl _,?_⟩;apply aP;apply ag _;apply ah hJ;refine aE hJ fun al=>?_;apply aG hJ;revert h;refine bS fun c dd h=>?_;obtain ⟨fw,fx,df⟩:=c6 dd;obtain ⟨R,dk,dp,rfl,rfl,fz,dq,S⟩:=H.zI df;obtain rfl:dp=c.cells:=dq;have ds:=al.nd;simp only[keys,List.map_cons,List.map_nil,List.map_append,List.cons_append,List.nil_append,List.nodup_cons,List.mem_cons,List.mem_append,List.not_mem_nil,or_false,not_or] at ds;have ao:=S 0 _ rfl;simp only[go_sem] at ao;have gg:=(Array.getElem?_eq_some_iff.1 ao).1;have ar:=S 1 _ rfl;simp only[go_sem] at ar;have gl:=(Array.getElem?_eq_some_iff.1 ar).1;have a0:=S 2 _ rfl;simp only[go_sem] at a0;have gn:=(Array.getElem?_eq_some_iff.1 a0).1;apply ag _;refine az fun dt du a2=>?_;have gp:=aY.cons a2 al;try simp only[au] at a2
 apply ah hJ;refine eU [1,3,5,6,7,10] fun gB dv dC dE=>?_;simp only[*,go_sem] at dv dC dE;clear bb hd bc k1 bd;refine aE hJ fun dT=>?_;apply aM hJ _;refine az fun ea eb a3=>?_;have gC:=aY.cons a3 dT;try simp only[au] at a3
 refine ah hJ (ah hJ ?_);refine aE hJ fun gV=>?_;apply aM hJ _;revert h;refine aX hJ (fun ec h=>?_) fun ec h=>?_
 .cases h;apply ah hJ;refine aE hJ fun g0=>?_;apply aM hJ _;refine b9 ?_;exact ⟨_,(j).trans m,Le.sub (List.nil_sublist _),_,_,_,_,rfl,⟨aB.nil _ _,aB.nil _ _,aB.nil _ _,aB.nil _ _⟩⟩
 refine aK hJ (ah hJ ?_);refine aE hJ fun g1=>?_;apply aG hJ;revert h;refine bS fun i ed h=>?_;obtain ⟨g2,g3,a4⟩:=c6 ed;obtain ⟨eh,et,I⟩:=H.iX a4;obtain rfl:eh=i.cells:=et;have a5:=I 0 _ rfl;simp only[go_sem] at a5;have g4:=(Array.getElem?_eq_some_iff.1 a5).1;have a6:=I 1 _ rfl;simp only[go_sem] at a6;have ha:=(Array.getElem?_eq_some_iff.1 a6).1;have a7:=I 2 _ rfl;simp only[go_sem] at a7;have hc:=(Array.getElem?_eq_some_iff.1 a7).1;have ev:aZ fl ab 144 (.slice (some ⟨R,0,none⟩) G.length ae) (G.set (d).toNat (⟨i.back,(⟨(if c.high.low<a.low then a.low else c.high.low),(if a.high<c.high.high then a.high else c.high.high)⟩:dK)⟩:dc)) [(R,Obj.cells (cU dk ((d).toNat*3+1) [.int .i64 (if c.high.low<a.low then a.low else c.high.low),.int .i64 (if a.high<c.high.high then a.high else c.high.high)]) 144)]:=by have eQ:=H.part (y:=(⟨i.back,(⟨(if c.high.low<a.low then a.low else c.high.low),(if a.high<c.high.high then a.high else c.high.high)⟩:dK)⟩:dc)) a4 1 [.int .i64 (if c.high.low<a.low then a.low else c.high.low),.int .i64 (if a.high<c.high.high then a.high else c.high.high)] [.int .i64 i.back,.int .i64 i.high.low,.int .i64 i.high.high] [.int .i64 i.back,.int .i64 (if c.high.low<a.low then a.low else c.high.low),.int .i64 (if a.high<c.high.high then a.high else c.high.high)] I rfl rfl av rfl;exact eQ
 apply ag _;apply ah hJ;refine aE hJ fun a8=>?_;obtain ⟨hf,T,eS,a9,e0⟩:=ev.fj [(ea,.cells #[.int .i64 (if c.high.low<a.low then a.low else c.high.low),.int .i64 (if a.high<c.high.high then a.high else c.high.high)] 47),(dt,.cells #[.int .i64 c.high.low,.int .i64 c.high.high] 47),(Q,bl K.1 M N O P),(D,bz 29),(B,.cells #[.int .i64 a.low,.int .i64 a.high] 47),(w,bk u0 s1 k (sl (some ⟨R,0,none⟩) G ae) l)] [] a8 (aF.cons eb (aF.cons du (aF.cons cd (aF.cons E (aF.cons C (aF.cons z (aF.nil _)))))));clear a8;refine cN hJ e0 ?_;obtain ⟨hg,hh,-⟩:=a9.op;replace f:=f.mono T;replace g:=g.mono T;simp only[bC] at eS;apply aG hJ;revert h;refine bS fun hi e1 h=>?_;cases h;apply ag _;refine cr hJ _ (vV g (⟨u0.bE,u0.cD,u0.bx,u0.aR,u0.props,(G.set (d).toNat (⟨i.back,(⟨(if c.high.low<a.low then a.low else c.high.low),(if a.high<c.high.high then a.high else c.high.high)⟩:dK)⟩:dc)),u0.told⟩:aC) ⟨f.e,f.p,a9,f.t⟩ e1) fun v hj e2 e3 L=>?_;obtain ⟨hk,hl,hn,ho,rfl,n⟩:=L;have fa:=n.oc;simp only[bN] at fa;simp only[bC] at e3;obtain ⟨d130,hp,rfl,hq,hr,-⟩:=id n.e;obtain ⟨d137,ht,rfl,hv,hx,-⟩:=id n.p;obtain ⟨d144,hy,rfl,hz,hA,-⟩:=id n.y;obtain ⟨d151,hB,rfl,hD,hE,-⟩:=id n.t;apply aP;apply ag _;refine b9 ?_;exact ⟨_,(((j).trans m).trans T).trans e2,Le.sub (List.nil_sublist _),_,_,_,_,rfl,n⟩
def Aj (i43:Nat)(a:(List Int))(st:(List Int)):Option (Fl (List Int) (List Int)):=
 aj (eA st a) fun b=>some (.nx b)
def v9 (i9:Nat)(a:(List Int))(st:Int):Option (Fl Int (List Int)):=
 cond (decide ((IntKind.i64.wrap (st+(a.length:Int)))<0)) (none) (some (.nx (IntKind.i64.wrap (st+(a.length:Int)))))
def FA (i109:Nat)(a:(List Int))(st:(List Int)):Option (Fl (List Int) (List Int)):=
 aj (eA st a) fun b=>some (.nx b)
def we (u0:(List (List Int))):Option (List Int):=
 aj (bQ (v9) 0 u0 0) fun o=>aL o (fun a=>aj (vU a) fun b=>aj (bQ (FA) 0 u0 b) fun o=>aL o (fun c=>some c) (fun _ _=>none) (fun r=>some r)) (fun _ _=>none) (fun r=>some r)
theorem FB {ro:Addr->Option Value}(u0:(List (List Int))){s1:Value}(g:aB (rL rI) ro s1 u0){r:(List Int)}(h:we u0=some r):eT Tryz.prog 100 #[s1] ro (fun v aT=>∃s,v=s/\aB rI aT s r):=by
 obtain ⟨d3,c4,rfl,bz,t,-⟩:=id g;unfold we at h;refine aA.go Tryz.func100 rfl Tryz.ntmps100 Tryz.results100 av fun main J hJ A P hd hs=>?_;have Q:=hs 0;clear hs;apply aD hJ _;apply aD hJ _;refine ah hJ (an hJ ?_);apply ag _;apply aW hJ;revert h;refine bS fun R a S=>?_;refine b7 hJ (rg 11 12 [3,5]) (fun m d F'=>∃(i9:Nat) (e:Int),m=u0.length - i9/\i9<=u0.length/\bQ (v9) i9 (u0.drop i9) e=some R/\F'=⟨ro,[]⟩/\slot d 11= .int .i64 (i9:Int)/\slot d 3= .int .i64 e) u0.length ?_ ?_
 .refine ⟨0,0,(Nat.sub_zero _).symm,Nat.zero_le _,a,rfl,?_⟩;simp only[*,go_sem]
 rintro b0 b1 F' u ⟨i9,e,rfl,b2,a,rfl,T,U⟩;obtain ⟨w,y,z⟩:=u.pick [0,2,9,10] aO;simp only[*,go_sem] at w y z;clear u P hd Q;apply aD hJ _;apply ah hJ;rcases Nat.lt_or_ge i9 u0.length with V|B
 .refine cz hJ ?_;apply aK hJ;obtain ⟨W,i⟩:∃x,u0[i9]?=some x:=⟨_,List.getElem?_eq_getElem V⟩
  rw[dr i] at a;revert a;refine bS fun b3 h X=>?_;unfold v9 at h;try dsimp only at h
  obtain ⟨b4,b5,Y,Z,C⟩:=g.el _ _ i;obtain ⟨ca,rfl,ab⟩:=Z;obtain ⟨d18,cb,rfl,cd,cf,cl⟩:=id ab;cases Y;have ad:=C 0 _ rfl;simp only[go_sem] at ad;clear C i;refine ah hJ (aW hJ (ah hJ ?_));apply aM hJ _;apply aD hJ _;apply aD hJ _;revert h;refine aX hJ (fun ae h=>?_) fun ae h=>?_
  .apply aG hJ;cases h
  cases h;apply aK hJ;have cy:=cw (n:=i9) (by have:=t;omega);apply aM hJ _;refine ⟨u0.length - (i9+1),aa,_,Le.sub (List.Sublist.refl _),i9+1,(IntKind.i64.wrap (e+(W.length:Int))),rfl,aa,X,rfl,?_⟩;simp only[*,go_sem]
 have cS:=Nat.not_lt.2 B;refine cB hJ ?_;rw[List.drop_eq_nil_of_le B] at a;obtain rfl:=sI a;clear a;have h:=S;dsimp only[aL] at h;apply bT;simp only[go_sem];apply ah hJ;refine aE hJ fun c0=>?_;apply aG hJ;revert h;refine bS fun al ao h=>?_;apply ag _;refine ei hJ (bh:=[]) [] [] _ (Fu e ao) (fun da D E j k db=>?_);simp only[bn] at k;subst j;obtain ⟨d32,ar,rfl,a0⟩:=E.len;refine ⟨⟨ro,D⟩,Le.refl _,?_⟩;apply aP;apply ag _;refine ah hJ (ah hJ ?_);refine aE hJ fun dd=>?_;apply aM hJ _;apply aW hJ;revert h;refine bS fun a2 b a3=>?_;refine b7 hJ (rg 27 8 [6,8]) (fun m d F'=>∃(i43:Nat) (d38:Option Addr) (f:Nat) (o:List (Nat×Obj)) (c:(List Int)),m=u0.length - i43/\i43<=u0.length/\bQ (Aj) i43 (u0.drop i43) c=some a2/\F'=⟨ro,o⟩/\aZ rI ro 3 (.slice d38 c.length f) c o/\c.length<=f/\slot d 27= .int .i64 (i43:Int)/\slot d 6= .slice d38 c.length f) u0.length ?_ ?_
 .refine ⟨0,d32,ar,D,al,(Nat.sub_zero _).symm,Nat.zero_le _,b,rfl,E,a0,?_⟩;simp only[*,go_sem]
 rintro df dk F' F ⟨i43,d38,f,o,c,rfl,dp,b,rfl,G,dq,ds,dt⟩;obtain ⟨a4,a5,a6⟩:=F.pick [2,25,26] aO;simp only[*,go_sem] at a4 a5 a6;clear F w y z U T;apply aD hJ _;apply ah hJ;rcases Nat.lt_or_ge i43 u0.length with a7|H
 .refine cz hJ ?_;apply aK hJ;obtain ⟨a8,p⟩:∃x,u0[i43]?=some x:=⟨_,List.getElem?_eq_getElem a7⟩
  rw[dr p] at b;revert b;refine bS fun du h a9=>?_;unfold Aj at h;try dsimp only at h
  obtain ⟨dv,dC,ba,bb,I⟩:=g.el _ _ p;obtain ⟨dE,rfl,K⟩:=bb;obtain ⟨d52,dT,rfl,ea,eb,ec⟩:=id K;cases ba;have bc:=I 0 _ rfl;simp only[go_sem] at bc;clear I p;refine ah hJ (aW hJ (ah hJ ?_));refine aE hJ fun ed=>?_;apply aM hJ _;refine aE hJ fun bd=>?_;apply aG hJ;revert h;refine bS fun bj bk h=>?_;cases h;obtain ⟨bl,L⟩:=dQ bk;apply ag _;refine oW (r:=rI) (l:=c) (xs:=a8) [] [] G bd bl K rfl rfl fZ fZ kM kO rfl kN aO aO (fun eh M q j k et=>?_);simp only[bn] at k;subst j;rw[<-L] at q;clear L;obtain ⟨d66,bm,rfl,bo⟩:=q.len;refine ⟨⟨ro,M⟩,Le.refl _,?_⟩;apply aP;apply ag _;have ev:=cw (n:=i43) (by have:=t;omega);apply aM hJ _;refine ⟨u0.length - (i43+1),aa,_,Le.sub (List.Sublist.refl _),i43+1,d66,bm,M,bj,rfl,aa,a9,rfl,q,bo,?_⟩;simp only[*,go_sem]
 have eQ:=Nat.not_lt.2 H;refine cB hJ ?_;rw[List.drop_eq_nil_of_le H] at b;obtain rfl:=sI b;clear b;have h:=a3;dsimp only[aL] at h;cases h;apply bT;simp only[go_sem];apply ah hJ;refine aE hJ fun eS=>?_;apply aM hJ _;refine aE hJ fun N=>?_;obtain ⟨e0,br,e1,O,bs⟩:=G.fj [] [] N (aF.nil _);clear N;refine cN hJ bs ?_;obtain ⟨e2,e3,-⟩:=O.op;refine b9 ?_;exact ⟨_,br,Le.sub (List.nil_sublist _),_,rfl,O⟩
def wh (a:Int)(i44:Nat)(b:bG)(st:(List Int)):Option (Fl (List Int) (List Int)):=
 aj (bG.get b a) fun c=>aj (eA st ([c])) fun d=>some (.nx d)
def nv (u0:dw)(a:Int):Option (List Int):=
 aj (bQ (wh a) 0 u0.all ([]:List Int)) fun o=>aL o (fun b=>aj (vS b) fun c=>aj (vT c.2) fun d=>some d) (fun _ _=>none) (fun r=>some r)
theorem rX {ro:Addr->Option Value}(u0:dw){s1 a b c:Value}(b3:bV ro u0.book s1 a b c){y:Value}(z:aB g9 ro y u0.all)(s:Int){r:(List Int)}(h:nv u0 s=some r):eT Tryz.prog 84 #[.agg #[.int .i64 u0.book.bE,.int .i64 u0.book.cD,.int .i64 u0.book.bx.num,.int .i64 u0.book.bx.den,s1,a,b,c,y],.int .i64 s] ro (fun v aT=>∃B,v=B/\aB rI aT B r):=by
 obtain ⟨d31,d,rfl,b4,R,-⟩:=id z;unfold nv at h;refine aA.go Tryz.func84 rfl Tryz.ntmps84 Tryz.results84 av fun main J hJ A S hd hs=>?_;have T:=hs 0;have k1:=hs 1;clear hs;apply aD hJ _;refine az fun e U V=>?_;try simp only[au] at V
 apply aD hJ _;refine ah hJ (an hJ ?_);apply ag _;apply aW hJ;revert h;refine bS fun W g X=>?_;refine b7 hJ (rg 11 11 [5,7]) (fun m C F'=>∃(i44:Nat) (d38:Option Addr) (o:Nat) (t:List (Nat×Obj)) (f:(List Int)),m=u0.all.length - i44/\i44<=u0.all.length/\bQ (wh s) i44 (u0.all.drop i44) f=some W/\F'=⟨ro,(e,kn u0 s1 a b c (sl d31 u0.all d))::t⟩/\aZ rI ro 3 (.slice d38 f.length o) f t/\f.length<=o/\slot C 11= .int .i64 (i44:Int)/\slot C 5= .slice d38 f.length o) u0.all.length ?_ ?_
 .refine ⟨0,none,0,[],([]:List Int),(Nat.sub_zero _).symm,Nat.zero_le _,g,rfl,aZ.nil _ _ _,Nat.le_refl _,?_⟩;simp only[*,go_sem]
 rintro b5 ca F' D ⟨i44,d38,o,t,f,rfl,cb,g,rfl,E,cd,cf,cl⟩;obtain ⟨Y,Z,ab⟩:=D.pick [1,4,9,10] aO;simp only[*,go_sem] at Y Z ab;clear D S hd T k1;apply aD hJ _;apply ah hJ;rcases Nat.lt_or_ge i44 u0.all.length with ad|F
 .refine cz hJ ?_;apply aK hJ;obtain ⟨i,u⟩:∃x,u0.all[i44]?=some x:=⟨_,List.getElem?_eq_getElem ad⟩
  rw[dr u] at g;revert g;refine bS fun cy h ae=>?_;unfold wh at h;try dsimp only at h
  obtain ⟨G,al,ao,ar,p⟩:=z.el _ _ u;obtain rfl:al=i.cells:=ar;cases ao;have a0:=p 0 _ rfl;simp only[go_sem] at a0;have a2:=p 1 _ rfl;simp only[go_sem] at a2;have a3:=p 2 _ rfl;simp only[go_sem] at a3;clear p u;refine ah hJ (aW hJ (ah hJ ?_));refine aE hJ fun a4=>?_;apply aM hJ _;refine az fun H cS I=>?_;have c0:=aY.cons I a4;try simp only[au] at I
  refine aE hJ fun a5=>?_;apply aG hJ;revert h;refine bS fun q a6 h=>?_;obtain ⟨da,db,a7⟩:=bG.get_some a6;try simp only[go_sem] at a7
  revert h;refine bS fun a8 a9 h=>?_;cases h;obtain ⟨ba,K⟩:=dQ a9;apply ag _;refine az fun L bb M=>?_;have bc:=aY.cons M a5;try simp only[au] at M
  refine eI (r:=rI) (l:=f) (x:=q) (cs:=#[.int .i64 q]) (e2:=3) [(L,ic q),(H,.cells #[.int .i64 i.e0,.int .i64 i.e1,.int .i64 i.e2] 158),(e,kn u0 s1 a b c (sl (some G) u0.all d))] [] E bc ba rfl aI bb rfl rfl fZ fZ kM kO rfl kN aO aO (fun dd N w j k df=>?_);simp only[bn] at k;subst j;rw[<-K] at w;clear K;obtain ⟨d66,bd,rfl,bj⟩:=w.len;refine ⟨⟨ro,(L,ic q)::(H,.cells #[.int .i64 i.e0,.int .i64 i.e1,.int .i64 i.e2] 158)::(e,kn u0 s1 a b c (sl (some G) u0.all d))::N⟩,Le.refl _,?_⟩;apply aP;apply ag _;have dk:=cw (n:=i44) (by have:=R;omega);apply aM hJ _;refine ⟨u0.all.length - (i44+1),aa,_,Le.sub (List.Sublist.cons _ (List.Sublist.cons _ (List.Sublist.refl _))),i44+1,d66,bd,N,a8,rfl,aa,ae,rfl,w,bj,?_⟩;simp only[*,go_sem]
 have dp:=Nat.not_lt.2 F;refine cB hJ ?_;rw[List.drop_eq_nil_of_le F] at g;obtain rfl:=sI g;clear g;have h:=X;dsimp only[aL] at h;apply bT;simp only[go_sem];apply ah hJ;refine aE hJ fun dq=>?_;apply aG hJ;revert h;refine bS fun bk bl h=>?_;apply ag _;refine ei hJ [(e,kn u0 s1 a b c (sl d31 u0.all d))] [] _ (Fq f E bl) (fun ds bm bo j k dt=>?_);obtain ⟨rfl,br⟩:=bo;simp only[bn] at k;subst j;refine ⟨⟨ro,(e,kn u0 s1 a b c (sl d31 u0.all d))::bm⟩,Le.refl _,?_⟩;apply ag _;apply ah hJ;refine aE hJ fun du=>?_;apply aG hJ;revert h;refine bS fun dv bs h=>?_;cases h;apply ag _;refine ei hJ [(e,kn u0 s1 a b c (sl d31 u0.all d))] [] _ (Fs bk.2 br bs) (fun dC bz O j k dE=>?_);simp only[bn] at k;subst j;obtain ⟨d83,dT,rfl,ea⟩:=O.len;refine ⟨⟨ro,(e,kn u0 s1 a b c (sl d31 u0.all d))::bz⟩,Le.refl _,?_⟩;apply aP;apply ag _;refine aE hJ fun P=>?_;obtain ⟨eb,b0,b1,Q,b2⟩:=O.fj [(e,kn u0 s1 a b c (sl d31 u0.all d))] [] P (aF.cons U (aF.nil _));clear P;refine cN hJ b2 ?_;obtain ⟨ec,ed,-⟩:=Q.op;simp only[bC] at b1;refine b9 ?_;exact ⟨_,b0,Le.sub (List.nil_sublist _),_,rfl,Q⟩
def wj (u0:dw)(i47:Nat)(i75:Nat)(b:Int)(st:(List bM)):Option (Fl (List bM) (List bM)):=
 aj (kg u0.book (i47:Int) b) fun a=>aj (uW st a) fun c=>cond (!c) (aj (eA st ([a])) fun d=>some (.nx d)) (some (.nx st))
def wm (u0:dw)(i47:Nat)(c:dc)(st:(List bM)):Option (Fl (List bM) (List bM)):=
 aj (nv u0 (i47:Int)) fun a=>aj (bQ (wj u0 i47) 0 a st) fun o=>aL o (fun b=>some (.nx b)) (fun _ _=>none) (fun r=>some (.rt r))
def rY (u0:dw):Option (List bM):=
 aj (bQ (wm u0) 0 u0.book.aU ([]:List bM)) fun o=>aL o (fun a=>some a) (fun _ _=>none) (fun r=>some r)
theorem Ak {ro:Addr->Option Value}(u0:dw){s1 c R d:Value}(e:bV ro u0.book s1 c R d){f:Value}(H:aB g9 ro f u0.all){r:(List bM)}(h:rY u0=some r):eT Tryz.prog 94 #[.agg #[.int .i64 u0.book.bE,.int .i64 u0.book.cD,.int .i64 u0.book.bx.num,.int .i64 u0.book.bx.den,s1,c,R,d,f]] ro (fun v aT=>∃S,v=S/\aB iY aT S r):=by
 obtain ⟨d17,o,rfl,e0,a8,-⟩:=id e.y;unfold rY at h;refine aA.go Tryz.func94 rfl Tryz.ntmps94 Tryz.results94 av fun main J hJ A a9 hd hs=>?_;have ba:=hs 0;clear hs;apply aD hJ _;refine az fun p I bb=>?_;try simp only[au] at bb
 apply aD hJ _;refine ah hJ (an hJ ?_);apply ag _;apply aW hJ;revert h;refine bS fun bc i bd=>?_;refine b7 hJ (rg 13 26 [3,4,6,7]) (fun m s F'=>∃(i47:Nat) (w:Addr->Option Value) (d38:Option Addr) (t:Nat) (z:List (Nat×Obj)) (j:(List bM)),m=u0.book.aU.length - i47/\i47<=u0.book.aU.length/\bQ (wm u0) i47 (u0.book.aU.drop i47) j=some bc/\F'=⟨w,(p,kn u0 s1 c (sl d17 u0.book.aU o) d f)::z⟩/\Ext ro w/\aZ iY w 112 (.slice d38 j.length t) j z/\j.length<=t/\slot s 13= .int .i64 (i47:Int)/\slot s 3= .slice d38 j.length t) u0.book.aU.length ?_ ?_
 .refine ⟨0,ro,none,0,[],([]:List bM),(Nat.sub_zero _).symm,Nat.zero_le _,i,rfl,Ext.refl _,aZ.nil _ _ _,Nat.le_refl _,?_⟩;simp only[*,go_sem]
 rintro e1 bj F' T ⟨i47,w,d38,t,z,j,rfl,e3,i,rfl,B,C,bk,bl,bm⟩;refine fF hJ fun _ U=>?_;replace e:=e.mono B;replace H:=H.mono B;replace I:=U.hd;simp only[bC] at U;obtain ⟨V,W,X⟩:=T.pick [1,2,12] aO;simp only[*,go_sem] at V W X;clear T a9 hd ba;apply aD hJ _;apply ah hJ;rcases Nat.lt_or_ge i47 u0.book.aU.length with bo|Y
 .refine cz hJ ?_;apply aK hJ;obtain ⟨br,K⟩:∃x,u0.book.aU[i47]?=some x:=⟨_,List.getElem?_eq_getElem bo⟩
  rw[dr K] at i;revert i;refine bS fun fa h bs=>?_;unfold wm at h;try dsimp only at h
  obtain ⟨D,bz,b0,b1,E⟩:=e.y.el _ _ K;obtain rfl:bz=br.cells:=b1;cases b0;have b2:=E 0 _ rfl;simp only[go_sem] at b2;have b3:=E 1 _ rfl;simp only[go_sem] at b3;have b4:=E 2 _ rfl;simp only[go_sem] at b4;clear E K;refine ah hJ (aW hJ (ah hJ ?_));refine aE hJ fun fb=>?_;apply aM hJ _;apply ah hJ;refine aE hJ fun fg=>?_;apply aG hJ;revert h;refine bS fun g b5 h=>?_;apply ag _;refine cr hJ _ (rX u0 e H (i47:Int) b5) fun v F L M ca=>?_;obtain ⟨fi,rfl,Z⟩:=ca;replace e:=e.mono L;replace I:=M.hd;replace C:=C.mono L M.tl;simp only[bC] at M;obtain ⟨d64,fp,rfl,fr,ab,-⟩:=id Z;apply aP;apply ag _;apply aW hJ;revert h;refine bS fun cb k cd=>?_;refine b7 hJ (rg 20 18 [3,6,7]) (fun m s F'=>∃(i75:Nat) (d70:Option Addr) (q:Nat) (u:List (Nat×Obj)) (b:(List bM)),m=g.length - i75/\i75<=g.length/\bQ (wj u0 i47) i75 (g.drop i75) b=some cb/\F'=⟨F,(p,kn u0 s1 c (sl (some D) u0.book.aU o) d f)::u⟩/\aZ iY F 112 (.slice d70 b.length q) b u/\b.length<=q/\slot s 20= .int .i64 (i75:Int)/\slot s 3= .slice d70 b.length q) g.length ?_ ?_
  .refine ⟨0,d38,t,z,j,(Nat.sub_zero _).symm,Nat.zero_le _,k,rfl,C,bk,?_⟩;simp only[*,go_sem]
  rintro fs cf F' N ⟨i75,d70,q,u,b,rfl,ft,k,rfl,G,ad,fu,fv⟩;obtain ⟨cl,cy,cS⟩:=N.pick [1,2,4,12,13,14,15,16,17,18,19] aO;simp only[*,go_sem] at cl cy cS;have fw:cR (rg 13 26 [3,4,6,7]) cf bj:=(N.gq aO).trans aI;clear N V W X bm bl;apply aD hJ _;apply ah hJ;rcases Nat.lt_or_ge i75 g.length with c0|ae
  .refine cz hJ ?_;apply aK hJ;obtain ⟨al,O⟩:∃x,g[i75]?=some x:=⟨_,List.getElem?_eq_getElem c0⟩
   rw[dr O] at k;revert k;refine bS fun fx h ao=>?_;unfold wj at h;(try dsimp only at h);obtain ⟨fz,da,db,dd,ar⟩:=Z.el _ _ O;obtain rfl:da=[.int .i64 al]:=dd;cases db;have df:=ar 0 _ rfl;simp only[go_sem] at df;clear ar O;refine ah hJ (aW hJ (ah hJ ?_));refine aE hJ fun gg=>?_;apply aM hJ _;apply ah hJ;refine aE hJ fun dk=>?_;apply aG hJ;revert h;refine bS fun a dp h=>?_;apply ag _;refine bf hJ _ (mb u0.book (e.mono bg) (i47:Int) al dp) (aP ?_);apply ag _;refine az fun P gl a0=>?_;have gn:=aY.cons a0 dk;try simp only[au] at a0
   apply ah hJ;refine aE hJ fun dq=>?_;apply aG hJ;revert h;refine bS fun gp ds h=>?_;apply ag _;refine bf hJ _ (EK b (G.zW [(P,.cells #[.int .i64 a.back,.int .i64 a.high] 112),(p,kn u0 s1 c (sl (some D) u0.book.aU o) d f)] [] (by first|rfl|simp only[bn]|(simp only[bn];rfl)) dq) a ds) (aP ?_);apply ag _;revert h;refine aX hJ (fun dt h=>?_) fun dt h=>?_
   .refine aE hJ fun du=>?_;apply aG hJ;revert h;refine bS fun dv dC h=>?_;cases h;obtain ⟨dE,a2⟩:=dQ dC;apply ag _;refine az fun a3 dT a4=>?_;have ea:=aY.cons a4 du;try simp only[au] at a4
    refine eI (r:=iY) (l:=b) (x:=a) (cs:=#[.int .i64 a.back,.int .i64 a.high]) (e2:=112) [(a3,.cells #[.int .i64 a.back,.int .i64 a.high] 112),(P,.cells #[.int .i64 a.back,.int .i64 a.high] 112),(p,kn u0 s1 c (sl (some D) u0.book.aU o) d f)] [] G ea dE rfl aI dT rfl rfl zk zk C8 Da rfl C9 aO aO (fun gB a5 Q eb ec gC=>?_);simp only[bn] at ec;subst eb;rw[<-a2] at Q;clear a2;obtain ⟨d102,ed,rfl,eh⟩:=Q.len;refine ⟨⟨F,(a3,.cells #[.int .i64 a.back,.int .i64 a.high] 112)::(P,.cells #[.int .i64 a.back,.int .i64 a.high] 112)::(p,kn u0 s1 c (sl (some D) u0.book.aU o) d f)::a5⟩,Le.refl _,?_⟩;apply aP;apply ag _;have et:=cw (n:=i75) (by have:=ab;omega);apply aM hJ _;refine ⟨g.length - (i75+1),aa,_,Le.sub (List.Sublist.cons _ (List.Sublist.cons _ (List.Sublist.refl _))),i75+1,d102,ed,a5,dv,rfl,aa,ao,rfl,Q,eh,?_⟩;simp only[*,go_sem]
   cases h;apply aK hJ;have et:=cw (n:=i75) (by have:=ab;omega);apply aM hJ _;refine ⟨g.length - (i75+1),aa,_,Le.sub (List.Sublist.cons _ (List.Sublist.refl _)),i75+1,d70,q,u,b,rfl,aa,ao,rfl,G,ad,?_⟩;simp only[*,go_sem]
  have gV:=Nat.not_lt.2 ae;refine cB hJ ?_;rw[List.drop_eq_nil_of_le ae] at k;obtain rfl:=sI k;clear k;have h:=cd;dsimp only[aL] at h;cases h;apply bT;simp only[go_sem];have g0:=cw (n:=i47) (by have:=a8;omega);apply aM hJ _;refine ⟨u0.book.aU.length - (i47+1),aa,_,Le.sub (List.Sublist.refl _),i47+1,F,d70,q,u,b,rfl,aa,bs,rfl,(B.trans L),G,ad,?_⟩;simp only[*,go_sem]
 have g1:=Nat.not_lt.2 Y;refine cB hJ ?_;rw[List.drop_eq_nil_of_le Y] at i;obtain rfl:=sI i;clear i;have h:=bd;dsimp only[aL] at h;cases h;apply bT;simp only[go_sem];apply ah hJ;refine aE hJ fun g2=>?_;apply aM hJ _;refine aE hJ fun a6=>?_;obtain ⟨g3,ev,eQ,a7,eS⟩:=C.fj [(p,kn u0 s1 c (sl d17 u0.book.aU o) d f)] [] a6 (aF.cons I (aF.nil _));clear a6;refine cN hJ eS ?_;obtain ⟨g4,ha,-⟩:=a7.op;simp only[bC] at eQ;refine b9 ?_;exact ⟨_,(B).trans ev,Le.sub (List.nil_sublist _),_,rfl,a7⟩
def wo (a:Int)(i109:Nat)(b:cn)(st:((List Int)×(List cn))):Option (Fl ((List Int)×(List cn)) ((List Int)×Int)):=
 aj (tZ a (i109:Int)) fun c=>cond (((y7 c 1)==1)) (aj (eA st.1 ([(i109:Int)])) fun d=>aj (eA st.2 ([b])) fun e=>some (.nx (d,e))) (some (.nx (st.1,st.2)))
def wq (u0:aC)(a:(aC×Int))(c:Int)(st:((List (List Int))×Int)):Option (Fl ((List (List Int))×Int) ((List Int)×Int)):=
 cond (decide (st.2<c)) (aj (bQ (wo st.2) 0 u0.told (([]:List Int),([]:List cn))) fun o=>aL o (fun b=>aj (rH (⟨a.1.bE,a.1.cD,a.1.bx,a.1.aR,a.1.props,a.1.aU,b.2⟩:aC)) fun d=>cond (!d) (aj (eA st.1 ([b.1])) fun e=>some (.nx (e,(IntKind.i64.wrap (st.2+1))))) (some (.nx (st.1,(IntKind.i64.wrap (st.2+1)))))) (fun _ _=>none) (fun r=>some (.rt r))) (some (.bk (st.1,st.2)))
def wu (u0:aC):Option ((List Int)×Int):=
 aj (gO u0 ([]:(List (aC->Option Int)))) fun a=>cond ((a.2 != 0)) (some (([]:(List Int)),a.2)) (aj (rH a.1) fun c=>cond (c) (some (([]:(List Int)),0)) (aj (tY 1 (u0.told.length:Int)) fun d=>aj (bB (wq u0 a d) fu (([]:List (List Int)),0)) fun o=>aL o (fun b=>aj (bH b.1 0) fun e=>aj (jv b.1 1 (b.1.length:Int)) fun f=>aj (uR rS e f) fun g=>some (g,0)) (fun _ _=>none) (fun r=>some r)))
theorem Al {ro:Addr->Option Value}(fz:dy ro)(u0:aC){s1 i j b4:Value}(K:bV ro u0 s1 i j b4){r:((List Int)×Int)}(h:wu u0=some r):eT Tryz.prog 50 #[bv u0 s1 i j b4] ro (fun v aT=>∃b5,v= .tuple #[b5,.int .i64 r.2]/\aB rI aT b5 r.1):=by
 obtain ⟨d24,k,rfl,m2,ab,-⟩:=id K.t;unfold wu at h;have gg:=K.oc;simp only[bN] at gg;refine aA.go Tryz.func50 rfl Tryz.ntmps50 Tryz.results50 av fun main J hJ A gl hd hs=>?_;have gn:=hs 0;clear hs;apply aD hJ _;refine az fun o L gp=>?_;try simp only[au] at gp
 apply an hJ;revert h;refine bS fun b gB h=>?_;apply ag _;refine cr hJ _ (ki fz u0 K ([]:(List (aC->Option Int))) (aB.nil _ _) gB) fun v ca ad cb a7=>?_;obtain ⟨c,d,f,q,rfl,P⟩:=a7;have gC:=P.oc;simp only[bN] at gC;replace K:=K.mono ad;replace L:=cb.hd;simp only[bC] at cb;apply aP;apply ag _;refine az fun s Q gV=>?_;try simp only[au] at gV
 refine ah hJ (an hJ ?_);apply ag _;revert h;refine aX hJ (fun g0 h=>?_) fun g0 h=>?_
 .cases h;apply aD hJ _;refine b9 ?_;exact ⟨_,ad,Le.sub (List.nil_sublist _),_,rfl,aB.nil _ _⟩
 refine aK hJ (ah hJ ?_);apply an hJ;revert h;refine bS fun na g1 h=>?_;apply ag _;refine bf hJ _ (Aa b.1 (P.mono bg) g1) ?_;revert h;refine aX hJ (fun g2 h=>?_) fun g2 h=>?_
 .cases h;apply aD hJ _;refine b9 ?_;exact ⟨_,ad,Le.sub (List.nil_sublist _),_,rfl,aB.nil _ _⟩
 refine aK hJ (ah hJ ?_);apply aM hJ _;refine ah hJ (an hJ ?_);revert h;refine bS fun g3 cd h=>?_;obtain ⟨nb,g4⟩:=CR cd;clear cd;try simp only[go_sem] at g4
 apply ag _;apply aW hJ;revert h;refine bS fun ha ae hc=>?_;refine b7 hJ (rg 26 40 (rg 6 6 [])) (fun m V F'=>∃(B:Addr->Option Value) (d71:Option Addr) (S:Nat) (w:List (Nat×Obj)) (I:(List (List Int))) (T:Int),bB (wq u0 b g3) m (I,T)=some ha/\F'=⟨B,(s,bl b.1 c d f q)::(o,bk u0 s1 i j (sl d24 u0.told k))::w⟩/\Ext ca B/\aZ (rL rI) B 60 (.slice d71 I.length S) I w/\I.length<=S/\slot V 6= .slice d71 I.length S/\slot V 26= .int .i64 T) fu ?_ ?_
 .refine ⟨ca,none,0,[],([]:List (List Int)),0,ae,rfl,Ext.refl _,aZ.nil _ _ _,Nat.le_refl _,?_⟩;simp only[*,go_sem]
 rintro al hf F' cf ⟨B,d71,S,w,I,T,ae,rfl,W,U,hg,hh,hi⟩;refine fF hJ fun _ a8=>?_;replace P:=P.mono W;replace K:=K.mono W;replace Q:=a8.hd;replace L:=a8.tl.hd;simp only[bC] at a8;obtain ⟨cl,cy,cS⟩:=cf.pick [1,2,3,4,25] aO;simp only[*,go_sem] at cl cy cS;clear cf gl hd gn;obtain _|al:=al
 .exact absurd ae (by simp only[bB,reduceCtorEq,not_false_eq_true])
 revert ae;refine bS fun nd h ao=>?_;unfold wq at h;try dsimp only at h
 apply ah hJ;refine aE hJ fun nf=>?_;apply aM hJ _;apply ah hJ;revert h;refine aX hJ (fun hj h=>?_) fun hj h=>?_
 .refine aK hJ (ah hJ ?_);refine aW hJ (ah hJ ?_);refine aE hJ fun nm=>?_;apply aM hJ _;apply ah hJ;refine aE hJ fun nn=>?_;apply aM hJ _;apply ah hJ;refine aE hJ fun hk=>?_;apply aM hJ _;refine az fun z hl c0=>?_;have np:=aY.cons c0 hk;try simp only[au] at c0
  apply ah hJ;refine aE hJ fun ns=>?_;apply aM hJ _;refine ah hJ (ah hJ ?_);refine aE hJ fun nx=>?_;apply aM hJ _;apply aW hJ;revert h;refine bS fun hn R ho=>?_;refine b7 hJ (rg 35 23 [8,10,11]) (fun m V F'=>∃(i109:Nat) (d96:Option Addr) (M:Nat) (X:List (Nat×Obj)) (d103:Option Addr) (u:Nat) (C:List (Nat×Obj)) (D:(List Int)) (g:(List cn)),m=u0.told.length - i109/\i109<=u0.told.length/\bQ (wo T) i109 (u0.told.drop i109) (D,g)=some hn/\F'=⟨B,(z,bl b.1 c d f (sl d103 g u))::(s,bl b.1 c d f q)::(o,bk u0 s1 i j (sl d24 u0.told k))::(X++(C++w))⟩/\aZ rI B 3 (.slice d96 D.length M) D X/\D.length<=M/\aZ dD B 101 (.slice d103 g.length u) g C/\g.length<=u/\slot V 35= .int .i64 (i109:Int)/\slot V 8= .slice d96 D.length M) u0.told.length ?_ ?_
  .refine ⟨0,none,0,[],none,0,[],([]:List Int),([]:List cn),(Nat.sub_zero _).symm,Nat.zero_le _,R,rfl,aZ.nil _ _ _,Nat.le_refl _,aZ.nil _ _ _,Nat.le_refl _,?_⟩;simp only[*,go_sem]
  rintro nz hp F' a9 ⟨i109,d96,M,X,d103,u,C,D,g,rfl,nA,R,rfl,Y,hq,N,hr,nH,nI⟩;obtain ⟨ht,hv,hx⟩:=a9.pick [1,2,3,4,6,7,9,25,26,27,28,29,30,31,32,33,34] aO;simp only[*,go_sem] at ht hv hx;have nK:cR (rg 26 40 (rg 6 6 [])) hp hf:=(a9.gq aO).trans aI;clear a9 cl cy cS hh hi;apply aD hJ _;apply ah hJ;rcases Nat.lt_or_ge i109 u0.told.length with hy|da
  .refine cz hJ ?_;apply aK hJ;obtain ⟨a,ba⟩:∃x,u0.told[i109]?=some x:=⟨_,List.getElem?_eq_getElem hy⟩
   rw[dr ba] at R;revert R;refine bS fun nQ h ar=>?_;unfold wo at h;(try dsimp only at h);obtain ⟨E,hz,hA,hB,bb⟩:=K.t.el _ _ ba;obtain rfl:hz=a.cells:=hB;cases hA;have hD:=bb 0 _ rfl;simp only[go_sem] at hD;have hE:=bb 1 _ rfl;simp only[go_sem] at hE;clear bb ba;refine ah hJ (aW hJ (ah hJ ?_));refine aE hJ fun hF=>?_;apply aM hJ _;refine az fun F nR db=>?_;have nT:=aY.cons db hF;try simp only[au] at db
   apply ah hJ;refine aE hJ fun nV=>?_;apply aG hJ;revert h;refine bS fun nX dd h=>?_;obtain ⟨nY,hG⟩:=CS dd;clear dd;(try simp only[go_sem] at hG);apply ag _;revert h;refine aX hJ (fun hI h=>?_) fun hI h=>?_
   .refine aE hJ fun df=>?_;refine e5 hJ mixed [13] (.pure 0 (.pure 1 (.pure 4 (.pure 5 (.rd 6 (.rd 7 (.two 2 (.two 3 (.one 8 (.one 9 (.pure 10 (.pure 11 (.pure 12 (.last 13 .done)))))) 8 (.one 3 (.one 9 (.pure 10 (.pure 11 (.pure 12 (.last 13 .done))))))) 8 (.one 2 (.one 3 (.one 9 (.pure 10 (.pure 11 (.pure 12 (.last 13 .done)))))))))))))) ⟨B,[(F,.cells #[.int .i64 a.aS,.bool a.bL] 101),(z,bl b.1 c d f (sl d103 g u)),(s,bl b.1 c d f q),(o,bk u0 s1 i j (sl (some E) u0.told k))]⟩ aI ai ?_;apply ag _;refine j3 ?_ ?_
    .apply ag _;refine az fun O dk dp=>?_;have dq:=aY.cons dp df;try simp only[au] at dp
     apply ag _;refine j3 ?_ ?_
     .revert h;refine bS fun hK hL h=>?_;obtain ⟨hM,ds⟩:=dQ hL;apply ag _;refine eI (r:=rI) (l:=D) (x:=(i109:Int)) (cs:=#[.int .i64 (i109:Int)]) (e2:=3) [(O,ic (i109:Int)),(F,.cells #[.int .i64 a.aS,.bool a.bL] 101),(z,bl b.1 c d f (sl d103 g u)),(s,bl b.1 c d f q),(o,bk u0 s1 i j (sl (some E) u0.told k))] (C++w) Y dq hM rfl aI dk rfl rfl fZ fZ kM kO rfl kN aO aO (fun n0 a0 bc G H hN=>?_);simp only[bn] at H;subst G;rw[<-ds] at bc;clear ds;obtain ⟨d197,hP,rfl,hQ⟩:=bc.len;refine ⟨⟨B,(O,ic (i109:Int))::(F,.cells #[.int .i64 a.aS,.bool a.bL] 101)::(z,bl b.1 c d f (sl d103 g u))::(s,bl b.1 c d f q)::(o,bk u0 s1 i j (sl (some E) u0.told k))::(a0++(C++w))⟩,Le.refl _,?_⟩;refine ⟨aI,cm ?_⟩;revert h;refine bS fun hR hS h=>?_;cases h;obtain ⟨hT,dt⟩:=dQ hS;apply ag _;refine az fun du hV dv=>?_;have hX:=aY.cons dv hN;try simp only[au] at dv
      apply ag _;refine eI (r:=dD) (l:=g) (x:=a) (cs:=#[.int .i64 a.aS,.bool a.bL]) (e2:=101) ((du,.cells #[.int .i64 a.aS,.bool a.bL] 101)::(O,ic (i109:Int))::(F,.cells #[.int .i64 a.aS,.bool a.bL] 101)::(z,bl b.1 c d f (sl d103 g u))::(s,bl b.1 c d f q)::(o,bk u0 s1 i j (sl (some E) u0.told k))::a0) w N hX hT rfl aI hV rfl rfl eM eM ir iw rfl iu aO aO (fun n1 dC bd G H n2=>?_);simp only[bn] at H;subst G;rw[<-dt] at bd;clear dt;obtain ⟨d208,hY,rfl,hZ⟩:=bd.len;refine ⟨⟨B,(du,.cells #[.int .i64 a.aS,.bool a.bL] 101)::(O,ic (i109:Int))::(F,.cells #[.int .i64 a.aS,.bool a.bL] 101)::(z,bl b.1 c d f (sl d103 g u))::(s,bl b.1 c d f q)::(o,bk u0 s1 i j (sl (some E) u0.told k))::(a0++(dC++w))⟩,Le.refl _,?_⟩;refine ⟨aI,cm ?_⟩;apply ag _;have bj:=cw (n:=i109) (by have:=ab;omega);apply aM hJ _;refine ⟨u0.told.length - (i109+1),aa,_,Le.sub (List.Sublist.cons _ (List.Sublist.cons _ (List.Sublist.cons _ (List.Sublist.refl _)))),i109+1,d197,hP,a0,d208,hY,dC,hK,hR,rfl,aa,ar,rfl,bc,hQ,bd,hZ,?_⟩;simp only[*,go_sem]
     revert h;refine bS fun h0 h1 h=>?_;obtain ⟨h2,dE⟩:=dQ h1;apply ag _;refine az fun a2 h3 dT=>?_;have h4:=aY.cons dT dq;try simp only[au] at dT
     apply ag _;refine eI (r:=rI) (l:=D) (x:=(i109:Int)) (cs:=#[.int .i64 (i109:Int)]) (e2:=3) [(a2,.cells #[.int .i64 a.aS,.bool a.bL] 101),(O,ic (i109:Int)),(F,.cells #[.int .i64 a.aS,.bool a.bL] 101),(z,bl b.1 c d f (sl d103 g u)),(s,bl b.1 c d f q),(o,bk u0 s1 i j (sl (some E) u0.told k))] (C++w) Y h4 h2 rfl aI dk rfl rfl fZ fZ kM kO rfl kN aO aO (fun n3 a3 bm G H h5=>?_);simp only[bn] at H;subst G;rw[<-dE] at bm;clear dE;obtain ⟨d219,h6,rfl,h7⟩:=bm.len;refine ⟨⟨B,(a2,.cells #[.int .i64 a.aS,.bool a.bL] 101)::(O,ic (i109:Int))::(F,.cells #[.int .i64 a.aS,.bool a.bL] 101)::(z,bl b.1 c d f (sl d103 g u))::(s,bl b.1 c d f q)::(o,bk u0 s1 i j (sl (some E) u0.told k))::(a3++(C++w))⟩,Le.refl _,?_⟩;refine ⟨aI,cm ?_⟩;revert h;refine bS fun h8 h9 h=>?_;cases h;obtain ⟨ib,ea⟩:=dQ h9;apply ag _;refine eI (r:=dD) (l:=g) (x:=a) (cs:=#[.int .i64 a.aS,.bool a.bL]) (e2:=101) ((a2,.cells #[.int .i64 a.aS,.bool a.bL] 101)::(O,ic (i109:Int))::(F,.cells #[.int .i64 a.aS,.bool a.bL] 101)::(z,bl b.1 c d f (sl d103 g u))::(s,bl b.1 c d f q)::(o,bk u0 s1 i j (sl (some E) u0.told k))::a3) w N h5 ib rfl aI h3 rfl rfl eM eM ir iw rfl iu aO aO (fun oi eb bo G H oj=>?_);simp only[bn] at H;subst G;rw[<-ea] at bo;clear ea;obtain ⟨d228,ih,rfl,ik⟩:=bo.len;refine ⟨⟨B,(a2,.cells #[.int .i64 a.aS,.bool a.bL] 101)::(O,ic (i109:Int))::(F,.cells #[.int .i64 a.aS,.bool a.bL] 101)::(z,bl b.1 c d f (sl d103 g u))::(s,bl b.1 c d f q)::(o,bk u0 s1 i j (sl (some E) u0.told k))::(a3++(eb++w))⟩,Le.refl _,?_⟩;refine ⟨aI,cm ?_⟩;apply ag _;have bj:=cw (n:=i109) (by have:=ab;omega);apply aM hJ _;refine ⟨u0.told.length - (i109+1),aa,_,Le.sub (List.Sublist.cons _ (List.Sublist.cons _ (List.Sublist.cons _ (List.Sublist.refl _)))),i109+1,d219,h6,a3,d228,ih,eb,h0,h8,rfl,aa,ar,rfl,bm,h7,bo,ik,?_⟩;simp only[*,go_sem]
    revert h;refine bS fun il im h=>?_;obtain ⟨iv,ec⟩:=dQ im;apply ag _;refine az fun a4 ix ed=>?_;have jC:=aY.cons ed df;try simp only[au] at ed
    apply ag _;refine az fun a5 j1 eh=>?_;have j2:=aY.cons eh jC;try simp only[au] at eh
    apply ag _;refine eI (r:=rI) (l:=D) (x:=(i109:Int)) (cs:=#[.int .i64 (i109:Int)]) (e2:=3) [(a5,ic (i109:Int)),(a4,.cells #[.int .i64 a.aS,.bool a.bL] 101),(F,.cells #[.int .i64 a.aS,.bool a.bL] 101),(z,bl b.1 c d f (sl d103 g u)),(s,bl b.1 c d f q),(o,bk u0 s1 i j (sl (some E) u0.told k))] (C++w) Y j2 iv rfl aI j1 rfl rfl fZ fZ kM kO rfl kN aO aO (fun ox a6 br G H kh=>?_);simp only[bn] at H;subst G;rw[<-ec] at br;clear ec;obtain ⟨d241,kj,rfl,kk⟩:=br.len;refine ⟨⟨B,(a5,ic (i109:Int))::(a4,.cells #[.int .i64 a.aS,.bool a.bL] 101)::(F,.cells #[.int .i64 a.aS,.bool a.bL] 101)::(z,bl b.1 c d f (sl d103 g u))::(s,bl b.1 c d f q)::(o,bk u0 s1 i j (sl (some E) u0.told k))::(a6++(C++w))⟩,Le.refl _,?_⟩;refine ⟨aI,cm ?_⟩;revert h;refine bS fun kl km h=>?_;cases h;obtain ⟨kn,et⟩:=dQ km;apply ag _;refine eI (r:=dD) (l:=g) (x:=a) (cs:=#[.int .i64 a.aS,.bool a.bL]) (e2:=101) ((a5,ic (i109:Int))::(a4,.cells #[.int .i64 a.aS,.bool a.bL] 101)::(F,.cells #[.int .i64 a.aS,.bool a.bL] 101)::(z,bl b.1 c d f (sl d103 g u))::(s,bl b.1 c d f q)::(o,bk u0 s1 i j (sl (some E) u0.told k))::a6) w N kh kn rfl aI ix rfl rfl eM eM ir iw rfl iu aO aO (fun oy ev bs G H o0=>?_);simp only[bn] at H;subst G;rw[<-et] at bs;clear et;obtain ⟨d250,kp,rfl,ks⟩:=bs.len;refine ⟨⟨B,(a5,ic (i109:Int))::(a4,.cells #[.int .i64 a.aS,.bool a.bL] 101)::(F,.cells #[.int .i64 a.aS,.bool a.bL] 101)::(z,bl b.1 c d f (sl d103 g u))::(s,bl b.1 c d f q)::(o,bk u0 s1 i j (sl (some E) u0.told k))::(a6++(ev++w))⟩,Le.refl _,?_⟩;refine ⟨aI,cm ?_⟩;apply ag _;have bj:=cw (n:=i109) (by have:=ab;omega);apply aM hJ _;refine ⟨u0.told.length - (i109+1),aa,_,Le.sub (List.Sublist.cons _ (List.Sublist.cons _ (List.Sublist.cons _ (List.Sublist.refl _)))),i109+1,d241,kj,a6,d250,kp,ev,il,kl,rfl,aa,ar,rfl,br,kk,bs,ks,?_⟩;simp only[*,go_sem]
   cases h;apply aK hJ;have bj:=cw (n:=i109) (by have:=ab;omega);apply aM hJ _;refine ⟨u0.told.length - (i109+1),aa,_,Le.sub (List.Sublist.cons _ (List.Sublist.refl _)),i109+1,d96,M,X,d103,u,C,D,g,rfl,aa,ar,rfl,Y,hq,N,hr,?_⟩;simp only[*,go_sem]
  have o1:=Nat.not_lt.2 da;refine cB hJ ?_;rw[List.drop_eq_nil_of_le da] at R;obtain rfl:=sI R;clear R;have h:=ho;dsimp only[aL] at h;apply bT;simp only[go_sem];apply ah hJ;refine aE hJ fun kt=>?_;apply aG hJ;revert h;refine bS fun o2 kv h=>?_;apply ag _;refine bf hJ _ (Aa (⟨b.1.bE,b.1.cD,b.1.bx,b.1.aR,b.1.props,b.1.aU,g⟩:aC) ⟨(P.e.mono bg),(P.p.mono bg),(P.y.mono bg),(N.zW ((z,bl b.1 c d f (sl d103 g u))::(s,bl b.1 c d f q)::(o,bk u0 s1 i j (sl d24 u0.told k))::X) w (by first|rfl|simp only[bn]|(simp only[bn];rfl)) kt)⟩ kv) (aP ?_);apply ag _;revert h;refine aX hJ (fun kx h=>?_) fun kx h=>?_
  .refine aE hJ fun eQ=>?_;obtain ⟨eS,bz,Z,e0,ky⟩:=Y.kS ((z,bl b.1 c d f (sl d103 g u))::(s,bl b.1 c d f q)::(o,bk u0 s1 i j (sl d24 u0.told k))::(C++w)) [(z,bl b.1 c d f (sl d103 g u)),(s,bl b.1 c d f q),(o,bk u0 s1 i j (sl d24 u0.told k))] (C++w) (by first|rfl|simp only[bn]|(simp only[bn];rfl)) (by first|rfl|simp only[bn]|(simp only[bn];rfl)) eQ (aF.cons hl (aF.cons Q (aF.cons L (aF.app N.jx (U.jx)))));clear eQ;refine cN hJ ky ?_;obtain ⟨o4,pa,-⟩:=e0.op;replace Q:=Z.tl.hd;replace L:=Z.tl.tl.hd;replace N:=N.mono bz Z.tl.tl.tl.l;replace U:=U.mono bz Z.tl.tl.tl.r;simp only[bC] at Z;refine aE hJ fun k0=>?_;apply aG hJ;revert h;refine bS fun k2 lb h=>?_;cases h;obtain ⟨lh,e1⟩:=dQ lb;apply ag _;refine az fun e3 lj fa=>?_;have lk:=aY.cons fa k0;try simp only[au] at fa
   refine eI (r:=(rL rI)) (l:=I) (x:=D) (cs:=#[.slice d96 D.length M]) (e2:=60) ((e3,.cells #[.slice d96 D.length M] 60)::(z,bl b.1 c d f (sl d103 g u))::(s,bl b.1 c d f q)::(o,bk u0 s1 i j (sl d24 u0.told k))::C) [] U lk lh ⟨_,rfl,e0⟩ aI lj rfl rfl kQ kQ qC qE rfl qD aO aO (fun pb fb b0 G H pd=>?_);simp only[bn] at H;subst G;rw[<-e1] at b0;clear e1;obtain ⟨ll,ln,rfl,lo⟩:=b0.len;refine ⟨⟨eS,(e3,.cells #[.slice d96 D.length M] 60)::(z,bl b.1 c d f (sl d103 g u))::(s,bl b.1 c d f q)::(o,bk u0 s1 i j (sl d24 u0.told k))::(C++fb)⟩,Le.refl _,?_⟩;apply aP;apply ag _;refine aE hJ fun pf=>?_;apply aM hJ _;refine ⟨al,Nat.lt_succ_self _,_,Le.sub (List.Sublist.cons _ (List.Sublist.cons _ (List.Sublist.cons₂ _ (List.Sublist.cons₂ _ ((List.Sublist.refl _).trans (List.sublist_append_right _ _)))))),eS,ll,ln,fb,k2,(IntKind.i64.wrap (T+1)),ao,rfl,(W.trans bz),b0,lo,?_⟩;simp only[*,go_sem]
  cases h;apply aK hJ;refine aE hJ fun ph=>?_;apply aM hJ _;refine ⟨al,Nat.lt_succ_self _,_,Le.sub (List.Sublist.cons _ (List.Sublist.cons₂ _ (List.Sublist.cons₂ _ (((List.Sublist.refl _).trans (List.sublist_append_right _ _)).trans (List.sublist_append_right _ _))))),B,d71,S,w,I,(IntKind.i64.wrap (T+1)),ao,rfl,W,U,hg,?_⟩;simp only[*,go_sem]
 cases h;apply bT;simp only[go_sem];obtain rfl:=sI ao;clear ao;have h:=hc;dsimp only[aL] at h;apply ah hJ;refine aE hJ fun fg=>?_;obtain ⟨pj,lr,b1,b2,lv⟩:=U.kS ((s,bl b.1 c d f q)::(o,bk u0 s1 i j (sl d24 u0.told k))::[]) [(s,bl b.1 c d f q),(o,bk u0 s1 i j (sl d24 u0.told k))] [] (by first|rfl|simp only[bn]|(simp only[bn];rfl)) (by first|rfl|simp only[bn]|(simp only[bn];rfl)) fg (aF.cons Q (aF.cons L (aF.nil _)));clear fg;refine cN hJ lv ?_;obtain ⟨pk,po,-⟩:=b2.op;replace Q:=b1.hd;replace L:=b1.tl.hd;simp only[bC] at b1;refine cM hJ mixed 5 2 aI ai ?_;revert h;refine bS fun lx ly h=>?_;obtain ⟨pr,ps,fi⟩:=c6 ly;obtain ⟨pt,pv,lL,l1,fp⟩:=b2.el _ _ fi;obtain ⟨pw,rfl,fr⟩:=l1;obtain ⟨px,py,rfl,pA,pB,pC⟩:=id fr;cases lL;have l2:=fp 0 _ rfl;simp only[go_sem] at l2;clear fp fi;revert h;refine bS fun l3 l4 h=>?_;obtain ⟨pD,pT,p0,fs⟩:=mV l4;have ft:(1:Int).toNat<=((I.length:Int)).toNat:=aa;have ma:((I.length:Int)).toNat<=S:=aa;have p1:0<=((I.length:Int)):=aa;obtain ⟨qe,mf,mi,fv⟩:=aB.mW b2 (1:Int).toNat ((I.length:Int)).toNat ft aa fs;simp only[go_sem] at mf mi ft ma;obtain ⟨_,_,ml,qk,q0,q1⟩:=id fv;cases ml;clear fs;revert h;refine bS fun ra mn h=>?_;cases h;apply ag _;refine cr hJ _ (EH (dM:=110) (ej:=#[]) (ek:=#[]) rS ⟨by simp only[go_sem],fun rb re mr _ mx _ _ my m1 h=>by simp only[go_sem];exact Fx mr my mx m1 h⟩ lx fr l3 fv mn) fun v rh fw b3 a7=>?_;obtain ⟨rk,rfl,fx⟩:=a7;replace Q:=b3.hd;replace L:=b3.tl.hd;simp only[bC] at b3;obtain ⟨rl,rn,rfl,rp,rr,-⟩:=id fx;have rv:=e6 (l:=[(s,bl b.1 c d f q),(o,bk u0 s1 i j (sl d24 u0.told k))]) fw (aF.cons Q (aF.cons L (aF.nil _)));refine ⟨aI,?_⟩;refine gX ?_;apply ag _;refine b9 ?_;exact ⟨_,(((ad).trans W).trans lr).trans fw,Le.sub (List.nil_sublist _),_,rfl,fx⟩
def wv (a:(dw×Int))(i93:Nat)(b:bM)(st:(List b6)):Option (Fl (List b6) (ay×ay×Bool×Int)):=
 aj (k3 a.1.book b) fun c=>aj (eA st ([c])) fun d=>some (.nx d)
def wz (u0:aC):Option (ay×ay×Bool×Int):=
 aj (iC u0 ([]:(List (aC->Option Int)))) fun a=>cond ((a.2 != 0)) (some ((⟨0,0⟩:ay),(⟨0,0⟩:ay),false,a.2)) (aj (rY a.1) fun g=>aj (bQ (wv a) 0 g ([]:List b6)) fun o=>aL o (fun b=>aj (bH b 0) fun c=>aj (jv b 1 (b.length:Int)) fun d=>aj (mc jc c d) fun h=>aj (mc qZ c d) fun i=>aj (j9 h.high u0.bx) fun e=>aj (j8 i.high u0.bx) fun f=>aj (fo f e) fun j=>cond (j) (some ((⟨0,0⟩:ay),(⟨0,0⟩:ay),false,0)) (some (e,f,true,0))) (fun _ _=>none) (fun r=>some r))
theorem FC {ro:Addr->Option Value}(bl:dy ro)(u0:aC){s1 f g i:Value}(ab:bV ro u0 s1 f g i){r:(ay×ay×Bool×Int)}(h:wz u0=some r):aA Tryz.prog 42 #[bv u0 s1 f g i] ⟨ro,[]⟩ (fun v _=>v= .tuple #[r.1.v,r.2.1.v,.bool r.2.2.1,.int .i64 r.2.2.2]):=by
 unfold wz at h;have bm:=ab.oc;simp only[bN] at bm;refine aA.go Tryz.func42 rfl Tryz.ntmps42 Tryz.results42 av fun main J hJ A bo hd hs=>?_;have br:=hs 0;clear hs;apply aD hJ _;refine az fun j L bs=>?_;try simp only[au] at bs
 refine az fun z M bz=>?_;try simp only[au] at bz
 refine az fun B N b0=>?_;try simp only[au] at b0
 apply an hJ;revert h;refine bS fun d b1 h=>?_;apply ag _;refine cr hJ _ (jF bl u0 ab ([]:(List (aC->Option Int))) (aB.nil _ _) b1) fun v g2 g3 I O=>?_;obtain ⟨k,o,p,q,s,rfl,D,ad⟩:=O;have b2:=D.oc;simp only[bN] at b2;have b3:=ad.oc;simp only[bN] at b3;replace N:=I.hd;replace M:=I.tl.hd;replace L:=I.tl.tl.hd;simp only[bC] at I;apply aP;apply ag _;refine az fun t ae b4=>?_;try simp only[au] at b4
 refine ah hJ (an hJ ?_);apply ag _;revert h;refine aX hJ (fun b5 h=>?_) fun b5 h=>?_
 .cases h;apply aD hJ _;apply aJ;simp only[*,go_sem]
 refine aK hJ (ah hJ ?_);apply aM hJ _;refine ah hJ (an hJ ?_);revert h;refine bS fun u ca h=>?_;apply ag _;refine cr hJ _ (Ak d.1 D ad ca) fun v P cb E O=>?_;obtain ⟨g4,rfl,al⟩:=O;replace D:=D.mono cb;replace ae:=E.hd;replace N:=E.tl.hd;replace M:=E.tl.tl.hd;replace L:=E.tl.tl.tl.hd;simp only[bC] at E;obtain ⟨d81,ha,rfl,hc,cd,-⟩:=id al;apply aP;apply ag _;apply aW hJ;revert h;refine bS fun cf w cl=>?_;refine b7 hJ (rg 25 12 [7,9]) (fun m ao F'=>∃(i93:Nat) (d87:Option Addr) (G:Nat) (Q:List (Nat×Obj)) (e:(List b6)),m=u.length - i93/\i93<=u.length/\bQ (wv d) i93 (u.drop i93) e=some cf/\F'=⟨P,(t,kn d.1 k o p q s)::(B,rt 0 0)::(z,rt 0 0)::(j,bk u0 s1 f g i)::Q⟩/\aZ j6 P 116 (.slice d87 e.length G) e Q/\e.length<=G/\slot ao 25= .int .i64 (i93:Int)/\slot ao 7= .slice d87 e.length G) u.length ?_ ?_
 .refine ⟨0,none,0,[],([]:List b6),(Nat.sub_zero _).symm,Nat.zero_le _,w,rfl,aZ.nil _ _ _,Nat.le_refl _,?_⟩;simp only[*,go_sem]
 rintro hf hg F' ar ⟨i93,d87,G,Q,e,rfl,hh,w,rfl,a0,hi,hj,hk⟩;obtain ⟨cy,cS,c0⟩:=ar.pick [1,2,3,4,5,6,23,24] aO;simp only[*,go_sem] at cy cS c0;clear ar bo hd br;apply aD hJ _;apply ah hJ;rcases Nat.lt_or_ge i93 u.length with da|a2
 .refine cz hJ ?_;apply aK hJ;obtain ⟨C,R⟩:∃x,u[i93]?=some x:=⟨_,List.getElem?_eq_getElem da⟩
  rw[dr R] at w;revert w;refine bS fun hl h db=>?_;unfold wv at h;try dsimp only at h
  obtain ⟨hn,dd,df,dk,S⟩:=al.el _ _ R;obtain rfl:dd=C.cells:=dk;cases df;have dp:=S 0 _ rfl;simp only[go_sem] at dp;have dq:=S 1 _ rfl;simp only[go_sem] at dq;clear S R;refine ah hJ (aW hJ (ah hJ ?_));refine aE hJ fun ds=>?_;apply aM hJ _;refine az fun a3 ho a4=>?_;have hp:=aY.cons a4 ds;try simp only[au] at a4
  refine aE hJ fun dt=>?_;apply aG hJ;revert h;refine bS fun a du h=>?_;apply ag _;refine bf hJ _ (q8 d.1.book (D.mono bg) C du) (aP ?_);revert h;refine bS fun dv dC h=>?_;cases h;obtain ⟨dE,a5⟩:=dQ dC;apply ag _;refine az fun a6 dT a7=>?_;have ea:=aY.cons a7 dt;try simp only[au] at a7
  refine eI (r:=j6) (l:=e) (x:=a) (cs:=#[.int .i64 a.spot.aQ,.int .i64 a.spot.high.num,.int .i64 a.spot.high.den,.int .i64 a.at_,.int .i64 a.high.num,.int .i64 a.high.den]) (e2:=116) [(a6,.cells #[.int .i64 a.spot.aQ,.int .i64 a.spot.high.num,.int .i64 a.spot.high.den,.int .i64 a.at_,.int .i64 a.high.num,.int .i64 a.high.den] 116),(a3,.cells #[.int .i64 C.back,.int .i64 C.high] 112),(t,kn d.1 k o p q s),(B,rt 0 0),(z,rt 0 0),(j,bk u0 s1 f g i)] [] a0 ea dE rfl aI dT rfl rfl mX mX ug uj rfl uh aO aO (fun hq a8 T eb ec hr=>?_);simp only[bn] at ec;subst eb;rw[<-a5] at T;clear a5;obtain ⟨d115,ed,rfl,eh⟩:=T.len;refine ⟨⟨P,(a6,.cells #[.int .i64 a.spot.aQ,.int .i64 a.spot.high.num,.int .i64 a.spot.high.den,.int .i64 a.at_,.int .i64 a.high.num,.int .i64 a.high.den] 116)::(a3,.cells #[.int .i64 C.back,.int .i64 C.high] 112)::(t,kn d.1 k o p q s)::(B,rt 0 0)::(z,rt 0 0)::(j,bk u0 s1 f g i)::a8⟩,Le.refl _,?_⟩;apply aP;apply ag _;have ht:=cw (n:=i93) (by have:=cd;omega);apply aM hJ _;refine ⟨u.length - (i93+1),aa,_,Le.sub (List.Sublist.cons _ (List.Sublist.cons _ (List.Sublist.refl _))),i93+1,d115,ed,a8,dv,rfl,aa,db,rfl,T,eh,?_⟩;simp only[*,go_sem]
 have hv:=Nat.not_lt.2 a2;refine cB hJ ?_;rw[List.drop_eq_nil_of_le a2] at w;obtain rfl:=sI w;clear w;have h:=cl;dsimp only[aL] at h;apply bT;simp only[go_sem];apply ah hJ;refine aE hJ fun a9=>?_;obtain ⟨K,hx,et,U,ev⟩:=a0.fj [(t,kn d.1 k o p q s),(B,rt 0 0),(z,rt 0 0),(j,bk u0 s1 f g i)] [] a9 (aF.cons ae (aF.cons N (aF.cons M (aF.cons L (aF.nil _)))));clear a9;refine cN hJ ev ?_;obtain ⟨hy,hz,-⟩:=U.op;simp only[bC] at et;refine eg hJ mixed 6 ⟨K,[(t,kn d.1 k o p q s),(B,rt 0 0),(z,rt 0 0),(j,bk u0 s1 f g i)]⟩ aI ai ?_;revert h;refine bS fun V eQ h=>?_;obtain ⟨hA,hB,ba⟩:=c6 eQ;obtain ⟨hD,eS,e0,e1,y⟩:=U.el _ _ ba;obtain rfl:eS=V.cells:=e1;cases e0;have e3:=y 0 _ rfl;simp only[go_sem] at e3;have fa:=y 1 _ rfl;simp only[go_sem] at fa;have fb:=y 2 _ rfl;simp only[go_sem] at fb;have fg:=y 3 _ rfl;simp only[go_sem] at fg;have fi:=y 4 _ rfl;simp only[go_sem] at fi;have fp:=y 5 _ rfl;simp only[go_sem] at fp;clear y ba;revert h;refine bS fun bb fr h=>?_;obtain ⟨hE,hF,hG,bc⟩:=mV fr;have bd:(1:Int).toNat<=((e.length:Int)).toNat:=aa;have fs:((e.length:Int)).toNat<=G:=aa;have hI:0<=((e.length:Int)):=aa;obtain ⟨d132,ft,fu,W⟩:=aB.mW U (1:Int).toNat ((e.length:Int)).toNat bd aa bc;simp only[go_sem] at ft fu bd fs;obtain ⟨_,_,fv,hK,hL,hM⟩:=id W;cases fv;clear bc;revert h;refine bS fun b fw h=>?_;apply ag _;refine ⟨_,bD hJ fun F H=>qY (dM:=78) (ej:=#[]) (ek:=#[]) jc ⟨by simp only[go_sem],fun fx fz X Y _ h=>by simp only[go_sem];exact qU X Y h⟩ V bb (W.mono (cx H)) fw,?_⟩;apply ag _;refine az fun Z hN gg=>?_;try simp only[au] at gg
 apply ag _;apply ah hJ;refine eg hJ mixed 6 ⟨K,[(Z,.cells #[.int .i64 b.spot.aQ,.int .i64 b.spot.high.num,.int .i64 b.spot.high.den,.int .i64 b.at_,.int .i64 b.high.num,.int .i64 b.high.den] 116),(t,kn d.1 k o p q s),(B,rt 0 0),(z,rt 0 0),(j,bk u0 s1 f g i)]⟩ aI ai ?_;revert h;refine bS fun c gl h=>?_;apply ag _;refine ⟨_,bD hJ fun F H=>qY (dM:=95) (ej:=#[]) (ek:=#[]) qZ ⟨by simp only[go_sem],fun fx fz X Y _ h=>by simp only[go_sem];exact EA X Y h⟩ V bb (W.mono (cx H)) gl,?_⟩;apply ag _;refine az fun bj hP gn=>?_;try simp only[au] at gn
 apply ag _;apply ah hJ;refine eg hJ mixed 10 ⟨K,[(bj,.cells #[.int .i64 c.spot.aQ,.int .i64 c.spot.high.num,.int .i64 c.spot.high.den,.int .i64 c.at_,.int .i64 c.high.num,.int .i64 c.high.den] 116),(Z,.cells #[.int .i64 b.spot.aQ,.int .i64 b.spot.high.num,.int .i64 b.spot.high.den,.int .i64 b.at_,.int .i64 b.high.num,.int .i64 b.high.den] 116),(t,kn d.1 k o p q s),(j,bk u0 s1 f g i)]⟩ aI ai ?_;revert h;refine bS fun gp gB h=>?_;apply ag _;refine ⟨_,bD hJ fun F H=>o5 b.high u0.bx gB,bY ?_⟩;revert h;refine bS fun gC gV h=>?_;apply ag _;refine ⟨_,bD hJ fun F H=>o3 c.high u0.bx gV,?_⟩;apply ag _;refine ah hJ (an hJ ?_);revert h;refine bS fun hQ g0 h=>?_;apply ag _;refine bf hJ _ (jb gC gp g0) ?_;revert h;refine aX hJ (fun g1 h=>?_) fun g1 h=>?_
 .cases h;apply aD hJ _;apply aJ;simp only[*,go_sem]
 refine aK hJ (ah hJ ?_);refine e5 hJ mixed [] (.two 0 (.two 1 (.one 2 (.one 3 (.pure 4 (.pure 5 .done)))) 2 (.one 1 (.one 3 (.pure 4 (.pure 5 .done))))) 1 (.one 0 (.one 2 (.one 3 (.pure 4 (.pure 5 .done)))))) ⟨K,[(bj,.cells #[.int .i64 c.spot.aQ,.int .i64 c.spot.high.num,.int .i64 c.spot.high.den,.int .i64 c.at_,.int .i64 c.high.num,.int .i64 c.high.den] 116),(Z,.cells #[.int .i64 b.spot.aQ,.int .i64 b.spot.high.num,.int .i64 b.spot.high.den,.int .i64 b.at_,.int .i64 b.high.num,.int .i64 b.high.den] 116),(t,kn d.1 k o p q s),(j,bk u0 s1 f g i)]⟩ aI ai ?_;apply ag _;refine j3 ?_ ?_
 .apply ag _;refine j3 ?_ ?_
  .cases h;apply ag _;apply aJ;simp only[*,go_sem]
  cases h;apply ag _;apply aJ;simp only[*,go_sem]
 cases h;apply ag _;apply aJ;simp only[*,go_sem]
def rZ (u0:aC)(b:Int):Option ((List Int)×Int):=
 aj (iC u0 ([(fI b)])) fun a=>cond ((a.2 != 0)) (some (([]:(List Int)),a.2)) (aj (nv a.1 b) fun c=>some (c,0))
theorem wA {ro:Addr->Option Value}(g:dy ro)(u0:aC){s1 i j k:Value}(f:bV ro u0 s1 i j k)(a:Int){r:((List Int)×Int)}(h:rZ u0 a=some r):eT Tryz.prog 36 #[bv u0 s1 i j k,.int .i64 a] ro (fun v aT=>∃m,v= .tuple #[m,.int .i64 r.2]/\aB rI aT m r.1):=by
 unfold rZ at h;have D:=f.oc;simp only[bN] at D;refine aA.go Tryz.func36 rfl Tryz.ntmps36 Tryz.results36 av fun main J hJ A Y hd hs=>?_;have Z:=hs 0;have k1:=hs 1;clear hs;apply aD hJ _;refine az fun E F G=>?_;try simp only[au] at G
 apply ah hJ;refine aE hJ fun H=>?_;apply aG hJ;revert h;refine bS fun I K h=>?_;apply ag _;refine az fun c n p=>?_;have q:=aY.cons p H;try simp only[au] at p
 obtain ⟨d,s,t⟩:=e4 (b:=c) (o:=(.cells #[.func (.func 83) #[.int .i64 a] #[]] 111)) [] ((E,bk u0 s1 i j k)::[]) q n (aF.cons F (aF.nil _));have u:aB (dx) (bR ro c (.cells #[.func (.func 83) #[.int .i64 a] #[]] 111)) (.slice (some ⟨c,0,none⟩) 1 1) [(fI a)]:=(aB.one (r:=(dx)) (e:=111) (cs:=#[.func (.func 83) #[.int .i64 a] #[]]) (x:=(fI a)) (own:=[(c,.cells #[.func (.func 83) #[.int .i64 a] #[]] 111)]) n (by simp[lk]) ⟨83,#[.int .i64 a],#[],rfl,⟨by simp only[go_sem],fun ab ad L _ _ _ _ _ M N O P h=>by simp only[go_sem];exact qX a L ⟨M,N,O,P⟩ h⟩⟩)
 generalize bR ro c (.cells #[.func (.func 83) #[.int .i64 a] #[]] 111)=ae at u s d t;refine gK hJ t ?_;replace f:=f.mono d;replace g:=g.mono d;simp only[bC] at s;have Q:=aY.tl q;refine cr hJ _ (jF g u0 f ([(fI a)]) u K) fun v al w R l=>?_;obtain ⟨ao,ar,a0,a2,a3,rfl,y,z⟩:=l;have S:=y.oc;simp only[bN] at S;have T:=z.oc;simp only[bN] at T;simp only[bC] at R;apply aP;apply ag _;refine az fun a4 a5 B=>?_;have a6:=aY.cons B Q;try simp only[au] at B
 refine ah hJ (an hJ ?_);apply ag _;revert h;refine aX hJ (fun U h=>?_) fun U h=>?_
 .cases h;apply aD hJ _;refine b9 ?_;exact ⟨_,(d).trans w,Le.sub (List.nil_sublist _),_,rfl,aB.nil _ _⟩
 refine aK hJ (ah hJ ?_);apply aG hJ;revert h;refine bS fun a7 V h=>?_;cases h;apply ag _;refine cr hJ _ (rX I.1 y z a V) fun v a8 W X l=>?_;obtain ⟨a9,rfl,C⟩:=l;simp only[bC] at X;obtain ⟨d89,ba,rfl,bb,bc,-⟩:=id C;apply aP;apply ag _;refine b9 ?_;exact ⟨_,((d).trans w).trans W,Le.sub (List.nil_sublist _),_,rfl,C⟩
def wB (a:(dw×Int))(i80:Nat)(i102:Nat)(c:Int)(st:(Int×ay)):Option (Fl (Int×ay) (Int×ay×Int)):=
 aj (kg a.1.book (i80:Int) c) fun b=>aj (jE a.1.book b) fun d=>cond (d) (aj (ni a.1.book b) fun e=>aj (fo st.2 e) fun f=>cond (f) (aj (ni a.1.book b) fun g=>some (.nx ((i80:Int),g))) (some (.nx (st.1,st.2)))) (some (.nx (st.1,st.2)))
def wC (a:(dw×Int))(i80:Nat)(d:dc)(st:(Int×ay)):Option (Fl (Int×ay) (Int×ay×Int)):=
 aj (nv a.1 (i80:Int)) fun c=>aj (bQ (wB a i80) 0 c (st.1,st.2)) fun o=>aL o (fun b=>some (.nx (b.1,b.2))) (fun _ _=>none) (fun r=>some (.rt r))
def r4 (u0:aC):Option (Int×ay×Int):=
 aj (iC u0 ([]:(List (aC->Option Int)))) fun a=>cond ((a.2 != 0)) (some (0,(⟨0,0⟩:ay),a.2)) (aj (gN 0) fun c=>aj (bQ (wC a) 0 a.1.book.aU ((-1),c)) fun o=>aL o (fun b=>some (b.1,b.2,0)) (fun _ _=>none) (fun r=>some r))
theorem Am {ro:Addr->Option Value}(ar:dy ro)(u0:aC){s1 j k l:Value}(R:bV ro u0 s1 j k l){r:(Int×ay×Int)}(h:r4 u0=some r):aA Tryz.prog 41 #[bv u0 s1 j k l] ⟨ro,[]⟩ (fun v _=>v= .tuple #[.int .i64 r.1,r.2.1.v,.int .i64 r.2.2]):=by
 unfold r4 at h;have a0:=R.oc;simp only[bN] at a0;refine aA.go Tryz.func41 rfl Tryz.ntmps41 Tryz.results41 av fun main J hJ A a2 hd hs=>?_;have a3:=hs 0;clear hs;apply aD hJ _;refine az fun w ev a4=>?_;try simp only[au] at a4
 refine az fun z eQ a5=>?_;try simp only[au] at a5
 apply an hJ;revert h;refine bS fun a a6 h=>?_;apply ag _;refine cr hJ _ (jF ar u0 R ([]:(List (aC->Option Int))) (aB.nil _ _) a6) fun v S eS a7 B=>?_;obtain ⟨C,D,e0,E,G,rfl,b,p⟩:=B;have a8:=b.oc;simp only[bN] at a8;have a9:=p.oc;simp only[bN] at a9;simp only[bC] at a7;obtain ⟨d52,H,rfl,e1,ba,-⟩:=id b.y;apply aP;apply ag _;refine az fun I e2 bb=>?_;try simp only[au] at bb
 refine ah hJ (an hJ ?_);apply ag _;revert h;refine aX hJ (fun bc h=>?_) fun bc h=>?_
 .cases h;apply aD hJ _;apply aJ;simp only[*,go_sem]
 refine aK hJ (ah hJ ?_);apply aG hJ;revert h;refine bS fun bd bj h=>?_;apply ag _;refine bf hJ _ (jB 0 bj) (aP ?_);apply ag _;refine ah hJ (an hJ ?_);apply ag _;apply aW hJ;revert h;refine bS fun bl e bm=>?_;refine b7 hJ (rg 25 35 [2,6,8,9]) (fun m o F'=>∃(i80:Nat) (q:Addr->Option Value) (s:Int) (f:ay),m=a.1.book.aU.length - i80/\i80<=a.1.book.aU.length/\bQ (wC a) i80 (a.1.book.aU.drop i80) (s,f)=some bl/\F'=⟨q,(I,kn a.1 C D (sl d52 a.1.book.aU H) E G)::(z,rt f.num f.den)::(w,bk u0 s1 j k l)::[]⟩/\Ext S q/\slot o 25= .int .i64 (i80:Int)/\slot o 2= .int .i64 s) a.1.book.aU.length ?_ ?_
 .refine ⟨0,S,(-1),bd,(Nat.sub_zero _).symm,Nat.zero_le _,e,rfl,Ext.refl _,?_⟩;simp only[*,go_sem]
 rintro e3 bo F' T ⟨i80,q,s,f,rfl,fa,e,rfl,K,br,bs⟩;refine fF hJ fun _ bz=>?_;replace b:=b.mono K;replace p:=p.mono K;simp only[bC] at bz;obtain ⟨U,V,W⟩:=T.pick [3,4,5,24] aO;simp only[*,go_sem] at U V W;clear T a2 hd a3;apply aD hJ _;apply ah hJ;rcases Nat.lt_or_ge i80 a.1.book.aU.length with b0|X
 .refine cz hJ ?_;apply aK hJ;obtain ⟨b1,L⟩:∃x,a.1.book.aU[i80]?=some x:=⟨_,List.getElem?_eq_getElem b0⟩
  rw[dr L] at e;revert e;refine bS fun fb h b2=>?_;unfold wC at h;try dsimp only at h
  obtain ⟨b3,b4,b5,ca,t⟩:=b.y.el _ _ L;obtain rfl:b4=b1.cells:=ca;cases b5;have cb:=t 0 _ rfl;simp only[go_sem] at cb;have cd:=t 1 _ rfl;simp only[go_sem] at cd;have cf:=t 2 _ rfl;simp only[go_sem] at cf;clear t L;refine ah hJ (aW hJ (ah hJ ?_));apply aM hJ _;apply an hJ;revert h;refine bS fun c cl h=>?_;apply ag _;refine cr hJ _ (rX a.1 b p (i80:Int) cl) fun v Y Z cy B=>?_;obtain ⟨fg,rfl,ab⟩:=B;replace b:=b.mono Z;simp only[bC] at cy;obtain ⟨d95,fi,rfl,fp,M,-⟩:=id ab;apply aP;apply ag _;apply aW hJ;revert h;refine bS fun c0 g da=>?_;refine b7 hJ (rg 32 27 [2,8,9]) (fun m o F'=>∃(i102:Nat) (i:Int) (d:ay),m=c.length - i102/\i102<=c.length/\bQ (wB a i80) i102 (c.drop i102) (i,d)=some c0/\F'=⟨Y,(I,kn a.1 C D (sl (some b3) a.1.book.aU H) E G)::(z,rt d.num d.den)::(w,bk u0 s1 j k l)::[]⟩/\slot o 32= .int .i64 (i102:Int)/\slot o 2= .int .i64 i) c.length ?_ ?_
  .refine ⟨0,s,f,(Nat.sub_zero _).symm,Nat.zero_le _,g,rfl,?_⟩;simp only[*,go_sem]
  rintro fr db F' N ⟨i102,i,d,rfl,fs,g,rfl,ft,fu⟩;obtain ⟨dd,df,dk⟩:=N.pick [3,4,5,6,24,25,26,27,28,29,30,31] aO;simp only[*,go_sem] at dd df dk;have fv:cR (rg 25 35 [2,6,8,9]) db bo:=(N.gq aO).trans aI;clear N U V W bs br;apply aD hJ _;apply ah hJ;rcases Nat.lt_or_ge i102 c.length with dp|ad
  .refine cz hJ ?_;apply aK hJ;obtain ⟨ae,O⟩:∃x,c[i102]?=some x:=⟨_,List.getElem?_eq_getElem dp⟩
   rw[dr O] at g;revert g;refine bS fun fw h P=>?_;unfold wB at h;(try dsimp only at h);obtain ⟨fx,dq,ds,dt,al⟩:=ab.el _ _ O;obtain rfl:dq=[.int .i64 ae]:=dt;cases ds;have du:=al 0 _ rfl;simp only[go_sem] at du;clear al O;refine ah hJ (aW hJ (ah hJ ?_));apply aM hJ _;apply an hJ;revert h;refine bS fun Q dv h=>?_;apply ag _;refine bf hJ _ (mb a.1.book (b.mono bg) (i80:Int) ae dv) (aP ?_);apply ag _;refine az fun fz gg dC=>?_;try simp only[au] at dC
   apply ah hJ;refine cM hJ mixed 12 4 aI ai ?_;revert h;refine bS fun gl dE h=>?_;apply ag _;refine ⟨_,bD hJ fun F u=>mm a.1.book (b.mono (cx u)) Q dE,bY ?_⟩;revert h;refine cS (fun dT h=>?_) fun dT h=>?_
   .revert h;refine bS fun ea eb h=>?_;apply ag _;refine ⟨_,bD hJ fun F u=>rf a.1.book (b.mono (cx u)) Q eb,bY ?_⟩;revert h;refine bS fun gn ec h=>?_;apply ag _;refine ⟨_,bD hJ fun F u=>jb d ea ec,bY ?_⟩;apply ag _;revert h;refine aX hJ (fun ed h=>?_) fun ed h=>?_
    .apply aG hJ;revert h;refine bS fun eh et h=>?_;cases h;apply ag _;refine bf hJ _ (rf a.1.book (b.mono bg) Q et) (aP ?_);apply ag _;have ao:=cw (n:=i102) (by have:=M;omega);apply aM hJ _;refine ⟨c.length - (i102+1),aa,_,Le.sub (List.Sublist.cons _ (List.Sublist.refl _)),i102+1,(i80:Int),eh,rfl,aa,P,rfl,?_⟩;simp only[*,go_sem]
    cases h;apply aK hJ;have ao:=cw (n:=i102) (by have:=M;omega);apply aM hJ _;refine ⟨c.length - (i102+1),aa,_,Le.sub (List.Sublist.cons _ (List.Sublist.refl _)),i102+1,i,d,rfl,aa,P,rfl,?_⟩;simp only[*,go_sem]
   cases h;apply ag _;refine cB hJ ?_;apply aK hJ;have ao:=cw (n:=i102) (by have:=M;omega);apply aM hJ _;refine ⟨c.length - (i102+1),aa,_,Le.sub (List.Sublist.cons _ (List.Sublist.refl _)),i102+1,i,d,rfl,aa,P,rfl,?_⟩;simp only[*,go_sem]
  have gp:=Nat.not_lt.2 ad;refine cB hJ ?_;rw[List.drop_eq_nil_of_le ad] at g;obtain rfl:=sI g;clear g;have h:=da;dsimp only[aL] at h;cases h;apply bT;simp only[go_sem];have gB:=cw (n:=i80) (by have:=ba;omega);apply aM hJ _;refine ⟨a.1.book.aU.length - (i80+1),aa,_,Le.sub (List.Sublist.refl _),i80+1,Y,i,d,rfl,aa,b2,rfl,(K.trans Z),?_⟩;simp only[*,go_sem]
 have gC:=Nat.not_lt.2 X;refine cB hJ ?_;rw[List.drop_eq_nil_of_le X] at e;obtain rfl:=sI e;clear e;have h:=bm;dsimp only[aL] at h;cases h;apply bT;simp only[go_sem];apply ah hJ;refine e5 hJ mixed [3,4] (.pure 0 (.rd 1 (.pure 2 (.last 3 (.pure 4 .done))))) ⟨q,[(I,kn a.1 C D (sl d52 a.1.book.aU H) E G),(z,rt f.num f.den),(w,bk u0 s1 j k l)]⟩ aI ai ?_;apply ag _;apply aJ;simp only[*,go_sem]
def wD (b:Int)(a:(dw×Int))(i103:Nat)(c:Int)(st:(List ay)):Option (Fl (List ay) (ay×ay×Int)):=
 aj (kg a.1.book b c) fun d=>aj (q9 a.1.book d) fun e=>aj (eA st ([e])) fun f=>some (.nx f)
def wE (u0:aC)(b:Int):Option (ay×ay×Int):=
 aj (iC u0 ([(fI b)])) fun a=>cond ((a.2 != 0)) (some ((⟨0,0⟩:ay),(⟨0,0⟩:ay),a.2)) (aj (nv a.1 b) fun f=>aj (bQ (wD b a) 0 f ([]:List ay)) fun o=>aL o (fun c=>aj (bH c 0) fun d=>aj (jv c 1 (c.length:Int)) fun e=>aj (kY q2 d e) fun g=>aj (kY fo d e) fun h=>some (g,h,0)) (fun _ _=>none) (fun r=>some r))
theorem FD {ro:Addr->Option Value}(S:dy ro)(u0:aC){s1 f g i:Value}(P:bV ro u0 s1 f g i)(a:Int){r:(ay×ay×Int)}(h:wE u0 a=some r):aA Tryz.prog 37 #[bv u0 s1 f g i,.int .i64 a] ⟨ro,[]⟩ (fun v _=>v= .tuple #[r.1.v,r.2.1.v,.int .i64 r.2.2]):=by
 unfold wE at h;have b3:=P.oc;simp only[bN] at b3;refine aA.go Tryz.func37 rfl Tryz.ntmps37 Tryz.results37 av fun main J hJ A b4 hd hs=>?_;have b5:=hs 0;have k1:=hs 1;clear hs;apply aD hJ _;refine az fun j G ca=>?_;try simp only[au] at ca
 refine az fun t H cb=>?_;try simp only[au] at cb
 refine az fun u I cd=>?_;try simp only[au] at cd
 apply ah hJ;refine aE hJ fun cf=>?_;apply aG hJ;revert h;refine bS fun d cl h=>?_;apply ag _;refine az fun K al ao=>?_;have ar:=aY.cons ao cf;try simp only[au] at ao
 obtain ⟨T,L,a0⟩:=e4 (b:=K) (o:=(.cells #[.func (.func 83) #[.int .i64 a] #[]] 111)) [] ((u,rt 0 0)::(t,rt 0 0)::(j,bk u0 s1 f g i)::[]) ar al (aF.cons I (aF.cons H (aF.cons G (aF.nil _))));have a2:aB (dx) (bR ro K (.cells #[.func (.func 83) #[.int .i64 a] #[]] 111)) (.slice (some ⟨K,0,none⟩) 1 1) [(fI a)]:=(aB.one (r:=(dx)) (e:=111) (cs:=#[.func (.func 83) #[.int .i64 a] #[]]) (x:=(fI a)) (own:=[(K,.cells #[.func (.func 83) #[.int .i64 a] #[]] 111)]) al (by simp[lk]) ⟨83,#[.int .i64 a],#[],rfl,⟨by simp only[go_sem],fun a3 a4 M _ _ _ _ _ cy cS c0 da h=>by simp only[go_sem];exact qX a M ⟨cy,cS,c0,da⟩ h⟩⟩)
 generalize bR ro K (.cells #[.func (.func 83) #[.int .i64 a] #[]] 111)=g2 at a2 L T a0;refine gK hJ a0 ?_;replace P:=P.mono T;replace I:=L.hd;replace H:=L.tl.hd;replace G:=L.tl.tl.hd;replace S:=S.mono T;simp only[bC] at L;have db:=aY.tl ar;refine cr hJ _ (jF S u0 P ([(fI a)]) a2 cl) fun v g3 g4 Q U=>?_;obtain ⟨w,y,z,B,C,rfl,D,a5⟩:=U;have dd:=D.oc;simp only[bN] at dd;have df:=a5.oc;simp only[bN] at df;replace I:=Q.hd;replace H:=Q.tl.hd;replace G:=Q.tl.tl.hd;simp only[bC] at Q;apply aP;apply ag _;refine az fun E a6 a7=>?_;have ha:=aY.cons a7 db;try simp only[au] at a7
 refine ah hJ (an hJ ?_);apply ag _;revert h;refine aX hJ (fun dk h=>?_) fun dk h=>?_
 .cases h;apply aD hJ _;apply aJ;simp only[*,go_sem]
 refine aK hJ (ah hJ ?_);apply aM hJ _;refine ah hJ (an hJ ?_);revert h;refine bS fun k dp h=>?_;apply ag _;refine cr hJ _ (rX d.1 D a5 a dp) fun v R dq N U=>?_;obtain ⟨hc,rfl,a8⟩:=U;replace D:=D.mono dq;replace a6:=N.hd;replace I:=N.tl.hd;replace H:=N.tl.tl.hd;replace G:=N.tl.tl.tl.hd;simp only[bC] at N;obtain ⟨d91,hf,rfl,hg,ds,-⟩:=id a8;apply aP;apply ag _;apply aW hJ;revert h;refine bS fun dt p du=>?_;refine b7 hJ (rg 29 16 [8,10]) (fun m a9 F'=>∃(i103:Nat) (d97:Option Addr) (O:Nat) (V:List (Nat×Obj)) (c:(List ay)),m=k.length - i103/\i103<=k.length/\bQ (wD a d) i103 (k.drop i103) c=some dt/\F'=⟨R,(E,kn d.1 w y z B C)::(u,rt 0 0)::(t,rt 0 0)::(j,bk u0 s1 f g i)::V⟩/\aZ iz R 23 (.slice d97 c.length O) c V/\c.length<=O/\slot a9 29= .int .i64 (i103:Int)/\slot a9 8= .slice d97 c.length O) k.length ?_ ?_
 .refine ⟨0,none,0,[],([]:List ay),(Nat.sub_zero _).symm,Nat.zero_le _,p,rfl,aZ.nil _ _ _,Nat.le_refl _,?_⟩;simp only[*,go_sem]
 rintro hh hi F' ba ⟨i103,d97,O,V,c,rfl,hj,p,rfl,bb,hk,hl,hn⟩;obtain ⟨dv,dC,dE⟩:=ba.pick [1,4,5,6,7,27,28] aO;simp only[*,go_sem] at dv dC dE;clear ba b4 hd b5 k1;apply aD hJ _;apply ah hJ;rcases Nat.lt_or_ge i103 k.length with dT|bc
 .refine cz hJ ?_;apply aK hJ;obtain ⟨bd,W⟩:∃x,k[i103]?=some x:=⟨_,List.getElem?_eq_getElem dT⟩
  rw[dr W] at p;revert p;refine bS fun ho h ea=>?_;unfold wD at h;try dsimp only at h
  obtain ⟨hp,eb,ec,ed,bj⟩:=a8.el _ _ W;obtain rfl:eb=[.int .i64 bd]:=ed;cases ec;have eh:=bj 0 _ rfl;simp only[go_sem] at eh;clear bj W;refine ah hJ (aW hJ (ah hJ ?_));refine aE hJ fun hq=>?_;apply aM hJ _;refine aE hJ fun et=>?_;refine eg hJ mixed 9 ⟨R,[(E,kn d.1 w y z B C),(u,rt 0 0),(t,rt 0 0),(j,bk u0 s1 f g i)]⟩ aI ai ?_;revert h;refine bS fun ev eQ h=>?_;apply ag _;refine ⟨_,bD hJ fun F q=>mb d.1.book (D.mono (cx q)) a bd eQ,bY ?_⟩;revert h;refine bS fun s eS h=>?_;apply ag _;refine ⟨_,bD hJ fun F q=>z2 d.1.book (D.mono (cx q)) ev eS,?_⟩;revert h;refine bS fun e0 e1 h=>?_;cases h;obtain ⟨e3,bl⟩:=dQ e1;apply ag _;refine az fun bm fa bo=>?_;have fb:=aY.cons bo et;try simp only[au] at bo
  apply ag _;refine eI (r:=iz) (l:=c) (x:=s) (cs:=#[.int .i64 s.num,.int .i64 s.den]) (e2:=23) [(bm,rt s.num s.den),(E,kn d.1 w y z B C),(u,rt 0 0),(t,rt 0 0),(j,bk u0 s1 f g i)] [] bb fb e3 rfl aI fa rfl rfl zi zi C4 ze rfl C5 aO aO (fun hr br X fg fi ht=>?_);simp only[bn] at fi;subst fg;rw[<-bl] at X;clear bl;obtain ⟨d125,fp,rfl,fr⟩:=X.len;refine ⟨⟨R,(bm,rt s.num s.den)::(E,kn d.1 w y z B C)::(u,rt 0 0)::(t,rt 0 0)::(j,bk u0 s1 f g i)::br⟩,Le.refl _,?_⟩;refine ⟨aI,gX ?_⟩;apply ag _;have hv:=cw (n:=i103) (by have:=ds;omega);apply aM hJ _;refine ⟨k.length - (i103+1),aa,_,Le.sub (List.Sublist.cons _ (List.Sublist.refl _)),i103+1,d125,fp,br,e0,rfl,aa,ea,rfl,X,fr,?_⟩;simp only[*,go_sem]
 have hx:=Nat.not_lt.2 bc;refine cB hJ ?_;rw[List.drop_eq_nil_of_le bc] at p;obtain rfl:=sI p;clear p;have h:=du;dsimp only[aL] at h;apply bT;simp only[go_sem];apply ah hJ;refine aE hJ fun hy=>?_;apply aM hJ _;apply ah hJ;refine aE hJ fun bs=>?_;obtain ⟨fs,hz,ft,Y,fu⟩:=bb.fj [(E,kn d.1 w y z B C),(u,rt 0 0),(t,rt 0 0),(j,bk u0 s1 f g i)] [] bs (aF.cons a6 (aF.cons I (aF.cons H (aF.cons G (aF.nil _)))));clear bs;refine cN hJ fu ?_;obtain ⟨hA,hB,-⟩:=Y.op;simp only[bC] at ft;refine eg hJ mixed 13 ⟨fs,[(E,kn d.1 w y z B C),(j,bk u0 s1 f g i)]⟩ aI ai ?_;revert h;refine bS fun Z fv h=>?_;obtain ⟨hD,hE,bz⟩:=c6 fv;obtain ⟨hF,fw,fx,fz,ab⟩:=Y.el _ _ bz;obtain rfl:fw=Z.cells:=fz;cases fx;have gg:=ab 0 _ rfl;simp only[go_sem] at gg;have gl:=ab 1 _ rfl;simp only[go_sem] at gl;clear ab bz;revert h;refine bS fun b0 gn h=>?_;obtain ⟨hG,hI,hK,b1⟩:=mV gn;have b2:(1:Int).toNat<=((c.length:Int)).toNat:=aa;have gp:((c.length:Int)).toNat<=O:=aa;have hL:0<=((c.length:Int)):=aa;obtain ⟨d143,gB,gC,ad⟩:=aB.mW Y (1:Int).toNat ((c.length:Int)).toNat b2 aa b1;simp only[go_sem] at gB gC b2 gp;obtain ⟨_,_,gV,hM,hN,hP⟩:=id ad;cases gV;clear b1;revert h;refine bS fun hQ g0 h=>?_;apply ag _;refine ⟨_,bD hJ fun F q=>m5 (dM:=86) (ej:=#[]) (ek:=#[]) q2 ⟨by simp only[go_sem],fun a3 a4 M ae _ h=>by simp only[go_sem];exact EB M ae h⟩ Z b0 (ad.mono (cx q)) g0,bY ?_⟩;revert h;refine bS fun hR g1 h=>?_;cases h;apply ag _;refine ⟨_,bD hJ fun F q=>m5 (dM:=87) (ej:=#[]) (ek:=#[]) fo ⟨by simp only[go_sem],fun a3 a4 M ae _ h=>by simp only[go_sem];exact jb M ae h⟩ Z b0 (ad.mono (cx q)) g1,?_⟩;apply ag _;apply aJ;simp only[*,go_sem]
def ny (s:List bG)(y:bG):Bool:=s.any fun z=>z.e0==y.e0&&(z.e1==y.e1&&z.e2==y.e2)
def An (y:bG)(s:List bG):Option (Fl (List bG) Unit):=some (.nx (cond (ny s y) s (s++[y])))
theorem Ao {x y:bG}(h:x.v=y.v):x=y:=by
 obtain ⟨a,b,c⟩:=x;obtain ⟨d,e,f⟩:=y;simp only[bG.v,Value.agg.injEq,Array.mk.injEq,List.cons.injEq,Value.int.injEq,true_and,and_true] at h;obtain ⟨rfl,rfl,rfl⟩:=h;rfl
theorem Ap {s:List bG}{y:bG}:ny s y=true↔y.v∈s.map bG.v:=by
 unfold ny;simp only[List.any_eq_true,Bool.and_eq_true,beq_iff_eq,List.mem_map];constructor
 .rintro ⟨z,d,e,f,g⟩;refine ⟨z,d,?_⟩;obtain ⟨a,b,c⟩:=z;obtain ⟨i,j,k⟩:=y;simp only at e f g;subst e f g;rfl
 .rintro ⟨z,d,h⟩;obtain rfl:=Ao h;exact ⟨z,d,rfl,rfl,rfl⟩
theorem FE (x y:bG)(F:af):∃b,(∀(Q:Bool->af->Prop),Q b F->bp Tryz.prog (Op.equal 158 x.v y.v) Q F)/\(b=true↔y.v=x.v):=by
 have a:lQ Tryz.prog 158=some [true,true,true]:=ai;have he:lR Tryz.prog 158 x.v y.v=some (x.e0==y.e0&&(x.e1==y.e1&&(x.e2==y.e2&&true))):=by
  simp only[lR,bG.v,a,iT,gH,Bool.and_self,if_true]
 refine ⟨_,fun Q h=>(tG he h).1,?_⟩;simp only[Bool.and_eq_true,beq_iff_eq,and_true];constructor
 .rintro ⟨c,d,e⟩;simp only[bG.v,c,d,e]
 .intro h;obtain rfl:=Ao h;exact ⟨rfl,rfl,rfl⟩
theorem FF (x:bG)(F:af)(Q:Unit->af->Prop)(h:Q () F):bp Tryz.prog (Instr.checkKey false 10000 158 x.v) Q F:=by
 have c:Tryz.prog.underlying 158=some (.array 3 3):=ai;have d:Tryz.prog.underlying 3=some (.int .i64):=ai;have f:bZ Tryz.prog 3=some 1:=ai;have g:cp Tryz.prog 3=some false:=ai;have e:(10000:Nat)=9998+1+1:=rfl;rw[e];unfold Instr.checkKey;simp only[bF,dO,c,bG.v];simp only[Std.Legacy.Range.forIn_eq_forIn_range',Std.Legacy.Range.size,Nat.sub_zero,Nat.add_one_sub_one,Nat.div_one,List.range',List.forIn_cons,List.forIn_nil,bF,eY,f,part,lM,g,bP,Bool.false_eq_true,if_false,dH];have b:∀(k:IntKind) (a:Int) (Q:Unit->af->Prop) (G:af),Q () G->bp Tryz.prog (Instr.checkKey false 9999 3 (.int k a)) Q G:=by
  intro k a Q G i;show bp Tryz.prog (Instr.checkKey false (9998+1) 3 (.int k a)) Q G;unfold Instr.checkKey;simp only[bF,dO,d,bP];exact i
 exact b .i64 x.e0 _ _ (b .i64 x.e1 _ _ (b .i64 x.e2 _ _ h))
def wF (u0:aC):Option (Int×Int):=
 aj (gO u0 ([]:(List (aC->Option Int)))) fun a=>cond ((a.2 != 0)) (some (0,a.2)) (aj (kU An (nj a.1) ([]:List bG)) fun o=>aL o (fun st=>some ((st.length:Int),0)) (fun _ _=>none) (fun _=>none))
theorem FG {ro:Addr->Option Value}(M:dy ro)(u0:aC){s1 w x B:Value}(E:bV ro u0 s1 w x B){r:(Int×Int)}(h:wF u0=some r):aA Tryz.prog 35 #[bv u0 s1 w x B] ⟨ro,[]⟩ (fun v _=>v= .tuple #[.int .i64 r.1,.int .i64 r.2]):=by
 unfold wF at h;have N:=E.oc;simp only[bN] at N;refine aA.qQ Tryz.func35 rfl Tryz.ntmps35 Tryz.results35 av fun main J hJ A F hd hs=>?_;have O:=hs 0;clear hs;apply aD hJ _;refine az fun P bd R=>?_;try simp only[au] at R
 apply an hJ;revert h;refine bS fun G S h=>?_;apply ag _;refine cr hJ _ (ki M u0 E ([]:(List (aC->Option Int))) (aB.nil _ _) S) fun v H bj T U=>?_;obtain ⟨V,W,X,Y,rfl,k⟩:=U;have Z:=k.oc;simp only[bN] at Z;simp only[bC] at T;apply aP;apply ag _;refine az fun ab bm ad=>?_;try simp only[au] at ad
 refine ah hJ (an hJ ?_);apply ag _;revert h;refine aX hJ (fun ae h=>?_) fun ae h=>?_
 .cases h;apply aD hJ _;refine aE hJ fun C=>?_;replace C:=C.nd;try simp only[keys,List.map_cons,List.map_nil,List.map_append,List.cons_append,List.nil_append,List.nodup_cons,List.mem_cons,List.mem_append,List.not_mem_nil,or_false,not_or] at C
  apply aJ;simp only[*,go_sem]
 apply aK hJ;revert h;refine bS fun o l h=>?_;repeat apply ah hJ
 apply aG hJ;simp only[*,go_sem,-l];refine DX fun j f70=>?_;have bo:=dI f70;have al:=ew f70;try simp only[au] at al
 apply aP;simp only[*,go_sem,-l];refine az fun q br ao=>?_;try simp only[au] at ao
 repeat apply ah hJ
 apply aG hJ;simp only[*,go_sem,-l];refine qP hJ bG.v aI (rz G.1 k.e k.p k.y k.t) ai ai (ρ:=Unit) (fun (s:List bG) ar=>∃(es:Array MapEntry) (b:Nat),ar=(q,.cells #[.map (some j)] 155)::(j,.map es b)::(ab,bl G.1 V W X Y)::(P,bk u0 s1 w x B)::[]/\es.toList.map (·.key)=s.map bG.v) (f:=An) l ?_ ?_ aO ?_ ?_
 .exact ⟨#[],0,rfl,rfl⟩
 .rintro d4 a0 D a2 c d bs I main J hJ _ ⟨es,b,rfl,g⟩;obtain rfl:=Option.some.inj I;clear I;generalize m:kV _ _ _=u;have bz:sz u=24:=by rw[<-m,qO];simp only[*,go_sem]
  have b0:u.defers=[]:=by rw[<-m];rfl
  have b1:slot u 6= .pointer (some ⟨q,0,none⟩):=by rw[<-m,kW];simp only[*,go_sem]
  have b2:slot u 19=d.v:=by rw[<-m,kW];simp only[*,go_sem]
  clear m F hd O;refine fF hJ fun i a=>?_;replace a:aF H ((a0,.loop D)::(d4,.deferred (some []))::(q,.cells #[.map (some j)] 155)::(j,.map es b)::_):=a;have b3:=a.hd;have b4:=a.tl.hd;have a3:=a.tl.tl.hd;have a4:=a.tl.tl.tl.hd;clear a;replace i:=i.nd;simp only[keys,List.map_cons,List.map_nil,List.map_append,List.cons_append,List.nil_append,List.nodup_cons,List.mem_cons,List.mem_append,List.not_mem_nil,or_false,not_or] at i;apply aG hJ;simp only[*,go_sem,bG.v];refine az fun b5 ca a5=>?_;try simp only[au] at a5
  simp only[mZ,go_sem];refine ⟨D,aI,a2,?_⟩;simp only[*,go_sem,bG.v];refine aW hJ (aG hJ ?_);simp only[*,go_sem,bG.v];refine DZ (es:=es) (clock:=b) (by kernel_rfl:Tryz.prog.underlying 155=some (.map 158 4)) aI (fun Q h=>FF d _ Q h) (by kernel_rfl:Tryz.prog.underlying 158=some (.array 3 3)) (fun e he=>?_) fun K a6 a7=>?_
  .have:e.key∈es.toList.map (·.key):=List.mem_map_of_mem he;rw[g] at this;obtain ⟨z,F,a8⟩:=List.mem_map.1 this;rw[<-a8];exact FE d z _
  .simp only[oT,kT,go_sem, *];refine ⟨{D with state:=.busy},rfl,?_⟩;apply ag _;refine ⟨_,Le.sub (List.Sublist.cons _ (List.Sublist.refl _)),rfl,K,a6,rfl,?_⟩;have a9:K.toList.map (·.key)=(cond (ny c d) c (c++[d])).map bG.v:=by
    rcases a7 with ⟨hm,he⟩|⟨hm,he⟩
    .have:ny c d=true:=by rw[Ap,<-g];exact hm
     rw[this,he,g];rfl
    .have:ny c d=false:=by
      rw[Bool.eq_false_iff];intro L;rw[Ap,<-g] at L;exact hm L
     rw[this,he,g];simp only[cond_false,List.map_append,List.map_cons,List.map_nil];rfl
   exact a9
 .rintro d49 ba bb _ c ⟨es,b,rfl,g⟩ i a;refine ⟨fun n=>?_,fun k1 n=>?_⟩
  .subst n;dsimp only[aL] at h;cases h;clear l;replace a:aF H ((ba,.loop bb)::(d49,.deferred (some []))::(q,.cells #[.map (some j)] 155)::(j,.map es b)::_):=a;have a3:=a.tl.tl.hd;have a4:=a.tl.tl.tl.hd;clear a;replace i:=i.nd;simp only[keys,List.map_cons,List.map_nil,List.map_append,List.cons_append,List.nil_append,List.nodup_cons,List.mem_cons,List.mem_append,List.not_mem_nil,or_false,not_or] at i;repeat apply ah hJ
   apply aM hJ _;have bc:es.size=c.length:=by simpa using congrArg List.length g
   refine DY (es:=es) (clock:=b) rfl (by kernel_rfl:Tryz.prog.underlying 155=some (.map 158 4)) aI ?_;rw[bc];apply aJ;simp only[*,go_sem]
  .subst n;dsimp only[aL] at h;cases h
 .intro k1 cb n;subst n;dsimp only[aL] at h;cases h
def eB (u0:Int)(a:Int)(b:Int):Option Bool:=
 cond (decide (a<=u0)) (some (decide (u0<=b))) (some false)
theorem gf {ro:Addr->Option Value}(u0:Int)(a:Int)(b:Int){r:Bool}(h:eB u0 a b=some r):aA Tryz.prog 9 #[.int .i64 u0,.int .i64 a,.int .i64 b] ⟨ro,[]⟩ (fun v _=>v= .bool r):=by
 unfold eB at h;refine aA.go Tryz.func9 rfl Tryz.ntmps9 Tryz.results9 av fun main J hJ A d hd hs=>?_;have e:=hs 0;have k1:=hs 1;have f:=hs 2;clear hs;apply aD hJ _;apply an hJ;revert h;refine cS (fun c h=>?_) fun c h=>?_
 .cases h;apply ag _;apply aJ;simp only[*,go_sem]
 cases h;apply ag _;apply aJ;simp only[*,go_sem]
def nB (u0:aC)(a:Int):Option Bool:=
 aj (bH u0.aR 0) fun b=>aj (bH u0.aR (IntKind.i64.wrap ((u0.aR.length:Int) - 1))) fun c=>aj (eB a b.aQ c.aQ) fun d=>some d
theorem FH {ro:Addr->Option Value}(u0:aC){s1 f g i:Value}(a:bV ro u0 s1 f g i)(b:Int){r:Bool}(h:nB u0 b=some r):aA Tryz.prog 132 #[bv u0 s1 f g i,.int .i64 b] ⟨ro,[]⟩ (fun v _=>v= .bool r):=by
 obtain ⟨d3,c4,rfl,E,G,-⟩:=id a.e;unfold nB at h;refine aA.go Tryz.func132 rfl Tryz.ntmps132 Tryz.results132 av fun main J hJ A H hd hs=>?_;have I:=hs 0;have k1:=hs 1;clear hs;apply aD hJ _;refine az fun K L n=>?_;try simp only[au] at n
 apply ah hJ;refine cM hJ mixed 17 1 aI ai ?_;revert h;refine bS fun j o h=>?_;obtain ⟨M,N,k⟩:=c6 o;obtain ⟨O,p,q,s,c⟩:=a.e.el _ _ k;obtain rfl:p=j.cells:=s;cases q;have t:=c 0 _ rfl;simp only[go_sem] at t;have u:=c 1 _ rfl;simp only[go_sem] at u;clear c k;revert h;refine bS fun l w h=>?_;obtain ⟨P,Q,m⟩:=c6 w;obtain ⟨R,x,y,z,d⟩:=a.e.el _ _ m;obtain rfl:x=l.cells:=z;cases y;have B:=d 0 _ rfl;simp only[go_sem] at B;have C:=d 1 _ rfl;simp only[go_sem] at C;clear d m;revert h;refine bS fun S D h=>?_;cases h;apply ag _;refine ⟨_,bD hJ fun F T=>gf b j.aQ l.aQ D,bY ?_⟩;apply ag _;apply aJ;simp only[*,go_sem]
def nC (u0:aC)(a:Int):Option Bool:=
 aj (eB a 0 (IntKind.i64.wrap ((u0.aU.length:Int) - 1))) fun b=>some b
theorem FI {ro:Addr->Option Value}(u0:aC){s1 c d f:Value}(a:bV ro u0 s1 c d f)(b:Int){r:Bool}(h:nC u0 b=some r):aA Tryz.prog 133 #[bv u0 s1 c d f,.int .i64 b] ⟨ro,[]⟩ (fun v _=>v= .bool r):=by
 obtain ⟨d3,c4,rfl,j,k,-⟩:=id a.e;obtain ⟨d10,l,rfl,m,n,-⟩:=id a.p;obtain ⟨d17,o,rfl,q,s,-⟩:=id a.y;obtain ⟨d24,u,rfl,w,x,-⟩:=id a.t;unfold nC at h;refine aA.go Tryz.func133 rfl Tryz.ntmps133 Tryz.results133 av fun main J hJ A z hd hs=>?_;have B:=hs 0;have k1:=hs 1;clear hs;apply aD hJ _;refine az fun C D g=>?_;try simp only[au] at g
 apply an hJ;revert h;refine bS fun E i h=>?_;cases h;apply ag _;refine bf hJ _ (gf b 0 (IntKind.i64.wrap ((u0.aU.length:Int) - 1)) i) (aP ?_);apply ag _;apply aJ;simp only[*,go_sem]
def pq (u0:ay)(a:ay):Option Bool:=
 some (decide ((IntKind.i64.wrap (u0.num*a.den))<(IntKind.i64.wrap (a.num*u0.den))))
def wG (st:(Int×Int)):Option (Fl (Int×Int) ay):=
 cond (decide (0<st.2)) (aj (g5 st.1 st.2) fun a=>some (.nx (st.2,a))) (some (.bk (st.1,st.2)))
def nD (st:(Int×Int)):Option (Fl (Int×Int) ay):=
 cond (decide (0<st.2)) (aj (g5 st.1 st.2) fun a=>some (.nx (st.2,a))) (some (.bk (st.1,st.2)))
def jI (u0:Int)(a:Int):Option ay:=
 cond (decide (a<0)) (aj (bB (wG) fu ((if IntKind.i64.wrap (0 - u0)<IntKind.i64.wrap (0 - (IntKind.i64.wrap (0 - u0))) then IntKind.i64.wrap (0 - (IntKind.i64.wrap (0 - u0))) else IntKind.i64.wrap (0 - u0)),(IntKind.i64.wrap (0 - a)))) fun o=>aL o (fun b=>aj (eG (IntKind.i64.wrap (0 - u0)) b.1) fun d=>aj (eG (IntKind.i64.wrap (0 - a)) b.1) fun e=>some (⟨d,e⟩:ay)) (fun _ _=>none) (fun r=>some r)) (aj (bB (nD) fu ((if u0<IntKind.i64.wrap (0 - u0) then IntKind.i64.wrap (0 - u0) else u0),a)) fun o=>aL o (fun c=>aj (eG u0 c.1) fun f=>aj (eG a c.1) fun g=>some (⟨f,g⟩:ay)) (fun _ _=>none) (fun r=>some r))
theorem r5 {ro:Addr->Option Value}(u0:Int)(b:Int){r:ay}(h:jI u0 b=some r):aA Tryz.prog 11 #[.int .i64 u0,.int .i64 b] ⟨ro,[]⟩ (fun v _=>v=r.v):=by
 unfold jI at h;refine aA.go Tryz.func11 rfl Tryz.ntmps11 Tryz.results11 av fun main J hJ A n hd hs=>?_;have o:=hs 0;have k1:=hs 1;clear hs;apply aD hJ _;refine az fun p r1 n1=>?_;try simp only[au] at n1
 refine ah hJ (an hJ ?_);apply ag _;revert h;refine aX hJ (fun B h=>?_) fun B h=>?_
 .apply aM hJ _;apply aD hJ _;refine ah hJ (aW hJ ?_);revert h;refine bS fun C c D=>?_;refine b7 hJ (rg 18 6 [5,6]) (fun m a F'=>∃(f:Int) (v4:Int),bB (wG) m (f,v4)=some C/\F'=⟨ro,(p,rt 0 0)::[]⟩/\slot a 5= .int .i64 f/\slot a 6= .int .i64 v4) fu ?_ ?_
  .refine ⟨(if IntKind.i64.wrap (0 - u0)<IntKind.i64.wrap (0 - (IntKind.i64.wrap (0 - u0))) then IntKind.i64.wrap (0 - (IntKind.i64.wrap (0 - u0))) else IntKind.i64.wrap (0 - u0)),(IntKind.i64.wrap (0 - b)),c,rfl,?_⟩;simp only[*,go_sem]
  rintro g R F' q ⟨f,v4,c,rfl,S,T⟩;obtain ⟨E,F,G⟩:=q.pick [0,1,4] aO;simp only[*,go_sem] at E F G;clear q n hd o k1;obtain _|g:=g
  .exact absurd c (by simp only[bB,reduceCtorEq,not_false_eq_true])
  revert c;refine bS fun U h i=>?_;unfold wG at h;try dsimp only at h
  refine ah hJ (an hJ ?_);apply ag _;revert h;refine aX hJ (fun H h=>?_) fun H h=>?_
  .refine aK hJ (aW hJ ?_);refine cM hJ mixed 6 1 aI ai ?_;revert h;refine bS fun I s h=>?_;cases h;obtain ⟨V,W⟩:=lY s;clear s;apply ag _;refine ⟨g,Nat.lt_succ_self _,_,Le.sub (List.Sublist.refl _),v4,I,i,rfl,?_⟩;simp only[*,go_sem]
  cases h;apply bT;simp only[go_sem];obtain rfl:=sI i;clear i;have h:=D;dsimp only[aL] at h;apply ah hJ;refine cM hJ mixed 7 0 aI ai ?_;revert h;refine bS fun X t h=>?_;obtain ⟨Y,Z⟩:=gZ t;clear t;revert h;refine bS fun ab u h=>?_;cases h;obtain ⟨ad,ae⟩:=gZ u;clear u;apply ag _;apply aJ;simp only[*,go_sem]
 refine aK hJ (ah hJ ?_);apply aM hJ _;refine ah hJ (aW hJ ?_);revert h;refine bS fun K d L=>?_;refine b7 hJ (rg 18 6 [5,6]) (fun m a F'=>∃(j:Int) (e:Int),bB (nD) m (j,e)=some K/\F'=⟨ro,(p,rt 0 0)::[]⟩/\slot a 5= .int .i64 j/\slot a 6= .int .i64 e) fu ?_ ?_
 .refine ⟨(if u0<IntKind.i64.wrap (0 - u0) then IntKind.i64.wrap (0 - u0) else u0),b,d,rfl,?_⟩;simp only[*,go_sem]
 rintro k al F' w ⟨j,e,d,rfl,ao,ar⟩;obtain ⟨M,N,O⟩:=w.pick [0,1,4] aO;simp only[*,go_sem] at M N O;clear w n hd o k1;obtain _|k:=k
 .exact absurd d (by simp only[bB,reduceCtorEq,not_false_eq_true])
 revert d;refine bS fun a0 h l=>?_;unfold nD at h;try dsimp only at h
 refine ah hJ (an hJ ?_);apply ag _;revert h;refine aX hJ (fun P h=>?_) fun P h=>?_
 .refine aK hJ (aW hJ ?_);refine cM hJ mixed 6 1 aI ai ?_;revert h;refine bS fun Q x h=>?_;cases h;obtain ⟨a2,a3⟩:=lY x;clear x;apply ag _;refine ⟨k,Nat.lt_succ_self _,_,Le.sub (List.Sublist.refl _),e,Q,l,rfl,?_⟩;simp only[*,go_sem]
 cases h;apply bT;simp only[go_sem];obtain rfl:=sI l;clear l;have h:=L;dsimp only[aL] at h;apply ah hJ;refine cM hJ mixed 7 0 aI ai ?_;revert h;refine bS fun a4 y h=>?_;obtain ⟨a5,a6⟩:=gZ y;clear y;revert h;refine bS fun a7 z h=>?_;cases h;obtain ⟨a8,a9⟩:=gZ z;clear z;apply ag _;apply aJ;simp only[*,go_sem]
def r6 (u0:aC)(a:bM)(c:Int)(b:ay):Option ay:=
 aj (jI (IntKind.i64.wrap ((IntKind.i64.wrap ((IntKind.i64.wrap (a.high*b.den))*(IntKind.i64.wrap (c+a.back))))+(IntKind.i64.wrap ((IntKind.i64.wrap (b.num - (IntKind.i64.wrap (a.high*b.den))))*(IntKind.i64.wrap (u0.bE+a.back)))))) (IntKind.i64.wrap (b.den*(IntKind.i64.wrap (c+a.back))))) fun d=>some d
def mq (u0:dK)(a:Int)(b:Int):Option Bool:=
 cond (decide (a<=u0.low)) (cond (decide (u0.low<=u0.high)) (some (decide (u0.high<=b))) (some false)) (some false)
theorem FJ {ro:Addr->Option Value}(u0:dK)(a:Int)(b:Int){r:Bool}(h:mq u0 a b=some r):aA Tryz.prog 122 #[.agg #[.int .i64 u0.low,.int .i64 u0.high],.int .i64 a,.int .i64 b] ⟨ro,[]⟩ (fun v _=>v= .bool r):=by
 unfold mq at h;refine aA.go Tryz.func122 rfl Tryz.ntmps122 Tryz.results122 av fun main J hJ A e hd hs=>?_;have f:=hs 0;have k1:=hs 1;have g:=hs 2;clear hs;apply aD hJ _;refine az fun i r1 n1=>?_;try simp only[au] at n1
 apply an hJ;revert h;refine cS (fun c h=>?_) fun c h=>?_
 .revert h;refine cS (fun d h=>?_) fun d h=>?_
  .cases h;apply ag _;apply aJ;simp only[*,go_sem]
  cases h;apply ag _;apply aJ;simp only[*,go_sem]
 cases h;apply ag _;apply aJ;simp only[*,go_sem]
def mw (u0:aC):Option Bool:=
 cond (decide (20<(u0.aR.length:Int))) (some true) (cond (decide (20<(u0.props.length:Int))) (some true) (cond (decide (20<(u0.aU.length:Int))) (some true) (some (decide (20<(u0.told.length:Int))))))
theorem FK {ro:Addr->Option Value}(u0:aC){s1 b c d:Value}(a:bV ro u0 s1 b c d){r:Bool}(h:mw u0=some r):aA Tryz.prog 26 #[bv u0 s1 b c d] ⟨ro,[]⟩ (fun v _=>v= .bool r):=by
 obtain ⟨d3,c4,rfl,k,l,-⟩:=id a.e;obtain ⟨d10,m,rfl,n,o,-⟩:=id a.p;obtain ⟨d17,q,rfl,s,u,-⟩:=id a.y;obtain ⟨d24,w,rfl,x,z,-⟩:=id a.t;unfold mw at h;refine aA.go Tryz.func26 rfl Tryz.ntmps26 Tryz.results26 av fun main J hJ A B hd hs=>?_;have C:=hs 0;clear hs;apply aD hJ _;refine az fun D E f=>?_;try simp only[au] at f
 apply an hJ;revert h;refine cS (fun g h=>?_) fun g h=>?_
 .cases h;apply ag _;apply aJ;simp only[*,go_sem]
 revert h;refine cS (fun i h=>?_) fun i h=>?_
 .cases h;apply ag _;apply aJ;simp only[*,go_sem]
 revert h;refine cS (fun j h=>?_) fun j h=>?_
 .cases h;apply ag _;apply aJ;simp only[*,go_sem]
 cases h;apply ag _;apply aJ;simp only[*,go_sem]
def fJ (u0:Int)(a:Int):Option ay:=
 some (⟨u0,a⟩:ay)
theorem gw {ro:Addr->Option Value}(u0:Int)(a:Int){r:ay}(h:fJ u0 a=some r):aA Tryz.prog 14 #[.int .i64 u0,.int .i64 a] ⟨ro,[]⟩ (fun v _=>v=r.v):=by
 unfold fJ at h;cases h;refine aA.go Tryz.func14 rfl Tryz.ntmps14 Tryz.results14 av fun main J hJ A b hd hs=>?_;have c:=hs 0;have k1:=hs 1;clear hs;apply aD hJ _;refine az fun d r1 n1=>?_;try simp only[au] at n1
 apply aD hJ _;apply aJ;simp only[*,go_sem]
def pz (u0:Int)(a:Int):Option dK:=
 some (⟨u0,a⟩:dK)
theorem r7 {ro:Addr->Option Value}(u0:Int)(a:Int){r:dK}(h:pz u0 a=some r):aA Tryz.prog 49 #[.int .i64 u0,.int .i64 a] ⟨ro,[]⟩ (fun v _=>v=r.v):=by
 unfold pz at h;cases h;refine aA.go Tryz.func49 rfl Tryz.ntmps49 Tryz.results49 av fun main J hJ A b hd hs=>?_;have c:=hs 0;have k1:=hs 1;clear hs;apply aD hJ _;refine az fun d r1 n1=>?_;try simp only[au] at n1
 apply aD hJ _;apply aJ;simp only[*,go_sem]
def k6 (u0:Int)(a:Int):Option bM:=
 some (⟨u0,a⟩:bM)
theorem nE {ro:Addr->Option Value}(u0:Int)(a:Int){r:bM}(h:k6 u0 a=some r):aA Tryz.prog 31 #[.int .i64 u0,.int .i64 a] ⟨ro,[]⟩ (fun v _=>v=r.v):=by
 unfold k6 at h;cases h;refine aA.go Tryz.func31 rfl Tryz.ntmps31 Tryz.results31 av fun main J hJ A b hd hs=>?_;have c:=hs 0;have k1:=hs 1;clear hs;apply aD hJ _;refine az fun d r1 n1=>?_;try simp only[au] at n1
 apply aD hJ _;apply aJ;simp only[*,go_sem]
def mz (u0:Int)(a:Bool):Option cn:=
 some (⟨u0,a⟩:cn)
theorem ko {ro:Addr->Option Value}(u0:Int)(a:Bool){r:cn}(h:mz u0 a=some r):aA Tryz.prog 47 #[.int .i64 u0,.bool a] ⟨ro,[]⟩ (fun v _=>v=r.v):=by
 unfold mz at h;cases h;refine aA.go Tryz.func47 rfl Tryz.ntmps47 Tryz.results47 av fun main J hJ A b hd hs=>?_;have c:=hs 0;have k1:=hs 1;clear hs;apply aD hJ _;refine az fun d r1 n1=>?_;try simp only[au] at n1
 apply aD hJ _;apply aJ;simp only[*,go_sem]
def pE (u0:aC)(a:cn):Option aC:=
 aj (eA ([]:List cn) u0.told) fun b=>aj (eA b ([a])) fun c=>some (⟨u0.bE,u0.cD,u0.bx,u0.aR,u0.props,u0.aU,c⟩:aC)
theorem nF {ro:Addr->Option Value}(u0:aC){s1 b c N:Value}(j:bV ro u0 s1 b c N)(a:cn){r:aC}(h:pE u0 a=some r):eT Tryz.prog 51 #[bv u0 s1 b c N,.agg #[.int .i64 a.aS,.bool a.bL]] ro (fun v aT=>∃O w1 w2 w3,v=bv r O w1 w2 w3/\bV aT r O w1 w2 w3):=by
 obtain ⟨d24,i,rfl,e0,e1,-⟩:=id j.t;unfold pE at h;have b0:=j.oc;simp only[bN] at b0;refine aA.go Tryz.func51 rfl Tryz.ntmps51 Tryz.results51 av fun main J hJ A e3 hd hs=>?_;have fa:=hs 0;have k1:=hs 1;clear hs;apply an hJ;apply bu _;refine az fun d q b1=>?_;try simp only[au] at b1
 refine az fun f s b2=>?_;try simp only[au] at b2
 refine az fun g u b3=>?_;try simp only[au] at b3
 apply ah hJ;refine aE hJ fun P=>?_;refine e5 hJ mixed [8] (.pure 1 (.rd 2 (.rd 4 (.two 0 (.two 3 (.one 5 (.one 6 (.pure 7 (.last 8 .done)))) 5 (.one 3 (.one 6 (.pure 7 (.last 8 .done))))) 5 (.one 0 (.one 3 (.one 6 (.pure 7 (.last 8 .done))))))))) ⟨ro,[(g,bz 29),(f,.cells #[.int .i64 a.aS,.bool a.bL] 101),(d,bk u0 s1 b c (sl d24 u0.told i))]⟩ cL ai ?_;apply bu _;refine j3 ?_ ?_
 .apply bu _;refine az fun C Q R=>?_;have S:=aY.cons R P;try simp only[au] at R
  apply bu _;refine j3 ?_ ?_
  .revert h;refine bS fun b4 b5 h=>?_;obtain ⟨ca,T⟩:=dQ b5;apply bu _;have cb:aZ dD ro 101 (.slice (some ⟨C,0,none⟩) 0 0) ([]:List cn) [(C,.cells #[] 101)]:=aZ.empty Q;refine oW (r:=dD) (l:=([]:List cn)) (xs:=u0.told) [] ((g,bz 29)::(f,.cells #[.int .i64 a.aS,.bool a.bL] 101)::(d,bk u0 s1 b c (sl d24 u0.told i))::[]) cb S ca j.t rfl rfl eM eM ir iw rfl iu aO aO (fun fb w F k m U=>?_);simp only[bn] at m;subst k;rw[<-T] at F;clear T;obtain ⟨d144,fg,rfl,fi⟩:=F.len;have cd:=aY.back (l:=(g,bz 29)::(f,.cells #[.int .i64 a.aS,.bool a.bL] 101)::(d,bk u0 s1 b c (sl d24 u0.told i))::w) (l':=[]++(w++([(g,bz 29),(f,.cells #[.int .i64 a.aS,.bool a.bL] 101),(d,bk u0 s1 b c (sl d24 u0.told i))]++[]))) [] [(g,bz 29),(f,.cells #[.int .i64 a.aS,.bool a.bL] 101),(d,bk u0 s1 b c (sl d24 u0.told i))] w [] (by first|rfl|simp only[bn]|(simp only[bn];rfl)) (by first|rfl|simp only[bn]|(simp only[bn];rfl)) (by first|exact U|simpa only[List.append_nil,List.nil_append,List.cons_append,List.append_assoc] using U);refine ⟨⟨ro,(g,bz 29)::(f,.cells #[.int .i64 a.aS,.bool a.bL] 101)::(d,bk u0 s1 b c (sl d24 u0.told i))::w⟩,Le.back [] [(g,bz 29),(f,.cells #[.int .i64 a.aS,.bool a.bL] 101),(d,bk u0 s1 b c (sl d24 u0.told i))] w [] (by first|rfl|simp only[bn]|(simp only[bn];rfl)) (by first|rfl|simp only[bn]|(simp only[bn];rfl)),?_⟩;refine ⟨cL,cm ?_⟩;revert h;refine bS fun V cf h=>?_;obtain ⟨cl,W⟩:=dQ cf;apply bu _;refine az fun G X Y=>?_;have cy:=aY.cons Y cd;try simp only[au] at Y
   apply bu _;refine eI (r:=dD) (l:=b4) (x:=a) (cs:=#[.int .i64 a.aS,.bool a.bL]) (e2:=101) [(G,.cells #[.int .i64 a.aS,.bool a.bL] 101),(g,bz 29),(f,.cells #[.int .i64 a.aS,.bool a.bL] 101),(d,bk u0 s1 b c (sl d24 u0.told i))] [] F cy cl rfl cL X rfl rfl eM eM ir iw rfl iu aO aO (fun fp cS H k m fr=>?_);simp only[bn] at m;subst k;rw[<-W] at H;clear W;obtain ⟨d158,Z,rfl,fs⟩:=H.len;refine ⟨⟨ro,(G,.cells #[.int .i64 a.aS,.bool a.bL] 101)::(g,bz 29)::(f,.cells #[.int .i64 a.aS,.bool a.bL] 101)::(d,bk u0 s1 b c (sl d24 u0.told i))::cS⟩,Le.refl _,?_⟩;refine ⟨cL,cm ?_⟩;apply bu _;apply ah hJ;refine aE hJ fun ft=>?_;apply aG hJ;apply bu _;cases h;refine aE hJ fun ab=>?_;obtain ⟨fu,ad,D,ae,c0⟩:=H.fj [(G,.cells #[.int .i64 a.aS,.bool a.bL] 101),(g,bk u0 s1 b c (sl d158 V Z)),(f,.cells #[.int .i64 a.aS,.bool a.bL] 101),(d,bk u0 s1 b c (sl d158 V Z))] [] ab (aF.cons X (aF.cons u (aF.cons s (aF.cons q (aF.nil _)))));clear ab;refine cN hJ c0 ?_;obtain ⟨fv,fw,-⟩:=ae.op;replace j:=j.mono ad;replace u:=D.tl.hd;replace s:=D.tl.tl.hd;replace q:=D.tl.tl.tl.hd;simp only[bC] at D;refine b9 ?_;exact ⟨_,ad,Le.sub (List.nil_sublist _),_,_,_,_,rfl,⟨j.e,j.p,j.y,ae⟩⟩
  revert h;refine bS fun da db h=>?_;obtain ⟨dd,al⟩:=dQ db;apply bu _;refine az fun n ao ar=>?_;have df:=aY.cons ar S;try simp only[au] at ar
  apply bu _;have dk:aZ dD ro 101 (.slice (some ⟨C,0,none⟩) 0 0) ([]:List cn) [(C,.cells #[] 101)]:=aZ.empty Q;refine oW (r:=dD) (l:=([]:List cn)) (xs:=u0.told) [(n,.cells #[.int .i64 a.aS,.bool a.bL] 101)] ((g,bz 29)::(f,.cells #[.int .i64 a.aS,.bool a.bL] 101)::(d,bk u0 s1 b c (sl d24 u0.told i))::[]) dk df dd j.t rfl rfl eM eM ir iw rfl iu aO aO (fun fx z I k m a0=>?_);simp only[bn] at m;subst k;rw[<-al] at I;clear al;obtain ⟨d179,fz,rfl,gg⟩:=I.len;have dp:=aY.back (l:=(n,.cells #[.int .i64 a.aS,.bool a.bL] 101)::(g,bz 29)::(f,.cells #[.int .i64 a.aS,.bool a.bL] 101)::(d,bk u0 s1 b c (sl d24 u0.told i))::z) (l':=[(n,.cells #[.int .i64 a.aS,.bool a.bL] 101)]++(z++([(g,bz 29),(f,.cells #[.int .i64 a.aS,.bool a.bL] 101),(d,bk u0 s1 b c (sl d24 u0.told i))]++[]))) [(n,.cells #[.int .i64 a.aS,.bool a.bL] 101)] [(g,bz 29),(f,.cells #[.int .i64 a.aS,.bool a.bL] 101),(d,bk u0 s1 b c (sl d24 u0.told i))] z [] (by first|rfl|simp only[bn]|(simp only[bn];rfl)) (by first|rfl|simp only[bn]|(simp only[bn];rfl)) (by first|exact a0|simpa only[List.append_nil,List.nil_append,List.cons_append,List.append_assoc] using a0);refine ⟨⟨ro,(n,.cells #[.int .i64 a.aS,.bool a.bL] 101)::(g,bz 29)::(f,.cells #[.int .i64 a.aS,.bool a.bL] 101)::(d,bk u0 s1 b c (sl d24 u0.told i))::z⟩,Le.back [(n,.cells #[.int .i64 a.aS,.bool a.bL] 101)] [(g,bz 29),(f,.cells #[.int .i64 a.aS,.bool a.bL] 101),(d,bk u0 s1 b c (sl d24 u0.told i))] z [] (by first|rfl|simp only[bn]|(simp only[bn];rfl)) (by first|rfl|simp only[bn]|(simp only[bn];rfl)),?_⟩;refine ⟨cL,cm ?_⟩;revert h;refine bS fun a2 dq h=>?_;obtain ⟨ds,a3⟩:=dQ dq;apply bu _;refine eI (r:=dD) (l:=da) (x:=a) (cs:=#[.int .i64 a.aS,.bool a.bL]) (e2:=101) [(n,.cells #[.int .i64 a.aS,.bool a.bL] 101),(g,bz 29),(f,.cells #[.int .i64 a.aS,.bool a.bL] 101),(d,bk u0 s1 b c (sl d24 u0.told i))] [] I dp ds rfl cL ao rfl rfl eM eM ir iw rfl iu aO aO (fun gl dt K k m gn=>?_);simp only[bn] at m;subst k;rw[<-a3] at K;clear a3;obtain ⟨d191,a4,rfl,gp⟩:=K.len;refine ⟨⟨ro,(n,.cells #[.int .i64 a.aS,.bool a.bL] 101)::(g,bz 29)::(f,.cells #[.int .i64 a.aS,.bool a.bL] 101)::(d,bk u0 s1 b c (sl d24 u0.told i))::dt⟩,Le.refl _,?_⟩;refine ⟨cL,cm ?_⟩;apply bu _;apply ah hJ;refine aE hJ fun gB=>?_;apply aG hJ;apply bu _;cases h;refine aE hJ fun a5=>?_;obtain ⟨gC,a6,E,a7,du⟩:=K.fj [(n,.cells #[.int .i64 a.aS,.bool a.bL] 101),(g,bk u0 s1 b c (sl d191 a2 a4)),(f,.cells #[.int .i64 a.aS,.bool a.bL] 101),(d,bk u0 s1 b c (sl d191 a2 a4))] [] a5 (aF.cons ao (aF.cons u (aF.cons s (aF.cons q (aF.nil _)))));clear a5;refine cN hJ du ?_;obtain ⟨gV,g0,-⟩:=a7.op;replace j:=j.mono a6;replace u:=E.tl.hd;replace s:=E.tl.tl.hd;replace q:=E.tl.tl.tl.hd;simp only[bC] at E;refine b9 ?_;exact ⟨_,a6,Le.sub (List.nil_sublist _),_,_,_,_,rfl,⟨j.e,j.p,j.y,a7⟩⟩
 revert h;refine bS fun dv dC h=>?_;obtain ⟨dE,a8⟩:=dQ dC;apply bu _;refine az fun o a9 ba=>?_;have dT:=aY.cons ba P;try simp only[au] at ba
 apply bu _;refine az fun bb ea bc=>?_;have eb:=aY.cons bc dT;try simp only[au] at bc
 apply bu _;have ec:aZ dD ro 101 (.slice (some ⟨bb,0,none⟩) 0 0) ([]:List cn) [(bb,.cells #[] 101)]:=aZ.empty ea;refine oW (r:=dD) (l:=([]:List cn)) (xs:=u0.told) [] ((o,.cells #[.int .i64 a.aS,.bool a.bL] 101)::(g,bz 29)::(f,.cells #[.int .i64 a.aS,.bool a.bL] 101)::(d,bk u0 s1 b c (sl d24 u0.told i))::[]) ec eb dE j.t rfl rfl eM eM ir iw rfl iu aO aO (fun g1 B L k m bd=>?_);simp only[bn] at m;subst k;rw[<-a8] at L;clear a8;obtain ⟨d214,g2,rfl,g3⟩:=L.len;have ed:=aY.back (l:=(o,.cells #[.int .i64 a.aS,.bool a.bL] 101)::(g,bz 29)::(f,.cells #[.int .i64 a.aS,.bool a.bL] 101)::(d,bk u0 s1 b c (sl d24 u0.told i))::B) (l':=[]++(B++([(o,.cells #[.int .i64 a.aS,.bool a.bL] 101),(g,bz 29),(f,.cells #[.int .i64 a.aS,.bool a.bL] 101),(d,bk u0 s1 b c (sl d24 u0.told i))]++[]))) [] [(o,.cells #[.int .i64 a.aS,.bool a.bL] 101),(g,bz 29),(f,.cells #[.int .i64 a.aS,.bool a.bL] 101),(d,bk u0 s1 b c (sl d24 u0.told i))] B [] (by first|rfl|simp only[bn]|(simp only[bn];rfl)) (by first|rfl|simp only[bn]|(simp only[bn];rfl)) (by first|exact bd|simpa only[List.append_nil,List.nil_append,List.cons_append,List.append_assoc] using bd);refine ⟨⟨ro,(o,.cells #[.int .i64 a.aS,.bool a.bL] 101)::(g,bz 29)::(f,.cells #[.int .i64 a.aS,.bool a.bL] 101)::(d,bk u0 s1 b c (sl d24 u0.told i))::B⟩,Le.back [] [(o,.cells #[.int .i64 a.aS,.bool a.bL] 101),(g,bz 29),(f,.cells #[.int .i64 a.aS,.bool a.bL] 101),(d,bk u0 s1 b c (sl d24 u0.told i))] B [] (by first|rfl|simp only[bn]|(simp only[bn];rfl)) (by first|rfl|simp only[bn]|(simp only[bn];rfl)),?_⟩;refine ⟨cL,cm ?_⟩;revert h;refine bS fun bj eh h=>?_;obtain ⟨et,bl⟩:=dQ eh;apply bu _;refine eI (r:=dD) (l:=dv) (x:=a) (cs:=#[.int .i64 a.aS,.bool a.bL]) (e2:=101) [(o,.cells #[.int .i64 a.aS,.bool a.bL] 101),(g,bz 29),(f,.cells #[.int .i64 a.aS,.bool a.bL] 101),(d,bk u0 s1 b c (sl d24 u0.told i))] [] L ed et rfl cL a9 rfl rfl eM eM ir iw rfl iu aO aO (fun g4 ev M k m ha=>?_);simp only[bn] at m;subst k;rw[<-bl] at M;clear bl;obtain ⟨d226,bm,rfl,hc⟩:=M.len;refine ⟨⟨ro,(o,.cells #[.int .i64 a.aS,.bool a.bL] 101)::(g,bz 29)::(f,.cells #[.int .i64 a.aS,.bool a.bL] 101)::(d,bk u0 s1 b c (sl d24 u0.told i))::ev⟩,Le.refl _,?_⟩;refine ⟨cL,cm ?_⟩;apply bu _;apply ah hJ;refine aE hJ fun hf=>?_;apply aG hJ;apply bu _;cases h;refine aE hJ fun bo=>?_;obtain ⟨hg,br,eQ,bs,eS⟩:=M.fj [(o,.cells #[.int .i64 a.aS,.bool a.bL] 101),(g,bk u0 s1 b c (sl d226 bj bm)),(f,.cells #[.int .i64 a.aS,.bool a.bL] 101),(d,bk u0 s1 b c (sl d226 bj bm))] [] bo (aF.cons a9 (aF.cons u (aF.cons s (aF.cons q (aF.nil _)))));clear bo;refine cN hJ eS ?_;obtain ⟨hh,hi,-⟩:=bs.op;replace j:=j.mono br;simp only[bC] at eQ;refine b9 ?_;exact ⟨_,br,Le.sub (List.nil_sublist _),_,_,_,_,rfl,⟨j.e,j.p,j.y,bs⟩⟩
def wH (a:(List Int))(b:Int)(st:(Int×(List c7))):Option (Fl (Int×(List c7)) aC):=
 cond (decide (st.1<(a.length:Int))) (aj (bH a st.1) fun c=>aj (eA st.2 ([(⟨c,b⟩:c7)])) fun d=>some (.nx ((IntKind.i64.wrap (st.1+1)),d))) (some (.bk (st.1,st.2)))
def wI (u0:aC)(a:(List Int))(b:Int):Option aC:=
 aj (eA ([]:List c7) u0.props) fun c=>aj (bB (wH a b) fu (0,c)) fun o=>aL o (fun d=>some (⟨u0.bE,u0.cD,u0.bx,u0.aR,d.2,u0.aU,u0.told⟩:aC)) (fun _ _=>none) (fun r=>some r)
theorem FL {ro:Addr->Option Value}(u0:aC){s1 H a b:Value}(k:bV ro u0 s1 H a b)(w:(List Int)){I:Value}(K:aB rI ro I w)(n:Int){r:aC}(h:wI u0 w n=some r):eT Tryz.prog 29 #[bv u0 s1 H a b,I,.int .i64 n] ro (fun v aT=>∃L w1 w2 w3,v=bv r L w1 w2 w3/\bV aT r L w1 w2 w3):=by
 obtain ⟨d10,c,rfl,df,dk,-⟩:=id k.p;obtain ⟨d31,dp,rfl,dq,ds,-⟩:=id K;unfold wI at h;have ad:=k.oc;simp only[bN] at ad;refine aA.go Tryz.func29 rfl Tryz.ntmps29 Tryz.results29 av fun main J hJ A ae hd hs=>?_;have al:=hs 0;have k1:=hs 1;have ao:=hs 2;clear hs;apply aD hJ _;refine az fun f ar a0=>?_;try simp only[au] at a0
 refine az fun g a2 a3=>?_;try simp only[au] at a3
 apply aD hJ _;refine az fun i a4 a5=>?_;try simp only[au] at a5
 apply ah hJ;refine aE hJ fun a6=>?_;apply aG hJ;revert h;refine bS fun a7 a8 h=>?_;obtain ⟨a9,M⟩:=dQ a8;apply ag _;refine az fun N ba O=>?_;have bb:=aY.cons O a6;try simp only[au] at O
 apply ag _;have bc:aZ eV ro 146 (.slice (some ⟨N,0,none⟩) 0 0) ([]:List c7) [(N,.cells #[] 146)]:=aZ.empty ba;refine oW (r:=eV) (l:=([]:List c7)) (xs:=u0.props) [] ((i,bk u0 s1 (sl d10 u0.props c) a b)::(g,bz 29)::(f,bk u0 s1 (sl d10 u0.props c) a b)::[]) bc bb a9 k.p rfl rfl kP kP qF qH rfl qG aO aO (fun dt o z B C P=>?_);simp only[bn] at C;subst B;rw[<-M] at z;clear M;obtain ⟨d48,bd,rfl,bj⟩:=z.len;have du:=aY.back (l:=(i,bk u0 s1 (sl d10 u0.props c) a b)::(g,bz 29)::(f,bk u0 s1 (sl d10 u0.props c) a b)::o) (l':=[]++(o++([(i,bk u0 s1 (sl d10 u0.props c) a b),(g,bz 29),(f,bk u0 s1 (sl d10 u0.props c) a b)]++[]))) [] [(i,bk u0 s1 (sl d10 u0.props c) a b),(g,bz 29),(f,bk u0 s1 (sl d10 u0.props c) a b)] o [] (by first|rfl|simp only[bn]|(simp only[bn];rfl)) (by first|rfl|simp only[bn]|(simp only[bn];rfl)) (by first|exact P|simpa only[List.append_nil,List.nil_append,List.cons_append,List.append_assoc] using P);refine ⟨⟨ro,(i,bk u0 s1 (sl d10 u0.props c) a b)::(g,bz 29)::(f,bk u0 s1 (sl d10 u0.props c) a b)::o⟩,Le.back [] [(i,bk u0 s1 (sl d10 u0.props c) a b),(g,bz 29),(f,bk u0 s1 (sl d10 u0.props c) a b)] o [] (by first|rfl|simp only[bn]|(simp only[bn];rfl)) (by first|rfl|simp only[bn]|(simp only[bn];rfl)),?_⟩;apply aP;apply ag _;refine ah hJ (ah hJ ?_);refine aE hJ fun dv=>?_;apply aM hJ _;apply aW hJ;revert h;refine bS fun bl s bm=>?_;refine b7 hJ (rg 15 17 [8]) (fun m bo F'=>∃(d57:Option Addr) (j:Nat) (D:List (Nat×Obj)) (u:Int) (d:(List c7)),bB (wH w n) m (u,d)=some bl/\F'=⟨ro,(i,bk u0 s1 (sl d57 d j) a b)::(g,bz 29)::(f,bk u0 s1 (sl d10 u0.props c) a b)::D⟩/\aZ eV ro 146 (.slice d57 d.length j) d D/\d.length<=j/\slot bo 8= .int .i64 u) fu ?_ ?_
 .refine ⟨d48,bd,o,0,a7,s,rfl,z,bj,?_⟩;simp only[*,go_sem]
 rintro E dC F' Q ⟨d57,j,D,u,d,s,rfl,R,dE,dT⟩;obtain ⟨br,bs,b0⟩:=Q.pick [1,2,6,7] aO;simp only[*,go_sem] at br bs b0;clear Q ae hd al k1 ao;obtain _|E:=E
 .exact absurd s (by simp only[bB,reduceCtorEq,not_false_eq_true])
 revert s;refine bS fun ea h F=>?_;unfold wH at h;try dsimp only at h
 refine ah hJ (ah hJ ?_);refine aE hJ fun eb=>?_;apply aM hJ _;revert h;refine aX hJ (fun b1 h=>?_) fun b1 h=>?_
 .refine aK hJ (ah hJ ?_);apply aW hJ;refine aE hJ fun b2=>?_;refine e5 hJ mixed [11] (.pure 0 (.rd 1 (.pure 2 (.pure 3 (.pure 4 (.rd 5 (.pure 6 (.pure 7 (.one 8 (.one 9 (.pure 10 (.last 11 .done)))))))))))) ⟨ro,[(i,bk u0 s1 (sl d57 d j) a b),(g,bz 29),(f,bk u0 s1 (sl d10 u0.props c) a b)]⟩ aI ai ?_;revert h;refine bS fun q b3 h=>?_;obtain ⟨ec,ed,S⟩:=c6 b3;obtain ⟨eh,b4,b5,ca,T⟩:=K.el _ _ S;obtain rfl:b4=[.int .i64 q]:=ca;cases b5;have cb:=T 0 _ rfl;simp only[go_sem] at cb;clear T S;revert h;refine bS fun cd cf h=>?_;cases h;obtain ⟨cl,U⟩:=dQ cf;apply ag _;refine az fun V cy W=>?_;have cS:=aY.cons W b2;try simp only[au] at W
  apply ag _;refine eI (r:=eV) (l:=d) (x:=(⟨q,n⟩:c7)) (cs:=#[.int .i64 q,.int .i64 n]) (e2:=146) [(V,.cells #[.int .i64 q,.int .i64 n] 146),(i,bk u0 s1 (sl d57 d j) a b),(g,bz 29),(f,bk u0 s1 (sl d10 u0.props c) a b)] [] R cS cl rfl aI cy rfl rfl kP kP qF qH rfl qG aO aO (fun et X G B C ev=>?_);simp only[bn] at C;subst B;rw[<-U] at G;clear U;obtain ⟨d111,c0,rfl,da⟩:=G.len;refine ⟨⟨ro,(V,.cells #[.int .i64 q,.int .i64 n] 146)::(i,bk u0 s1 (sl d57 d j) a b)::(g,bz 29)::(f,bk u0 s1 (sl d10 u0.props c) a b)::X⟩,Le.refl _,?_⟩;refine ⟨aI,cm ?_⟩;apply ag _;refine aE hJ fun eQ=>?_;apply aM hJ _;refine ⟨E,Nat.lt_succ_self _,_,Le.sub (List.Sublist.cons _ (List.Sublist.refl _)),d111,c0,X,(IntKind.i64.wrap (u+1)),cd,F,rfl,G,da,?_⟩;simp only[*,go_sem]
 cases h;apply bT;simp only[go_sem];obtain rfl:=sI F;clear F;have h:=bm;dsimp only[aL] at h;cases h;apply ah hJ;refine aE hJ fun eS=>?_;apply aM hJ _;refine aE hJ fun Y=>?_;obtain ⟨e0,Z,db,ab,dd⟩:=R.fj [(i,bk u0 s1 (sl d57 d j) a b),(g,bk u0 s1 (sl d57 d j) a b),(f,bk u0 s1 (sl d10 u0.props c) a b)] [] Y (aF.cons a4 (aF.cons a2 (aF.cons ar (aF.nil _))));clear Y;refine cN hJ dd ?_;obtain ⟨e1,e3,-⟩:=ab.op;replace k:=k.mono Z;simp only[bC] at db;refine b9 ?_;exact ⟨_,Z,Le.sub (List.nil_sublist _),_,_,_,_,rfl,⟨k.e,ab,k.y,k.t⟩⟩
def wJ :Option aC:=
 aj (fJ 1 2) fun a=>aj (pz 10 12) fun b=>aj (pz 10 10) fun c=>some (⟨20,2,a,[(⟨0,2⟩:b8),(⟨8,4⟩:b8),(⟨14,4⟩:b8)],([]:(List c7)),[(⟨2,b⟩:dc),(⟨4,c⟩:dc)],([]:(List cn))⟩:aC)
theorem FM {ro:Addr->Option Value}{r:aC}(h:wJ=some r):eT Tryz.prog 28 #[] ro (fun v aT=>∃m w1 w2 w3,v=bv r m w1 w2 w3/\bV aT r m w1 w2 w3):=by
 unfold wJ at h;refine aA.go Tryz.func28 rfl Tryz.ntmps28 Tryz.results28 av fun main J hJ A H hd hs=>?_;clear hs;apply aD hJ _;refine az fun n r1 n1=>?_;try simp only[au] at n1
 apply ah hJ;refine aE hJ fun C=>?_;apply aG hJ;revert h;refine bS fun g D h=>?_;apply ag _;refine bf hJ _ (gw 1 2 D) (aP ?_);revert h;refine bS fun a E h=>?_;apply ag _;refine az fun b5 p q=>?_;have F:=aY.cons q C;try simp only[au] at q
 refine bf hJ _ (r7 10 12 E) (aP ?_);revert h;refine bS fun c G h=>?_;cases h;apply ag _;refine bf hJ _ (r7 10 10 G) (aP ?_);apply ag _;refine az fun d i s=>?_;have I:=aY.cons s F;try simp only[au] at s
 apply ag _;refine aE hJ fun t=>?_;obtain ⟨u,j,w⟩:=e4 (b:=b5) (o:=(.cells #[.int .i64 0,.int .i64 2,.int .i64 8,.int .i64 4,.int .i64 14,.int .i64 4] 42)) [(d,.cells #[.int .i64 2,.int .i64 a.low,.int .i64 a.high,.int .i64 4,.int .i64 c.low,.int .i64 c.high] 144)] ((n,.cells #[.int .i64 20,.int .i64 2,.int .i64 g.num,.int .i64 g.den,.slice (some ⟨b5,0,none⟩) 3 3,.slice none 0 0,.slice (some ⟨d,0,none⟩) 2 2,.slice none 0 0] 29)::[]) t p (aF.cons i (aF.cons r1 (aF.nil _)));clear t;have f:aB dV (bR ro b5 (.cells #[.int .i64 0,.int .i64 2,.int .i64 8,.int .i64 4,.int .i64 14,.int .i64 4] 42)) (.slice (some ⟨b5,0,none⟩) 3 3) [(⟨0,2⟩:b8),(⟨8,4⟩:b8),(⟨14,4⟩:b8)]:=(aB.flat (r:=dV) (e:=42) (cs:=#[.int .i64 0,.int .i64 2,.int .i64 8,.int .i64 4,.int .i64 14,.int .i64 4]) b8.cells ([(⟨0,2⟩:b8),(⟨8,4⟩:b8),(⟨14,4⟩:b8)]) (fun _=>rfl) p rfl av)
 generalize bR ro b5 (.cells #[.int .i64 0,.int .i64 2,.int .i64 8,.int .i64 4,.int .i64 14,.int .i64 4] 42)=x at u j w f;refine cN hJ w ?_;obtain ⟨K,L,-⟩:=f.op;replace i:=j.hd;replace r1:=j.tl.hd;simp only[bC] at j;refine aE hJ fun y=>?_;obtain ⟨k,z,B⟩:=e4 (b:=d) (o:=(.cells #[.int .i64 2,.int .i64 a.low,.int .i64 a.high,.int .i64 4,.int .i64 c.low,.int .i64 c.high] 144)) [] ((n,.cells #[.int .i64 20,.int .i64 2,.int .i64 g.num,.int .i64 g.den,.slice (some ⟨b5,0,none⟩) ([(⟨0,2⟩:b8),(⟨8,4⟩:b8),(⟨14,4⟩:b8)]).length 3,.slice none 0 0,.slice (some ⟨d,0,none⟩) 2 2,.slice none 0 0] 29)::[]) y i (aF.cons r1 (aF.nil _));clear y;have l:aB fl (bR x d (.cells #[.int .i64 2,.int .i64 a.low,.int .i64 a.high,.int .i64 4,.int .i64 c.low,.int .i64 c.high] 144)) (.slice (some ⟨d,0,none⟩) 2 2) [(⟨2,a⟩:dc),(⟨4,c⟩:dc)]:=(aB.flat (r:=fl) (e:=144) (cs:=#[.int .i64 2,.int .i64 a.low,.int .i64 a.high,.int .i64 4,.int .i64 c.low,.int .i64 c.high]) dc.cells ([(⟨2,a⟩:dc),(⟨4,c⟩:dc)]) (fun _=>rfl) i rfl av)
 generalize bR x d (.cells #[.int .i64 2,.int .i64 a.low,.int .i64 a.high,.int .i64 4,.int .i64 c.low,.int .i64 c.high] 144)=M at k z B l;refine cN hJ B ?_;obtain ⟨N,O,-⟩:=l.op;replace f:=f.mono k;simp only[bC] at z;refine b9 ?_;exact ⟨_,(u).trans k,Le.sub (List.nil_sublist _),_,_,_,_,rfl,f,aB.nil _ _,l,aB.nil _ _⟩
def pF (u0:aC)(st:(Int×Int)):Option (Fl (Int×Int) Int):=
 cond (decide (st.2<(u0.aR.length:Int))) (aj (bH u0.aR st.2) fun a=>aj (eB a.aQ 0 (IntKind.i64.wrap (u0.bE - 1))) fun b=>cond (!b) (some (.rt 1)) (aj (eB a.high 0 60) fun c=>cond (!c) (some (.rt 1)) (cond (decide (0<st.2)) (aj (bH u0.aR (IntKind.i64.wrap (st.2 - 1))) fun d=>cond (decide (a.aQ<=d.aQ)) (some (.rt 7)) (some (.nx (st.1,(IntKind.i64.wrap (st.2+1)))))) (some (.nx (st.1,(IntKind.i64.wrap (st.2+1)))))))) (some (.bk (st.1,st.2)))
def mA (u0:aC):Option Int:=
 aj (eB (u0.aR.length:Int) 2 5) fun a=>cond (!a) (some 2) (aj (bB (pF u0) fu (0,0)) fun o=>aL o (fun b=>some 0) (fun _ _=>none) (fun r=>some r))
theorem FN {ro:Addr->Option Value}(u0:aC){s1 i j k:Value}(l:bV ro u0 s1 i j k){r:Int}(h:mA u0=some r):aA Tryz.prog 71 #[bv u0 s1 i j k] ⟨ro,[]⟩ (fun v _=>v= .int .i64 r):=by
 obtain ⟨d3,c4,rfl,al,ao,-⟩:=id l.e;unfold mA at h;refine aA.go Tryz.func71 rfl Tryz.ntmps71 Tryz.results71 av fun main J hJ A w hd hs=>?_;have x:=hs 0;clear hs;apply aD hJ _;refine az fun y ar z=>?_;try simp only[au] at z
 refine ah hJ (an hJ ?_);revert h;refine bS fun a0 B h=>?_;apply ag _;refine bf hJ _ (gf (u0.aR.length:Int) 2 5 B) (aP ?_);apply ag _;revert h;refine aX hJ (fun C h=>?_) fun C h=>?_
 .cases h;apply aD hJ _;apply aJ;simp only[*,go_sem]
 refine aK hJ (ah hJ ?_);apply aD hJ _;apply aW hJ;revert h;refine bS fun D d f=>?_;refine b7 hJ (rg 10 39 [2,3,4]) (fun m q F'=>∃(b:Int) (c:Int),bB (pF u0) m (b,c)=some D/\F'=⟨ro,(y,bk u0 (sl d3 u0.aR c4) i j k)::[]⟩/\slot q 2= .int .i64 b/\slot q 3= .int .i64 c) fu ?_ ?_
 .refine ⟨0,0,d,rfl,?_⟩;simp only[*,go_sem]
 rintro g a2 F' s ⟨b,c,d,rfl,a3,a4⟩;obtain ⟨E,F,G⟩:=s.pick [1] aO;simp only[*,go_sem] at E F G;clear s w hd x;obtain _|g:=g
 .exact absurd d (by simp only[bB,reduceCtorEq,not_false_eq_true])
 revert d;refine bS fun a5 h a=>?_;unfold pF at h;try dsimp only at h
 refine ah hJ (an hJ ?_);apply ag _;revert h;refine aX hJ (fun H h=>?_) fun H h=>?_
 .refine aK hJ (ah hJ ?_);refine aW hJ (ah hJ ?_);apply aG hJ;revert h;refine bS fun n I h=>?_;obtain ⟨a6,a7,t⟩:=c6 I;obtain ⟨a8,K,L,M,o⟩:=l.e.el _ _ t;obtain rfl:K=n.cells:=M;cases L;have N:=o 0 _ rfl;simp only[go_sem] at N;have O:=o 1 _ rfl;simp only[go_sem] at O;clear o t;apply ag _;refine az fun a9 ba P=>?_;try simp only[au] at P
  refine ah hJ (an hJ ?_);revert h;refine bS fun bb Q h=>?_;apply ag _;refine bf hJ _ (gf n.aQ 0 (IntKind.i64.wrap (u0.bE - 1)) Q) (aP ?_);revert h;refine cS (fun R h=>?_) fun R h=>?_
  .cases h;apply ag _;refine cz hJ ?_;apply aD hJ _;obtain rfl:=sI a;clear a;have h:=f;dsimp only[aL] at h;cases h;apply aJ;simp only[*,go_sem]
  revert h;refine bS fun bc S h=>?_;apply ag _;refine bf hJ _ (gf n.high 0 60 S) (aP ?_);apply ag _;revert h;refine aX hJ (fun T h=>?_) fun T h=>?_
  .cases h;apply aD hJ _;obtain rfl:=sI a;clear a;have h:=f;dsimp only[aL] at h;cases h;apply aJ;simp only[*,go_sem]
  refine aK hJ (ah hJ ?_);refine cM hJ mixed 14 2 aI ai ?_;revert h;refine cS (fun U h=>?_) fun U h=>?_
  .revert h;refine bS fun V W h=>?_;obtain ⟨bd,bj,u⟩:=c6 W;obtain ⟨bl,X,Y,Z,p⟩:=l.e.el _ _ u;obtain rfl:X=V.cells:=Z;cases Y;have ab:=p 0 _ rfl;simp only[go_sem] at ab;have ad:=p 1 _ rfl;simp only[go_sem] at ad;clear p u;apply ag _;revert h;refine aX hJ (fun ae h=>?_) fun ae h=>?_
   .cases h;apply aD hJ _;obtain rfl:=sI a;clear a;have h:=f;dsimp only[aL] at h;cases h;apply aJ;simp only[*,go_sem]
   cases h;refine aK hJ (aG hJ ?_);apply ag _;refine ⟨g,Nat.lt_succ_self _,_,Le.sub (List.Sublist.cons _ (List.Sublist.refl _)),b,(IntKind.i64.wrap (c+1)),a,rfl,?_⟩;simp only[*,go_sem]
  cases h;apply ag _;refine cB hJ ?_;refine aK hJ (aG hJ ?_);apply ag _;refine ⟨g,Nat.lt_succ_self _,_,Le.sub (List.Sublist.cons _ (List.Sublist.refl _)),b,(IntKind.i64.wrap (c+1)),a,rfl,?_⟩;simp only[*,go_sem]
 cases h;apply bT;simp only[go_sem];obtain rfl:=sI a;clear a;have h:=f;dsimp only[aL] at h;cases h;apply aD hJ _;apply aJ;simp only[*,go_sem]
def Aq (u0:aC)(st:(Int×Int)):Option (Fl (Int×Int) Int):=
 cond (decide (st.2<(u0.told.length:Int))) (aj (bH u0.told st.2) fun a=>aj (nC u0 a.aS) fun b=>cond (!b) (some (.rt 6)) (some (.nx (st.1,(IntKind.i64.wrap (st.2+1)))))) (some (.bk (st.1,st.2)))
def Ar (u0:aC)(st:(Int×Int)):Option (Fl (Int×Int) Int):=
 cond (decide (st.2<(u0.aU.length:Int))) (aj (bH u0.aU st.2) fun a=>aj (eB a.back 1 20) fun b=>cond (!b) (some (.rt 1)) (aj (mq a.high 0 60) fun c=>cond (!c) (some (.rt 1)) (cond (decide (3<=(IntKind.i64.wrap (a.high.high - a.high.low)))) (some (.rt 1)) (some (.nx (st.1,(IntKind.i64.wrap (st.2+1)))))))) (some (.bk (st.1,st.2)))
def pG (u0:aC)(st:(Int×Int)):Option (Fl (Int×Int) Int):=
 cond (decide (st.2<(u0.props.length:Int))) (aj (bH u0.props st.2) fun a=>aj (nB u0 a.place) fun b=>cond (!b) (some (.rt 6)) (aj (eB a.fG 1 20) fun c=>cond (!c) (some (.rt 1)) (some (.nx (st.1,(IntKind.i64.wrap (st.2+1))))))) (some (.bk (st.1,st.2)))
def wK (u0:aC)(st:(Int×Int)):Option (Fl (Int×Int) Int):=
 cond (decide (st.2<(u0.aU.length:Int))) (aj (bH u0.aU st.2) fun a=>aj (eB a.back 1 20) fun b=>cond (!b) (some (.rt 1)) (aj (mq a.high 0 60) fun c=>cond (!c) (some (.rt 1)) (cond (decide (3<=(IntKind.i64.wrap (a.high.high - a.high.low)))) (some (.rt 1)) (some (.nx (st.1,(IntKind.i64.wrap (st.2+1)))))))) (some (.bk (st.1,st.2)))
def wL (u0:aC)(st:(Int×Int)):Option (Fl (Int×Int) Int):=
 cond (decide (st.2<(u0.told.length:Int))) (aj (bH u0.told st.2) fun a=>aj (nC u0 a.aS) fun b=>cond (!b) (some (.rt 6)) (some (.nx (st.1,(IntKind.i64.wrap (st.2+1)))))) (some (.bk (st.1,st.2)))
def mB (u0:aC):Option Int:=
 cond (decide (3<(u0.props.length:Int))) (some 2) (aj (bB (pG u0) fu (0,0)) fun o=>aL o (fun a=>aj (eB (u0.aU.length:Int) 1 3) fun b=>cond (!b) (some 2) (aj (bB (wK u0) fu (a.1,0)) fun o=>aL o (fun c=>cond (decide (3<(u0.told.length:Int))) (some 2) (aj (bB (wL u0) fu (c.1,0)) fun o=>aL o (fun d=>some 0) (fun _ _=>none) (fun r=>some r))) (fun _ _=>none) (fun r=>some r))) (fun _ _=>none) (fun r=>some r))
theorem FO {ro:Addr->Option Value}(u0:aC){s1 N O P:Value}(b:bV ro u0 s1 N O P){r:Int}(h:mB u0=some r):aA Tryz.prog 72 #[bv u0 s1 N O P] ⟨ro,[]⟩ (fun v _=>v= .int .i64 r):=by
 obtain ⟨d10,w,rfl,ec,ed,-⟩:=id b.p;obtain ⟨d17,x,rfl,eh,et,-⟩:=id b.y;obtain ⟨d24,z,rfl,ev,eQ,-⟩:=id b.t;unfold mB at h;refine aA.go Tryz.func72 rfl Tryz.ntmps72 Tryz.results72 av fun main J hJ A ao hd hs=>?_;have ar:=hs 0;clear hs;apply aD hJ _;refine az fun B eS a0=>?_;try simp only[au] at a0
 refine ah hJ (an hJ ?_);apply ag _;revert h;refine aX hJ (fun a2 h=>?_) fun a2 h=>?_
 .cases h;apply aD hJ _;apply aJ;simp only[*,go_sem]
 refine aK hJ (ah hJ ?_);apply aD hJ _;apply aW hJ;revert h;refine bS fun a3 i C=>?_;refine b7 hJ (rg 11 24 [2,3]) (fun m c F'=>∃(e:Int) (j:Int),bB (pG u0) m (e,j)=some a3/\F'=⟨ro,(B,bk u0 s1 (sl d10 u0.props w) (sl d17 u0.aU x) (sl d24 u0.told z))::[]⟩/\slot c 2= .int .i64 e/\slot c 3= .int .i64 j) fu ?_ ?_
 .refine ⟨0,0,i,rfl,?_⟩;simp only[*,go_sem]
 rintro D e0 F' Q ⟨e,j,i,rfl,a4,a5⟩;obtain ⟨R,S,T⟩:=Q.pick [1] aO;simp only[*,go_sem] at R S T;clear Q ao hd ar;obtain _|D:=D
 .exact absurd i (by simp only[bB,reduceCtorEq,not_false_eq_true])
 revert i;refine bS fun e1 h d=>?_;unfold pG at h;try dsimp only at h
 refine ah hJ (an hJ ?_);apply ag _;revert h;refine aX hJ (fun a6 h=>?_) fun a6 h=>?_
 .refine aK hJ (ah hJ ?_);refine aW hJ (ah hJ ?_);apply ah hJ;refine cM hJ mixed 9 1 aI ai ?_;revert h;refine bS fun E a7 h=>?_;obtain ⟨e2,e3,U⟩:=c6 a7;obtain ⟨fa,a8,a9,ba,G⟩:=b.p.el _ _ U;obtain rfl:a8=E.cells:=ba;cases a9;have bb:=G 0 _ rfl;simp only[go_sem] at bb;have bc:=G 1 _ rfl;simp only[go_sem] at bc;clear G U;revert h;refine bS fun fb bd h=>?_;apply ag _;refine ⟨_,bD hJ fun F H=>FH u0 (b.mono (cx H)) E.place bd,bY ?_⟩;apply ag _;revert h;refine aX hJ (fun bj h=>?_) fun bj h=>?_
  .cases h;apply aD hJ _;obtain rfl:=sI d;clear d;have h:=C;dsimp only[aL] at h;cases h;apply aJ;simp only[*,go_sem]
  refine aK hJ (ah hJ ?_);apply aG hJ;revert h;refine bS fun fg bl h=>?_;apply ag _;refine bf hJ _ (gf E.fG 1 20 bl) (aP ?_);apply ag _;revert h;refine aX hJ (fun bm h=>?_) fun bm h=>?_
  .cases h;apply aD hJ _;obtain rfl:=sI d;clear d;have h:=C;dsimp only[aL] at h;cases h;apply aJ;simp only[*,go_sem]
  cases h;refine aK hJ (aG hJ ?_);apply ag _;refine ⟨D,Nat.lt_succ_self _,_,Le.sub (List.Sublist.refl _),e,(IntKind.i64.wrap (j+1)),d,rfl,?_⟩;simp only[*,go_sem]
 cases h;apply bT;simp only[go_sem];obtain rfl:=sI d;clear d;have h:=C;dsimp only[aL] at h;refine ah hJ (an hJ ?_);revert h;refine bS fun fi bo h=>?_;apply ag _;refine bf hJ _ (gf (u0.aU.length:Int) 1 3 bo) (aP ?_);apply ag _;revert h;refine aX hJ (fun br h=>?_) fun br h=>?_
 .cases h;apply aD hJ _;apply aJ;simp only[*,go_sem]
 refine aK hJ (ah hJ ?_);apply aD hJ _;apply aW hJ;revert h;refine bS fun bs k l=>?_;refine b7 hJ (rg 40 32 [2,4,5]) (fun m c F'=>∃(f:Int) (n:Int),bB (Ar u0) m (f,n)=some bs/\F'=⟨ro,(B,bk u0 s1 (sl d10 u0.props w) (sl d17 u0.aU x) (sl d24 u0.told z))::[]⟩/\slot c 2= .int .i64 f/\slot c 4= .int .i64 n) fu ?_ ?_
 .refine ⟨e,0,k,rfl,?_⟩;simp only[*,go_sem]
 rintro I fp F' V ⟨f,n,k,rfl,bz,b0⟩;obtain ⟨W,X,Y⟩:=V.pick [1] aO;simp only[*,go_sem] at W X Y;clear V R S T a4 a5;obtain _|I:=I
 .exact absurd k (by simp only[bB,reduceCtorEq,not_false_eq_true])
 revert k;refine bS fun fr h a=>?_;unfold Ar at h;try dsimp only at h
 refine ah hJ (an hJ ?_);apply ag _;revert h;refine aX hJ (fun b1 h=>?_) fun b1 h=>?_
 .refine aK hJ (ah hJ ?_);refine aW hJ (ah hJ ?_);apply aG hJ;revert h;refine bS fun K b2 h=>?_;obtain ⟨fs,ft,Z⟩:=c6 b2;obtain ⟨fv,b3,b4,b5,o⟩:=b.y.el _ _ Z;obtain rfl:b3=K.cells:=b5;cases b4;have ca:=o 0 _ rfl;simp only[go_sem] at ca;have cb:=o 1 _ rfl;simp only[go_sem] at cb;have cd:=o 2 _ rfl;simp only[go_sem] at cd;clear o Z;apply ag _;refine az fun fw fx cf=>?_;try simp only[au] at cf
  apply an hJ;revert h;refine bS fun fz cl h=>?_;apply ag _;refine bf hJ _ (gf K.back 1 20 cl) (aP ?_);revert h;refine cS (fun cy h=>?_) fun cy h=>?_
  .cases h;apply ag _;refine cz hJ ?_;apply aD hJ _;obtain rfl:=sI a;clear a;have h:=l;dsimp only[aL] at h;cases h;apply aJ;simp only[*,go_sem]
  revert h;refine bS fun gg c0 h=>?_;apply ag _;refine bf hJ _ (FJ K.high 0 60 c0) (aP ?_);revert h;refine cS (fun da h=>?_) fun da h=>?_
  .cases h;apply ag _;refine cz hJ ?_;apply aD hJ _;obtain rfl:=sI a;clear a;have h:=l;dsimp only[aL] at h;cases h;apply aJ;simp only[*,go_sem]
  apply ag _;revert h;refine aX hJ (fun db h=>?_) fun db h=>?_
  .cases h;apply aD hJ _;obtain rfl:=sI a;clear a;have h:=l;dsimp only[aL] at h;cases h;apply aJ;simp only[*,go_sem]
  cases h;refine aK hJ (aG hJ ?_);apply ag _;refine ⟨I,Nat.lt_succ_self _,_,Le.sub (List.Sublist.cons _ (List.Sublist.refl _)),f,(IntKind.i64.wrap (n+1)),a,rfl,?_⟩;simp only[*,go_sem]
 cases h;apply bT;simp only[go_sem];obtain rfl:=sI a;clear a;have h:=l;dsimp only[aL] at h;refine ah hJ (an hJ ?_);apply ag _;revert h;refine aX hJ (fun dd h=>?_) fun dd h=>?_
 .cases h;apply aD hJ _;apply aJ;simp only[*,go_sem]
 refine aK hJ (ah hJ ?_);apply aD hJ _;apply aW hJ;revert h;refine bS fun df q ab=>?_;refine b7 hJ (rg 76 16 [2,6]) (fun m c F'=>∃(s:Int) (u:Int),bB (Aq u0) m (s,u)=some df/\F'=⟨ro,(B,bk u0 s1 (sl d10 u0.props w) (sl d17 u0.aU x) (sl d24 u0.told z))::[]⟩/\slot c 2= .int .i64 s/\slot c 6= .int .i64 u) fu ?_ ?_
 .refine ⟨f,0,q,rfl,?_⟩;simp only[*,go_sem]
 rintro L gl F' ad ⟨s,u,q,rfl,gn,gp⟩;obtain ⟨dk,dp,dq⟩:=ad.pick [1] aO;simp only[*,go_sem] at dk dp dq;clear ad W X Y bz b0;obtain _|L:=L
 .exact absurd q (by simp only[bB,reduceCtorEq,not_false_eq_true])
 revert q;refine bS fun gB h g=>?_;unfold Aq at h;try dsimp only at h
 refine ah hJ (an hJ ?_);apply ag _;revert h;refine aX hJ (fun ds h=>?_) fun ds h=>?_
 .refine aK hJ (ah hJ ?_);refine aW hJ (ah hJ ?_);refine cM hJ mixed 9 1 aI ai ?_;revert h;refine bS fun ae dt h=>?_;obtain ⟨gC,gV,al⟩:=c6 dt;obtain ⟨g0,du,dv,dC,M⟩:=b.t.el _ _ al;obtain rfl:du=ae.cells:=dC;cases dv;have dE:=M 0 _ rfl;simp only[go_sem] at dE;have dT:=M 1 _ rfl;simp only[go_sem] at dT;clear M al;revert h;refine bS fun g1 ea h=>?_;apply ag _;refine ⟨_,bD hJ fun F H=>FI u0 (b.mono (cx H)) ae.aS ea,bY ?_⟩;apply ag _;revert h;refine aX hJ (fun eb h=>?_) fun eb h=>?_
  .cases h;apply aD hJ _;obtain rfl:=sI g;clear g;have h:=ab;dsimp only[aL] at h;cases h;apply aJ;simp only[*,go_sem]
  cases h;refine aK hJ (aG hJ ?_);apply ag _;refine ⟨L,Nat.lt_succ_self _,_,Le.sub (List.Sublist.refl _),s,(IntKind.i64.wrap (u+1)),g,rfl,?_⟩;simp only[*,go_sem]
 cases h;apply bT;simp only[go_sem];obtain rfl:=sI g;clear g;have h:=ab;dsimp only[aL] at h;cases h;apply aD hJ _;apply aJ;simp only[*,go_sem]
def mC (u0:aC):Option Int:=
 aj (eB u0.bE 2 60) fun c=>cond (!c) (some 1) (aj (eB u0.cD 0 60) fun d=>cond (!d) (some 1) (aj (eB u0.bx.den 1 20) fun e=>cond (!e) (some 1) (aj (eB u0.bx.num 0 20) fun f=>cond (!f) (some 1) (aj (jI u0.bx.num u0.bx.den) fun a=>cond (!((a.num==u0.bx.num)&&(a.den==u0.bx.den))) (some 3) (aj (mA u0) fun b=>cond ((b != 0)) (some b) (aj (mB u0) fun g=>some g))))))
theorem FP {ro:Addr->Option Value}(u0:aC){s1 a b c:Value}(d:bV ro u0 s1 a b c){r:Int}(h:mC u0=some r):aA Tryz.prog 27 #[bv u0 s1 a b c] ⟨ro,[]⟩ (fun v _=>v= .int .i64 r):=by
 unfold mC at h;refine aA.go Tryz.func27 rfl Tryz.ntmps27 Tryz.results27 av fun main J hJ A e hd hs=>?_;have f:=hs 0;clear hs;apply aD hJ _;refine az fun E G g=>?_;try simp only[au] at g
 refine ah hJ (an hJ ?_);revert h;refine bS fun H i h=>?_;apply ag _;refine bf hJ _ (gf u0.bE 2 60 i) (aP ?_);revert h;refine cS (fun j h=>?_) fun j h=>?_
 .cases h;apply ag _;refine cz hJ ?_;apply aD hJ _;apply aJ;simp only[*,go_sem]
 revert h;refine bS fun I k h=>?_;apply ag _;refine bf hJ _ (gf u0.cD 0 60 k) (aP ?_);revert h;refine cS (fun l h=>?_) fun l h=>?_
 .cases h;apply ag _;refine cz hJ ?_;apply aD hJ _;apply aJ;simp only[*,go_sem]
 revert h;refine bS fun K m h=>?_;apply ag _;refine bf hJ _ (gf u0.bx.den 1 20 m) (aP ?_);revert h;refine cS (fun n h=>?_) fun n h=>?_
 .cases h;apply ag _;refine cz hJ ?_;apply aD hJ _;apply aJ;simp only[*,go_sem]
 revert h;refine bS fun L o h=>?_;apply ag _;refine bf hJ _ (gf u0.bx.num 0 20 o) (aP ?_);apply ag _;revert h;refine aX hJ (fun p h=>?_) fun p h=>?_
 .cases h;apply aD hJ _;apply aJ;simp only[*,go_sem]
 refine aK hJ (ah hJ ?_);apply ah hJ;refine cM hJ mixed 10 1 aI ai ?_;revert h;refine bS fun M q h=>?_;apply ag _;refine ⟨_,bD hJ fun F N=>r5 u0.bx.num u0.bx.den q,bY ?_⟩;apply ag _;revert h;refine aX hJ (fun s h=>?_) fun s h=>?_
 .cases h;apply ah hJ;refine eU [1,2] fun O t u w=>?_;simp only[*,go_sem] at t u w;clear e hd f;apply aM hJ _;apply aJ;simp only[*,go_sem]
 refine aK hJ (ah hJ ?_);apply ah hJ;refine eU [1,2] fun P x y z=>?_;simp only[*,go_sem] at x y z;clear e hd f;apply aG hJ;revert h;refine bS fun Q B h=>?_;apply ag _;refine bf hJ _ (FN u0 (d.mono bg) B) (aP ?_);apply ag _;apply aD hJ _;revert h;refine aX hJ (fun C h=>?_) fun C h=>?_
 .cases h;apply aD hJ _;apply aJ;simp only[*,go_sem]
 refine aK hJ (ah hJ ?_);apply aG hJ;revert h;refine bS fun R D h=>?_;cases h;apply ag _;refine bf hJ _ (FO u0 (d.mono bg) D) (aP ?_);apply ag _;apply aJ;simp only[*,go_sem]
def wM (u0:bM):Option Int:=
 aj (eB u0.back 1 20) fun a=>cond (!a) (some 1) (aj (eB u0.high 0 60) fun b=>cond (!b) (some 1) (some 0))
theorem FQ:Tryz.prog.underlying 3=some (.int .i64):=ai
theorem FR:Tryz.prog.underlying 5=some (.int .u8):=ai
attribute [go_sem] FQ FR
def nG (u0:aC):Option Bool:=
 aj (mw u0) fun a=>cond (!a) (aj (mC u0) fun b=>some (b==0)) (some false)
theorem FT {ro:Addr->Option Value}(u0:aC){s1 b c d:Value}(a:bV ro u0 s1 b c d){r:Bool}(h:nG u0=some r):aA Tryz.prog 5 #[bv u0 s1 b c d] ⟨ro,[]⟩ (fun v _=>v= .bool r):=by
 obtain ⟨d3,c4,rfl,k,l,-⟩:=id a.e;obtain ⟨d10,m,rfl,n,o,-⟩:=id a.p;obtain ⟨d17,q,rfl,s,u,-⟩:=id a.y;obtain ⟨d24,w,rfl,x,z,-⟩:=id a.t;unfold nG at h;refine aA.go Tryz.func5 rfl Tryz.ntmps5 Tryz.results5 av fun main J hJ A B hd hs=>?_;have C:=hs 0;clear hs;apply aD hJ _;refine az fun D E f=>?_;try simp only[au] at f
 apply an hJ;revert h;refine bS fun F g h=>?_;apply ag _;refine bf hJ _ (FK u0 (a.mono bg) g) (aP ?_);revert h;refine cS (fun i h=>?_) fun i h=>?_
 .revert h;refine bS fun G j h=>?_;cases h;apply ag _;refine bf hJ _ (FP u0 (a.mono bg) j) (aP ?_);apply ag _;apply aJ;simp only[*,go_sem]
 cases h;apply ag _;apply aJ;simp only[*,go_sem]
def pH (u0:Int)(a:Int):Option bM:=
 aj (g5 (IntKind.i64.wrap u0) 20) fun b=>aj (g5 (IntKind.i64.wrap a) 61) fun c=>aj (k6 (IntKind.i64.wrap (1+b)) c) fun d=>some d
theorem FU {ro:Addr->Option Value}(u0:Int)(a:Int){r:bM}(h:pH u0 a=some r):aA Tryz.prog 7 #[.int .u8 u0,.int .u8 a] ⟨ro,[]⟩ (fun v _=>v=r.v):=by
 unfold pH at h;refine aA.go Tryz.func7 rfl Tryz.ntmps7 Tryz.results7 av fun main J hJ A g hd hs=>?_;have i:=hs 0;have k1:=hs 1;clear hs;apply aD hJ _;refine az fun j r1 n1=>?_;try simp only[au] at n1
 apply an hJ;revert h;refine bS fun d b h=>?_;obtain ⟨k,l⟩:=lY b;clear b;revert h;refine bS fun e c h=>?_;obtain ⟨m,n⟩:=lY c;clear c;revert h;refine bS fun o f h=>?_;cases h;apply ag _;refine bf hJ _ (nE (IntKind.i64.wrap (1+d)) e f) (aP ?_);apply ag _;apply aJ;simp only[*,go_sem]
def nJ (u0:ay):Option Bool:=
 cond (decide (0<u0.den)) (cond (decide (u0.den<1048576)) (aj (eB u0.num (-1073741824) 1073741824) fun b=>cond (b) (aj (jI u0.num u0.den) fun a=>some ((a.num==u0.num)&&(a.den==u0.den))) (some false)) (some false)) (some false)
theorem FV {ro:Addr->Option Value}(u0:ay){r:Bool}(h:nJ u0=some r):aA Tryz.prog 10 #[.agg #[.int .i64 u0.num,.int .i64 u0.den]] ⟨ro,[]⟩ (fun v _=>v= .bool r):=by
 unfold nJ at h;refine aA.go Tryz.func10 rfl Tryz.ntmps10 Tryz.results10 av fun main J hJ A g hd hs=>?_;have i:=hs 0;clear hs;apply aD hJ _;refine az fun j r1 n1=>?_;try simp only[au] at n1
 apply ah hJ;refine cM hJ mixed 23 1 aI ai ?_;revert h;refine cS (fun a h=>?_) fun a h=>?_
 .revert h;refine cS (fun b h=>?_) fun b h=>?_
  .revert h;refine bS fun k c h=>?_;apply ag _;refine ⟨_,bD hJ fun F d=>gf u0.num (-1073741824) 1073741824 c,bY ?_⟩;revert h;refine cS (fun e h=>?_) fun e h=>?_
   .revert h;refine bS fun l f h=>?_;cases h;apply ag _;refine ⟨_,bD hJ fun F d=>r5 u0.num u0.den f,bY ?_⟩;apply ag _;apply aJ;simp only[*,go_sem]
   cases h;apply ag _;apply aJ;simp only[*,go_sem]
  cases h;apply ag _;apply aJ;simp only[*,go_sem]
 cases h;apply ag _;apply aJ;simp only[*,go_sem]
def jJ (u0:Int)(a:Int)(b:Int):Option Bool:=
 cond (decide (a<=u0)) (some (decide (u0<=b))) (some false)
theorem mD {ro:Addr->Option Value}(u0:Int)(a:Int)(b:Int){r:Bool}(h:jJ u0 a b=some r):aA Tryz.prog 156 #[.int .i64 u0,.int .i64 a,.int .i64 b] ⟨ro,[]⟩ (fun v _=>v= .bool r):=by
 unfold jJ at h;refine aA.go Tryz.func156 rfl Tryz.ntmps156 Tryz.results156 av fun main J hJ A d hd hs=>?_;have e:=hs 0;have k1:=hs 1;have f:=hs 2;clear hs;refine an hJ ?_;apply ag _;refine an hJ ?_;revert h;refine cS (fun c h=>?_) fun c h=>?_
 .obtain rfl:=sI h;try apply ag _
  refine aJ ?_;simp only[*,go_sem]
 obtain rfl:=sI h;try apply ag _
 refine aJ ?_;simp only[*,go_sem]
def nL (u0:Int):Option Int:=
 some (if u0<IntKind.i64.wrap (0 - u0) then IntKind.i64.wrap (0 - u0) else u0)
theorem As {ro:Addr->Option Value}(u0:Int){r:Int}(h:nL u0=some r):aA Tryz.prog 160 #[.int .i64 u0] ⟨ro,[]⟩ (fun v _=>v= .int .i64 r):=by
 unfold nL at h;obtain rfl:=sI h;refine aA.go Tryz.func160 rfl Tryz.ntmps160 Tryz.results160 av fun main J hJ A a hd hs=>?_;have b:=hs 0;clear hs;refine an hJ ?_;apply ag _;refine an hJ ?_;apply ag _;refine aJ ?_;simp only[*,go_sem]
def nM (st:(Int×Int)):Option (Fl (Int×Int) ay):=
 cond ((st.2 != 0)) (aj (g5 st.1 st.2) fun a=>some (.nx (st.2,a))) (some (.bk (st.1,st.2)))
def nN (st:(Int×Int)):Option (Fl (Int×Int) ay):=
 cond ((st.2 != 0)) (aj (g5 st.1 st.2) fun a=>some (.nx (st.2,a))) (some (.bk (st.1,st.2)))
def kq (u0:Int)(a:Int):Option ay:=
 cond (decide (a<0)) (aj (nL (IntKind.i64.wrap (0 - u0))) fun d=>aj (bB (nM) fu (d,(IntKind.i64.wrap (0 - a)))) fun o=>aL o (fun b=>aj (eG (IntKind.i64.wrap (0 - u0)) b.1) fun e=>aj (eG (IntKind.i64.wrap (0 - a)) b.1) fun f=>some (⟨e,f⟩:ay)) (fun _ _=>none) (fun r=>some r)) (aj (nL u0) fun g=>aj (bB (nN) fu (g,a)) fun o=>aL o (fun c=>aj (eG u0 c.1) fun h=>aj (eG a c.1) fun i=>some (⟨h,i⟩:ay)) (fun _ _=>none) (fun r=>some r))
theorem hO {ro:Addr->Option Value}(u0:Int)(b:Int){r:ay}(h:kq u0 b=some r):aA Tryz.prog 126 #[.int .i64 u0,.int .i64 b] ⟨ro,[]⟩ (fun v _=>v=r.v):=by
 unfold kq at h;refine aA.go Tryz.func126 rfl Tryz.ntmps126 Tryz.results126 av fun main J hJ A n hd hs=>?_;have o:=hs 0;have k1:=hs 1;clear hs;refine an hJ ?_;apply ag _;refine az fun p r1 n1=>?_;try simp only[au] at n1
 try apply ag _
 refine ah hJ (an hJ ?_);apply ag _;revert h;refine aX hJ (fun B h=>?_) fun B h=>?_
 .refine aG hJ ?_;apply ag _;refine an hJ ?_;revert h;refine bS fun C D h=>?_;apply ag _;refine bf hJ _ (As (IntKind.i64.wrap (0 - u0)) D) (aP ?_);try apply ag _
  refine ah hJ (aW hJ ?_);revert h;refine bS fun E c F=>?_;refine b7 hJ (rg 16 6 [5,6]) (fun m a F'=>∃(f:Int) (v6:Int),bB (nM) m (f,v6)=some E/\F'=⟨ro,(p,rt 0 0)::[]⟩/\slot a 5= .int .i64 f/\slot a 6= .int .i64 v6) fu ?_ ?_
  .refine ⟨C,(IntKind.i64.wrap (0 - b)),c,rfl,?_⟩;simp only[*,go_sem]
  rintro g V F' q ⟨f,v6,c,rfl,W,X⟩;obtain ⟨G,H,I⟩:=q.pick [0,1,4] aO;simp only[*,go_sem] at G H I;clear q n hd o k1;obtain _|g:=g
  .exact absurd c (by simp only[bB,reduceCtorEq,not_false_eq_true])
  revert c;refine bS fun Y h i=>?_;unfold nM at h;try dsimp only at h
  refine ah hJ (an hJ ?_);apply ag _;revert h;refine aX hJ (fun K h=>?_) fun K h=>?_
  .refine aK hJ (aW hJ ?_);refine cM hJ mixed 6 1 aI ai ?_;revert h;refine bS fun L s h=>?_;obtain rfl:=sI h;obtain ⟨Z,ab⟩:=lY s;clear s;(try apply ag _);(try apply ag _);refine ⟨g,Nat.lt_succ_self _,_,Le.sub (List.Sublist.refl _),v6,L,i,rfl,?_⟩;simp only[*,go_sem]
  obtain rfl:=sI h;refine bT ?_;simp only[go_sem];obtain rfl:=sI i;clear i;have h:=F;dsimp only[aL] at h;refine ah hJ ?_;refine cM hJ mixed 7 0 aI ai ?_;revert h;refine bS fun ad t h=>?_;obtain ⟨ae,al⟩:=gZ t;clear t;revert h;refine bS fun ao u h=>?_;obtain rfl:=sI h;obtain ⟨ar,a0⟩:=gZ u;clear u;try apply ag _
  refine aJ ?_;simp only[*,go_sem]
 refine aK hJ (ah hJ ?_);refine aG hJ ?_;revert h;refine bS fun M N h=>?_;apply ag _;refine bf hJ _ (As u0 N) (aP ?_);try apply ag _
 refine ah hJ (aW hJ ?_);revert h;refine bS fun O d P=>?_;refine b7 hJ (rg 16 6 [5,6]) (fun m a F'=>∃(j:Int) (e:Int),bB (nN) m (j,e)=some O/\F'=⟨ro,(p,rt 0 0)::[]⟩/\slot a 5= .int .i64 j/\slot a 6= .int .i64 e) fu ?_ ?_
 .refine ⟨M,b,d,rfl,?_⟩;simp only[*,go_sem]
 rintro k a2 F' w ⟨j,e,d,rfl,a3,a4⟩;obtain ⟨Q,R,S⟩:=w.pick [0,1,4] aO;simp only[*,go_sem] at Q R S;clear w n hd o k1;obtain _|k:=k
 .exact absurd d (by simp only[bB,reduceCtorEq,not_false_eq_true])
 revert d;refine bS fun a5 h l=>?_;unfold nN at h;try dsimp only at h
 refine ah hJ (an hJ ?_);apply ag _;revert h;refine aX hJ (fun T h=>?_) fun T h=>?_
 .refine aK hJ (aW hJ ?_);refine cM hJ mixed 6 1 aI ai ?_;revert h;refine bS fun U x h=>?_;obtain rfl:=sI h;obtain ⟨a6,a7⟩:=lY x;clear x;try apply ag _
  try apply ag _
  refine ⟨k,Nat.lt_succ_self _,_,Le.sub (List.Sublist.refl _),e,U,l,rfl,?_⟩;simp only[*,go_sem]
 obtain rfl:=sI h;refine bT ?_;simp only[go_sem];obtain rfl:=sI l;clear l;have h:=P;dsimp only[aL] at h;refine ah hJ ?_;refine cM hJ mixed 7 0 aI ai ?_;revert h;refine bS fun a8 y h=>?_;obtain ⟨a9,ba⟩:=gZ y;clear y;revert h;refine bS fun bb z h=>?_;obtain rfl:=sI h;obtain ⟨bc,bd⟩:=gZ z;clear z;try apply ag _
 refine aJ ?_;simp only[*,go_sem]
def r8 (u0:Int):Option ay:=
 some (⟨u0,1⟩:ay)
theorem Au {ro:Addr->Option Value}(u0:Int){r:ay}(h:r8 u0=some r):aA Tryz.prog 193 #[.int .i64 u0] ⟨ro,[]⟩ (fun v _=>v=r.v):=by
 unfold r8 at h;obtain rfl:=sI h;refine aA.go Tryz.func193 rfl Tryz.ntmps193 Tryz.results193 av fun main J hJ A a hd hs=>?_;have b:=hs 0;clear hs;refine an hJ ?_;apply ag _;refine az fun c r1 n1=>?_;try simp only[au] at n1
 try apply ag _
 refine an hJ ?_;apply ag _;refine aJ ?_;simp only[*,go_sem]
def wN (u0:ay)(a:ay):Option Bool:=
 some (decide ((IntKind.i64.wrap (u0.num*a.den))<(IntKind.i64.wrap (a.num*u0.den))))
theorem FW {ro:Addr->Option Value}(u0:ay)(a:ay){r:Bool}(h:wN u0 a=some r):aA Tryz.prog 121 #[.agg #[.int .i64 u0.num,.int .i64 u0.den],.agg #[.int .i64 a.num,.int .i64 a.den]] ⟨ro,[]⟩ (fun v _=>v= .bool r):=by
 unfold wN at h;obtain rfl:=sI h;refine aA.go Tryz.func121 rfl Tryz.ntmps121 Tryz.results121 av fun main J hJ A b hd hs=>?_;have c:=hs 0;have k1:=hs 1;clear hs;refine an hJ ?_;apply ag _;refine az fun d r1 n1=>?_;try simp only[au] at n1
 refine az fun b2 r2 n2=>?_;try simp only[au] at n2
 try apply ag _
 refine an hJ ?_;apply ag _;refine aJ ?_;simp only[*,go_sem]
def wO (u0:dK)(a:Int)(b:Int):Option Bool:=
 cond (decide (a<=u0.low)) (cond (decide (u0.low<=u0.high)) (some (decide (u0.high<=b))) (some false)) (some false)
theorem FX {ro:Addr->Option Value}(u0:dK)(a:Int)(b:Int){r:Bool}(h:wO u0 a b=some r):aA Tryz.prog 249 #[.agg #[.int .i64 u0.low,.int .i64 u0.high],.int .i64 a,.int .i64 b] ⟨ro,[]⟩ (fun v _=>v= .bool r):=by
 unfold wO at h;refine aA.go Tryz.func249 rfl Tryz.ntmps249 Tryz.results249 av fun main J hJ A e hd hs=>?_;have f:=hs 0;have k1:=hs 1;have g:=hs 2;clear hs;refine an hJ ?_;apply ag _;refine az fun i r1 n1=>?_;try simp only[au] at n1
 try apply ag _
 refine an hJ ?_;revert h;refine cS (fun c h=>?_) fun c h=>?_
 .revert h;refine cS (fun d h=>?_) fun d h=>?_
  .obtain rfl:=sI h;(try apply ag _);refine aJ ?_;simp only[*,go_sem]
  obtain rfl:=sI h;try apply ag _
  refine aJ ?_;simp only[*,go_sem]
 obtain rfl:=sI h;try apply ag _
 refine aJ ?_;simp only[*,go_sem]
def pI (u0:Int):Option Int:=
 aj (jJ u0 0 90) fun a=>cond (!a) (some 1) (some 0)
theorem Av {ro:Addr->Option Value}(u0:Int){r:Int}(h:pI u0=some r):aA Tryz.prog 115 #[.int .i64 u0] ⟨ro,[]⟩ (fun v _=>v= .int .i64 r):=by
 unfold pI at h;refine aA.go Tryz.func115 rfl Tryz.ntmps115 Tryz.results115 av fun main J hJ A c hd hs=>?_;have d:=hs 0;clear hs;refine an hJ ?_;apply ag _;refine ah hJ (an hJ ?_);revert h;refine bS fun e a h=>?_;apply ag _;refine bf hJ _ (mD u0 0 90 a) (aP ?_);try apply ag _
 revert h;refine aX hJ (fun b h=>?_) fun b h=>?_
 .obtain rfl:=sI h;refine an hJ ?_;apply ag _;refine aJ ?_;simp only[*,go_sem]
 obtain rfl:=sI h;refine aK hJ (ah hJ ?_);refine aG hJ ?_;apply ag _;refine aJ ?_;simp only[*,go_sem]
def nO (u0:ay):Option Int:=
 aj (jJ u0.den 1 20) fun b=>cond (!b) (some 1) (aj (jJ u0.num (-20) 20) fun c=>cond (!c) (some 1) (aj (kq u0.num u0.den) fun a=>cond (!((a.num==u0.num)&&(a.den==u0.den))) (some 3) (some 0)))
theorem FY {ro:Addr->Option Value}(u0:ay){r:Int}(h:nO u0=some r):aA Tryz.prog 116 #[.agg #[.int .i64 u0.num,.int .i64 u0.den]] ⟨ro,[]⟩ (fun v _=>v= .int .i64 r):=by
 unfold nO at h;refine aA.go Tryz.func116 rfl Tryz.ntmps116 Tryz.results116 av fun main J hJ A g hd hs=>?_;have i:=hs 0;clear hs;refine an hJ ?_;apply ag _;refine az fun j r1 n1=>?_;try simp only[au] at n1
 try apply ag _
 refine ah hJ (aW hJ (ah hJ ?_));refine an hJ ?_;revert h;refine bS fun k a h=>?_;apply ag _;refine bf hJ _ (mD u0.den 1 20 a) (aP ?_);try apply ag _
 revert h;refine aX hJ (fun b h=>?_) fun b h=>?_
 .obtain rfl:=sI h;refine aK hJ ?_;refine cz hJ ?_;refine an hJ ?_;apply ag _;refine aJ ?_;simp only[*,go_sem]
 refine aG hJ ?_;revert h;refine bS fun l c h=>?_;apply ag _;refine bf hJ _ (mD u0.num (-20) 20 c) (aP ?_);try apply ag _
 revert h;refine aX hJ (fun d h=>?_) fun d h=>?_
 .obtain rfl:=sI h;refine an hJ ?_;apply ag _;refine aJ ?_;simp only[*,go_sem]
 refine ah hJ ?_;refine cM hJ mixed 8 1 aI ai ?_;revert h;refine bS fun m e h=>?_;apply ag _;refine ⟨_,bD hJ fun F n=>hO u0.num u0.den e,bY ?_⟩;try apply ag _
 revert h;refine aX hJ (fun f h=>?_) fun f h=>?_
 .obtain rfl:=sI h;refine an hJ ?_;apply ag _;refine aJ ?_;simp only[*,go_sem]
 obtain rfl:=sI h;refine aK hJ (ah hJ ?_);refine aG hJ ?_;apply ag _;refine aJ ?_;simp only[*,go_sem]
def k7 (u0:b8):Option ck:=
 aj (r8 u0.aQ) fun a=>aj (r8 u0.high) fun b=>some (⟨a,b⟩:ck)
theorem Aw {ro:Addr->Option Value}(u0:b8){r:ck}(h:k7 u0=some r):aA Tryz.prog 158 #[.agg #[.int .i64 u0.aQ,.int .i64 u0.high]] ⟨ro,[]⟩ (fun v _=>v=r.v):=by
 unfold k7 at h;refine aA.go Tryz.func158 rfl Tryz.ntmps158 Tryz.results158 av fun main J hJ A e hd hs=>?_;have f:=hs 0;clear hs;refine an hJ ?_;apply ag _;refine az fun a r1 n1=>?_;try simp only[au] at n1
 refine az fun b2 r2 n2=>?_;try simp only[au] at n2
 try apply ag _
 refine ah hJ ?_;refine eg hJ mixed 7 ⟨ro,[(a,.cells #[.int .i64 u0.aQ,.int .i64 u0.high] 44)]⟩ aI ai ?_;revert h;refine bS fun g b h=>?_;apply ag _;refine ⟨_,bD hJ fun F c=>Au u0.aQ b,bY ?_⟩;revert h;refine bS fun i d h=>?_;obtain rfl:=sI h;try apply ag _
 refine ⟨_,bD hJ fun F c=>Au u0.high d,bY ?_⟩;try apply ag _
 refine aJ ?_;simp only[*,go_sem]
def r9 (u0:ck)(a:ck):Option Bool:=
 aj (wN u0.aQ a.aQ) fun b=>some b
theorem FZ {ro:Addr->Option Value}(u0:ck)(a:ck){r:Bool}(h:r9 u0 a=some r):aA Tryz.prog 120 #[.agg #[.int .i64 u0.aQ.num,.int .i64 u0.aQ.den,.int .i64 u0.high.num,.int .i64 u0.high.den],.agg #[.int .i64 a.aQ.num,.int .i64 a.aQ.den,.int .i64 a.high.num,.int .i64 a.high.den]] ⟨ro,[]⟩ (fun v _=>v= .bool r):=by
 unfold r9 at h;refine aA.go Tryz.func120 rfl Tryz.ntmps120 Tryz.results120 av fun main J hJ A c hd hs=>?_;have d:=hs 0;have k1:=hs 1;clear hs;refine an hJ ?_;apply ag _;refine az fun e r1 n1=>?_;try simp only[au] at n1
 refine az fun b2 r2 n2=>?_;try simp only[au] at n2
 try apply ag _
 refine an hJ ?_;revert h;refine bS fun f b h=>?_;obtain rfl:=sI h;apply ag _;refine bf hJ _ (FW u0.aQ a.aQ b) (aP ?_);try apply ag _
 refine aJ ?_;simp only[*,go_sem]
def k8 (u0:dR):Option Int:=
 aj (pI u0.aS) fun a=>some a
theorem F1 {ro:Addr->Option Value}(u0:dR){s1:Value}(a:aB iz ro s1 u0.qT){r:Int}(h:k8 u0=some r):aA Tryz.prog 56 #[.agg #[.int .i64 u0.aS,.int .i64 u0.row,.int .i64 u0.cZ.num,.int .i64 u0.cZ.den,s1,.int .i64 u0.from_.step,.int .i64 u0.from_.cZ.num,.int .i64 u0.from_.cZ.den,.int .i64 u0.iA.step,.int .i64 u0.iA.cZ.num,.int .i64 u0.iA.cZ.den]] ⟨ro,[]⟩ (fun v _=>v= .int .i64 r):=by
 obtain ⟨d3,c4,rfl,d,e,-⟩:=id a;unfold k8 at h;refine aA.go Tryz.func56 rfl Tryz.ntmps56 Tryz.results56 av fun main J hJ A f hd hs=>?_;have g:=hs 0;clear hs;refine an hJ ?_;apply ag _;refine az fun i j b=>?_;try simp only[au] at b
 try apply ag _
 refine an hJ ?_;revert h;refine bS fun k c h=>?_;obtain rfl:=sI h;apply ag _;refine bf hJ _ (Av u0.aS c) (aP ?_);try apply ag _
 refine aJ ?_;simp only[*,go_sem]
def jd (u0:dR):Option Int:=
 aj (nO u0.cZ) fun a=>some a
theorem Ax {ro:Addr->Option Value}(u0:dR){s1:Value}(a:aB iz ro s1 u0.qT){r:Int}(h:jd u0=some r):aA Tryz.prog 57 #[.agg #[.int .i64 u0.aS,.int .i64 u0.row,.int .i64 u0.cZ.num,.int .i64 u0.cZ.den,s1,.int .i64 u0.from_.step,.int .i64 u0.from_.cZ.num,.int .i64 u0.from_.cZ.den,.int .i64 u0.iA.step,.int .i64 u0.iA.cZ.num,.int .i64 u0.iA.cZ.den]] ⟨ro,[]⟩ (fun v _=>v= .int .i64 r):=by
 obtain ⟨d3,c4,rfl,d,e,-⟩:=id a;unfold jd at h;refine aA.go Tryz.func57 rfl Tryz.ntmps57 Tryz.results57 av fun main J hJ A f hd hs=>?_;have g:=hs 0;clear hs;refine an hJ ?_;apply ag _;refine az fun i j b=>?_;try simp only[au] at b
 try apply ag _
 refine an hJ ?_;revert h;refine bS fun k c h=>?_;obtain rfl:=sI h;apply ag _;refine bf hJ _ (FY u0.cZ c) (aP ?_);try apply ag _
 refine aJ ?_;simp only[*,go_sem]
def pJ (u0:dR):Option Int:=
 aj (pI u0.row) fun a=>some a
theorem F2 {ro:Addr->Option Value}(u0:dR){s1:Value}(a:aB iz ro s1 u0.qT){r:Int}(h:pJ u0=some r):aA Tryz.prog 251 #[.agg #[.int .i64 u0.aS,.int .i64 u0.row,.int .i64 u0.cZ.num,.int .i64 u0.cZ.den,s1,.int .i64 u0.from_.step,.int .i64 u0.from_.cZ.num,.int .i64 u0.from_.cZ.den,.int .i64 u0.iA.step,.int .i64 u0.iA.cZ.num,.int .i64 u0.iA.cZ.den]] ⟨ro,[]⟩ (fun v _=>v= .int .i64 r):=by
 obtain ⟨d3,c4,rfl,d,e,-⟩:=id a;unfold pJ at h;refine aA.go Tryz.func251 rfl Tryz.ntmps251 Tryz.results251 av fun main J hJ A f hd hs=>?_;have g:=hs 0;clear hs;refine an hJ ?_;apply ag _;refine az fun i j b=>?_;try simp only[au] at b
 try apply ag _
 refine an hJ ?_;revert h;refine bS fun k c h=>?_;obtain rfl:=sI h;apply ag _;refine bf hJ _ (Av u0.row c) (aP ?_);try apply ag _
 refine aJ ?_;simp only[*,go_sem]
def wP (u0:(ck->ck->Option Bool))(i11:Nat)(a:ck)(st:ck):Option (Fl ck ck):=
 aj (u0 a st) fun b=>cond (b) (some (.nx a)) (some (.nx st))
def wQ (u0:(ck->ck->Option Bool))(a:ck)(b:(List ck)):Option ck:=
 aj (bQ (wP u0) 0 b a) fun o=>aL o (fun c=>some c) (fun _ _=>none) (fun r=>some r)
theorem F3 {ro:Addr->Option Value}(u0:(ck->ck->Option Bool)){dM:FuncId}{ej ek:Array Value}(s:aN Tryz.prog dM=true/\∀(aT:Addr->Option Value),Ext ro aT->∀(i:ck) (j:ck) (z:Bool),u0 i j=some z->aA Tryz.prog dM (ej++#[i.v,j.v]++ek) ⟨aT,[]⟩ (fun v _=>v= .bool z))(d:ck)(b:(List ck)){s1:Value}(k:aB l8 ro s1 b){r:ck}(h:wQ u0 d b=some r):aA Tryz.prog 119 #[.func (.func dM) ej ek,.agg #[.int .i64 d.aQ.num,.int .i64 d.aQ.den,.int .i64 d.high.num,.int .i64 d.high.den],s1] ⟨ro,[]⟩ (fun v _=>v=r.v):=by
 obtain ⟨d3,c4,rfl,X,l,-⟩:=id k;unfold wQ at h;refine aA.go Tryz.func119 rfl Tryz.ntmps119 Tryz.results119 av fun main J hJ A t hd hs=>?_;have u:=hs 0;have k1:=hs 1;have w:=hs 2;clear hs;refine an hJ ?_;apply ag _;refine az fun y Y B=>?_;try simp only[au] at B
 refine az fun C Z D=>?_;try simp only[au] at D
 try apply ag _
 refine ah hJ (an hJ ?_);apply ag _;refine aW hJ ?_;revert h;refine bS fun E c F=>?_;refine b7 hJ (rg 11 10 [8]) (fun m G F'=>∃(i11:Nat) (v10:ck),m=b.length - i11/\i11<=b.length/\bQ (wP u0) i11 (b.drop i11) v10=some E/\F'=⟨ro,(C,.cells #[.int .i64 0,.int .i64 0,.int .i64 0,.int .i64 0] 129)::(y,.cells #[.int .i64 v10.aQ.num,.int .i64 v10.aQ.den,.int .i64 v10.high.num,.int .i64 v10.high.den] 129)::[]⟩/\slot G 11= .int .i64 (i11:Int)) b.length ?_ ?_
 .refine ⟨0,d,(Nat.sub_zero _).symm,Nat.zero_le _,c,rfl,?_⟩;simp only[*,go_sem]
 rintro ab ad F' o ⟨i11,v10,rfl,ae,c,rfl,al⟩;obtain ⟨H,I,K⟩:=o.pick [0,4,6,9,10] aO;simp only[*,go_sem] at H I K;clear o t hd u k1 w;refine an hJ ?_;apply ag _;refine ah hJ ?_;rcases Nat.lt_or_ge i11 b.length with L|p
 .refine cz hJ ?_;refine aK hJ ?_;obtain ⟨f,g⟩:∃x,b[i11]?=some x:=⟨_,List.getElem?_eq_getElem L⟩
  rw[dr g] at c;revert c;refine bS fun ao h q=>?_;unfold wP at h;try dsimp only at h
  obtain ⟨ar,M,N,O,e⟩:=k.el _ _ g;obtain rfl:M=f.cells:=O;cases N;have P:=e 0 _ rfl;simp only[go_sem] at P;have Q:=e 1 _ rfl;simp only[go_sem] at Q;have R:=e 2 _ rfl;simp only[go_sem] at R;have S:=e 3 _ rfl;simp only[go_sem] at S;clear e g;refine ah hJ (aW hJ (ah hJ ?_));refine aG hJ ?_;apply ag _;refine az fun a0 a2 T=>?_;try simp only[au] at T
  try apply ag _
  refine an hJ ?_;revert h;refine bS fun a3 U h=>?_;apply ag _;refine bf hJ _ (s.2 _ (fun a v h=>bg a v h) f v10 _ U) ?_;try apply ag _
  revert h;refine aX hJ (fun V h=>?_) fun V h=>?_
  .obtain rfl:=sI h;refine aG hJ ?_;apply ag _;have W:=cw (n:=i11) (by have:=l;omega);refine aG hJ ?_;apply ag _;refine ⟨b.length - (i11+1),aa,_,Le.sub (List.Sublist.cons _ (List.Sublist.refl _)),i11+1,f,rfl,aa,q,rfl,?_⟩;simp only[*,go_sem]
  obtain rfl:=sI h;refine aK hJ ?_;have W:=cw (n:=i11) (by have:=l;omega);refine aG hJ ?_;apply ag _;refine ⟨b.length - (i11+1),aa,_,Le.sub (List.Sublist.cons _ (List.Sublist.refl _)),i11+1,v10,rfl,aa,q,rfl,?_⟩;simp only[*,go_sem]
 have a4:=Nat.not_lt.2 p;refine cB hJ ?_;rw[List.drop_eq_nil_of_le p] at c;obtain rfl:=sI c;clear c;have h:=F;dsimp only[aL] at h;obtain rfl:=sI h;refine bT ?_;simp only[go_sem];refine an hJ ?_;apply ag _;refine aJ ?_;simp only[*,go_sem]
def sd (i9:Nat)(b:(Option Int))(st:Int):Option (Fl Int Int):=
 aj (b) fun a=>cond ((a != 0)) (some (.rt a)) (some (.nx st))
def pK (u0:(List (Option Int))):Option Int:=
 aj (bQ (sd) 0 u0 0) fun o=>aL o (fun a=>some 0) (fun _ _=>none) (fun r=>some r)
theorem Ay {ro:Addr->Option Value}(u0:(List (Option Int))){s1:Value}(f:aB (fH) ro s1 u0){r:Int}(h:pK u0=some r):aA Tryz.prog 114 #[s1] ⟨ro,[]⟩ (fun v _=>v= .int .i64 r):=by
 obtain ⟨d3,c4,rfl,G,o,-⟩:=id f;unfold pK at h;refine aA.go Tryz.func114 rfl Tryz.ntmps114 Tryz.results114 av fun main J hJ A p hd hs=>?_;have q:=hs 0;clear hs;refine an hJ ?_;apply ag _;refine ah hJ (an hJ ?_);apply ag _;refine aW hJ ?_;revert h;refine bS fun s b g=>?_;refine b7 hJ (rg 8 10 [2,4,5]) (fun m i F'=>∃(i9:Nat) (c:Int),m=u0.length - i9/\i9<=u0.length/\bQ (sd) i9 (u0.drop i9) c=some s/\F'=⟨ro,[]⟩/\slot i 8= .int .i64 (i9:Int)/\slot i 2= .int .i64 c) u0.length ?_ ?_
 .refine ⟨0,0,(Nat.sub_zero _).symm,Nat.zero_le _,b,rfl,?_⟩;simp only[*,go_sem]
 rintro H I F' j ⟨i9,c,rfl,K,b,rfl,L,M⟩;obtain ⟨t,u,w⟩:=j.pick [6,7] aO;simp only[*,go_sem] at t u w;clear j p hd q;refine an hJ ?_;apply ag _;refine ah hJ ?_;rcases Nat.lt_or_ge i9 u0.length with y|k
 .refine cz hJ ?_;refine aK hJ ?_;obtain ⟨N,d⟩:∃x,u0[i9]?=some x:=⟨_,List.getElem?_eq_getElem y⟩
  rw[dr d] at b;revert b;refine bS fun O h e=>?_;unfold sd at h;try dsimp only at h
  obtain ⟨P,Q,z,B,l⟩:=f.el _ _ d;obtain ⟨R,S,T,rfl,C⟩:=B;cases z;have D:=l 0 _ rfl;simp only[go_sem] at D;clear l d;refine ah hJ (aW hJ (ah hJ ?_));refine aG hJ ?_;apply ag _;refine an hJ ?_;revert h;refine bS fun U E h=>?_;apply ag _;refine bf hJ _ (C.2 _ (fun a v h=>bg a v h) _ E) (aP ?_);try apply ag _
  refine an hJ ?_;apply ag _;revert h;refine aX hJ (fun F h=>?_) fun F h=>?_
  .obtain rfl:=sI h;refine an hJ ?_;apply ag _;obtain rfl:=sI e;clear e;have h:=g;dsimp only[aL] at h;obtain rfl:=sI h;refine aJ ?_;simp only[*,go_sem]
  obtain rfl:=sI h;refine aK hJ ?_;have V:=cw (n:=i9) (by have:=o;omega);refine aG hJ ?_;apply ag _;refine ⟨u0.length - (i9+1),aa,_,Le.sub (List.Sublist.refl _),i9+1,c,rfl,aa,e,rfl,?_⟩;simp only[*,go_sem]
 have W:=Nat.not_lt.2 k;refine cB hJ ?_;rw[List.drop_eq_nil_of_le k] at b;obtain rfl:=sI b;clear b;have h:=g;dsimp only[aL] at h;obtain rfl:=sI h;refine bT ?_;simp only[go_sem];refine an hJ ?_;apply ag _;refine aJ ?_;simp only[*,go_sem]
def se (u0:dB)(i20:Nat)(a:b8)(st:Int):Option (Fl Int Int):=
 aj (jJ a.aQ 1 60) fun b=>cond (!b) (some (.rt 1)) (aj (jJ a.high 0 90) fun c=>cond (!c) (some (.rt 1)) (cond (decide (0<(i20:Int))) (aj (bH u0.dL (IntKind.i64.wrap ((i20:Int) - 1))) fun d=>cond (decide (a.high<=d.high)) (some (.rt 7)) (some (.nx st))) (some (.nx st))))
def nP (u0:dB):Option Int:=
 aj (jJ (u0.dL.length:Int) 2 5) fun a=>cond (!a) (some 2) (aj (bQ (se u0) 0 u0.dL 0) fun o=>aL o (fun b=>some 0) (fun _ _=>none) (fun r=>some r))
theorem F4 {ro:Addr->Option Value}(u0:dB){s1:Value}(e:aB dV ro s1 u0.dL){f:Value}(ae:aB ja ro f u0.marks){r:Int}(h:nP u0=some r):aA Tryz.prog 247 #[.agg #[s1,.int .i64 u0.size,.int .i64 u0.aU.low,.int .i64 u0.aU.high,f]] ⟨ro,[]⟩ (fun v _=>v= .int .i64 r):=by
 obtain ⟨d3,c4,rfl,al,l,-⟩:=id e;unfold nP at h;refine aA.go Tryz.func247 rfl Tryz.ntmps247 Tryz.results247 av fun main J hJ A t hd hs=>?_;have u:=hs 0;clear hs;refine an hJ ?_;apply ag _;refine az fun w ao y=>?_;try simp only[au] at y
 try apply ag _
 refine ah hJ (an hJ ?_);revert h;refine bS fun ar z h=>?_;apply ag _;refine bf hJ _ (mD (u0.dL.length:Int) 2 5 z) (aP ?_);try apply ag _
 revert h;refine aX hJ (fun B h=>?_) fun B h=>?_
 .obtain rfl:=sI h;refine an hJ ?_;apply ag _;refine aJ ?_;simp only[*,go_sem]
 refine aK hJ (ah hJ ?_);refine an hJ ?_;apply ag _;refine aW hJ ?_;revert h;refine bS fun C b d=>?_;refine b7 hJ (rg 15 31 [2,3,4]) (fun m o F'=>∃(i20:Nat) (c:Int),m=u0.dL.length - i20/\i20<=u0.dL.length/\bQ (se u0) i20 (u0.dL.drop i20) c=some C/\F'=⟨ro,(w,.cells #[.slice d3 u0.dL.length c4,.int .i64 u0.size,.int .i64 u0.aU.low,.int .i64 u0.aU.high,f] 124)::[]⟩/\slot o 15= .int .i64 (i20:Int)/\slot o 2= .int .i64 c) u0.dL.length ?_ ?_
 .refine ⟨0,0,(Nat.sub_zero _).symm,Nat.zero_le _,b,rfl,?_⟩;simp only[*,go_sem]
 rintro a0 a2 F' p ⟨i20,c,rfl,a3,b,rfl,a4,a5⟩;obtain ⟨D,E,F⟩:=p.pick [1,13,14] aO;simp only[*,go_sem] at D E F;clear p t hd u;refine an hJ ?_;apply ag _;refine ah hJ ?_;rcases Nat.lt_or_ge i20 u0.dL.length with G|q
 .refine cz hJ ?_;refine aK hJ ?_;obtain ⟨g,i⟩:∃x,u0.dL[i20]?=some x:=⟨_,List.getElem?_eq_getElem G⟩
  rw[dr i] at b;revert b;refine bS fun a6 h a=>?_;unfold se at h;try dsimp only at h
  obtain ⟨a7,H,I,K,j⟩:=e.el _ _ i;obtain rfl:H=g.cells:=K;cases I;have L:=j 0 _ rfl;simp only[go_sem] at L;have M:=j 1 _ rfl;simp only[go_sem] at M;clear j i;refine ah hJ (aW hJ (ah hJ ?_));refine aG hJ ?_;apply ag _;refine az fun a8 a9 N=>?_;try simp only[au] at N
  try apply ag _
  refine aW hJ (ah hJ ?_);refine an hJ ?_;revert h;refine bS fun ba O h=>?_;apply ag _;refine bf hJ _ (mD g.aQ 1 60 O) (aP ?_);try apply ag _
  revert h;refine aX hJ (fun P h=>?_) fun P h=>?_
  .obtain rfl:=sI h;refine aK hJ ?_;refine cz hJ ?_;refine an hJ ?_;apply ag _;obtain rfl:=sI a;clear a;have h:=d;dsimp only[aL] at h;obtain rfl:=sI h;refine aJ ?_;simp only[*,go_sem]
  refine aG hJ ?_;revert h;refine bS fun bb Q h=>?_;apply ag _;refine bf hJ _ (mD g.high 0 90 Q) (aP ?_);try apply ag _
  revert h;refine aX hJ (fun R h=>?_) fun R h=>?_
  .obtain rfl:=sI h;refine an hJ ?_;apply ag _;obtain rfl:=sI a;clear a;have h:=d;dsimp only[aL] at h;obtain rfl:=sI h;refine aJ ?_;simp only[*,go_sem]
  refine ah hJ ?_;refine cM hJ mixed 16 2 aI ai ?_;revert h;refine cS (fun S h=>?_) fun S h=>?_
  .revert h;refine bS fun T U h=>?_;obtain ⟨bc,bd,s⟩:=c6 U;obtain ⟨bj,V,W,X,k⟩:=e.el _ _ s;obtain rfl:V=T.cells:=X;cases W;have Y:=k 0 _ rfl;simp only[go_sem] at Y;have Z:=k 1 _ rfl;simp only[go_sem] at Z;clear k s;(try apply ag _);revert h;refine aX hJ (fun ab h=>?_) fun ab h=>?_
   .obtain rfl:=sI h;refine an hJ ?_;apply ag _;obtain rfl:=sI a;clear a;have h:=d;dsimp only[aL] at h;obtain rfl:=sI h;refine aJ ?_;simp only[*,go_sem]
   obtain rfl:=sI h;refine aK hJ ?_;have ad:=cw (n:=i20) (by have:=l;omega);refine aG hJ ?_;apply ag _;refine ⟨u0.dL.length - (i20+1),aa,_,Le.sub (List.Sublist.cons _ (List.Sublist.refl _)),i20+1,c,rfl,aa,a,rfl,?_⟩;simp only[*,go_sem]
  obtain rfl:=sI h;try apply ag _
  refine cB hJ ?_;refine aK hJ ?_;have ad:=cw (n:=i20) (by have:=l;omega);refine aG hJ ?_;apply ag _;refine ⟨u0.dL.length - (i20+1),aa,_,Le.sub (List.Sublist.cons _ (List.Sublist.refl _)),i20+1,c,rfl,aa,a,rfl,?_⟩;simp only[*,go_sem]
 have bk:=Nat.not_lt.2 q;refine cB hJ ?_;rw[List.drop_eq_nil_of_le q] at b;obtain rfl:=sI b;clear b;have h:=d;dsimp only[aL] at h;obtain rfl:=sI h;refine bT ?_;simp only[go_sem];refine an hJ ?_;apply ag _;refine aJ ?_;simp only[*,go_sem]
def pL (u0:dB):Option Int:=
 aj (jJ u0.size 1 30) fun a=>cond (!a) (some 1) (aj (wO u0.aU 0 90) fun b=>cond (!b) (some 1) (cond (decide (3<=(IntKind.i64.wrap (u0.aU.high - u0.aU.low)))) (some 1) (some 0)))
theorem F5 {ro:Addr->Option Value}(u0:dB){s1:Value}(b:aB dV ro s1 u0.dL){a:Value}(c:aB ja ro a u0.marks){r:Int}(h:pL u0=some r):aA Tryz.prog 248 #[.agg #[s1,.int .i64 u0.size,.int .i64 u0.aU.low,.int .i64 u0.aU.high,a]] ⟨ro,[]⟩ (fun v _=>v= .int .i64 r):=by
 obtain ⟨d3,c4,rfl,k,l,-⟩:=id b;obtain ⟨d10,m,rfl,n,o,-⟩:=id c;unfold pL at h;refine aA.go Tryz.func248 rfl Tryz.ntmps248 Tryz.results248 av fun main J hJ A p hd hs=>?_;have q:=hs 0;clear hs;refine an hJ ?_;apply ag _;refine az fun s t d=>?_;try simp only[au] at d
 try apply ag _
 refine ah hJ (an hJ ?_);revert h;refine bS fun u e h=>?_;apply ag _;refine bf hJ _ (mD u0.size 1 30 e) (aP ?_);revert h;refine cS (fun f h=>?_) fun f h=>?_
 .obtain rfl:=sI h;try apply ag _
  refine cz hJ ?_;refine an hJ ?_;apply ag _;refine aJ ?_;simp only[*,go_sem]
 revert h;refine bS fun w g h=>?_;try apply ag _
 refine bf hJ _ (FX u0.aU 0 90 g) (aP ?_);revert h;refine cS (fun i h=>?_) fun i h=>?_
 .obtain rfl:=sI h;try apply ag _
  refine cz hJ ?_;refine an hJ ?_;apply ag _;refine aJ ?_;simp only[*,go_sem]
 try apply ag _
 revert h;refine aX hJ (fun j h=>?_) fun j h=>?_
 .obtain rfl:=sI h;refine an hJ ?_;apply ag _;refine aJ ?_;simp only[*,go_sem]
 obtain rfl:=sI h;refine aK hJ (ah hJ ?_);refine aG hJ ?_;apply ag _;refine aJ ?_;simp only[*,go_sem]
def wR (i18:Nat)(a:iZ)(st:Int):Option (Fl Int Int):=
 aj (pK ([(jd (⟨0,0,a.cZ,([]:(List ay)),(⟨0,(⟨0,0⟩:ay)⟩:cT),(⟨0,(⟨0,0⟩:ay)⟩:cT)⟩:dR)),(pJ (⟨0,a.row,(⟨0,0⟩:ay),([]:(List ay)),(⟨0,(⟨0,0⟩:ay)⟩:cT),(⟨0,(⟨0,0⟩:ay)⟩:cT)⟩:dR))])) fun b=>cond ((b != 0)) (some (.rt b)) (some (.nx st))
def pM (u0:dB):Option Int:=
 cond (decide (4<(u0.marks.length:Int))) (some 2) (aj (bQ (wR) 0 u0.marks 0) fun o=>aL o (fun a=>some 0) (fun _ _=>none) (fun r=>some r))
theorem F6 {ro:Addr->Option Value}(u0:dB){s1:Value}(Y:aB dV ro s1 u0.dL){i:Value}(j:aB ja ro i u0.marks){r:Int}(h:pM u0=some r):aA Tryz.prog 250 #[.agg #[s1,.int .i64 u0.size,.int .i64 u0.aU.low,.int .i64 u0.aU.high,i]] ⟨ro,[]⟩ (fun v _=>v= .int .i64 r):=by
 obtain ⟨d10,s,rfl,Z,t,-⟩:=id j;unfold pM at h;refine aA.go Tryz.func250 rfl Tryz.ntmps250 Tryz.results250 av fun main J hJ A w hd hs=>?_;have z:=hs 0;clear hs;refine an hJ ?_;apply ag _;refine az fun B ab C=>?_;try simp only[au] at C
 try apply ag _
 refine ah hJ (an hJ ?_);apply ag _;revert h;refine aX hJ (fun D h=>?_) fun D h=>?_
 .obtain rfl:=sI h;refine an hJ ?_;apply ag _;refine aJ ?_;simp only[*,go_sem]
 refine aK hJ (ah hJ ?_);refine an hJ ?_;apply ag _;refine aW hJ ?_;revert h;refine bS fun E b k=>?_;refine b7 hJ (rg 15 18 [2,4,5]) (fun m l F'=>∃(i18:Nat) (c:Int),m=u0.marks.length - i18/\i18<=u0.marks.length/\bQ (wR) i18 (u0.marks.drop i18) c=some E/\F'=⟨ro,(B,.cells #[s1,.int .i64 u0.size,.int .i64 u0.aU.low,.int .i64 u0.aU.high,.slice d10 u0.marks.length s] 124)::[]⟩/\slot l 15= .int .i64 (i18:Int)/\slot l 2= .int .i64 c) u0.marks.length ?_ ?_
 .refine ⟨0,0,(Nat.sub_zero _).symm,Nat.zero_le _,b,rfl,?_⟩;simp only[*,go_sem]
 rintro ad ae F' o ⟨i18,c,rfl,al,b,rfl,ao,ar⟩;obtain ⟨F,G,H⟩:=o.pick [13,14] aO;simp only[*,go_sem] at F G H;clear o w hd z;refine an hJ ?_;apply ag _;refine ah hJ ?_;rcases Nat.lt_or_ge i18 u0.marks.length with I|p
 .refine cz hJ ?_;refine aK hJ ?_;obtain ⟨a,f⟩:∃x,u0.marks[i18]?=some x:=⟨_,List.getElem?_eq_getElem I⟩
  rw[dr f] at b;revert b;refine bS fun a0 h g=>?_;unfold wR at h;try dsimp only at h
  obtain ⟨a2,K,L,M,d⟩:=j.el _ _ f;obtain rfl:K=a.cells:=M;cases L;have N:=d 0 _ rfl;simp only[go_sem] at N;have O:=d 1 _ rfl;simp only[go_sem] at O;have P:=d 2 _ rfl;simp only[go_sem] at P;clear d f;refine ah hJ (aW hJ (ah hJ ?_));refine aG hJ ?_;apply ag _;refine az fun a3 a4 Q=>?_;try simp only[au] at Q
  try apply ag _
  refine ah hJ ?_;refine aE hJ fun R=>?_;refine aG hJ ?_;revert h;refine bS fun a5 S h=>?_;apply ag _;refine az fun T U q=>?_;have a6:=aY.cons q R;try simp only[au] at q
  try apply ag _
  refine bf hJ _ (Ay ([(jd (⟨0,0,a.cZ,([]:(List ay)),(⟨0,(⟨0,0⟩:ay)⟩:cT),(⟨0,(⟨0,0⟩:ay)⟩:cT)⟩:dR)),(pJ (⟨0,a.row,(⟨0,0⟩:ay),([]:(List ay)),(⟨0,(⟨0,0⟩:ay)⟩:cT),(⟨0,(⟨0,0⟩:ay)⟩:cT)⟩:dR))]) ((aB.two (r:=(fH)) (e:=127) (v:=.func (.func 57) #[.agg #[.int .i64 0,.int .i64 0,.int .i64 a.cZ.num,.int .i64 a.cZ.den,.slice none 0 0,.int .i64 0,.int .i64 0,.int .i64 0,.int .i64 0,.int .i64 0,.int .i64 0]] #[]) (u:=.func (.func 251) #[.agg #[.int .i64 0,.int .i64 a.row,.int .i64 0,.int .i64 0,.slice none 0 0,.int .i64 0,.int .i64 0,.int .i64 0,.int .i64 0,.int .i64 0,.int .i64 0]] #[]) (x:=(jd (⟨0,0,a.cZ,([]:(List ay)),(⟨0,(⟨0,0⟩:ay)⟩:cT),(⟨0,(⟨0,0⟩:ay)⟩:cT)⟩:dR))) (y:=(pJ (⟨0,a.row,(⟨0,0⟩:ay),([]:(List ay)),(⟨0,(⟨0,0⟩:ay)⟩:cT),(⟨0,(⟨0,0⟩:ay)⟩:cT)⟩:dR))) (own:=[(T,.cells #[.func (.func 57) #[.agg #[.int .i64 0,.int .i64 0,.int .i64 a.cZ.num,.int .i64 a.cZ.den,.slice none 0 0,.int .i64 0,.int .i64 0,.int .i64 0,.int .i64 0,.int .i64 0,.int .i64 0]] #[],.func (.func 251) #[.agg #[.int .i64 0,.int .i64 a.row,.int .i64 0,.int .i64 0,.slice none 0 0,.int .i64 0,.int .i64 0,.int .i64 0,.int .i64 0,.int .i64 0,.int .i64 0]] #[]] 127)]) U (by simp[lk]) rfl ⟨57,#[.agg #[.int .i64 0,.int .i64 0,.int .i64 a.cZ.num,.int .i64 a.cZ.den,.slice none 0 0,.int .i64 0,.int .i64 0,.int .i64 0,.int .i64 0,.int .i64 0,.int .i64 0]],#[],rfl,⟨by simp only[go_sem],fun V W _ h=>by simp only[go_sem];exact Ax (⟨0,0,a.cZ,([]:(List ay)),(⟨0,(⟨0,0⟩:ay)⟩:cT),(⟨0,(⟨0,0⟩:ay)⟩:cT)⟩:dR) (aB.nil _ _) h⟩⟩ ⟨251,#[.agg #[.int .i64 0,.int .i64 a.row,.int .i64 0,.int .i64 0,.slice none 0 0,.int .i64 0,.int .i64 0,.int .i64 0,.int .i64 0,.int .i64 0,.int .i64 0]],#[],rfl,⟨by simp only[go_sem],fun V W _ h=>by simp only[go_sem];exact F2 (⟨0,a.row,(⟨0,0⟩:ay),([]:(List ay)),(⟨0,(⟨0,0⟩:ay)⟩:cT),(⟨0,(⟨0,0⟩:ay)⟩:cT)⟩:dR) (aB.nil _ _) h⟩⟩).mono (jw aI)) S) (aP ?_);try apply ag _
  refine an hJ ?_;apply ag _;revert h;refine aX hJ (fun X h=>?_) fun X h=>?_
  .obtain rfl:=sI h;refine an hJ ?_;apply ag _;obtain rfl:=sI g;clear g;have h:=k;dsimp only[aL] at h;obtain rfl:=sI h;refine aJ ?_;simp only[*,go_sem]
  obtain rfl:=sI h;refine aK hJ ?_;have a7:=cw (n:=i18) (by have:=t;omega);refine aG hJ ?_;apply ag _;refine ⟨u0.marks.length - (i18+1),aa,_,Le.sub (List.Sublist.cons _ (List.Sublist.cons _ (List.Sublist.refl _))),i18+1,c,rfl,aa,g,rfl,?_⟩;simp only[*,go_sem]
 have a8:=Nat.not_lt.2 p;refine cB hJ ?_;rw[List.drop_eq_nil_of_le p] at b;obtain rfl:=sI b;clear b;have h:=k;dsimp only[aL] at h;obtain rfl:=sI h;refine bT ?_;simp only[go_sem];refine an hJ ?_;apply ag _;refine aJ ?_;simp only[*,go_sem]
def pN (u0:ay):Option Int:=
 aj (eB u0.den 1 20) fun b=>cond (!b) (some 1) (aj (eB u0.num (-20) 20) fun c=>cond (!c) (some 1) (aj (jI u0.num u0.den) fun a=>cond (!((a.num==u0.num)&&(a.den==u0.den))) (some 3) (some 0)))
theorem F7 {ro:Addr->Option Value}(u0:ay){r:Int}(h:pN u0=some r):aA Tryz.prog 12 #[.agg #[.int .i64 u0.num,.int .i64 u0.den]] ⟨ro,[]⟩ (fun v _=>v= .int .i64 r):=by
 unfold pN at h;refine aA.go Tryz.func12 rfl Tryz.ntmps12 Tryz.results12 av fun main J hJ A g hd hs=>?_;have i:=hs 0;clear hs;refine an hJ ?_;apply ag _;refine az fun j r1 n1=>?_;try simp only[au] at n1
 try apply ag _
 refine ah hJ (an hJ ?_);revert h;refine bS fun k a h=>?_;apply ag _;refine bf hJ _ (gf u0.den 1 20 a) (aP ?_);revert h;refine cS (fun b h=>?_) fun b h=>?_
 .obtain rfl:=sI h;try apply ag _
  refine cz hJ ?_;refine an hJ ?_;apply ag _;refine aJ ?_;simp only[*,go_sem]
 revert h;refine bS fun l c h=>?_;try apply ag _
 refine bf hJ _ (gf u0.num (-20) 20 c) (aP ?_);try apply ag _
 revert h;refine aX hJ (fun d h=>?_) fun d h=>?_
 .obtain rfl:=sI h;refine an hJ ?_;apply ag _;refine aJ ?_;simp only[*,go_sem]
 refine aK hJ (ah hJ ?_);refine ah hJ ?_;refine cM hJ mixed 7 1 aI ai ?_;revert h;refine bS fun m e h=>?_;apply ag _;refine ⟨_,bD hJ fun F n=>r5 u0.num u0.den e,bY ?_⟩;try apply ag _
 revert h;refine aX hJ (fun f h=>?_) fun f h=>?_
 .obtain rfl:=sI h;refine an hJ ?_;apply ag _;refine aJ ?_;simp only[*,go_sem]
 obtain rfl:=sI h;refine aK hJ (ah hJ ?_);refine aG hJ ?_;apply ag _;refine aJ ?_;simp only[*,go_sem]
def wS (_:dB):Option Int:=some 0
def si (b:dB):Option Int:=aj (pM b) fun x=>cond (x != 0) (some x) (wS b)
def sj (b:dB):Option Int:=aj (pL b) fun x=>cond (x != 0) (some x) (si b)
def wT (b:dB):Option Int:=aj (nP b) fun x=>cond (x != 0) (some x) (sj b)
def sk (b:dB):Option Int:=wT b
def sn:Nat->dB->Option Int
 |0=>wT|1=>sj|2=>si|_=>wS
theorem F8 {ro:Addr->Option Value}(n:dy ro)(u0:dB){s1:Value}(f:aB dV ro s1 u0.dL){s2:Value}(g:aB ja ro s2 u0.marks){r:Int}(h:sk u0=some r):
  aA Tryz.prog 65 #[.agg #[s1,.int .i64 u0.size,.int .i64 u0.aU.low,.int .i64 u0.aU.high,s2]] ⟨ro,[]⟩ (fun v _=>v= .int .i64 r):=by
 obtain ⟨-,-,-,-,-,t,u,w⟩:=n
 have o:=f.oc;simp only[bN] at o
 have p:=g.oc;simp only[bN] at p
 replace h:sn 0 u0=some r:=h
 refine aA.go Tryz.func65 rfl Tryz.ntmps65 Tryz.results65 av fun main J hJ A s hd hs=>?_
 have y:=hs 0
 clear hs
 first|refine aG hJ ?_|refine an hJ ?_|refine ah hJ (an hJ ?_)|refine ah hJ (ah hJ (an hJ ?_))
 apply ag _
 intro c f1;have r1:=dI f1;have n1:=ew f1;simp only[au] at n1
 first|refine aG hJ ?_|refine an hJ ?_|refine ah hJ (an hJ ?_)|refine ah hJ (ah hJ (an hJ ?_))
 apply ag _
 first|refine aW hJ (mU hJ (fun m a F=>∃i:Nat,F=⟨ro,[(c,.cells #[s1,.int .i64 u0.size,.int .i64 u0.aU.low,.int .i64 u0.aU.high,s2] 50)]⟩/\m=3 - i/\sz a=19/\a.defers=[]/\slot a 1= .pointer (some ⟨c,0,none⟩)/\slot a 6= .agg #[.func (.func 247) #[] #[],.func (.func 248) #[] #[],.func (.func 250) #[] #[]]/\slot a 7= .int .i64 i/\i<=3/\sn i u0=some r) (3) ?_ ?_)|refine ah hJ (aW hJ (mU hJ (fun m a F=>∃i:Nat,F=⟨ro,[(c,.cells #[s1,.int .i64 u0.size,.int .i64 u0.aU.low,.int .i64 u0.aU.high,s2] 50)]⟩/\m=3 - i/\sz a=19/\a.defers=[]/\slot a 1= .pointer (some ⟨c,0,none⟩)/\slot a 6= .agg #[.func (.func 247) #[] #[],.func (.func 248) #[] #[],.func (.func 250) #[] #[]]/\slot a 7= .int .i64 i/\i<=3/\sn i u0=some r) (3) ?_ ?_))|refine ah hJ (ah hJ (aW hJ (mU hJ (fun m a F=>∃i:Nat,F=⟨ro,[(c,.cells #[s1,.int .i64 u0.size,.int .i64 u0.aU.low,.int .i64 u0.aU.high,s2] 50)]⟩/\m=3 - i/\sz a=19/\a.defers=[]/\slot a 1= .pointer (some ⟨c,0,none⟩)/\slot a 6= .agg #[.func (.func 247) #[] #[],.func (.func 248) #[] #[],.func (.func 250) #[] #[]]/\slot a 7= .int .i64 i/\i<=3/\sn i u0=some r) (3) ?_ ?_)))
 .refine ⟨0,rfl,rfl,?_⟩
  apply bu _
  first|exact ⟨Nat.zero_le _,h⟩|exact h
 .clear h
  rintro m a F ⟨i,rfl,rfl,s,hd,z,B,C,D,h⟩
  rcases i with _|_|_|i
  .replace h:aj (nP u0) (fun x=>cond (x != 0) (some x) (sj u0))=some r:=h
   have b:=dJ h;clear h;obtain ⟨x,q,h⟩:=b
   have j:((0:Nat):Int)=0:=rfl
   first|refine aG hJ ?_|refine an hJ ?_|refine ah hJ (an hJ ?_)|refine ah hJ (ah hJ (an hJ ?_))
   apply bu _
   refine ah hJ ?_
   refine c5 hJ cL ?_
   refine aK hJ ?_
   refine ah hJ (aW hJ ?_)
   first|refine aG hJ ?_|refine an hJ ?_|refine ah hJ (an hJ ?_)|refine ah hJ (ah hJ (an hJ ?_))
   apply bu _
   intro k f9;have l:=dI f9;have d:=ew f9;simp only[au] at d
   apply bu _
   first|refine aG hJ ?_|refine an hJ ?_|refine ah hJ (an hJ ?_)|refine ah hJ (ah hJ (an hJ ?_))
   apply bu _
   refine bf hJ _ (F4 u0 (f.mono bg) (g.mono bg) q) (aP ?_)
   apply bu _
   first|refine aG hJ ?_|refine an hJ ?_|refine ah hJ (an hJ ?_)|refine ah hJ (ah hJ (an hJ ?_))
   apply bu _
   have b:=gJ h;clear h;rcases b with ⟨e,h⟩|⟨e,h⟩
   .refine c5 hJ cL ?_
    first|refine aG hJ ?_|refine an hJ ?_|refine ah hJ (an hJ ?_)|refine ah hJ (ah hJ (an hJ ?_))
    apply bu _
    have b:=Option.some.inj h;clear h;subst b
    refine aJ ?_
    simp only[*,go_sem]
   .refine cW hJ cL ?_
    refine aK hJ ?_
    refine aG hJ ?_
    apply bu _
    refine ⟨3 - 1,aa,_,Le.sub (List.Sublist.cons _ (List.Sublist.refl _)),1,rfl,rfl,?_⟩
    have hw:IntKind.i64.wrap (0+1)=((1:Nat):Int):=aO
    apply bu _
    first|exact ⟨aa,h⟩|exact h
  .replace h:aj (pL u0) (fun x=>cond (x != 0) (some x) (si u0))=some r:=h
   have b:=dJ h;clear h;obtain ⟨x,q,h⟩:=b
   have j:((0+1:Nat):Int)=1:=rfl
   first|refine aG hJ ?_|refine an hJ ?_|refine ah hJ (an hJ ?_)|refine ah hJ (ah hJ (an hJ ?_))
   apply bu _
   refine ah hJ ?_
   refine c5 hJ cL ?_
   refine aK hJ ?_
   refine ah hJ (aW hJ ?_)
   first|refine aG hJ ?_|refine an hJ ?_|refine ah hJ (an hJ ?_)|refine ah hJ (ah hJ (an hJ ?_))
   apply bu _
   intro k f9;have l:=dI f9;have d:=ew f9;simp only[au] at d
   apply bu _
   first|refine aG hJ ?_|refine an hJ ?_|refine ah hJ (an hJ ?_)|refine ah hJ (ah hJ (an hJ ?_))
   apply bu _
   refine bf hJ _ (F5 u0 (f.mono bg) (g.mono bg) q) (aP ?_)
   apply bu _
   first|refine aG hJ ?_|refine an hJ ?_|refine ah hJ (an hJ ?_)|refine ah hJ (ah hJ (an hJ ?_))
   apply bu _
   have b:=gJ h;clear h;rcases b with ⟨e,h⟩|⟨e,h⟩
   .refine c5 hJ cL ?_
    first|refine aG hJ ?_|refine an hJ ?_|refine ah hJ (an hJ ?_)|refine ah hJ (ah hJ (an hJ ?_))
    apply bu _
    have b:=Option.some.inj h;clear h;subst b
    refine aJ ?_
    simp only[*,go_sem]
   .refine cW hJ cL ?_
    refine aK hJ ?_
    refine aG hJ ?_
    apply bu _
    refine ⟨3 - 2,aa,_,Le.sub (List.Sublist.cons _ (List.Sublist.refl _)),2,rfl,rfl,?_⟩
    have hw:IntKind.i64.wrap (1+1)=((2:Nat):Int):=aO
    apply bu _
    first|exact ⟨aa,h⟩|exact h
  .replace h:aj (pM u0) (fun x=>cond (x != 0) (some x) (wS u0))=some r:=h
   have b:=dJ h;clear h;obtain ⟨x,q,h⟩:=b
   have j:((0+1+1:Nat):Int)=2:=rfl
   first|refine aG hJ ?_|refine an hJ ?_|refine ah hJ (an hJ ?_)|refine ah hJ (ah hJ (an hJ ?_))
   apply bu _
   refine ah hJ ?_
   refine c5 hJ cL ?_
   refine aK hJ ?_
   refine ah hJ (aW hJ ?_)
   first|refine aG hJ ?_|refine an hJ ?_|refine ah hJ (an hJ ?_)|refine ah hJ (ah hJ (an hJ ?_))
   apply bu _
   intro k f9;have l:=dI f9;have d:=ew f9;simp only[au] at d
   apply bu _
   first|refine aG hJ ?_|refine an hJ ?_|refine ah hJ (an hJ ?_)|refine ah hJ (ah hJ (an hJ ?_))
   apply bu _
   refine bf hJ _ (F6 u0 (f.mono bg) (g.mono bg) q) (aP ?_)
   apply bu _
   first|refine aG hJ ?_|refine an hJ ?_|refine ah hJ (an hJ ?_)|refine ah hJ (ah hJ (an hJ ?_))
   apply bu _
   have b:=gJ h;clear h;rcases b with ⟨e,h⟩|⟨e,h⟩
   .refine c5 hJ cL ?_
    first|refine aG hJ ?_|refine an hJ ?_|refine ah hJ (an hJ ?_)|refine ah hJ (ah hJ (an hJ ?_))
    apply bu _
    have b:=Option.some.inj h;clear h;subst b
    refine aJ ?_
    simp only[*,go_sem]
   .refine cW hJ cL ?_
    refine aK hJ ?_
    refine aG hJ ?_
    apply bu _
    refine ⟨3 - 3,aa,_,Le.sub (List.Sublist.cons _ (List.Sublist.refl _)),3,rfl,rfl,?_⟩
    have hw:IntKind.i64.wrap (2+1)=((3:Nat):Int):=aO
    apply bu _
    first|exact ⟨aa,h⟩|exact h
  .have:i=0:=aa
   subst this
   replace h:some 0=some r:=h
   have j:((0+1+1+1:Nat):Int)=3:=rfl
   first|refine aG hJ ?_|refine an hJ ?_|refine ah hJ (an hJ ?_)|refine ah hJ (ah hJ (an hJ ?_))
   apply bu _
   refine ah hJ ?_
   refine cW hJ cL ?_
   refine bT ?_
   simp only[go_sem]
   first|refine aG hJ ?_|refine an hJ ?_|refine ah hJ (an hJ ?_)|refine ah hJ (ah hJ (an hJ ?_))
   apply bu _
   have b:=Option.some.inj h;clear h;subst b
   refine aJ ?_
   simp only[*,go_sem]
def je (p:b8)(aS:Int)(s:ay):Int:=IntKind.i64.wrap (IntKind.i64.wrap (IntKind.i64.wrap (p.high - aS)*s.den) - IntKind.i64.wrap (s.num*p.aQ))
def kr (p q n d:Int):Int:=IntKind.i64.wrap (IntKind.i64.wrap (p*d)+IntKind.i64.wrap (IntKind.i64.wrap (q - p)*n))
def dS (a z:Int):Bool:=(decide (a<=0)&&decide (0<=z))||(decide (0<=a)&&decide (z<=0))
def e8 (p q:b8)(n d:Int):Option ck:=aj (kq (kr p.aQ q.aQ n d) d) fun f=>aj (kq (kr p.high q.high n d) d) fun h=>some ⟨f,h⟩
def nS (p q:b8)(aS:Int)(s:ay):List (Option ck):=
 cond ((p.aQ==q.aQ)&&(p.high==q.high)) [] (cond (je p aS s==0&&je q aS s==0) [k7 p,k7 q]
  (cond (dS (je p aS s) (je q aS s)) [e8 p q (je p aS s) (IntKind.i64.wrap (je p aS s - je q aS s))] []))
theorem F9 {ro:Addr->Option Value}(p q:b8)(aS:Int)(s:ay){E be bs G:Nat}(M:ro ⟨E,0,none⟩=some (.int .i64 p.aQ))(N:ro ⟨E,1,none⟩=some (.int .i64 p.high))(O:ro ⟨be,0,none⟩=some (.int .i64 aS))
  (P:ro ⟨bs,0,none⟩=some (.int .i64 s.num)) (Q:ro ⟨bs,1,none⟩=some (.int .i64 s.den)) (R:ro ⟨G,0,none⟩=some (.int .i64 q.aQ)) (S:ro ⟨G,1,none⟩=some (.int .i64 q.high)):
  jA Tryz.prog 157 #[] #[.pointer (some ⟨E,0,none⟩),.pointer (some ⟨be,0,none⟩),.pointer (some ⟨bs,0,none⟩),.pointer (some ⟨G,0,none⟩)] ck.v (nS p q aS s) ro:=by
 refine ⟨by simp only[go_sem],fun aT C σ step I al ao ar B st c u b main J hJ own k=>?_⟩
 replace M:=C _ _ M
 replace N:=C _ _ N
 replace O:=C _ _ O
 replace P:=C _ _ P
 replace Q:=C _ _ Q
 replace R:=C _ _ R
 replace S:=C _ _ S
 refine c8.go hJ Tryz.func157 rfl Tryz.ntmps157 Tryz.results157 av fun A a0 hd hs=>?_
 have a2:=hs 0
 have k1:=hs 1
 have a3:=hs 2
 have a4:=hs 3
 have a5:=hs 4
 clear hs
 obtain ⟨a,X⟩:∃a,IntKind.i64.wrap (IntKind.i64.wrap (IntKind.i64.wrap (p.high - aS)*s.den) - IntKind.i64.wrap (s.num*p.aQ))=a:=⟨_,rfl⟩
 obtain ⟨z,Y⟩:∃z,IntKind.i64.wrap (IntKind.i64.wrap (IntKind.i64.wrap (q.high - aS)*s.den) - IntKind.i64.wrap (s.num*q.aQ))=z:=⟨_,rfl⟩
 have T:nS p q aS s=cond ((p.aQ==q.aQ)&&(p.high==q.high)) [] (cond (a==0&&z==0) [k7 p,k7 q] (cond (dS a z) [e8 p q a (IntKind.i64.wrap (a - z))] [])):=by rw[<-X,<-Y];rfl
 rw[T] at b
 clear T
 repeat refine ah hJ ?_
 refine aG hJ ?_
 simp only[*,go_sem,-b]
 repeat refine ah hJ ?_
 refine aG hJ ?_
 simp only[*,go_sem,-b]
 refine aW hJ ?_
 repeat refine ah hJ ?_
 refine aG hJ ?_
 simp only[*,go_sem,-b]
 cases U:(p.aQ==q.aQ&&p.high==q.high) with
 |true=>
  rw[U] at b
  simp only[cond_true,dA] at b
  cases b
  refine c5 hJ aI ?_
  refine aK hJ ?_
  apply ag _
  exact ⟨own,Le.refl _,k⟩
 |false=>
  rw[U] at b
  simp only[cond_false] at b
  refine cW hJ (by simp only[*,go_sem,-b]) ?_
  repeat refine ah hJ ?_
  cases V:(a==0) with
  |true=>
   rw[V] at b
   cases W:(z==0) with
   |true=>
    rw[W] at b
    simp only[Bool.and_self,cond_true] at b
    refine aG hJ ?_
    simp only[*,go_sem,-b]
    refine c5 hJ (by simp only[*,go_sem,-b]) ?_
    refine aE hJ fun nd=>?_
    refine aG hJ ?_
    simp only[*,go_sem,-b]
    cases e1:k7 p with
    |none=>rw[e1] at b;cases b
    |some x=>
     rw[e1] at b
     simp only[dA] at b
     refine bf hJ _ (Aw p e1) (aP ?_)
     simp only[*,go_sem,-b]
     cases e2:step st x with
     |none=>rw[e2] at b;cases b
     |some r=>
      obtain ⟨j,s1⟩:=r
      rw[e2] at b
      refine j4 hJ [] (fun m l n=>B st x j s1 e2 m l n own k) nd ?_
      rintro v o ⟨rfl,t⟩ D
      refine aP ?_
      cases j with
      |false=>
       cases b
       apply ag _
       exact ⟨o,Le.refl _,t⟩
      |true=>
       simp only at b
       simp only[*,go_sem,-b]
       cases h:k7 q with
       |none=>rw[h] at b;cases b
       |some y=>
        rw[h] at b
        simp only[dA] at b
        refine bf hJ _ (Aw q h) (aP ?_)
        simp only[*,go_sem,-b]
        cases H:step s1 y with
        |none=>rw[H] at b;cases b
        |some r=>
         obtain ⟨b2,s2⟩:=r
         rw[H] at b
         refine j4 hJ [] (fun m l n=>B s1 y b2 s2 H m l n o t) D ?_
         rintro v Z ⟨rfl,ab⟩ a6
         refine aP ?_
         have:c=b2/\u=s2:=by cases b2<;>cases b<;>exact ⟨rfl,rfl⟩
         obtain ⟨rfl,rfl⟩:=this
         apply ag _
         exact ⟨Z,Le.refl _,ab⟩
   |false=>
    rw[W] at b
    simp only[Bool.true_and,Bool.false_and,cond_false] at b
    refine aG hJ ?_
    simp only[*,go_sem,-b]
    refine cW hJ (by simp only[*,go_sem,-b]) ?_
    repeat refine ah hJ ?_
    cases ad:decide (a<=0) with
    |true=>
     cases ae:decide (0<=z) with
     |true=>
      have i:dS a z=true:=by unfold dS;simp only[*,Bool.and_true,Bool.and_false,Bool.or_true,Bool.or_false,Bool.true_and,Bool.false_and,Bool.or_self,Bool.and_self,Bool.true_or,Bool.false_or]
      rw[i] at b
      simp only[cond_true] at b
      refine aG hJ ?_
      simp only[*,go_sem,-b]
      refine c5 hJ (by simp only[*,go_sem,-b]) ?_
      repeat refine ah hJ ?_
      refine aG hJ ?_
      simp only[*,go_sem,-b]
      refine aE hJ fun nd=>?_
      obtain ⟨y,d⟩:∃y,e8 p q a (IntKind.i64.wrap (a - z))=some y:=by
       cases e:e8 p q a (IntKind.i64.wrap (a - z)) with
       |none=>rw[e] at b;cases b
       |some y=>exact ⟨y,rfl⟩
      rw[d] at b
      unfold e8 kr at d
      obtain ⟨f,e1,d⟩:=dJ d
      obtain ⟨g,e2,d⟩:=dJ d
      cases d
      simp only[dA] at b
      refine eg hJ mixed 30 ⟨aT,[]⟩ (by simp only[*,go_sem,-b]) ai ?_
      simp only[*,go_sem,-b]
      refine ⟨_,bD hJ fun F w=>hO _ _ e1,bY ?_⟩
      simp only[*,go_sem,-b]
      refine ⟨_,bD hJ fun F w=>hO _ _ e2,bY ?_⟩
      simp only[*,go_sem,-b]
      cases h:step st ⟨f,g⟩ with
      |none=>rw[h] at b;cases b
      |some r=>
       obtain ⟨j,s1⟩:=r
       rw[h] at b
       have:c=j/\u=s1:=by cases j<;>cases b<;>exact ⟨rfl,rfl⟩
       obtain ⟨rfl,rfl⟩:=this
       refine j4 hJ [] (fun m l n=>B st ⟨f,g⟩ c u h m l n own k) nd ?_
       rintro v o ⟨rfl,t⟩ D
       exact ⟨by simp only[go_sem],o,Le.refl _,t⟩
     |false=>
      cases K:decide (0<=a) with
      |true=>
       cases L:decide (z<=0) with
       |true=>
        have i:dS a z=true:=by unfold dS;simp only[*,Bool.and_true,Bool.and_false,Bool.or_true,Bool.or_false,Bool.true_and,Bool.false_and,Bool.or_self,Bool.and_self,Bool.true_or,Bool.false_or]
        rw[i] at b
        simp only[cond_true] at b
        refine aG hJ ?_
        simp only[*,go_sem,-b]
        refine c5 hJ (by simp only[*,go_sem,-b]) ?_
        repeat refine ah hJ ?_
        refine aG hJ ?_
        simp only[*,go_sem,-b]
        refine aE hJ fun nd=>?_
        obtain ⟨y,d⟩:∃y,e8 p q a (IntKind.i64.wrap (a - z))=some y:=by
         cases e:e8 p q a (IntKind.i64.wrap (a - z)) with
         |none=>rw[e] at b;cases b
         |some y=>exact ⟨y,rfl⟩
        rw[d] at b
        unfold e8 kr at d
        obtain ⟨f,e1,d⟩:=dJ d
        obtain ⟨g,e2,d⟩:=dJ d
        cases d
        simp only[dA] at b
        refine eg hJ mixed 30 ⟨aT,[]⟩ (by simp only[*,go_sem,-b]) ai ?_
        simp only[*,go_sem,-b]
        refine ⟨_,bD hJ fun F w=>hO _ _ e1,bY ?_⟩
        simp only[*,go_sem,-b]
        refine ⟨_,bD hJ fun F w=>hO _ _ e2,bY ?_⟩
        simp only[*,go_sem,-b]
        cases h:step st ⟨f,g⟩ with
        |none=>rw[h] at b;cases b
        |some r=>
         obtain ⟨j,s1⟩:=r
         rw[h] at b
         have:c=j/\u=s1:=by cases j<;>cases b<;>exact ⟨rfl,rfl⟩
         obtain ⟨rfl,rfl⟩:=this
         refine j4 hJ [] (fun m l n=>B st ⟨f,g⟩ c u h m l n own k) nd ?_
         rintro v o ⟨rfl,t⟩ D
         exact ⟨by simp only[go_sem],o,Le.refl _,t⟩
       |false=>
        have i:dS a z=false:=by unfold dS;simp only[*,Bool.and_true,Bool.and_false,Bool.or_true,Bool.or_false,Bool.true_and,Bool.false_and,Bool.or_self,Bool.and_self,Bool.true_or,Bool.false_or]
        rw[i] at b
        simp only[cond_false,dA] at b
        cases b
        refine aG hJ ?_
        apply ag _
        refine cW hJ aI ?_
        refine aK hJ ?_
        apply ag _
        exact ⟨own,Le.refl _,k⟩
      |false=>
       have i:dS a z=false:=by unfold dS;simp only[*,Bool.and_true,Bool.and_false,Bool.or_true,Bool.or_false,Bool.true_and,Bool.false_and,Bool.or_self,Bool.and_self,Bool.true_or,Bool.false_or]
       rw[i] at b
       simp only[cond_false,dA] at b
       cases b
       refine aG hJ ?_
       apply ag _
       refine cW hJ aI ?_
       refine aK hJ ?_
       apply ag _
       exact ⟨own,Le.refl _,k⟩
    |false=>
     cases K:decide (0<=a) with
     |true=>
      cases L:decide (z<=0) with
      |true=>
       have i:dS a z=true:=by unfold dS;simp only[*,Bool.and_true,Bool.and_false,Bool.or_true,Bool.or_false,Bool.true_and,Bool.false_and,Bool.or_self,Bool.and_self,Bool.true_or,Bool.false_or]
       rw[i] at b
       simp only[cond_true] at b
       refine aG hJ ?_
       simp only[*,go_sem,-b]
       refine c5 hJ (by simp only[*,go_sem,-b]) ?_
       repeat refine ah hJ ?_
       refine aG hJ ?_
       simp only[*,go_sem,-b]
       refine aE hJ fun nd=>?_
       obtain ⟨y,d⟩:∃y,e8 p q a (IntKind.i64.wrap (a - z))=some y:=by
        cases e:e8 p q a (IntKind.i64.wrap (a - z)) with
        |none=>rw[e] at b;cases b
        |some y=>exact ⟨y,rfl⟩
       rw[d] at b
       unfold e8 kr at d
       obtain ⟨f,e1,d⟩:=dJ d
       obtain ⟨g,e2,d⟩:=dJ d
       cases d
       simp only[dA] at b
       refine eg hJ mixed 30 ⟨aT,[]⟩ (by simp only[*,go_sem,-b]) ai ?_
       simp only[*,go_sem,-b]
       refine ⟨_,bD hJ fun F w=>hO _ _ e1,bY ?_⟩
       simp only[*,go_sem,-b]
       refine ⟨_,bD hJ fun F w=>hO _ _ e2,bY ?_⟩
       simp only[*,go_sem,-b]
       cases h:step st ⟨f,g⟩ with
       |none=>rw[h] at b;cases b
       |some r=>
        obtain ⟨j,s1⟩:=r
        rw[h] at b
        have:c=j/\u=s1:=by cases j<;>cases b<;>exact ⟨rfl,rfl⟩
        obtain ⟨rfl,rfl⟩:=this
        refine j4 hJ [] (fun m l n=>B st ⟨f,g⟩ c u h m l n own k) nd ?_
        rintro v o ⟨rfl,t⟩ D
        exact ⟨by simp only[go_sem],o,Le.refl _,t⟩
      |false=>
       have i:dS a z=false:=by unfold dS;simp only[*,Bool.and_true,Bool.and_false,Bool.or_true,Bool.or_false,Bool.true_and,Bool.false_and,Bool.or_self,Bool.and_self,Bool.true_or,Bool.false_or]
       rw[i] at b
       simp only[cond_false,dA] at b
       cases b
       refine aG hJ ?_
       apply ag _
       refine cW hJ aI ?_
       refine aK hJ ?_
       apply ag _
       exact ⟨own,Le.refl _,k⟩
     |false=>
      have i:dS a z=false:=by unfold dS;simp only[*,Bool.and_true,Bool.and_false,Bool.or_true,Bool.or_false,Bool.true_and,Bool.false_and,Bool.or_self,Bool.and_self,Bool.true_or,Bool.false_or]
      rw[i] at b
      simp only[cond_false,dA] at b
      cases b
      refine aG hJ ?_
      apply ag _
      refine cW hJ aI ?_
      refine aK hJ ?_
      apply ag _
      exact ⟨own,Le.refl _,k⟩
  |false=>
   rw[V] at b
   simp only[Bool.true_and,Bool.false_and,cond_false] at b
   refine aG hJ ?_
   simp only[*,go_sem,-b]
   refine cW hJ (by simp only[*,go_sem,-b]) ?_
   repeat refine ah hJ ?_
   cases ad:decide (a<=0) with
   |true=>
    cases ae:decide (0<=z) with
    |true=>
     have i:dS a z=true:=by unfold dS;simp only[*,Bool.and_true,Bool.and_false,Bool.or_true,Bool.or_false,Bool.true_and,Bool.false_and,Bool.or_self,Bool.and_self,Bool.true_or,Bool.false_or]
     rw[i] at b
     simp only[cond_true] at b
     refine aG hJ ?_
     simp only[*,go_sem,-b]
     refine c5 hJ (by simp only[*,go_sem,-b]) ?_
     repeat refine ah hJ ?_
     refine aG hJ ?_
     simp only[*,go_sem,-b]
     refine aE hJ fun nd=>?_
     obtain ⟨y,d⟩:∃y,e8 p q a (IntKind.i64.wrap (a - z))=some y:=by
      cases e:e8 p q a (IntKind.i64.wrap (a - z)) with
      |none=>rw[e] at b;cases b
      |some y=>exact ⟨y,rfl⟩
     rw[d] at b
     unfold e8 kr at d
     obtain ⟨f,e1,d⟩:=dJ d
     obtain ⟨g,e2,d⟩:=dJ d
     cases d
     simp only[dA] at b
     refine eg hJ mixed 30 ⟨aT,[]⟩ (by simp only[*,go_sem,-b]) ai ?_
     simp only[*,go_sem,-b]
     refine ⟨_,bD hJ fun F w=>hO _ _ e1,bY ?_⟩
     simp only[*,go_sem,-b]
     refine ⟨_,bD hJ fun F w=>hO _ _ e2,bY ?_⟩
     simp only[*,go_sem,-b]
     cases h:step st ⟨f,g⟩ with
     |none=>rw[h] at b;cases b
     |some r=>
      obtain ⟨j,s1⟩:=r
      rw[h] at b
      have:c=j/\u=s1:=by cases j<;>cases b<;>exact ⟨rfl,rfl⟩
      obtain ⟨rfl,rfl⟩:=this
      refine j4 hJ [] (fun m l n=>B st ⟨f,g⟩ c u h m l n own k) nd ?_
      rintro v o ⟨rfl,t⟩ D
      exact ⟨by simp only[go_sem],o,Le.refl _,t⟩
    |false=>
     cases K:decide (0<=a) with
     |true=>
      cases L:decide (z<=0) with
      |true=>
       have i:dS a z=true:=by unfold dS;simp only[*,Bool.and_true,Bool.and_false,Bool.or_true,Bool.or_false,Bool.true_and,Bool.false_and,Bool.or_self,Bool.and_self,Bool.true_or,Bool.false_or]
       rw[i] at b
       simp only[cond_true] at b
       refine aG hJ ?_
       simp only[*,go_sem,-b]
       refine c5 hJ (by simp only[*,go_sem,-b]) ?_
       repeat refine ah hJ ?_
       refine aG hJ ?_
       simp only[*,go_sem,-b]
       refine aE hJ fun nd=>?_
       obtain ⟨y,d⟩:∃y,e8 p q a (IntKind.i64.wrap (a - z))=some y:=by
        cases e:e8 p q a (IntKind.i64.wrap (a - z)) with
        |none=>rw[e] at b;cases b
        |some y=>exact ⟨y,rfl⟩
       rw[d] at b
       unfold e8 kr at d
       obtain ⟨f,e1,d⟩:=dJ d
       obtain ⟨g,e2,d⟩:=dJ d
       cases d
       simp only[dA] at b
       refine eg hJ mixed 30 ⟨aT,[]⟩ (by simp only[*,go_sem,-b]) ai ?_
       simp only[*,go_sem,-b]
       refine ⟨_,bD hJ fun F w=>hO _ _ e1,bY ?_⟩
       simp only[*,go_sem,-b]
       refine ⟨_,bD hJ fun F w=>hO _ _ e2,bY ?_⟩
       simp only[*,go_sem,-b]
       cases h:step st ⟨f,g⟩ with
       |none=>rw[h] at b;cases b
       |some r=>
        obtain ⟨j,s1⟩:=r
        rw[h] at b
        have:c=j/\u=s1:=by cases j<;>cases b<;>exact ⟨rfl,rfl⟩
        obtain ⟨rfl,rfl⟩:=this
        refine j4 hJ [] (fun m l n=>B st ⟨f,g⟩ c u h m l n own k) nd ?_
        rintro v o ⟨rfl,t⟩ D
        exact ⟨by simp only[go_sem],o,Le.refl _,t⟩
      |false=>
       have i:dS a z=false:=by unfold dS;simp only[*,Bool.and_true,Bool.and_false,Bool.or_true,Bool.or_false,Bool.true_and,Bool.false_and,Bool.or_self,Bool.and_self,Bool.true_or,Bool.false_or]
       rw[i] at b
       simp only[cond_false,dA] at b
       cases b
       refine aG hJ ?_
       apply ag _
       refine cW hJ aI ?_
       refine aK hJ ?_
       apply ag _
       exact ⟨own,Le.refl _,k⟩
     |false=>
      have i:dS a z=false:=by unfold dS;simp only[*,Bool.and_true,Bool.and_false,Bool.or_true,Bool.or_false,Bool.true_and,Bool.false_and,Bool.or_self,Bool.and_self,Bool.true_or,Bool.false_or]
      rw[i] at b
      simp only[cond_false,dA] at b
      cases b
      refine aG hJ ?_
      apply ag _
      refine cW hJ aI ?_
      refine aK hJ ?_
      apply ag _
      exact ⟨own,Le.refl _,k⟩
   |false=>
    cases K:decide (0<=a) with
    |true=>
     cases L:decide (z<=0) with
     |true=>
      have i:dS a z=true:=by unfold dS;simp only[*,Bool.and_true,Bool.and_false,Bool.or_true,Bool.or_false,Bool.true_and,Bool.false_and,Bool.or_self,Bool.and_self,Bool.true_or,Bool.false_or]
      rw[i] at b
      simp only[cond_true] at b
      refine aG hJ ?_
      simp only[*,go_sem,-b]
      refine c5 hJ (by simp only[*,go_sem,-b]) ?_
      repeat refine ah hJ ?_
      refine aG hJ ?_
      simp only[*,go_sem,-b]
      refine aE hJ fun nd=>?_
      obtain ⟨y,d⟩:∃y,e8 p q a (IntKind.i64.wrap (a - z))=some y:=by
       cases e:e8 p q a (IntKind.i64.wrap (a - z)) with
       |none=>rw[e] at b;cases b
       |some y=>exact ⟨y,rfl⟩
      rw[d] at b
      unfold e8 kr at d
      obtain ⟨f,e1,d⟩:=dJ d
      obtain ⟨g,e2,d⟩:=dJ d
      cases d
      simp only[dA] at b
      refine eg hJ mixed 30 ⟨aT,[]⟩ (by simp only[*,go_sem,-b]) ai ?_
      simp only[*,go_sem,-b]
      refine ⟨_,bD hJ fun F w=>hO _ _ e1,bY ?_⟩
      simp only[*,go_sem,-b]
      refine ⟨_,bD hJ fun F w=>hO _ _ e2,bY ?_⟩
      simp only[*,go_sem,-b]
      cases h:step st ⟨f,g⟩ with
      |none=>rw[h] at b;cases b
      |some r=>
       obtain ⟨j,s1⟩:=r
       rw[h] at b
       have:c=j/\u=s1:=by cases j<;>cases b<;>exact ⟨rfl,rfl⟩
       obtain ⟨rfl,rfl⟩:=this
       refine j4 hJ [] (fun m l n=>B st ⟨f,g⟩ c u h m l n own k) nd ?_
       rintro v o ⟨rfl,t⟩ D
       exact ⟨by simp only[go_sem],o,Le.refl _,t⟩
     |false=>
      have i:dS a z=false:=by unfold dS;simp only[*,Bool.and_true,Bool.and_false,Bool.or_true,Bool.or_false,Bool.true_and,Bool.false_and,Bool.or_self,Bool.and_self,Bool.true_or,Bool.false_or]
      rw[i] at b
      simp only[cond_false,dA] at b
      cases b
      refine aG hJ ?_
      apply ag _
      refine cW hJ aI ?_
      refine aK hJ ?_
      apply ag _
      exact ⟨own,Le.refl _,k⟩
    |false=>
     have i:dS a z=false:=by unfold dS;simp only[*,Bool.and_true,Bool.and_false,Bool.or_true,Bool.or_false,Bool.true_and,Bool.false_and,Bool.or_self,Bool.and_self,Bool.true_or,Bool.false_or]
     rw[i] at b
     simp only[cond_false,dA] at b
     cases b
     refine aG hJ ?_
     apply ag _
     refine cW hJ aI ?_
     refine aK hJ ?_
     apply ag _
     exact ⟨own,Le.refl _,k⟩
def Az (p q:b8)(aS:Int)(s:ay):Option (List (Option ck)):=some (nS p q aS s)
theorem Ga {ro:Addr->Option Value}(p q:b8)(aS:Int)(s:ay){r:List (Option ck)}(h:Az p q aS s=some r):
  eT Tryz.prog 118 #[.agg #[.int .i64 p.aQ,.int .i64 p.high],.agg #[.int .i64 q.aQ,.int .i64 q.high],.int .i64 aS,.agg #[.int .i64 s.num,.int .i64 s.den]] ro
   (fun v aT=>∃f a c,v= .func (.func f) a c/\jA Tryz.prog f a c ck.v r aT):=by
 cases h
 refine aA.go Tryz.func118 rfl Tryz.ntmps118 Tryz.results118 av fun main J hJ A R hd hs=>?_
 have S:=hs 0
 have k1:=hs 1
 have T:=hs 2
 have U:=hs 3
 clear hs
 repeat refine ah hJ ?_
 refine aG hJ ?_
 apply ag _
 intro d f1;have r1:=dI f1;have n1:=ew f1
 try simp only[au] at n1
 try apply ag _
 intro b2 f2;have r2:=dI f2;have n2:=ew f2
 try simp only[au] at n2
 try apply ag _
 intro b3 f3;have r3:=dI f3;have n3:=ew f3
 try simp only[au] at n3
 try apply ag _
 intro b4 f4;have V:=dI f4;have Q:=ew f4
 try simp only[au] at Q
 try apply ag _
 repeat refine ah hJ ?_
 refine fF hJ fun nd e=>?_
 replace e:aF ro ([(b4,.cells #[.int .i64 s.num,.int .i64 s.den] 23),(b3,.cells #[.int .i64 aS] 3),(b2,.cells #[.int .i64 q.aQ,.int .i64 q.high] 44),(d,.cells #[.int .i64 p.aQ,.int .i64 p.high] 44)]):=e
 replace nd:aY (keys ([(b4,.cells #[.int .i64 s.num,.int .i64 s.den] 23),(b3,.cells #[.int .i64 aS] 3),(b2,.cells #[.int .i64 q.aQ,.int .i64 q.high] 44),(d,.cells #[.int .i64 p.aQ,.int .i64 p.high] 44)])):=nd
 refine aG hJ ?_
 apply ag _
 refine aJ ?_
 apply ag _
 have y:∀off sp,ro ⟨b4,off,sp⟩=none:=e.hd
 obtain ⟨C,D,E⟩:=e4 (ro:=ro) (b:=b4) (o:=.cells #[.int .i64 s.num,.int .i64 s.den] 23) [] [(b3,.cells #[.int .i64 aS] 3),(b2,.cells #[.int .i64 q.aQ,.int .i64 q.high] 44),(d,.cells #[.int .i64 p.aQ,.int .i64 p.high] 44)] nd y e.tl
 have g:bR ro b4 (.cells #[.int .i64 s.num,.int .i64 s.den] 23) ⟨b4,0,none⟩=some (.int .i64 s.num):=by rw[fE y];rfl
 have i:bR ro b4 (.cells #[.int .i64 s.num,.int .i64 s.den] 23) ⟨b4,1,none⟩=some (.int .i64 s.den):=by rw[fE y];rfl
 generalize bR ro b4 (.cells #[.int .i64 s.num,.int .i64 s.den] 23)=n at C D E g i
 replace e:aF n ([(b3,.cells #[.int .i64 aS] 3),(b2,.cells #[.int .i64 q.aQ,.int .i64 q.high] 44),(d,.cells #[.int .i64 p.aQ,.int .i64 p.high] 44)]):=D
 replace nd:aY (keys ([(b3,.cells #[.int .i64 aS] 3),(b2,.cells #[.int .i64 q.aQ,.int .i64 q.high] 44),(d,.cells #[.int .i64 p.aQ,.int .i64 p.high] 44)])):=nd.tl
 have F:∀off sp,n ⟨b3,off,sp⟩=none:=e.hd
 obtain ⟨u,G,H⟩:=e4 (ro:=n) (b:=b3) (o:=.cells #[.int .i64 aS] 3) [] [(b2,.cells #[.int .i64 q.aQ,.int .i64 q.high] 44),(d,.cells #[.int .i64 p.aQ,.int .i64 p.high] 44)] nd F e.tl
 have k:bR n b3 (.cells #[.int .i64 aS] 3) ⟨b3,0,none⟩=some (.int .i64 aS):=by rw[fE F];rfl
 generalize bR n b3 (.cells #[.int .i64 aS] 3)=l at u G H k
 replace g:=u _ _ g
 replace i:=u _ _ i
 replace e:aF l ([(b2,.cells #[.int .i64 q.aQ,.int .i64 q.high] 44),(d,.cells #[.int .i64 p.aQ,.int .i64 p.high] 44)]):=G
 replace nd:aY (keys ([(b2,.cells #[.int .i64 q.aQ,.int .i64 q.high] 44),(d,.cells #[.int .i64 p.aQ,.int .i64 p.high] 44)])):=nd.tl
 have z:∀off sp,l ⟨b2,off,sp⟩=none:=e.hd
 obtain ⟨t,I,K⟩:=e4 (ro:=l) (b:=b2) (o:=.cells #[.int .i64 q.aQ,.int .i64 q.high] 44) [] [(d,.cells #[.int .i64 p.aQ,.int .i64 p.high] 44)] nd z e.tl
 have w:bR l b2 (.cells #[.int .i64 q.aQ,.int .i64 q.high] 44) ⟨b2,0,none⟩=some (.int .i64 q.aQ):=by rw[fE z];rfl
 have x:bR l b2 (.cells #[.int .i64 q.aQ,.int .i64 q.high] 44) ⟨b2,1,none⟩=some (.int .i64 q.high):=by rw[fE z];rfl
 generalize bR l b2 (.cells #[.int .i64 q.aQ,.int .i64 q.high] 44)=m at t I K w x
 replace g:=t _ _ g
 replace i:=t _ _ i
 replace k:=t _ _ k
 replace e:aF m ([(d,.cells #[.int .i64 p.aQ,.int .i64 p.high] 44)]):=I
 replace nd:aY (keys ([(d,.cells #[.int .i64 p.aQ,.int .i64 p.high] 44)])):=nd.tl
 have B:∀off sp,m ⟨d,off,sp⟩=none:=e.hd
 obtain ⟨j,L,M⟩:=e4 (ro:=m) (b:=d) (o:=.cells #[.int .i64 p.aQ,.int .i64 p.high] 44) [] [] nd B e.tl
 have N:bR m d (.cells #[.int .i64 p.aQ,.int .i64 p.high] 44) ⟨d,0,none⟩=some (.int .i64 p.aQ):=by rw[fE B];rfl
 have O:bR m d (.cells #[.int .i64 p.aQ,.int .i64 p.high] 44) ⟨d,1,none⟩=some (.int .i64 p.high):=by rw[fE B];rfl
 generalize bR m d (.cells #[.int .i64 p.aQ,.int .i64 p.high] 44)=P at j L M N O
 replace g:=j _ _ g
 replace i:=j _ _ i
 replace k:=j _ _ k
 replace w:=j _ _ w
 replace x:=j _ _ x
 replace e:aF P ([]):=L
 replace nd:aY (keys ([])):=nd.tl
 exact ⟨P,((C.trans u).trans t).trans j,((M.trans K).trans H).trans E,_,_,_,rfl,F9 p q aS s N O k g i w x⟩
def wU (x:ck)(st:List ck):Option (Fl (List ck) Unit):=aj (eA st ([x])) fun y=>some (.nx y)
def so (u0:List ck)(a:List (Option ck)):Option (List ck):=aj (kU wU a u0) fun o=>aL o (fun st=>some st) (fun _ _=>none) (fun _=>none)
theorem Gb {ro:Addr->Option Value}{bh:List (Nat×Obj)}(u0:List ck){u:Value}(w:aZ l8 ro 129 u u0 bh)(y:List (Option ck)){dF:FuncId}{en eo:Array Value}(I:jA Tryz.prog dF en eo ck.v y ro){r:List ck}(h:so u0 y=some r):
  aA Tryz.prog 117 #[u,.func (.func dF) en eo] ⟨ro,bh⟩ (fun v G=>∃z,aZ l8 ro 129 v r z/\Le ⟨ro,z⟩ G):=by
 unfold so at h
 obtain ⟨d0,K,rfl,L⟩:=w.len
 refine aA.qQ Tryz.func117 rfl Tryz.ntmps117 Tryz.results117 av fun main J hJ A M hd hs=>?_
 have N:=hs 0
 have k1:=hs 1
 clear hs
 refine ah hJ ?_
 refine aG hJ ?_
 apply bu _
 intro i f1;have r1:=dI f1;have n1:=ew f1
 try apply bu _
 refine ah hJ ?_
 refine ah hJ ?_
 refine aG hJ ?_
 apply bu _
 have e:=dJ h;clear h;obtain ⟨al,O,p⟩:=e;have h:=True.intro
 refine qP hJ ck.v aI I ai ai (ρ:=Unit) (fun (n:List ck) P=>∃(d7:Option Addr) (c:Nat) (d:List (Nat×Obj)),P=(i,.cells #[.slice d7 n.length c] 189)::d/\aZ l8 ro 129 (.slice d7 n.length c) n d/\n.length<=c) (f:=wU) O ?_ ?_ aO ?_ ?_
 .exact ⟨d0,K,bh,rfl,w,L⟩
 .rintro d4 q j Q v6 a ao h main J hJ _ ⟨d7,c,d,rfl,s,R⟩
  unfold wU at h
  try dsimp only at h
  generalize k:kV _ _ _=o
  have ar:sz o=13:=by rw[<-k,qO];simp only[*,go_sem]
  have a0:o.defers=[]:=by rw[<-k];rfl
  have a2:slot o 2= .pointer (some ⟨i,0,none⟩):=by rw[<-k,kW];simp only[*,go_sem]
  have a3:slot o 7= .agg #[.int .i64 a.aQ.num,.int .i64 a.aQ.den,.int .i64 a.high.num,.int .i64 a.high.den]:=by rw[<-k,kW];simp only[*,go_sem]
  clear k M hd N k1
  refine fF hJ fun g b=>?_
  replace b:aF ro ((q,.loop j)::(d4,.deferred (some []))::(i,.cells #[.slice d7 v6.length c] 189)::d):=b
  have r3:=b.hd
  have a4:=b.tl.hd
  have r1:=b.tl.tl.hd
  clear b
  replace g:=g.nd
  simp only[keys,List.map_cons,List.map_nil,List.map_append,List.cons_append,List.nil_append,List.nodup_cons,List.mem_cons,List.mem_append,List.not_mem_nil,or_false,not_or] at g
  refine aE hJ fun S=>?_
  refine aG hJ ?_
  apply bu _
  intro B f17;have a5:=dI f17;have C:=ew f17
  have a6:=aY.cons C S
  try simp only[au] at C
  try apply bu _
  simp only[mZ,go_sem]
  refine ⟨j,aI,Q,?_⟩
  try apply bu _
  refine aW hJ ?_
  refine aE hJ fun T=>?_
  refine aG hJ ?_
  have e:=dJ h;clear h;obtain ⟨a7,U,h⟩:=e
  obtain ⟨V,D⟩:=dQ U
  apply bu _
  intro E f20;have W:=dI f20;have F:=ew f20
  have X:=aY.cons F T
  try simp only[au] at F
  try apply bu _
  refine uu (r:=l8) (l:=v6) (x:=a) (cs:=#[.int .i64 a.aQ.num,.int .i64 a.aQ.den,.int .i64 a.high.num,.int .i64 a.high.den]) (e2:=129) [(E,.cells #[.int .i64 a.aQ.num,.int .i64 a.aQ.den,.int .i64 a.high.num,.int .i64 a.high.den] 129),(B,.cells #[.int .i64 a.aQ.num,.int .i64 a.aQ.den,.int .i64 a.high.num,.int .i64 a.high.den] 129),(q,.loop {j with state:=.busy}),(d4,.deferred (some [])),(i,.cells #[.slice d7 v6.length c] 189)] [] (by first|rfl|simp only[bn]|(simp only[bn];rfl)) s X V rfl cL W rfl rfl zl zl Db Dd rfl Dc aO aO (fun a8 H t d Y a9=>?_)
  simp only[bn] at Y
  subst d
  rw[<-D] at t;clear D
  obtain ⟨d28,Z,rfl,ab⟩:=t.len
  refine ⟨⟨ro,(E,.cells #[.int .i64 a.aQ.num,.int .i64 a.aQ.den,.int .i64 a.high.num,.int .i64 a.high.den] 129)::(B,.cells #[.int .i64 a.aQ.num,.int .i64 a.aQ.den,.int .i64 a.high.num,.int .i64 a.high.den] 129)::(q,.loop {j with state:=.busy})::(d4,.deferred (some []))::(i,.cells #[.slice d7 v6.length c] 189)::H⟩,Le.refl _,?_⟩
  refine aP ?_
  try apply bu _
  have e:=Option.some.inj h;clear h;subst e
  simp only[oT,kT,go_sem]
  refine ⟨{j with state:=.busy},aI,?_⟩
  apply ag _
  refine ⟨_,Le.sub (List.Sublist.cons _ (List.Sublist.cons _ (List.Sublist.refl _))),rfl,d28,Z,H,rfl,t,ab⟩
 .rintro d49 ad ae _ v6 ⟨d7,c,d,rfl,s,R⟩ g b
  replace b:aF ro ((ad,.loop ae)::(d49,.deferred (some []))::(i,.cells #[.slice d7 v6.length c] 189)::d):=b
  have ba:=b.hd
  have bb:=b.tl.hd
  have r1:=b.tl.tl.hd
  clear b
  replace g:=g.nd
  simp only[keys,List.map_cons,List.map_nil,List.map_append,List.cons_append,List.nil_append,List.nodup_cons,List.mem_cons,List.mem_append,List.not_mem_nil,or_false,not_or] at g
  refine ⟨fun m=>?_,fun k1 m=>?_⟩
  .subst m;have h:=p;dsimp only[aL] at h
   refine ah hJ ?_
   refine aG hJ ?_
   apply bu _
   have e:=Option.some.inj h;clear h;subst e
   refine aJ ?_
   apply ag _
   exact ⟨d,s,Le.sub (List.Sublist.cons _ (List.Sublist.cons _ (List.Sublist.cons _ (List.Sublist.refl _))))⟩
  subst m;have h:=p;dsimp only[aL] at h
  cases h
 intro k1 bc m;subst m;have h:=p;dsimp only[aL] at h
 cases h
def pO (u0:dB)(b:(List (Option Int))):Option (dB×Int):=
 aj (sk u0) fun a=>cond ((a != 0)) (some ((⟨([]:(List b8)),0,(⟨0,0⟩:dK),([]:(List iZ))⟩:dB),a)) (aj (pK b) fun c=>some (u0,c))
theorem Gc {ro:Addr->Option Value}(i:dy ro)(u0:dB){s1:Value}(a:aB dV ro s1 u0.dL){b:Value}(c:aB ja ro b u0.marks)(d:(List (Option Int))){e:Value}(f:aB (fH) ro e d){r:(dB×Int)}(h:pO u0 d=some r):eT Tryz.prog 55 #[.agg #[s1,.int .i64 u0.size,.int .i64 u0.aU.low,.int .i64 u0.aU.high,b],e] ro (fun v aT=>∃g w1,v= .tuple #[.agg #[g,.int .i64 r.1.size,.int .i64 r.1.aU.low,.int .i64 r.1.aU.high,w1],.int .i64 r.2]/\aB dV aT g r.1.dL/\aB ja aT w1 r.1.marks):=by
 obtain ⟨d17,t,rfl,u,w,-⟩:=id f;unfold pO at h;have j:=a.oc;simp only[bN] at j;have k:=c.oc;simp only[bN] at k;refine aA.go Tryz.func55 rfl Tryz.ntmps55 Tryz.results55 av fun main J hJ A x hd hs=>?_;have y:=hs 0;have k1:=hs 1;clear hs;refine an hJ ?_;apply ag _;refine az fun l z m=>?_;try simp only[au] at m
 refine az fun B C n=>?_;try simp only[au] at n
 try apply ag _
 refine ah hJ (an hJ ?_);revert h;refine bS fun D o h=>?_;apply ag _;refine bf hJ _ (F8 (i.mono bg) u0 (a.mono bg) (c.mono bg) o) (aP ?_);try apply ag _
 refine an hJ ?_;apply ag _;revert h;refine aX hJ (fun p h=>?_) fun p h=>?_
 .obtain rfl:=sI h;refine an hJ ?_;apply ag _;refine aJ ?_;apply ag _;exact ⟨_,Ext.refl _,Le.sub (List.nil_sublist _),_,_,rfl,aB.nil _ _,aB.nil _ _⟩
 refine aK hJ (ah hJ ?_);refine eg hJ mixed 4 ⟨ro,[(l,.cells #[s1,.int .i64 u0.size,.int .i64 u0.aU.low,.int .i64 u0.aU.high,b] 50)]⟩ aI ai ?_;revert h;refine bS fun E q h=>?_;obtain rfl:=sI h;apply ag _;refine ⟨_,bD hJ fun F s=>Ay d (f.mono (cx s)) q,?_⟩;try apply ag _
 refine aJ ?_;apply ag _;exact ⟨_,Ext.refl _,Le.sub (List.nil_sublist _),_,_,rfl,a,c⟩
def ku (u0:dB)(a:Int)(b:ay)(st:((List ck)×Int)):Option (Fl ((List ck)×Int) (ck×Bool)):=
 cond (decide (st.2<(IntKind.i64.wrap ((u0.dL.length:Int) - 1)))) (aj (bH u0.dL st.2) fun c=>aj (bH u0.dL (IntKind.i64.wrap (st.2+1))) fun d=>aj (Az c d a b) fun e=>aj (so st.1 e) fun f=>some (.nx (f,(IntKind.i64.wrap (st.2+1))))) (some (.bk (st.1,st.2)))
def sr (u0:dB)(b:Int)(c:ay):Option (ck×Bool):=
 aj (bB (ku u0 b c) fu (([]:List ck),0)) fun o=>aL o (fun a=>cond (((a.1.length:Int)==0)) (some ((⟨(⟨0,0⟩:ay),(⟨0,0⟩:ay)⟩:ck),false)) (aj (bH a.1 0) fun d=>aj (jv a.1 1 (a.1.length:Int)) fun e=>aj (wQ r9 d e) fun f=>some (f,true))) (fun _ _=>none) (fun r=>some r)
theorem Gd {ro:Addr->Option Value}(u0:dB){s1:Value}(g:aB dV ro s1 u0.dL){c:Value}(ea:aB ja ro c u0.marks)(o:Int)(a:ay){r:(ck×Bool)}(h:sr u0 o a=some r):aA Tryz.prog 58 #[.agg #[s1,.int .i64 u0.size,.int .i64 u0.aU.low,.int .i64 u0.aU.high,c],.int .i64 o,.agg #[.int .i64 a.num,.int .i64 a.den]] ⟨ro,[]⟩ (fun v _=>v= .tuple #[r.1.v,.bool r.2]):=by
 obtain ⟨d3,c4,rfl,eb,ec,-⟩:=id g;unfold sr at h;refine aA.go Tryz.func58 rfl Tryz.ntmps58 Tryz.results58 av fun main J hJ A Z hd hs=>?_;have ab:=hs 0;have k1:=hs 1;have ad:=hs 2;clear hs;refine an hJ ?_;apply ag _;refine az fun d p ae=>?_;try simp only[au] at ae
 refine az fun e q al=>?_;try simp only[au] at al
 refine az fun f s ao=>?_;try simp only[au] at ao
 try apply ag _
 refine an hJ ?_;apply ag _;refine ah hJ (an hJ ?_);apply ag _;refine aW hJ ?_;revert h;refine bS fun ar t a0=>?_;refine b7 hJ (rg 15 22 [8,9]) (fun m I F'=>∃(i:Addr->Option Value) (d19:Option Addr) (j:Nat) (u:List (Nat×Obj)) (b:(List ck)) (w:Int),bB (ku u0 o a) m (b,w)=some ar/\F'=⟨i,(f,.cells #[.int .i64 0,.int .i64 0,.int .i64 0,.int .i64 0] 129)::(e,rt a.num a.den)::(d,.cells #[.slice d3 u0.dL.length c4,.int .i64 u0.size,.int .i64 u0.aU.low,.int .i64 u0.aU.high,c] 124)::u⟩/\Ext ro i/\aZ l8 i 129 (.slice d19 b.length j) b u/\b.length<=j/\slot I 8= .slice d19 b.length j/\slot I 15= .int .i64 w) fu ?_ ?_
 .refine ⟨ro,none,0,[],([]:List ck),0,t,rfl,Ext.refl _,aZ.nil _ _ _,Nat.le_refl _,?_⟩;simp only[*,go_sem]
 rintro z ed F' K ⟨i,d19,j,u,b,w,t,rfl,L,x,eh,et,ev⟩;refine fF hJ fun _ y=>?_;replace g:=g.mono L;replace s:=y.hd;replace q:=y.tl.hd;replace p:=y.tl.tl.hd;simp only[bC] at y;obtain ⟨a2,a3,a4⟩:=K.pick [1,3,5,6,7,14] aO;simp only[*,go_sem] at a2 a3 a4;clear K Z hd ab k1 ad;obtain _|z:=z
 .exact absurd t (by simp only[bB,reduceCtorEq,not_false_eq_true])
 revert t;refine bS fun eQ h B=>?_;unfold ku at h;try dsimp only at h
 refine ah hJ ?_;refine aE hJ fun eS=>?_;refine aG hJ ?_;apply ag _;refine ah hJ ?_;revert h;refine aX hJ (fun a5 h=>?_) fun a5 h=>?_
 .refine aK hJ (ah hJ ?_);refine aW hJ (ah hJ ?_);refine aE hJ fun e0=>?_;refine aG hJ ?_;apply ag _;refine aE hJ fun e1=>?_;refine eg hJ mixed 16 ⟨i,[(f,.cells #[.int .i64 0,.int .i64 0,.int .i64 0,.int .i64 0] 129),(e,rt a.num a.den),(d,.cells #[.slice d3 u0.dL.length c4,.int .i64 u0.size,.int .i64 u0.aU.low,.int .i64 u0.aU.high,c] 124)]⟩ aI ai ?_;revert h;refine bS fun M a6 h=>?_;obtain ⟨e2,e3,N⟩:=c6 a6;obtain ⟨C,a7,a8,a9,D⟩:=g.el _ _ N;obtain rfl:a7=M.cells:=a9;cases a8;have ba:=D 0 _ rfl;simp only[go_sem] at ba;have bb:=D 1 _ rfl;simp only[go_sem] at bb;clear D N;revert h;refine bS fun O bc h=>?_;obtain ⟨fa,fb,P⟩:=c6 bc;obtain ⟨fg,bd,bj,bk,E⟩:=g.el _ _ P;obtain rfl:bd=O.cells:=bk;cases bj;have bl:=E 0 _ rfl;simp only[go_sem] at bl;have bm:=E 1 _ rfl;simp only[go_sem] at bm;clear E P;revert h;refine bS fun bo br h=>?_;try apply ag _
  refine cr hJ _ (Ga M O o a br) fun v Q G k bs=>?_;obtain ⟨fi,fp,fr,rfl,bz⟩:=bs;replace s:=k.hd;replace q:=k.tl.hd;replace p:=k.tl.tl.hd;replace x:=x.mono G k.tl.tl.tl;simp only[bC] at k;have fs:=e6 (l:=[(f,.cells #[.int .i64 0,.int .i64 0,.int .i64 0,.int .i64 0] 129),(e,rt a.num a.den),(d,.cells #[.slice (some C) u0.dL.length c4,.int .i64 u0.size,.int .i64 u0.aU.low,.int .i64 u0.aU.high,c] 124)]) G (aF.cons s (aF.cons q (aF.cons p (aF.nil _))));refine ⟨aI,?_⟩;refine gX ?_;revert h;refine bS fun b0 b1 h=>?_;obtain rfl:=sI h;try apply ag _
  refine ei hJ (bh:=u) [(f,.cells #[.int .i64 0,.int .i64 0,.int .i64 0,.int .i64 0] 129),(e,rt a.num a.den),(d,.cells #[.slice (some C) u0.dL.length c4,.int .i64 u0.size,.int .i64 u0.aU.low,.int .i64 u0.aU.high,c] 124)] [] _ (Gb b x bo bz b1) (fun ft R S b2 b3 fv=>?_);simp only[bn] at b3;subst b2;obtain ⟨d56,b4,rfl,b5⟩:=S.len;refine ⟨⟨Q,(f,.cells #[.int .i64 0,.int .i64 0,.int .i64 0,.int .i64 0] 129)::(e,rt a.num a.den)::(d,.cells #[.slice (some C) u0.dL.length c4,.int .i64 u0.size,.int .i64 u0.aU.low,.int .i64 u0.aU.high,c] 124)::R⟩,Le.refl _,?_⟩;refine ⟨aI,gX ?_⟩;try apply ag _
  refine aE hJ fun fw=>?_;refine aG hJ ?_;apply ag _;try apply ag _
  refine ⟨z,Nat.lt_succ_self _,_,Le.sub (List.Sublist.refl _),Q,d56,b4,R,b0,(IntKind.i64.wrap (w+1)),B,rfl,(L.trans G),S,b5,?_⟩;simp only[*,go_sem]
 obtain rfl:=sI h;refine bT ?_;simp only[go_sem];obtain rfl:=sI B;clear B;have h:=a0;dsimp only[aL] at h;refine ah hJ (ah hJ ?_);refine aE hJ fun fx=>?_;refine aG hJ ?_;apply ag _;revert h;refine aX hJ (fun ca h=>?_) fun ca h=>?_
 .obtain rfl:=sI h;refine ah hJ ?_;refine aE hJ fun fz=>?_;refine aG hJ ?_;apply ag _;refine aJ ?_;simp only[*,go_sem]
 refine aK hJ (ah hJ ?_);refine aE hJ fun T=>?_;obtain ⟨cb,gg,cd,H,cf⟩:=x.fj [(f,.cells #[.int .i64 0,.int .i64 0,.int .i64 0,.int .i64 0] 129),(e,rt a.num a.den),(d,.cells #[.slice d3 u0.dL.length c4,.int .i64 u0.size,.int .i64 u0.aU.low,.int .i64 u0.aU.high,c] 124)] [] T (aF.cons s (aF.cons q (aF.cons p (aF.nil _))));clear T;refine cN hJ cf ?_;obtain ⟨gl,gn,-⟩:=H.op;simp only[bC] at cd;refine eg hJ mixed 6 ⟨cb,[(e,rt a.num a.den),(d,.cells #[.slice d3 u0.dL.length c4,.int .i64 u0.size,.int .i64 u0.aU.low,.int .i64 u0.aU.high,c] 124)]⟩ aI ai ?_;revert h;refine bS fun U cl h=>?_;obtain ⟨gp,gB,V⟩:=c6 cl;obtain ⟨gC,cy,cS,c0,n⟩:=H.el _ _ V;obtain rfl:cy=U.cells:=c0;cases cS;have da:=n 0 _ rfl;simp only[go_sem] at da;have db:=n 1 _ rfl;simp only[go_sem] at db;have dd:=n 2 _ rfl;simp only[go_sem] at dd;have df:=n 3 _ rfl;simp only[go_sem] at df;clear n V;revert h;refine bS fun dk dp h=>?_;obtain ⟨gV,g0,g1,W⟩:=mV dp;have X:(1:Int).toNat<=((b.length:Int)).toNat:=aa;have dq:((b.length:Int)).toNat<=j:=aa;have g2:0<=((b.length:Int)):=aa;obtain ⟨d77,ds,dt,Y⟩:=aB.mW H (1:Int).toNat ((b.length:Int)).toNat X aa W;simp only[go_sem] at ds dt X dq;obtain ⟨_,_,du,g3,g4,ha⟩:=id Y;cases du;clear W;revert h;refine bS fun hc dv h=>?_;obtain rfl:=sI h;try apply ag _
 refine ⟨_,bD hJ fun F dC=>F3 (dM:=120) (ej:=#[]) (ek:=#[]) r9 ⟨by simp only[go_sem],fun hf hg dE dT _ h=>by simp only[go_sem];exact FZ dE dT h⟩ U dk (Y.mono (cx dC)) dv,?_⟩;try apply ag _
 refine aJ ?_;simp only[*,go_sem]
def pP (u0:dB)(a:Int)(b:ay):Option (ay×ay×Bool×Int):=
 aj (pO u0 ([(k8 (⟨a,0,b,([]:(List ay)),(⟨0,(⟨0,0⟩:ay)⟩:cT),(⟨0,(⟨0,0⟩:ay)⟩:cT)⟩:dR)),(jd (⟨a,0,b,([]:(List ay)),(⟨0,(⟨0,0⟩:ay)⟩:cT),(⟨0,(⟨0,0⟩:ay)⟩:cT)⟩:dR))])) fun c=>cond ((c.2 != 0)) (some ((⟨0,0⟩:ay),(⟨0,0⟩:ay),false,c.2)) (aj (sr c.1 a b) fun d=>some (d.1.aQ,d.1.high,d.2,0))
theorem Ge {ro:Addr->Option Value}(m:dy ro)(u0:dB){s1:Value}(f:aB dV ro s1 u0.dL){g:Value}(i:aB ja ro g u0.marks)(c:Int)(a:ay){r:(ay×ay×Bool×Int)}(h:pP u0 c a=some r):aA Tryz.prog 13 #[.agg #[s1,.int .i64 u0.size,.int .i64 u0.aU.low,.int .i64 u0.aU.high,g],.int .i64 c,.agg #[.int .i64 a.num,.int .i64 a.den]] ⟨ro,[]⟩ (fun v _=>v= .tuple #[r.1.v,r.2.1.v,.bool r.2.2.1,.int .i64 r.2.2.2]):=by
 unfold pP at h;have H:=f.oc;simp only[bN] at H;have I:=i.oc;simp only[bN] at I;refine aA.go Tryz.func13 rfl Tryz.ntmps13 Tryz.results13 av fun main J hJ A K hd hs=>?_;have L:=hs 0;have k1:=hs 1;have M:=hs 2;clear hs;refine an hJ ?_;apply ag _;refine az fun n N O=>?_;try simp only[au] at O
 refine az fun p P Q=>?_;try simp only[au] at Q
 refine az fun R S T=>?_;try simp only[au] at T
 refine az fun U V W=>?_;try simp only[au] at W
 try apply ag _
 refine an hJ ?_;apply ag _;refine az fun q X Y=>?_;try simp only[au] at Y
 try apply ag _
 refine ah hJ ?_;refine aE hJ fun Z=>?_;refine aG hJ ?_;revert h;refine bS fun j ab h=>?_;apply ag _;refine az fun d s t=>?_;have w:=aY.cons t Z;try simp only[au] at t
 try apply ag _
 obtain ⟨k,z,B⟩:=e4 (b:=d) (o:=(.cells #[.func (.func 56) #[.agg #[.int .i64 c,.int .i64 0,.int .i64 a.num,.int .i64 a.den,.slice none 0 0,.int .i64 0,.int .i64 0,.int .i64 0,.int .i64 0,.int .i64 0,.int .i64 0]] #[],.func (.func 57) #[.agg #[.int .i64 c,.int .i64 0,.int .i64 a.num,.int .i64 a.den,.slice none 0 0,.int .i64 0,.int .i64 0,.int .i64 0,.int .i64 0,.int .i64 0,.int .i64 0]] #[]] 127)) [] ((q,.cells #[.int .i64 c,.int .i64 0,.int .i64 a.num,.int .i64 a.den,.slice none 0 0,.int .i64 0,.int .i64 0,.int .i64 0,.int .i64 0,.int .i64 0,.int .i64 0] 122)::(U,rt 0 0)::(R,rt 0 0)::(p,rt a.num a.den)::(n,.cells #[s1,.int .i64 u0.size,.int .i64 u0.aU.low,.int .i64 u0.aU.high,g] 50)::[]) w s (aF.cons X (aF.cons V (aF.cons S (aF.cons P (aF.cons N (aF.nil _))))));have C:aB (fH) (bR ro d (.cells #[.func (.func 56) #[.agg #[.int .i64 c,.int .i64 0,.int .i64 a.num,.int .i64 a.den,.slice none 0 0,.int .i64 0,.int .i64 0,.int .i64 0,.int .i64 0,.int .i64 0,.int .i64 0]] #[],.func (.func 57) #[.agg #[.int .i64 c,.int .i64 0,.int .i64 a.num,.int .i64 a.den,.slice none 0 0,.int .i64 0,.int .i64 0,.int .i64 0,.int .i64 0,.int .i64 0,.int .i64 0]] #[]] 127)) (.slice (some ⟨d,0,none⟩) 2 2) [(k8 (⟨c,0,a,([]:(List ay)),(⟨0,(⟨0,0⟩:ay)⟩:cT),(⟨0,(⟨0,0⟩:ay)⟩:cT)⟩:dR)),(jd (⟨c,0,a,([]:(List ay)),(⟨0,(⟨0,0⟩:ay)⟩:cT),(⟨0,(⟨0,0⟩:ay)⟩:cT)⟩:dR))]:=(aB.two (r:=(fH)) (e:=127) (v:=.func (.func 56) #[.agg #[.int .i64 c,.int .i64 0,.int .i64 a.num,.int .i64 a.den,.slice none 0 0,.int .i64 0,.int .i64 0,.int .i64 0,.int .i64 0,.int .i64 0,.int .i64 0]] #[]) (u:=.func (.func 57) #[.agg #[.int .i64 c,.int .i64 0,.int .i64 a.num,.int .i64 a.den,.slice none 0 0,.int .i64 0,.int .i64 0,.int .i64 0,.int .i64 0,.int .i64 0,.int .i64 0]] #[]) (x:=(k8 (⟨c,0,a,([]:(List ay)),(⟨0,(⟨0,0⟩:ay)⟩:cT),(⟨0,(⟨0,0⟩:ay)⟩:cT)⟩:dR))) (y:=(jd (⟨c,0,a,([]:(List ay)),(⟨0,(⟨0,0⟩:ay)⟩:cT),(⟨0,(⟨0,0⟩:ay)⟩:cT)⟩:dR))) (own:=[(d,.cells #[.func (.func 56) #[.agg #[.int .i64 c,.int .i64 0,.int .i64 a.num,.int .i64 a.den,.slice none 0 0,.int .i64 0,.int .i64 0,.int .i64 0,.int .i64 0,.int .i64 0,.int .i64 0]] #[],.func (.func 57) #[.agg #[.int .i64 c,.int .i64 0,.int .i64 a.num,.int .i64 a.den,.slice none 0 0,.int .i64 0,.int .i64 0,.int .i64 0,.int .i64 0,.int .i64 0,.int .i64 0]] #[]] 127)]) s (by simp[lk]) rfl ⟨56,#[.agg #[.int .i64 c,.int .i64 0,.int .i64 a.num,.int .i64 a.den,.slice none 0 0,.int .i64 0,.int .i64 0,.int .i64 0,.int .i64 0,.int .i64 0,.int .i64 0]],#[],rfl,⟨by simp only[go_sem],fun ad ae _ h=>by simp only[go_sem];exact F1 (⟨c,0,a,([]:(List ay)),(⟨0,(⟨0,0⟩:ay)⟩:cT),(⟨0,(⟨0,0⟩:ay)⟩:cT)⟩:dR) (aB.nil _ _) h⟩⟩ ⟨57,#[.agg #[.int .i64 c,.int .i64 0,.int .i64 a.num,.int .i64 a.den,.slice none 0 0,.int .i64 0,.int .i64 0,.int .i64 0,.int .i64 0,.int .i64 0,.int .i64 0]],#[],rfl,⟨by simp only[go_sem],fun ad ae _ h=>by simp only[go_sem];exact Ax (⟨c,0,a,([]:(List ay)),(⟨0,(⟨0,0⟩:ay)⟩:cT),(⟨0,(⟨0,0⟩:ay)⟩:cT)⟩:dR) (aB.nil _ _) h⟩⟩)
 generalize bR ro d (.cells #[.func (.func 56) #[.agg #[.int .i64 c,.int .i64 0,.int .i64 a.num,.int .i64 a.den,.slice none 0 0,.int .i64 0,.int .i64 0,.int .i64 0,.int .i64 0,.int .i64 0,.int .i64 0]] #[],.func (.func 57) #[.agg #[.int .i64 c,.int .i64 0,.int .i64 a.num,.int .i64 a.den,.slice none 0 0,.int .i64 0,.int .i64 0,.int .i64 0,.int .i64 0,.int .i64 0,.int .i64 0]] #[]] 127)=bj at C z k B;refine gK hJ B ?_;replace f:=f.mono k;replace i:=i.mono k;replace m:=m.mono k;simp only[bC] at z;have al:=aY.tl w;refine cr hJ _ (Gc m u0 f i ([(k8 (⟨c,0,a,([]:(List ay)),(⟨0,(⟨0,0⟩:ay)⟩:cT),(⟨0,(⟨0,0⟩:ay)⟩:cT)⟩:dR)),(jd (⟨c,0,a,([]:(List ay)),(⟨0,(⟨0,0⟩:ay)⟩:cT),(⟨0,(⟨0,0⟩:ay)⟩:cT)⟩:dR))]) C ab) fun v ao bk ar a0=>?_;obtain ⟨a2,a3,rfl,D,E⟩:=a0;have a4:=D.oc;simp only[bN] at a4;have a5:=E.oc;simp only[bN] at a5;simp only[bC] at ar;refine aP ?_;try apply ag _
 refine az fun a6 bl F=>?_;have a7:=aY.cons F al;try simp only[au] at F
 try apply ag _
 refine ah hJ (an hJ ?_);apply ag _;revert h;refine aX hJ (fun a8 h=>?_) fun a8 h=>?_
 .obtain rfl:=sI h;refine an hJ ?_;apply ag _;refine aJ ?_;simp only[*,go_sem]
 refine aK hJ (ah hJ ?_);refine aG hJ ?_;revert h;refine bS fun l a9 h=>?_;obtain rfl:=sI h;apply ag _;refine bf hJ _ (Gd j.1 (D.mono bg) (E.mono bg) c a a9) (aP ?_);try apply ag _
 refine az fun ba bm G=>?_;have bo:=aY.cons G a7;try simp only[au] at G
 try apply ag _
 refine ah hJ ?_;refine eU [6,7,8,9,12] fun br bb bc bd=>?_;simp only[*,go_sem] at bb bc bd;clear K hd L k1 M;refine eg hJ mixed 5 ⟨ao,[(ba,.cells #[.int .i64 l.1.aQ.num,.int .i64 l.1.aQ.den,.int .i64 l.1.high.num,.int .i64 l.1.high.den] 129),(a6,.cells #[a2,.int .i64 j.1.size,.int .i64 j.1.aU.low,.int .i64 j.1.aU.high,a3] 124),(q,.cells #[.int .i64 c,.int .i64 0,.int .i64 a.num,.int .i64 a.den,.slice none 0 0,.int .i64 0,.int .i64 0,.int .i64 0,.int .i64 0,.int .i64 0,.int .i64 0] 122),(p,rt a.num a.den),(n,.cells #[s1,.int .i64 u0.size,.int .i64 u0.aU.low,.int .i64 u0.aU.high,g] 50)]⟩ aI ai ?_;apply ag _;refine aJ ?_;simp only[*,go_sem]
end Go.Proofs.YtdgblangfefjmaaGreatDoor
end
section
namespace Go.Sep
open Go Go.Conc
variable {P:Program}{main:Bool}{J:Goroutine->af->Prop}{Q:Ex->Act->af->Prop}{a:Act}{F:af}
def Gf:cc Int:=fS 1 (fun n=>[.int .u16 n]) (fun _=>rfl) (fun _ v a=>by simp at a;subst a;rfl)
def Gg:cc Int:=fS 1 (fun n=>[.int .u8 n]) (fun _=>rfl) (fun _ v a=>by simp at a;subst a;rfl)
@[go_sem] theorem QO:Gf.n=1:=rfl
@[go_sem] theorem QS:Gg.n=1:=rfl
end Go.Sep
end
section
namespace Go.Proofs.YtdgblangfefjmaaGreatDoor
open Go Go.Sep Go.Proofs
set_option maxRecDepth 100000
set_option maxHeartbeats 4000000
def su (u0:aC)(c:bM)(st:(Int×Int×ay)):Option (Fl (Int×Int×ay) (Int×ay)):=
 cond (decide (st.2.1<(u0.aR.length:Int))) (aj (bH u0.aR st.2.1) fun b=>aj (r6 u0 c b.aQ (⟨b.high,1⟩:ay)) fun a=>cond ((st.2.1==0)) (some (.nx (st.2.1,(IntKind.i64.wrap (st.2.1+1)),a))) (aj (pq st.2.2 a) fun d=>cond (d) (some (.nx (st.2.1,(IntKind.i64.wrap (st.2.1+1)),a))) (some (.nx (st.1,(IntKind.i64.wrap (st.2.1+1)),st.2.2))))) (some (.bk (st.1,st.2.1,st.2.2)))
def AA (u0:aC)(b:bM):Option (Int×ay):=
 aj (bB (su u0 b) fu (0,0,(⟨0,0⟩:ay))) fun o=>aL o (fun a=>some (a.1,a.2.2)) (fun _ _=>none) (fun r=>some r)
def ep {α:Type}(t:Nat->α->Option Int):Nat->List α->Option Int
 |_,[]=>none
 |i,x::l=>match t i x with
  |some r=>some r
  |none=>ep t (i+1) l
def hU {σ:Type}(o:Option Int)(s:σ):Fl σ Int:=match o with
 |some r=>.rt r
 |none=>.nx s
theorem pQ {α σ:Type}{f:Nat->α->σ->Option (Fl σ Int)}{t:Nat->α->Option Int}:∀(l:List α) (i:Nat) (s:σ),(∀j x s,l[j]?=some x->f (i+j) x s=some (hU (t (i+j) x) s))->bQ f i l s=some (hU (ep t i l) s)
 |[],i,s,_=>rfl
 |x::l,i,s,h=>by
  have a:=h 0 x s rfl
  simp only[Nat.add_zero] at a
  unfold bQ ep
  rw[a]
  cases ht:t i x with
  |some r=>rfl
  |none=>
   show bQ f (i+1) l s=_
   exact pQ l (i+1) s fun j y s b=>by
    have:=h (j+1) y s (by simpa using b)
    rwa [show i+(j+1)=i+1+j by omega] at this
theorem AB {α σ:Type}{f:σ×Int->Option (Fl (σ×Int) Int)}{t:Nat->α->Option Int}(l:List α)(h:∀(i:Nat) x s,l[i]?=some x->f (s,(i:Int))=some (hU (t i x) (s,((i+1:Nat):Int))))(a:∀s,f (s,(l.length:Int))=some (.bk (s,(l.length:Int)))):
  ∀(k i n:Nat) (s:σ),i+k=l.length->k<n->bB f n (s,(i:Int))=some (hU (ep t i (l.drop i)) (s,(l.length:Int)))
 |0,i,n+1,s,c,_=>by
  obtain rfl:i=l.length:=aa
  unfold bB
  rw[a,List.drop_length]
  rfl
 |k+1,i,n+1,s,c,e=>by
  have b:i<l.length:=aa
  have d:l[i]?=some l[i]:=List.getElem?_eq_getElem b
  unfold bB
  rw[h i _ s d,List.drop_eq_getElem_cons b]
  unfold ep
  cases ht:t i l[i] with
  |some r=>rfl
  |none=>exact AB l h a k (i+1) n s aa aa
theorem sw {α σ:Type}{f:σ×Int->Option (Fl (σ×Int) Int)}{t:Nat->α->Option Int}(l:List α)(a:l.length<=1000)(h:∀(i:Nat) x s,l[i]?=some x->f (s,(i:Int))=some (hU (t i x) (s,((i+1:Nat):Int))))(b:∀s,f (s,(l.length:Int))=some (.bk (s,(l.length:Int))))(s:σ):
  bB f fu (s,0)=some (hU (ep t 0 l) (s,(l.length:Int))):=by
 have:=AB l h b l.length 0 fu s aa (Nat.lt_of_le_of_lt a aO)
 simpa using this
theorem k9:fV=eB:=rfl
theorem Gh:oX=mq:=rfl
def bW (a b c:Int):Bool:=decide (b<=a)&&decide (a<=c)
theorem eW (a b c:Int):eB a b c=some (bW a b c):=by
 unfold eB bW;cases decide (b<=a)<;>rfl
def lf (b:dK)(a c:Int):Bool:=decide (a<=b.low)&&(decide (b.low<=b.high)&&decide (b.high<=c))
theorem AD (b:dK)(a c:Int):mq b a c=some (lf b a c):=by
 unfold mq lf;cases decide (a<=b.low)<;>cases decide (b.low<=b.high)<;>rfl
theorem eO {n:Int}(h: -9223372036854775808<=n/\n<9223372036854775808):IntKind.i64.wrap n=n:=IntWalk.i64_in _ (by constructor<;>omega)
def gP (u:aC)(i:Nat)(x:b8):Option Int:=
 cond (bW x.aQ 0 (IntKind.i64.wrap (u.bE - 1))) (cond (bW x.high 0 60) (match i with
  |0=>none
  |j+1=>match u.aR[j]? with
   |some y=>cond (decide (x.aQ<=y.aQ)) (some 7) none
   |none=>none) (some 1)) (some 1)
theorem AE (u:aC)(h:u.aR.length<=20):kZ u=some (cond (bW u.aR.length 2 5) ((ep (gP u) 0 u.aR).getD 0) 2)/\mA u=kZ u:=by
 have key:kZ u=some (cond (bW u.aR.length 2 5) ((ep (gP u) 0 u.aR).getD 0) 2):=by
  unfold kZ;rw[k9,eW];show cond (!bW (u.aR.length:Int) 2 5) _ _=_;cases bW (u.aR.length:Int) 2 5 with
  |false=>rfl
  |true=>
   show aj (bQ _ 0 u.aR 0) _=_;rw[pQ (t:=gP u) u.aR 0 0 ?_]
   .show aL (hU _ _) _ _ _=_;cases ep (gP u) 0 u.aR<;>rfl
   .intro j x s b;rw[Nat.zero_add];unfold q6 gP;rw[k9,eW,eW];show cond (!bW x.aQ 0 _) _ _=_;cases bW x.aQ 0 (IntKind.i64.wrap (u.bE - 1)) with
    |false=>rfl
    |true=>
     show cond (!bW x.high 0 60) _ _=_;cases bW x.high 0 60 with
     |false=>rfl
     |true=>
      cases j with
      |zero=>rfl
      |succ j=>
       have e:=(List.getElem?_eq_some_iff.1 b).1;have a:u.aR[j]?=some u.aR[j]:=List.getElem?_eq_getElem aa;have hw:IntKind.i64.wrap (((j+1:Nat):Int) - 1)=(j:Int):=by rw[eO aa];omega
       have hd:decide (0<((j+1:Nat):Int))=true:=decide_eq_true aa;show cond (decide (0<((j+1:Nat):Int))) _ _=_;rw[hd,hw];have c:bH u.aR (j:Int)=some u.aR[j]:=by unfold bH;rw[if_pos aa,Int.toNat_natCast,a]
       show aj (bH u.aR (j:Int)) _=_;rw[c];simp only[a];show cond (decide (x.aQ<=u.aR[j].aQ)) _ _=_;cases decide (x.aQ<=u.aR[j].aQ)<;>rfl
 refine ⟨key,?_⟩;rw[key];unfold mA;rw[eW];show cond (!bW (u.aR.length:Int) 2 5) _ _=_;cases bW (u.aR.length:Int) 2 5 with
 |false=>rfl
 |true=>
  show aj (bB _ fu (0,0)) _=_;rw[sw (t:=gP u) u.aR aa ?_ ?_ 0]
  .show aL (hU _ _) _ _ _=_;cases ep (gP u) 0 u.aR<;>rfl
  .intro j x s b;unfold pF gP;have e:=(List.getElem?_eq_some_iff.1 b).1;have d:decide ((j:Int)<(u.aR.length:Int))=true:=decide_eq_true aa;have f:bH u.aR (j:Int)=some x:=by unfold bH;rw[if_pos aa,Int.toNat_natCast,b]
   have g:IntKind.i64.wrap ((j:Int)+1)=((j+1:Nat):Int):=by rw[eO aa];omega
   show cond (decide ((j:Int)<(u.aR.length:Int))) (aj (bH u.aR (j:Int)) _) _=_;rw[d,f,cond_true];show aj (eB x.aQ 0 (IntKind.i64.wrap (u.bE - 1))) _=_;rw[eW];show cond (!bW x.aQ 0 _) _ (aj (eB x.high 0 60) _)=_;rw[eW];cases bW x.aQ 0 (IntKind.i64.wrap (u.bE - 1)) with
   |false=>rfl
   |true=>
    show cond (!bW x.high 0 60) _ _=_;cases bW x.high 0 60 with
    |false=>rfl
    |true=>
     cases j with
     |zero=>rfl
     |succ j=>
      have a:u.aR[j]?=some u.aR[j]:=List.getElem?_eq_getElem aa;have hw:IntKind.i64.wrap (((j+1:Nat):Int) - 1)=(j:Int):=by rw[eO aa];omega
      have hd:decide (0<((j+1:Nat):Int))=true:=decide_eq_true aa;have c:bH u.aR (j:Int)=some u.aR[j]:=by unfold bH;rw[if_pos aa,Int.toNat_natCast,a]
      dsimp only;simp only[hd,hw,c,g,a,aj,cond_true,Bool.not_true,cond_false];cases decide (x.aQ<=u.aR[j].aQ)<;>rfl
  .intro s;unfold pF;have d:decide ((u.aR.length:Int)<(u.aR.length:Int))=false:=decide_eq_false aa;show cond (decide ((u.aR.length:Int)<(u.aR.length:Int))) _ _=_;rw[d];rfl
theorem sx {ρ:Type}{f:Int×Int->Option (Fl (Int×Int) ρ)}(d:∀a b:Nat,a<9223372036854775808->b<9223372036854775808->b≠0->f ((a:Int),(b:Int))=some (.nx ((b:Int),((a % b:Nat):Int))))(e:∀a:Nat,f ((a:Int),0)=some (.bk ((a:Int),0))):
  ∀(b a k:Nat),a<9223372036854775808->b<9223372036854775808->b<k->bB f k ((a:Int),(b:Int))=some (.nx (((Nat.gcd a b:Nat):Int),0)):=by
 intro b
 induction b using Nat.strongRecOn with
 |ind b ih=>
  intro a k g hb h
  obtain ⟨k,rfl⟩:∃m,k=m+1:=⟨k - 1,aa⟩
  unfold bB
  by_cases c:b=0
  .subst c
   have:=e a
   rw[show ((0:Nat):Int)=0 from rfl,this,Nat.gcd_zero_right]
   rfl
  .rw[d a b g hb c]
   show bB f k ((b:Int),((a % b:Nat):Int))=_
   have hm:a % b<b:=Nat.mod_lt _ aa
   rw[ih (a % b) hm b k hb aa aa,Nat.gcd_comm a b,Nat.gcd_rec b a,Nat.gcd_comm]
theorem sA (a b:Nat)(d:a<9223372036854775808)(hb:b<9223372036854775808)(h:b≠0):g5 (a:Int) (b:Int)=some ((a % b:Nat):Int):=by
 unfold g5;have c:¬(b:Int)=0:=aa;rw[if_neg c];have e:((a:Int).tmod (b:Int))=((a % b:Nat):Int):=by
  rw[Int.tmod_eq_emod_of_nonneg aa];rfl
 rw[e]
theorem Gi (a k:Nat)(b:Nat)(c:a<9223372036854775808)(hb:b<9223372036854775808)(d:b<k):bB oY k ((a:Int),(b:Int))=some (.nx (((Nat.gcd a b:Nat):Int),0)):=by
 refine sx (fun a b c hb e=>?_) (fun a=>rfl) b a k c hb d;unfold oY;have:(((b:Nat):Int) != 0)=true:=by simp;omega
 dsimp only;rw[this,sA a b c hb e];rfl
theorem Gj (a k:Nat)(b:Nat)(c:a<9223372036854775808)(hb:b<9223372036854775808)(d:b<k):bB nD k ((a:Int),(b:Int))=some (.nx (((Nat.gcd a b:Nat):Int),0)):=by
 refine sx (fun a b c hb e=>?_) (fun a=>rfl) b a k c hb d;unfold nD;have:decide (0<((b:Nat):Int))=true:=decide_eq_true aa;dsimp only;rw[this,sA a b c hb e];rfl
def bJ (n:Int)(d:Nat):ay:=⟨n.tdiv (Nat.gcd n.natAbs d:Nat),(d:Int).tdiv (Nat.gcd n.natAbs d:Nat)⟩
theorem lg (a b:Int)(hb:0<b)(c: -9000000000000000000<=a/\a<=9000000000000000000):eG a b=some (a.tdiv b):=by
 unfold eG;rw[if_neg aa];congr 1;have d:(a.tdiv b).natAbs<=a.natAbs:=by rw[Int.natAbs_tdiv];exact Nat.div_le_self _ _
 exact eO aa
theorem wV (n:Int)(h: -9000000000000000000<=n/\n<=9000000000000000000):(if n<IntKind.i64.wrap (0 - n) then IntKind.i64.wrap (0 - n) else n)=(n.natAbs:Int):=by
 rw[eO aa];split<;>omega
theorem sB (n:Int)(d:Nat)(a: -9000000000000000000<=n/\n<=9000000000000000000)(hd:0<d)(b:d<900000000000000000):j7 n d=some (bJ n d):=by
 unfold j7;rw[wV n a,Gi n.natAbs fu d aa aa (Nat.lt_trans b aO)];have hg:0<Nat.gcd n.natAbs d:=Nat.gcd_pos_of_pos_right _ hd;show aj (eG n _) (fun x=>aj (eG d _) fun y=>_)=_;rw[lg n _ aa a,lg d _ aa aa];rfl
theorem pR (n:Int)(d:Nat)(a: -9000000000000000000<=n/\n<=9000000000000000000)(hd:0<d)(b:d<900000000000000000):jI n d=some (bJ n d):=by
 unfold jI;have:decide ((d:Int)<0)=false:=decide_eq_false aa;rw[this];show aj (bB nD fu _) _=_;rw[wV n a,Gj n.natAbs fu d aa aa (Nat.lt_trans b aO)];have hg:0<Nat.gcd n.natAbs d:=Nat.gcd_pos_of_pos_right _ hd;show aj (eG n _) (fun x=>aj (eG d _) fun y=>_)=_;rw[lg n _ aa a,lg d _ aa aa];rfl
def iE (u:aC)(f:Int->Bool)(_:Nat)(x:c7):Option Int:=cond (f x.place) (cond (bW x.fG 1 20) none (some 1)) (some 6)
def iF (_:Nat)(x:dc):Option Int:=cond (bW x.back 1 20) (cond (lf x.high 0 60) (cond (decide (3<=IntKind.i64.wrap (x.high.high - x.high.low))) (some 1) none) (some 1)) (some 1)
def lp (u:aC)(i:Int):Bool:=bW i 0 (IntKind.i64.wrap ((u.aU.length:Int) - 1))
def jK (u:aC)(_:Nat)(x:cn):Option Int:=cond (lp u x.aS) none (some 6)
theorem AF (u:aC)(i:Int):nC u i=some (lp u i)/\m3 u i=some (lp u i):=by
 constructor
 .unfold nC;rw[eW];rfl
 .unfold m3;rw[k9,eW];rfl
theorem Gk (u:aC)(h:Int):hH h u=some (cond (bW h 1 20) 0 1):=by
 unfold hH;rw[k9,eW];show cond (!bW h 1 20) _ _=_;cases bW h 1 20<;>rfl
theorem AG (u:aC)(h:0<u.aR.length)(c:u.aR.length<=20):∃f:Int->Bool,∀p,iB u p=some (f p)/\nB u p=some (f p):=by
 have a:u.aR[0]?=some u.aR[0]:=List.getElem?_eq_getElem h;have b:u.aR[u.aR.length - 1]?=some (u.aR[u.aR.length - 1]'aa):=List.getElem?_eq_getElem _;have hw:IntKind.i64.wrap ((u.aR.length:Int) - 1)=((u.aR.length - 1:Nat):Int):=by rw[eO aa];omega
 have e0:bH u.aR 0=some u.aR[0]:=a;have e1:bH u.aR ((u.aR.length - 1:Nat):Int)=some (u.aR[u.aR.length - 1]'aa):=by unfold bH;rw[if_pos aa,Int.toNat_natCast,b]
 refine ⟨fun p=>bW p (u.aR[0]).aQ (u.aR[u.aR.length - 1]'aa).aQ,fun p=>?_⟩;have k:iB u p=some (bW p (u.aR[0]).aQ (u.aR[u.aR.length - 1]'aa).aQ):=by
  unfold iB;rw[hw,e0,e1,k9];simp only[aj,eW]
 exact ⟨k,k⟩
def gV (u:aC):Int:=cond (bW u.bE 2 60) (cond (bW u.cD 0 60) (cond (bW u.bx.den 1 20) (cond (bW u.bx.num 0 20) (cond (((bJ u.bx.num u.bx.den.toNat).num==u.bx.num)&&((bJ u.bx.num u.bx.den.toNat).den==u.bx.den)) 0 3) 1) 1) 1) 1
theorem fW {a b c:Int}:bW a b c=true↔b<=a/\a<=c:=by unfold bW;simp
theorem AH (u:aC):m6 u=some (gV u):=by
 unfold m6 gV;rw[k9];simp only[eW,aj];cases c:bW u.bE 2 60 with
 |false=>rfl
 |true=>
  cases d:bW u.cD 0 60 with
  |false=>rfl
  |true=>
   cases a:bW u.bx.den 1 20 with
   |false=>rfl
   |true=>
    cases b:bW u.bx.num 0 20 with
    |false=>rfl
    |true=>
     rw[fW] at a b;have hd:u.bx.den=(u.bx.den.toNat:Int):=aa;have:=sB u.bx.num u.bx.den.toNat aa aa aa;rw[<-hd] at this;simp only[this,cond_true,Bool.not_true,cond_false];cases (((bJ u.bx.num u.bx.den.toNat).num==u.bx.num)&&((bJ u.bx.num u.bx.den.toNat).den==u.bx.den))<;>rfl
theorem Gl (u:aC):mC u=cond (gV u != 0) (some (gV u)) (aj (mA u) fun x=>cond (x != 0) (some x) (mB u)):=by
 unfold mC gV;simp only[eW,aj];cases c:bW u.bE 2 60 with
 |false=>rfl
 |true=>
  cases d:bW u.cD 0 60 with
  |false=>rfl
  |true=>
   cases a:bW u.bx.den 1 20 with
   |false=>rfl
   |true=>
    cases b:bW u.bx.num 0 20 with
    |false=>rfl
    |true=>
     rw[fW] at a b;have hd:u.bx.den=(u.bx.den.toNat:Int):=aa;have:=pR u.bx.num u.bx.den.toNat aa aa aa;rw[<-hd] at this;simp only[this,cond_true,Bool.not_true,cond_false];cases (((bJ u.bx.num u.bx.den.toNat).num==u.bx.num)&&((bJ u.bx.num u.bx.den.toNat).den==u.bx.den)) with
     |false=>rfl
     |true=>
      simp only[Bool.not_true,cond_false,cond_true,bne_self_eq_false];cases mA u with
      |none=>rfl
      |some x=>
       dsimp only;cases mB u<;>rfl
theorem wW (u:aC):me u=some (cond (decide (3<(u.told.length:Int))) 2 ((ep (jK u) 0 u.told).getD 0)):=by
 unfold me;cases decide (3<(u.told.length:Int)) with
 |true=>rfl
 |false=>
  show aj (bQ _ 0 u.told 0) _=_;rw[pQ (t:=jK u) u.told 0 0 ?_]
  .show aL (hU _ _) _ _ _=_;cases ep (jK u) 0 u.told<;>rfl
  .intro j x s a;unfold q3 jK;simp only[AF,aj];cases lp u x.aS<;>rfl
theorem wX (u:aC):mg u=some (cond (bW u.aU.length 1 3) ((ep iF 0 u.aU).getD 0) 2):=by
 unfold mg;rw[k9,eW];simp only[aj];cases bW (u.aU.length:Int) 1 3 with
 |false=>rfl
 |true=>
  simp only[Bool.not_true,cond_false,cond_true];rw[pQ (t:=iF) u.aU 0 0 ?_]
  .show aL (hU _ _) _ _ _=_;cases ep iF 0 u.aU<;>rfl
  .intro j x s a;unfold q4 iF;simp only[k9,Gh,eW,AD,aj];cases bW x.back 1 20 with
   |false=>rfl
   |true=>
    cases lf x.high 0 60 with
    |false=>rfl
    |true=>
     simp only[Bool.not_true,cond_false,cond_true];cases decide (3<=IntKind.i64.wrap (x.high.high - x.high.low))<;>rfl
theorem wY (u:aC)(f:Int->Bool)(a:∀p,iB u p=some (f p)/\nB u p=some (f p)):mh u=some (cond (decide (3<(u.props.length:Int))) 2 ((ep (iE u f) 0 u.props).getD 0)):=by
 unfold mh;cases decide (3<(u.props.length:Int)) with
 |true=>rfl
 |false=>
  show aj (bQ _ 0 u.props 0) _=_;rw[pQ (t:=iE u f) u.props 0 0 ?_]
  .show aL (hU _ _) _ _ _=_;cases ep (iE u f) 0 u.props<;>rfl
  .intro j x s b;unfold q5 iE;simp only[(a x.place).1,Gk,aj];cases f x.place with
   |false=>rfl
   |true=>
    cases bW x.fG 1 20<;>rfl
theorem mE {α:Type}{t:Nat->α->Option Int}(h:∀i x r,t i x=some r->r≠0):∀(l:List α) (i:Nat) (r:Int),ep t i l=some r->r≠0
 |[],i,r,e=>by cases e
 |x::l,i,r,e=>by
  unfold ep at e
  cases ht:t i x with
  |some a=>rw[ht] at e;cases e;exact h i x _ ht
  |none=>rw[ht] at e;exact mE h l (i+1) r e
theorem AI (u:aC)(f:Int->Bool)(i:Nat)(x:c7)(r:Int)(h:iE u f i x=some r):r≠0:=by
 unfold iE at h;revert h;cases f x.place<;>cases bW x.fG 1 20<;>intro h<;>cases h<;>decide
theorem AJ (i:Nat)(x:dc)(r:Int)(h:iF i x=some r):r≠0:=by
 unfold iF at h;revert h;cases bW x.back 1 20<;>cases lf x.high 0 60<;>cases decide (3<=IntKind.i64.wrap (x.high.high - x.high.low))<;>intro h<;>cases h<;>decide
theorem Gm (u:aC)(i:Nat)(x:cn)(r:Int)(h:jK u i x=some r):r≠0:=by
 unfold jK at h;revert h;cases lp u x.aS<;>intro h<;>cases h<;>decide
theorem AK {o:Option Int}(h:∀r,o=some r->r≠0):(o.getD 0 != 0)=o.isSome:=by
 cases o with
 |none=>rfl
 |some r=>simpa using h r rfl
theorem Gn (u:aC)(f:Int->Bool)(e:∀p,iB u p=some (f p)/\nB u p=some (f p))(h:u.props.length<=20)(i:u.aU.length<=20)(k:u.told.length<=20):
  mB u=aj (mh u) fun x=>cond (x != 0) (some x) (aj (mg u) fun y=>cond (y != 0) (some y) (me u)):=by
 rw[wY u f e,wX,wW]
 unfold mB
 simp only[aj]
 cases l:decide (3<(u.props.length:Int)) with
 |true=>rfl
 |false=>
  simp only[cond_false]
  rw[sw (t:=iE u f) u.props aa ?_ ?_ 0]
  .rw[AK (mE (AI u f) u.props 0)]
   cases ep (iE u f) 0 u.props with
   |some r=>rfl
   |none=>
    simp only[hU,aL,Option.isSome_none,cond_false,eW]
    cases m:bW (u.aU.length:Int) 1 3 with
    |false=>rfl
    |true=>
     simp only[Bool.not_true,cond_false,cond_true]
     rw[sw (t:=iF) u.aU aa ?_ ?_ 0]
     .rw[AK (mE AJ u.aU 0)]
      cases ep iF 0 u.aU with
      |some r=>rfl
      |none=>
       simp only[hU,aL,Option.isSome_none,cond_false]
       cases n:decide (3<(u.told.length:Int)) with
       |true=>rfl
       |false=>
        simp only[cond_false]
        rw[sw (t:=jK u) u.told aa ?_ ?_ 0]
        .cases ep (jK u) 0 u.told<;>rfl
        .intro j x s b
         have g:=(List.getElem?_eq_some_iff.1 b).1
         have a:decide ((j:Int)<(u.told.length:Int))=true:=decide_eq_true aa
         have c:bH u.told (j:Int)=some x:=by unfold bH;rw[if_pos aa,Int.toNat_natCast,b]
         have d:IntKind.i64.wrap ((j:Int)+1)=((j+1:Nat):Int):=by rw[eO aa];omega
         unfold wL jK
         simp only[a,c,d,aj,AF,cond_true]
         cases lp u x.aS<;>rfl
        .intro s
         have a:decide ((u.told.length:Int)<(u.told.length:Int))=false:=decide_eq_false aa
         unfold wL
         simp only[a,cond_false]
     .intro j x s b
      have g:=(List.getElem?_eq_some_iff.1 b).1
      have a:decide ((j:Int)<(u.aU.length:Int))=true:=decide_eq_true aa
      have c:bH u.aU (j:Int)=some x:=by unfold bH;rw[if_pos aa,Int.toNat_natCast,b]
      have d:IntKind.i64.wrap ((j:Int)+1)=((j+1:Nat):Int):=by rw[eO aa];omega
      unfold wK iF
      simp only[a,c,d,aj,eW,AD,cond_true]
      cases bW x.back 1 20<;>cases lf x.high 0 60<;>cases decide (3<=IntKind.i64.wrap (x.high.high - x.high.low))<;>rfl
     .intro s
      have a:decide ((u.aU.length:Int)<(u.aU.length:Int))=false:=decide_eq_false aa
      unfold wK
      simp only[a,cond_false]
  .intro j x s b
   have g:=(List.getElem?_eq_some_iff.1 b).1
   have a:decide ((j:Int)<(u.props.length:Int))=true:=decide_eq_true aa
   have c:bH u.props (j:Int)=some x:=by unfold bH;rw[if_pos aa,Int.toNat_natCast,b]
   have d:IntKind.i64.wrap ((j:Int)+1)=((j+1:Nat):Int):=by rw[eO aa];omega
   unfold pG iE
   simp only[a,c,d,aj,eW,(e x.place).2,cond_true]
   cases f x.place<;>cases bW x.fG 1 20<;>rfl
  .intro s
   have a:decide ((u.props.length:Int)<(u.props.length:Int))=false:=decide_eq_false aa
   unfold pG
   simp only[a,cond_false]
theorem AL (x:Int):cond (x != 0) (some x) (some 0)=some x:=by
 cases h:(x != 0) with
 |true=>rfl
 |false=>
  have:x=0:=by simpa using h
  rw[this];rfl
theorem Gq (u:aC)(a:u.aR.length<=20)(d:u.props.length<=20)(e:u.aU.length<=20)(g:u.told.length<=20):jD u=mC u/\∃r,jD u=some r:=by
 obtain ⟨he,h⟩:=AE u a;rw[Gl,h];show mj u=_/\∃r,mj u=some r;unfold mj;rw[AH];simp only[aj];cases hg:(gV u != 0) with
 |true=>exact ⟨rfl,_,rfl⟩
 |false=>
  simp only[cond_false];unfold nc;rw[he];simp only[aj];cases b:((cond (bW u.aR.length 2 5) ((ep (gP u) 0 u.aR).getD 0) 2) != 0) with
  |true=>exact ⟨rfl,_,rfl⟩
  |false=>
   simp only[cond_false];have hb:bW u.aR.length 2 5=true:=by
    cases hb:bW (u.aR.length:Int) 2 5 with
    |true=>rfl
    |false=>rw[hb] at b;cases b
   have i:=fW.1 hb;obtain ⟨f,c⟩:=AG u aa a;rw[Gn u f c d e g];unfold m9;rw[wY u f c];simp only[aj];cases j:((cond (decide (3<(u.props.length:Int))) 2 ((ep (iE u f) 0 u.props).getD 0)) != 0) with
   |true=>exact ⟨rfl,_,rfl⟩
   |false=>
    simp only[cond_false];unfold m8;rw[wX];simp only[aj];cases k:((cond (bW u.aU.length 1 3) ((ep iF 0 u.aU).getD 0) 2) != 0) with
    |true=>exact ⟨rfl,_,rfl⟩
    |false=>
     simp only[cond_false];unfold m7 o7;rw[wW];simp only[aj];rw[AL];exact ⟨rfl,_,rfl⟩
theorem pS {α:Type}{t:Nat->α->Option Int}:∀(l:List α) (i:Nat),ep t i l=none->∀j x,l[j]?=some x->t (i+j) x=none
 |[],i,_,j,x,a=>by simp at a
 |y::l,i,h,j,x,a=>by
  unfold ep at h
  cases ht:t i y with
  |some r=>rw[ht] at h;cases h
  |none=>
   rw[ht] at h
   cases j with
   |zero=>simp at a;subst a;exact ht
   |succ j=>
    have:=pS l (i+1) h j x (by simpa using a)
    rwa [show i+1+j=i+(j+1) by omega] at this
structure Fit (u:aC):Prop where
 bE:2<=u.bE/\u.bE<=60
 cD:0<=u.cD/\u.cD<=60
 den:1<=u.bx.den/\u.bx.den<=20
 num:0<=u.bx.num/\u.bx.num<=20
 aR:2<=u.aR.length/\u.aR.length<=5
 lq:∀(i:Nat) x,u.aR[i]?=some x->(0<=x.aQ/\x.aQ<=u.bE - 1)/\0<=x.high/\x.high<=60
 QT:∀(i:Nat) x y,u.aR[i]?=some x->u.aR[i+1]?=some y->x.aQ<y.aQ
 props:u.props.length<=3
 prop:∀(i:Nat) x,u.props[i]?=some x->iB u x.place=some true/\1<=x.fG/\x.fG<=20
 aU:1<=u.aU.length/\u.aU.length<=3
 aS:∀(i:Nat) x,u.aU[i]?=some x->(1<=x.back/\x.back<=20)/\0<=x.high.low/\x.high.low<=x.high.high/\x.high.high<=60/\x.high.high - x.high.low<3
 told:u.told.length<=3
 QU:∀(i:Nat) x,u.told[i]?=some x->0<=x.aS/\x.aS<u.aU.length
theorem sC {o:Option Int}(h:∀r,o=some r->r≠0)(a:o.getD 0=0):o=none:=by
 cases o with
 |none=>rfl
 |some r=>exact absurd a (h r rfl)
theorem Gs (u:aC)(i:Nat)(x:b8)(r:Int)(h:gP u i x=some r):r≠0:=by
 unfold gP at h;revert h;cases bW x.aQ 0 (IntKind.i64.wrap (u.bE - 1))<;>cases bW x.high 0 60<;>try (intro h;cases h;decide)
 cases i with
 |zero=>intro h;cases h
 |succ j=>
  simp only[cond_true];cases u.aR[j]? with
  |none=>intro h;cases h
  |some y=>dsimp only;cases decide (x.aQ<=y.aQ)<;>intro h<;>cases h<;>decide
theorem Gt (u:aC)(o:u.aR.length<=20)(h:jD u=some 0):Fit u:=by
 have a:mj u=some 0:=h;clear h;unfold mj at a;rw[AH] at a;simp only[aj] at a;have hg:gV u=0:=by
  cases hg:(gV u != 0) with
  |true=>rw[hg] at a;exact Option.some.inj a
  |false=>simpa using hg
 rw[hg] at a;have a:nc u=some 0:=a;unfold nc at a;rw[(AE u o).1] at a;simp only[aj] at a;generalize g:cond (bW (u.aR.length:Int) 2 5) ((ep (gP u) 0 u.aR).getD 0) 2=E at a;have z:E=0:=by
  cases d:(E != 0) with
  |true=>rw[d] at a;exact Option.some.inj a
  |false=>simpa using d
 rw[z] at a g;have a:m9 u=some 0:=a;have hb:bW (u.aR.length:Int) 2 5=true:=by
  cases hb:bW (u.aR.length:Int) 2 5 with
  |true=>rfl
  |false=>rw[hb] at g;cases g
 rw[hb] at g;have M:=fW.1 hb;have p:=pS u.aR 0 (sC (mE (Gs u) u.aR 0) g);obtain ⟨f,q⟩:=AG u aa o;unfold m9 at a;rw[wY u f q] at a;simp only[aj] at a;generalize j:cond (decide (3<(u.props.length:Int))) 2 ((ep (iE u f) 0 u.props).getD 0)=r at a;have A:r=0:=by
  cases d:(r != 0) with
  |true=>rw[d] at a;exact Option.some.inj a
  |false=>simpa using d
 rw[A] at a j;have a:m8 u=some 0:=a;have s:decide (3<(u.props.length:Int))=false:=by
  cases hb:decide (3<(u.props.length:Int)) with
  |false=>rfl
  |true=>rw[hb] at j;cases j
 rw[s] at j;have B:=pS u.props 0 (sC (mE (AI u f) u.props 0) j);unfold m8 at a;rw[wX] at a;simp only[aj] at a;generalize k:cond (bW (u.aU.length:Int) 1 3) ((ep iF 0 u.aU).getD 0) 2=t at a;have C:t=0:=by
  cases d:(t != 0) with
  |true=>rw[d] at a;exact Option.some.inj a
  |false=>simpa using d
 rw[C] at a k;have a:m7 u=some 0:=a;have v:bW (u.aU.length:Int) 1 3=true:=by
  cases hb:bW (u.aU.length:Int) 1 3 with
  |true=>rfl
  |false=>rw[hb] at k;cases k
 rw[v] at k;have N:=fW.1 v;have D:=pS u.aU 0 (sC (mE AJ u.aU 0) k);unfold m7 o7 at a;rw[wW] at a;simp only[aj] at a;rw[AL] at a;have l:=Option.some.inj a;have w:decide (3<(u.told.length:Int))=false:=by
  cases hb:decide (3<(u.told.length:Int)) with
  |false=>rfl
  |true=>rw[hb] at l;cases l
 rw[w] at l;have F:=pS u.told 0 (sC (mE (Gm u) u.told 0) l);have O:=of_decide_eq_false s;have P:=of_decide_eq_false w;clear a g j k l;have G:(2<=u.bE/\u.bE<=60)/\(0<=u.cD/\u.cD<=60)/\(1<=u.bx.den/\u.bx.den<=20)/\(0<=u.bx.num/\u.bx.num<=20):=by
  unfold gV at hg;refine ⟨fW.1 ?_,fW.1 ?_,fW.1 ?_,fW.1 ?_⟩<;>revert hg<;>cases bW u.bE 2 60<;>cases bW u.cD 0 60<;>cases bW u.bx.den 1 20<;>cases bW u.bx.num 0 20<;>intro hg<;>first|rfl|cases hg
 obtain ⟨H,I,J,K⟩:=G;have hw:IntKind.i64.wrap (u.bE - 1)=u.bE - 1:=eO aa;have m:∀(i:Nat) x,u.aR[i]?=some x->bW x.aQ 0 (u.bE - 1)=true/\bW x.high 0 60=true:=by
  intro i x b;have:=p i x b;unfold gP at this;rw[hw] at this;revert this;cases bW x.aQ 0 (u.bE - 1)<;>cases bW x.high 0 60<;>intro h<;>first|exact ⟨rfl,rfl⟩|cases h
 refine ⟨H,I,J,K,aa,fun i x b=>⟨fW.1 (m i x b).1,fW.1 (m i x b).2⟩,fun i x y b n=>?_,aa,fun i x b=>?_,aa,fun i x b=>?_,aa,fun i x b=>?_⟩
 .have:=p (i+1) y n;rw[Nat.zero_add] at this;unfold gP at this;rw[hw,(m _ _ n).1,(m _ _ n).2] at this;simp only[cond_true,b] at this;cases hd:decide (y.aQ<=x.aQ) with
  |true=>rw[hd] at this;cases this
  |false=>have:=of_decide_eq_false hd;omega
 .have:=B i x b;unfold iE at this;revert this;rw[(q x.place).1];cases f x.place<;>cases hb:bW x.fG 1 20<;>intro h<;>first|exact ⟨rfl,fW.1 hb⟩|cases h
 .have:=D i x b;unfold iF at this;cases c:bW x.back 1 20 with
  |false=>rw[c] at this;cases this
  |true=>
   cases e:lf x.high 0 60 with
   |false=>rw[c,e] at this;cases this
   |true=>
    rw[c,e] at this;unfold lf at e;simp only[Bool.and_eq_true,decide_eq_true_eq] at e;refine ⟨fW.1 c,e.1,e.2.1,e.2.2,?_⟩;cases hd:decide (3<=IntKind.i64.wrap (x.high.high - x.high.low)) with
    |true=>rw[hd] at this;cases this
    |false=>
     have L:=of_decide_eq_false hd;rw[eO aa] at L;omega
 .have:=F i x b;unfold jK at this;cases c:lp u x.aS with
  |false=>rw[c] at this;cases this
  |true=>
   unfold lp at c;rw[eO aa] at c;have:=fW.1 c;omega
end Go.Proofs.YtdgblangfefjmaaGreatDoor
end

/- A part of the proof of a row and its tied card: Q12. -/
import Derived.Test.YtjepffnffjdloaaGreatDoorQ11
import Derived.Test.YtjepffnffjdloaaGreatDoorTie
import Derived.Test.YtjepffnffjdloaaGreatDoorCards
import Derived.SevenTiedAt
set_option linter.all false
section
namespace Go.Proofs.YtjepffnffjdloaaGreatDoor
open Go Go.Sep Go.Proofs Go.ChangeShapes Go.WideShapes Go.ChangeAt Go.RowKit Go.Conc Go.ConcM
set_option maxRecDepth 100000
set_option maxHeartbeats 4000000
section
variable {H : Type} {enc : TypeId × Value → H} {w : World} {base : Nat} {spare : Nat → Bool} {held : Bool}
theorem iw:Tryz.prog.cellsOf 3=1:=by kernel_rfl
theorem Kp:Tryz.prog.cellsOf 4=1:=by kernel_rfl
theorem iy {n:Nat}{cs:List Value}{y:DataW H×List MemPlace}(h:DataW.trod enc Tryz.prog w base spare held n 3 cs=some y):∃z:Int,cs=[.int .i64 z]:=by
 obtain ⟨z,h,_⟩:=DataW.trod_int Tryz.underlying3 h
 exact ⟨z,h⟩
theorem Kq {n:Nat}{cs:List Value}{y:DataW H×List MemPlace}(h:DataW.trod enc Tryz.prog w base spare held n 4 cs=some y):∃z:Bool,cs=[.bool z]:=by
 obtain ⟨z,h,_⟩:=DataW.trod_bool Tryz.underlying4 h
 exact ⟨z,h⟩
theorem Kr {n:Nat}{cs:List Value}{y:DataW H×List MemPlace}(h:DataW.trod enc Tryz.prog w base spare held n 23 cs=some y):∃z:ak,cs=z.cells:=by
 obtain ⟨a,ys,m,_,b⟩:=mR Tryz.underlying23 h
 replace a:cs.length=2:=a.trans (by kernel_rfl)
 match cs,a with
 |[g,c1],_=>
 obtain ⟨_,_,c⟩:=b 0 _ 3 0 _ rfl rfl rfl iw
 obtain ⟨_,_,d⟩:=b 1 _ 3 1 _ rfl rfl rfl iw
 obtain ⟨e,e0⟩:=iy c
 obtain ⟨f,e1⟩:=iy d
 simp only[List.drop,List.take,List.cons.injEq,and_true,Nat.reduceAdd] at e0 e1
 exact ⟨⟨e,f⟩,by rw[e0,e1];rfl⟩
theorem Ks {n:Nat}{cs:List Value}{y:DataW H×List MemPlace}(h:DataW.trod enc Tryz.prog w base spare held n 45 cs=some y):∃z:bF,cs=z.cells:=by
 obtain ⟨a,ys,m,_,b⟩:=mR Tryz.underlying45 h
 replace a:cs.length=2:=a.trans (by kernel_rfl)
 match cs,a with
 |[g,c1],_=>
 obtain ⟨_,_,c⟩:=b 0 _ 3 0 _ rfl rfl rfl iw
 obtain ⟨_,_,d⟩:=b 1 _ 3 1 _ rfl rfl rfl iw
 obtain ⟨e,e0⟩:=iy c
 obtain ⟨f,e1⟩:=iy d
 simp only[List.drop,List.take,List.cons.injEq,and_true,Nat.reduceAdd] at e0 e1
 exact ⟨⟨e,f⟩,by rw[e0,e1];rfl⟩
theorem Kt {n:Nat}{cs:List Value}{y:DataW H×List MemPlace}(h:DataW.trod enc Tryz.prog w base spare held n 132 cs=some y):∃z:bH,cs=z.cells:=by
 obtain ⟨a,ys,m,_,b⟩:=mR Tryz.underlying132 h
 replace a:cs.length=2:=a.trans (by kernel_rfl)
 match cs,a with
 |[g,c1],_=>
 obtain ⟨_,_,c⟩:=b 0 _ 3 0 _ rfl rfl rfl iw
 obtain ⟨_,_,d⟩:=b 1 _ 3 1 _ rfl rfl rfl iw
 obtain ⟨e,e0⟩:=iy c
 obtain ⟨f,e1⟩:=iy d
 simp only[List.drop,List.take,List.cons.injEq,and_true,Nat.reduceAdd] at e0 e1
 exact ⟨⟨e,f⟩,by rw[e0,e1];rfl⟩
theorem Ku {n:Nat}{cs:List Value}{y:DataW H×List MemPlace}(h:DataW.trod enc Tryz.prog w base spare held n 91 cs=some y):∃z:bP,cs=z.cells:=by
 obtain ⟨a,ys,m,_,b⟩:=mR Tryz.underlying91 h
 replace a:cs.length=2:=a.trans (by kernel_rfl)
 match cs,a with
 |[g,c1],_=>
 obtain ⟨_,_,c⟩:=b 0 _ 3 0 _ rfl rfl rfl iw
 obtain ⟨_,_,d⟩:=b 1 _ 4 1 _ rfl rfl rfl Kp
 obtain ⟨e,e0⟩:=iy c
 obtain ⟨f,e1⟩:=Kq d
 simp only[List.drop,List.take,List.cons.injEq,and_true,Nat.reduceAdd] at e0 e1
 exact ⟨⟨e,f⟩,by rw[e0,e1];rfl⟩
theorem Kv {n:Nat}{cs:List Value}{y:DataW H×List MemPlace}(h:DataW.trod enc Tryz.prog w base spare held n 95 cs=some y):∃z:cV,cs=z.cells:=by
 obtain ⟨a,ys,m,_,b⟩:=mR Tryz.underlying95 h
 replace a:cs.length=2:=a.trans (by kernel_rfl)
 match cs,a with
 |[g,c1],_=>
 obtain ⟨_,_,c⟩:=b 0 _ 3 0 _ rfl rfl rfl iw
 obtain ⟨_,_,d⟩:=b 1 _ 3 1 _ rfl rfl rfl iw
 obtain ⟨e,e0⟩:=iy c
 obtain ⟨f,e1⟩:=iy d
 simp only[List.drop,List.take,List.cons.injEq,and_true,Nat.reduceAdd] at e0 e1
 exact ⟨⟨e,f⟩,by rw[e0,e1];rfl⟩
theorem Kw {n:Nat}{cs:List Value}{y:DataW H×List MemPlace}(h:DataW.trod enc Tryz.prog w base spare held n 130 cs=some y):∃z:bR,cs=z.cells:=by
 obtain ⟨a,ys,m,_,b⟩:=mR Tryz.underlying130 h
 have c:Tryz.prog.cellsOf 95=2:=by kernel_rfl
 replace a:cs.length=3:=a.trans (by kernel_rfl)
 match cs,a with
 |[i,c1,c2],_=>
 obtain ⟨_,_,d⟩:=b 0 _ 3 0 _ rfl rfl rfl iw
 obtain ⟨_,_,e⟩:=b 1 _ 95 1 _ rfl rfl rfl c
 obtain ⟨f,e0⟩:=iy d
 obtain ⟨g,e1⟩:=Kv e
 simp only[List.drop,List.take,List.cons.injEq,and_true,cV.cells] at e0 e1
 exact ⟨⟨f,g⟩,by rw[e0,e1.1,e1.2];rfl⟩
theorem CV {r:Reach}{z:Nat}{o:List TypeId}{q:List (DataW H)}(c:(DataW.weightsEach Tryz.prog o q).all (· <=reachBytes)=true){j:Nat}(e:o[j]?=some 29){d:DataW H}(f:q[j]?=some d){v:Value}{p:List MemPlace}
  (A:Value.okWide Tryz.prog w r z 29 v) (h:DataW.Trod enc Tryz.prog w base spare held 29 v d p):
  ∃(u:aj) (s1 s2 g k:Value),v= .agg #[.int .i64 u.aQ,.int .i64 u.aN,.int .i64 u.aE.num,.int .i64 u.aE.den,s1,s2,g,k]/\aA ey (fun a=>w.cell? a) s1 u.an/\aA dW (fun a=>w.cell? a) s2 u.props/\aA ek (fun a=>w.cell? a) g u.aF/\aA c8 (fun a=>w.cell? a) k u.told:=by
 obtain ⟨cs,rfl,n⟩:=okWide_struct Tryz.underlying29 A
 replace n:cs.size=8:=n.trans (by kernel_rfl)
 obtain ⟨l⟩:=cs
 match l,n with
 |[a0,c1,c2,c3,c4,a2,a3,a4],_=>
 obtain ⟨fuel,B⟩:=h
 have C:Tryz.prog.cellsOf 23=2:=by kernel_rfl
 have D:Tryz.prog.cellsOf 24=1:=by kernel_rfl
 have E:Tryz.prog.cellsOf 25=1:=by kernel_rfl
 have F:Tryz.prog.cellsOf 26=1:=by kernel_rfl
 have G:Tryz.prog.cellsOf 27=1:=by kernel_rfl
 obtain ⟨_,ys,m,hd,b⟩:=mR Tryz.underlying29 B
 replace hd:d= .agg (ys.map (·.1)):=hd
 subst hd
 obtain ⟨_,_,I⟩:=b 0 _ 3 0 _ rfl rfl rfl iw
 obtain ⟨_,_,J⟩:=b 1 _ 3 1 _ rfl rfl rfl iw
 obtain ⟨_,_,K⟩:=b 2 _ 23 2 _ rfl rfl rfl C
 obtain ⟨a5,L,M⟩:=b 3 _ 24 4 _ rfl rfl rfl D
 obtain ⟨a6,N,O⟩:=b 4 _ 25 5 _ rfl rfl rfl E
 obtain ⟨a7,P,Q⟩:=b 5 _ 26 6 _ rfl rfl rfl F
 obtain ⟨a8,R,S⟩:=b 6 _ 27 7 _ rfl rfl rfl G
 obtain ⟨T,e0⟩:=iy I
 obtain ⟨U,e1⟩:=iy J
 obtain ⟨V,e2⟩:=Kr K
 obtain ⟨g,W,s,X⟩:=tL (r:=ey) Tryz.underlying24 (by kernel_rfl) (fun _ _ _ h=>Ks h) M fun es sp he=>tN c e f Tryz.underlying29 (i:=3) rfl rfl Tryz.underlying24 (of_decide_eq_true (by kernel_rfl)) (sp:=sp) (by rw[List.getElem?_map,L];exact congrArg some he)
 obtain ⟨k,Y,t,Z⟩:=tL (r:=dW) Tryz.underlying25 (by kernel_rfl) (fun _ _ _ h=>Kt h) O fun es sp he=>tN c e f Tryz.underlying29 (i:=4) rfl rfl Tryz.underlying25 (of_decide_eq_true (by kernel_rfl)) (sp:=sp) (by rw[List.getElem?_map,N];exact congrArg some he)
 obtain ⟨ab,ad,x,ae⟩:=tL (r:=ek) Tryz.underlying26 (by kernel_rfl) (fun _ _ _ h=>Kw h) Q fun es sp he=>tN c e f Tryz.underlying29 (i:=5) rfl rfl Tryz.underlying26 (of_decide_eq_true (by kernel_rfl)) (sp:=sp) (by rw[List.getElem?_map,P];exact congrArg some he)
 obtain ⟨al,ao,y,ar⟩:=tL (r:=c8) Tryz.underlying27 (by kernel_rfl) (fun _ _ _ h=>Ku h) S fun es sp he=>tN c e f Tryz.underlying29 (i:=6) rfl rfl Tryz.underlying27 (of_decide_eq_true (by kernel_rfl)) (sp:=sp) (by rw[List.getElem?_map,R];exact congrArg some he)
 simp only[Value.cells,List.drop,List.take,List.cons.injEq,and_true,ak.cells] at e0 e1 e2 s t x y
 refine ⟨⟨T,U,V,W,Y,ad,ao⟩,g,k,ab,al,?_,X,Z,ae,ar⟩
 rw[e0,e1,e2.1,e2.2,s,t,x,y]
end
section
variable {H : Type} {enc : TypeId × Value → H} {w : World} {base : Nat} {spare : Nat → Bool} {held : Bool}
theorem Kx {t0 t1 t2 t3 t4 t5:TypeId}{args:Array Value}{e:List (DataW H)}{ps:List MemPlace}(h:DataW.TrodAll enc Tryz.prog w base spare held [t0,t1,t2,t3,t4,t5] args.toList e ps):
  ∃v0 v1 v2 a v4 b d0 d1 d2 d3 d4 d5 p0 c p2 p3 p4 d,args=#[v0,v1,v2,a,v4,b]/\e=[d0,d1,d2,d3,d4,d5]/\ps=p0++c++p2++p3++p4++d/\DataW.Trod enc Tryz.prog w base spare held t0 v0 d0 p0/\DataW.Trod enc Tryz.prog w base spare held t1 v1 d1 c/\DataW.Trod enc Tryz.prog w base spare held t2 v2 d2 p2/\DataW.Trod enc Tryz.prog w base spare held t3 a d3 p3/\DataW.Trod enc Tryz.prog w base spare held t4 v4 d4 p4/\DataW.Trod enc Tryz.prog w base spare held t5 b d5 d:=by
 obtain ⟨v0,k,d0,l,p0,m,n,rfl,rfl,h0,r0⟩:=trodAll_cons h
 obtain ⟨v1,o,d1,p,c,q,rfl,rfl,rfl,h1,r1⟩:=trodAll_cons r0
 obtain ⟨v2,r,d2,s,p2,t,rfl,rfl,rfl,h2,r2⟩:=trodAll_cons r1
 obtain ⟨a,u,d3,v,p3,x,rfl,rfl,rfl,h3,r3⟩:=trodAll_cons r2
 obtain ⟨v4,y,d4,z,p4,A,rfl,rfl,rfl,f,g⟩:=trodAll_cons r3
 obtain ⟨b,B,d5,C,d,D,rfl,rfl,rfl,i,j⟩:=trodAll_cons g
 obtain ⟨rfl,rfl,rfl⟩:=trodAll_nil j
 exact ⟨v0,v1,v2,a,v4,b,d0,d1,d2,d3,d4,d5,p0,c,p2,p3,p4,d,by cases args;simp_all,rfl,by simp,h0,h1,h2,h3,f,i⟩
theorem Ky {t0 t1 t2 t3 t4:TypeId}{v0 v1 v2 b v4:Value}{d0 d1 d2 d3 d4:DataW H}{p0 a p2 p3 p4:List MemPlace}(h0:DataW.Trod enc Tryz.prog w base spare held t0 v0 d0 p0)(h1:DataW.Trod enc Tryz.prog w base spare held t1 v1 d1 a)(h2:DataW.Trod enc Tryz.prog w base spare held t2 v2 d2 p2)(h3:DataW.Trod enc Tryz.prog w base spare held t3 b d3 p3)(c:DataW.Trod enc Tryz.prog w base spare held t4 v4 d4 p4):
  DataW.TrodAll enc Tryz.prog w base spare held [t0,t1,t2,t3,t4] [v0,v1,v2,b,v4] [d0,d1,d2,d3,d4] (p0++(a++(p2++(p3++p4)))):=⟨p0,a++(p2++(p3++p4)),h0,trodAll_mk4 h1 h2 h3 c,rfl⟩
theorem Kz {t0 t1 t2 t3 t4 t5:TypeId}{v0 v1 v2 c v4 d:Value}{d0 d1 d2 d3 d4 d5:DataW H}{p0 a p2 p3 p4 b:List MemPlace}(h0:DataW.Trod enc Tryz.prog w base spare held t0 v0 d0 p0)(h1:DataW.Trod enc Tryz.prog w base spare held t1 v1 d1 a)(h2:DataW.Trod enc Tryz.prog w base spare held t2 v2 d2 p2)(h3:DataW.Trod enc Tryz.prog w base spare held t3 c d3 p3)(e:DataW.Trod enc Tryz.prog w base spare held t4 v4 d4 p4)(f:DataW.Trod enc Tryz.prog w base spare held t5 d d5 b):
  DataW.TrodAll enc Tryz.prog w base spare held [t0,t1,t2,t3,t4,t5] [v0,v1,v2,c,v4,d] [d0,d1,d2,d3,d4,d5] (p0++(a++(p2++(p3++(p4++b))))):=⟨p0,a++(p2++(p3++(p4++b))),h0,Ky h1 h2 h3 e f,rfl⟩
end
theorem lD {n:Int}(h:(Lit.int .u8 n).wf=true):0<=n/\n<=255:=by
 unfold Lit.wf at h
 rw[Bool.and_eq_true,decide_eq_true_eq,decide_eq_true_eq] at h
 exact h
theorem CW {w:World}(h:laidMetH Tryz.prog [("velarium/terrain.checks",Rows.laid_velarium_terrain_checks)] w):cT (fun a=>w.cell? a):=by
 obtain ⟨g,t,cs,fuel,p,h1,h2,h3,s⟩:=laidMetH.funcs h (n:= "velarium/terrain.checks") (List.mem_singleton.2 rfl)
 obtain rfl:=Option.some.inj ((show Tryz.prog.globalNamed "velarium/terrain.checks"=some 0 by kernel_rfl).symm.trans h1)
 obtain rfl:=Option.some.inj ((show (Tryz.prog.globals[0]?).map (·.type)=some 177 by kernel_rfl).symm.trans h2)
 obtain ⟨xs,m,_,ex,_,A,u⟩:=DataW.trod_array Tryz.underlying177 s
 have c1:Tryz.prog.cellsOf 102=1:=by kernel_rfl
 have d:=DataW.agg.inj (Prod.mk.inj ex).1
 have key:∀(i f:Nat) (b:UInt8) (r:List UInt8),i<5->(xs.map (·.1))[i]?=some (.held (b::r))->(∃fn,Tryz.prog.funcs[f]?=some fn/\fn.name.toUTF8.data.toList=b::r/\Tryz.prog.funcNamed fn.name=some f)->w.cell? ⟨0,i,none⟩=some (.func (.func f) #[] #[]):=by
  intro i f b r hi c ⟨e,B,v,x⟩
  have j:=u i hi
  rw[c1,Nat.mul_one,List.getElem?_eq_getElem (by omega)] at j
  rw[List.getElem?_map,List.getElem?_eq_getElem (by omega)] at c
  simp only[Option.map_some,Option.some.injEq] at c
  rw[World.var?_cell h1 h3 i]
  rcases Ko Tryz.underlying102 j with hn|⟨f1,a1,c1,k,hn⟩
  ·rw[hn] at c;cases c
  rw[hn] at c
  obtain ⟨f2,l,e1,e2,o,q⟩:=funcToken_tells (DataW.held.inj c)
  have y:l.name=e.name:=by
   rw[<-v] at q
   have z:l.name.toUTF8=e.name.toUTF8:=ByteArray.ext (Array.toList_inj.1 q)
   exact String.toByteArray_inj.1 z
  rw[y,x] at o
  obtain rfl:=Option.some.inj o
  rw[e1] at k
  have:((cs.toList.drop i).take 1)[0]?=some (.func (.func f) #[] #[]):=by rw[k];rfl
  simpa using this
 refine ⟨key 0 _ _ _ (by decide) (by rw[<-d];rfl) ⟨_,Tryz.func205,by kernel_rfl,by kernel_rfl⟩,key 1 _ _ _ (by decide) (by rw[<-d];rfl) ⟨_,Tryz.func206,by kernel_rfl,by kernel_rfl⟩,key 2 _ _ _ (by decide) (by rw[<-d];rfl) ⟨_,Tryz.func207,by kernel_rfl,by kernel_rfl⟩,key 3 _ _ _ (by decide) (by rw[<-d];rfl) ⟨_,Tryz.func208,by kernel_rfl,by kernel_rfl⟩,key 4 _ _ _ (by decide) (by rw[<-d];rfl) ⟨_,Tryz.func209,by kernel_rfl,by kernel_rfl⟩⟩
theorem own:ownKnob Tryz.prog.godebug=none:=by kernel_rfl
theorem CX {p:Pinned}{s:OpenSpec}{c:OpenClaim}(kinds:List LaidKind)(b:Bool)(a:Bool×String)(lk:Bool)
  (d:c.holds p s) (hw:c.wfByText s=true) (e:c.laidByTextAt .later p kinds b)
  (g:c.start= .entering) (i:c.noBlocks=false/\c.again=false) (hm:p.checked.prog.mainIs=some (a.1,a.2.toList)) (hn:(!a.1&&a.2.isEmpty&&!lk)=false)
  (k:∀f fn,p.checked.prog.funcNamed c.func=some f->p.checked.prog.funcs[f]?=some fn->lk=p.checked.prog.looks []/\∀(j:Nat) t,fn.params[j]?=some t->p.checked.prog.wantsStandIn t=false)
  (hg:true=c.goesBy p.checked.prog):
  Claim7.holds p (.plain s) {stood:={row:=c,standIns:=[],harness:=a,looks:=lk},kinds:=[],alts:=[],goes:=true,laidByText:=true,laidKinds:=kinds,laidTests:=b,laidLooks:=.later}:=by
 have l:∀r:OpenClaim,Claim7.isSixth {stood:={row:=r,standIns:=[],harness:=a,looks:=lk},kinds:=[]}=false:=fun r=>by simpa [Claim7.isSixth] using hn
 exact ⟨Claim7.tied_new_at .later kinds b (Claim7.new_of_sixth d a lk g i hm (l c) k) hw,fun D m=>(by cases m),e,(fun h=>by cases h),hg⟩
end Go.Proofs.YtjepffnffjdloaaGreatDoor
end

/- A part of the proof: VF1. -/
import Derived.Test.YtlchekhkopimhaaGreatDoorQT12
set_option linter.all false
section
namespace Go.Proofs.YtlchekhkopimhaaGreatDoor
open Go Go.Sep Go.Proofs
set_option maxRecDepth 100000
set_option maxHeartbeats 4000000
theorem KF:∀u:Nat,u<16->(dF u).length=pop u:=by decide+kernel
theorem KG:∀n:Nat,n<5->∀i:Nat,i<n->Nat.testBit (2 ^ n - 1) i=true:=by decide+kernel
theorem KH {b:ax}(h:b8 b):jx b (2 ^ b.ak.length - 1)=true:=by
 have c:=h.many;have d:=kC h;rw[xR h aa];refine ⟨fun i=>match b.ak[i]? with|some x=>x.from_.low|none=>0,fun i=>match b.ak[i]? with|some x=>x.aD.low|none=>0,fun i x a=>?_,fun i j x y a _ hi=>?_⟩
 .simp only[a];obtain ⟨⟨a1,e,f,g⟩,c1,c2,c3,c4⟩:=js h a;omega
 .rw[KG _ aa i (List.getElem?_eq_some_iff.1 a).1] at hi;cases hi
theorem CN {is:Int->Option Bool}{p:Nat->Bool}:∀k:Nat,(∀y:Nat,y<k->is (y:Int)=some (p y))->∃l,looks is k=some l
 |0,_=>⟨[],rfl⟩
 |k+1,h=>by
  obtain ⟨l,a⟩:=CN k fun y b=>h y aa
  refine ⟨if p k then l++[k] else l,?_⟩
  unfold looks
  rw[a,h k aa]
  rfl
theorem KI {is:Int->Option Bool}{p:Nat->Bool}{n:Nat}(hn:n<=4)(h:∀y:Nat,y<2 ^ n->is (y:Int)=some (p y))(hex:∃y,y<2 ^ n/\p y=true):
  ∃m,qU is n=some (dF m)/\m<2 ^ n/\p m=true/\∀y,y<2 ^ n->p y=true->eL m<=eL y:=by
 obtain ⟨l,d⟩:=CN (2 ^ n) h
 have hm:=(wN d).2
 have b:∀y,y∈l↔y<2 ^ n/\p y=true:=fun y=>by
  rw[hm y]
  exact ⟨fun ⟨a,c⟩=>⟨a,by rw[h y a] at c;exact Option.some.inj c⟩,fun ⟨a,c⟩=>⟨a,by rw[h y a,c]⟩⟩
 unfold qU
 rw[if_pos hn,d]
 obtain ⟨y0,g⟩:=hex
 have f:=(b y0).2 g
 cases e:l with
 |nil=>rw[e] at f;cases f
 |cons x r=>
  obtain ⟨s1,s2⟩:=s0 r x
  have:=(b _).1 (e▸s1)
  exact ⟨fG r x,rfl,this.1,this.2,fun y i j=>s2 y (e▸(b y).2 ⟨i,j⟩)⟩
theorem CO {b:ax}(h:b8 b)(a:ef b=some 0):∃m,lH b=some (dF m,0)/\m<2 ^ b.ak.length/\jx b m=true/\∀y,y<2 ^ b.ak.length->jx b y=true->eL m<=eL y:=by
 have f:=h.many;have g:=kC h;have i:1<=2 ^ b.ak.length:=Nat.one_le_two_pow;obtain ⟨m,e,hm,c,d⟩:=KI (is:=kr b) (p:=jx b) (n:=b.ak.length) aa (fun y j=>Jb h aa) ⟨2 ^ b.ak.length - 1,aa,KH h⟩;refine ⟨m,?_,hm,c,d⟩;unfold lH tT;rw[a,e];rfl
end Go.Proofs.YtlchekhkopimhaaGreatDoor
end

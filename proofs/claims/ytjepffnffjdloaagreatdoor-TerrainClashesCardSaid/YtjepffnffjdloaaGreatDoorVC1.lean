/- A part of the proof of a row and its tied card: VC1. -/
import Derived.Test.YtjepffnffjdloaaGreatDoorQ5
set_option linter.all false
section
namespace Go.Proofs.YtjepffnffjdloaaGreatDoor
open Go Go.Sep Go.Proofs
set_option maxRecDepth 100000
set_option maxHeartbeats 4000000
def iF (T:List bB)(l:List Int):List bB:=l.filterMap fun i=>T[i.toNat]?
def look (P:List (List Int×Bool))(x:List Int):Bool:=((P.find? fun y=>y.1==x).map (·.2)).getD false
def eU (n:Nat):List (List Int):=match n with
 |0=>[[]]
 |1=>[[],[0]]
 |2=>[[],[0],[1],[0,1]]
 |_=>S3
structure Cv (u:ak)(l:List Int):Prop where
 mem:l∈eU u.told.length
 ne:l≠[]
 IN:bZ u (iF u.told l)=true
 less:∀i,i<l.length->l.eraseIdx i∈eU u.told.length/\bZ u (iF u.told (l.eraseIdx i))=false
 least:∀o,o∈eU u.told.length->bZ u (iF u.told o)=true->jl o l=false
def qO (S:List (List Int))(P:List (List Int×Bool))(l:List Int):Bool:=
 S.contains l&&!l.isEmpty&&look P l&&((List.range l.length).all fun i=>S.contains (l.eraseIdx i)&&!look P (l.eraseIdx i))&&S.all fun o=>!look P o||!jl o l
theorem IP:∀e1 e2 a b c d:Bool,qO (eU 3) [([],false),([0],e1),([1],e2),([0,1],a),([2],b),([0,2],c),([1,2],d),([0,1,2],true)] (iq [([],false),([0],e1),([0,1],a),([1],e2),([1,2],d),([0,1,2],true),([0,2],c),([2],b)] [0,1,2])=true:=by decide+kernel
theorem IQ:∀e1 e2:Bool,qO (eU 2) [([],false),([0],e1),([1],e2),([0,1],true)] (iq [([],false),([0],e1),([0,1],true),([1],e2)] [0,1])=true:=by decide+kernel
theorem IS:qO (eU 1) [([],false),([0],true)] (iq [([],false),([0],true)] [0])=true:=by decide+kernel
theorem Cw:∀(l:List b6) (p:List Int),(∀e,e∈l->e.high.low<=e.high.high)->dz p l≠[]
 |[],p,_=>by simp[dz]
 |e::l,p,h=>by
  have h0:=h e (List.mem_cons_self ..)
  unfold dz
  rw[show e.high=⟨e.high.low,e.high.high⟩ from rfl,Cb h0,List.flatMap_cons]
  exact fun x=>Cw l (p++[e.high.low]) (fun y a=>h y (List.mem_cons_of_mem _ a)) (List.append_eq_nil_iff.1 x).1
theorem IT {u:ak}(F:Fit u):bZ u []=false:=by
 unfold bZ bp
 have b:(dz [] (wt u []).aE).filter (eM (wt u []))=dz [] u.aE:=List.filter_eq_self.2 fun _ _=>rfl
 rw[b]
 have:=Cw u.aE [] fun e he=>by
  obtain ⟨i,hi⟩:=List.mem_iff_getElem?.1 he
  have:=F.aQ i e hi
  omega
 cases h:dz [] u.aE with
 |nil=>exact absurd h this
 |cons a l=>rfl
theorem yh {u:ak}{P:List (List Int×Bool)}{l:List Int}(a:∀o,o∈eU u.told.length->look P o=bZ u (iF u.told o))(h:qO (eU u.told.length) P l=true):Cv u l:=by
 unfold qO at h
 simp only[Bool.and_eq_true,List.all_eq_true,List.contains_iff_mem,Bool.or_eq_true,Bool.not_eq_true',List.mem_range] at h
 obtain ⟨⟨⟨⟨h1,h2⟩,h3⟩,b⟩,d⟩:=h
 refine ⟨h1,fun e=>?_,?_,fun i hi=>⟨(b i hi).1,?_⟩,fun o c f=>?_⟩
 ·rw[e] at h2;cases h2
 ·rw[<-a l h1];exact h3
 ·rw[<-a _ (b i hi).1];exact (b i hi).2
 ·rcases d o c with x|x
  ·rw[a o c,f] at x;cases x
  ·exact x
theorem IU {u:ak}(F:Fit u)(h1:dM u=some 0)(L:tS u):((bp u).isEmpty=false/\kJ u=some ([],0))\/((bp u).isEmpty=true/\∃l,kJ u=some (l,0)/\Cv u l):=by
 have h2:ji u=some 0:=by
  obtain ⟨c,a,b⟩:=bars L
  rw[h1] at a
  rw[b,<-a]
 cases he:(bp u).isEmpty with
 |false=>
  refine .inl ⟨rfl,?_⟩
  unfold kJ
  rw[qL h1]
  simp only[ah,x6 F,he]
  rfl
 |true=>
  refine .inr ⟨rfl,?_⟩
  have m:bZ u u.told=true:=he
  have hn:=IT F
  have ht:=F.told
  clear L
  obtain ⟨e,f,g,i,j,k,T⟩:=u
  rcases T with _|⟨a,_|⟨b,_|⟨c,_|⟨d,T⟩⟩⟩⟩
  ·rw[show bZ ⟨e,f,g,i,j,k,[]⟩ []=true from m] at hn;cases hn
  ·obtain ⟨r,a1,a2,a3,a4,a5⟩:=yc F h1 h2 (Iu ..)
   obtain rfl:=a5 he
   refine ⟨_,a1,?_⟩
   simp only[List.map_cons,List.map_nil,hn,show bZ ⟨e,f,g,i,j,k,[a]⟩ [a]=true from m]
   refine yh (P:=[([],bZ ⟨e,f,g,i,j,k,[a]⟩ []),([0],bZ ⟨e,f,g,i,j,k,[a]⟩ [a])]) (fun o h=>?_) ?_
   ·have h:o∈[[],[0]]:=h
    simp only[List.mem_cons,List.not_mem_nil,or_false] at h
    rcases h with rfl|rfl<;>rfl
   ·rw[hn,show bZ ⟨e,f,g,i,j,k,[a]⟩ [a]=true from m];exact IS
  ·obtain ⟨r,a1,a2,a3,a4,a5⟩:=yc F h1 h2 (Iv ..)
   obtain rfl:=a5 he
   refine ⟨_,a1,?_⟩
   simp only[List.map_cons,List.map_nil,hn,show bZ ⟨e,f,g,i,j,k,[a,b]⟩ [a,b]=true from m]
   refine yh (P:=[([],bZ ⟨e,f,g,i,j,k,[a,b]⟩ []),([0],bZ ⟨e,f,g,i,j,k,[a,b]⟩ [a]),([1],bZ ⟨e,f,g,i,j,k,[a,b]⟩ [b]),([0,1],bZ ⟨e,f,g,i,j,k,[a,b]⟩ [a,b])]) (fun o h=>?_) ?_
   ·have h:o∈[[],[0],[1],[0,1]]:=h
    simp only[List.mem_cons,List.not_mem_nil,or_false] at h
    rcases h with rfl|rfl|rfl|rfl<;>rfl
   ·rw[hn,show bZ ⟨e,f,g,i,j,k,[a,b]⟩ [a,b]=true from m];exact IQ _ _
  ·obtain ⟨r,a1,a2,a3,a4,a5⟩:=yc F h1 h2 (Iw ..)
   obtain rfl:=a5 he
   refine ⟨_,a1,?_⟩
   simp only[List.map_cons,List.map_nil,hn,show bZ ⟨e,f,g,i,j,k,[a,b,c]⟩ [a,b,c]=true from m]
   refine yh (P:=[([],bZ ⟨e,f,g,i,j,k,[a,b,c]⟩ []),([0],bZ ⟨e,f,g,i,j,k,[a,b,c]⟩ [a]),([1],bZ ⟨e,f,g,i,j,k,[a,b,c]⟩ [b]),([0,1],bZ ⟨e,f,g,i,j,k,[a,b,c]⟩ [a,b]),([2],bZ ⟨e,f,g,i,j,k,[a,b,c]⟩ [c]),([0,2],bZ ⟨e,f,g,i,j,k,[a,b,c]⟩ [a,c]),([1,2],bZ ⟨e,f,g,i,j,k,[a,b,c]⟩ [b,c]),([0,1,2],bZ ⟨e,f,g,i,j,k,[a,b,c]⟩ [a,b,c])]) (fun o h=>?_) ?_
   ·have h:o∈S3:=h
    simp only[S3,List.mem_cons,List.not_mem_nil,or_false] at h
    rcases h with rfl|rfl|rfl|rfl|rfl|rfl|rfl|rfl<;>rfl
   ·rw[hn,show bZ ⟨e,f,g,i,j,k,[a,b,c]⟩ [a,b,c]=true from m];exact IP _ _ _ _ _ _
  ·simp only[List.length_cons] at ht;omega
end Go.Proofs.YtjepffnffjdloaaGreatDoor
end

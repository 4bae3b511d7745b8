/- A part of the proof: VF2. -/
import Derived.Test.YtlchekhkopimhaaGreatDoorQT13
import Derived.Test.YtlchekhkopimhaaGreatDoorVF1
set_option linter.all false
section
namespace Go.Proofs.YtlchekhkopimhaaGreatDoor
open Go Go.Sep Go.Proofs
set_option maxRecDepth 100000
set_option maxHeartbeats 4000000
def uq (u0:ax)(f:Int)(g:Int):Option Bool:=
 ai (mJ u0) fun x9=>cond (!x9) (ai (fy) fun h=>some h) (ai (fD (IntKind.i64.wrap f) 3) fun a=>ai (iG u0) fun b=>ai (iG (⟨u0.steps,(if IntKind.i64.wrap (u0.aR+a)<2 then IntKind.i64.wrap (u0.aR+a) else 2),u0.ak⟩:ax)) fun c=>ai (lH u0) fun d=>ai (lH (⟨u0.steps,(if IntKind.i64.wrap (u0.aR+a)<2 then IntKind.i64.wrap (u0.aR+a) else 2),u0.ak⟩:ax)) fun e=>cond ((b.2 != 0)) (some false) (cond ((c.2 != 0)) (some false) (cond ((d.2 != 0)) (some false) (cond ((e.2 != 0)) (some false) (cond (decide (c.1<b.1)) (some false) (ai (oF d.1 e.1) fun i=>cond (!i) (some false) (cond ((b.1==0)) (ai (fy) fun j=>some j) (ai (fD (IntKind.i64.wrap g) (u0.ak.length:Int)) fun k=>ai (rD (⟨u0.steps,(if IntKind.i64.wrap (u0.aR+a)<2 then IntKind.i64.wrap (u0.aR+a) else 2),u0.ak⟩:ax) u0 k ([])) fun l=>cond (l) (ai (fy) fun m=>some m) (some false)))))))))
theorem LU {ro:Addr->Option Value}(a:dw ro)(u0:ax){s1:Value}(b:aH bK ro s1 u0.ak)(g:Int)(i:Int){r:Bool}(t:r=true)(h:uq u0 g i=some r):iu Tryz.prog 4 #[cn u0 s1,.int .u8 g,.int .u8 i] ⟨ro,[]⟩ (fun v _=>v= .bool r):=by
 obtain ⟨d3,c4,rfl,ae,al,-⟩:=id b;subst t;unfold uq at h;refine iu.go Tryz.func4 rfl Tryz.ntmps4 Tryz.results4 an aj fun Φ hJ A u hd hs=>?_;have w:=hs 0;have k1:=hs 1;have x:=hs 2;clear hs;apply aB hJ _;refine bf fun ao ar y=>?_;try simp only[aN] at y
 try apply ag _
 refine ah hJ (aA hJ ?_);revert h;refine bS fun x9 z h=>?_;apply ag _;refine bh hJ _ (wI u0 (b.mono aY) z) (aJ ?_);try apply ag _
 revert h;refine aV hJ (fun e h=>?_) fun e h=>?_
 .rw[Bool.not_eq_true'] at e;apply aA hJ;revert h;refine bS fun a0 B h=>?_;cases h;apply ag _;refine gu _ (gD a B) (aJ ?_);try apply ag _
  apply aO;simp only[*,go_sem]
 rw[Bool.not_eq_false'] at e;refine aK hJ (ah hJ ?_);apply aM hJ _;refine bf fun a2 a3 C=>?_;try simp only[aN] at C
 try apply ag _
 apply aA hJ;revert h;refine bS fun c j h=>?_;obtain ⟨a4,a5⟩:=jJ j;clear j;try apply ag _
 apply aA hJ;revert h;refine bS fun a6 D h=>?_;apply ag _;refine bh hJ _ (kz (a.mono aY) u0 (b.mono aY) D) (aJ ?_);try apply ag _
 apply aA hJ;revert h;refine bS fun a7 E h=>?_;apply ag _;refine bh hJ _ (kz (a.mono aY) (⟨u0.steps,(if IntKind.i64.wrap (u0.aR+c)<2 then IntKind.i64.wrap (u0.aR+c) else 2),u0.ak⟩:ax) (b.mono aY) E) (aJ ?_);try apply ag _
 apply ah hJ;refine e5 [2,3,6,7,8,9,10,11] fun a8 k l m=>?_;simp only[*,go_sem] at k l m;clear u hd w k1 x;apply aG hJ;revert h;refine bS fun G H h=>?_;apply ag _;refine l6 _ (tV a u0 b H) fun v a9 n I hR=>?_;obtain ⟨ba,rfl,d⟩:=hR;replace b:=b.mono n;replace a:=a.mono n;simp only[bW] at I;obtain ⟨d29,bb,rfl,bc,bd,-⟩:=id d;apply aJ;try apply ag _
 apply aA hJ;revert h;refine bS fun J K h=>?_;apply ag _;refine l6 _ (tV a (⟨u0.steps,(if IntKind.i64.wrap (u0.aR+c)<2 then IntKind.i64.wrap (u0.aR+c) else 2),u0.ak⟩:ax) b K) fun v bj f L hR=>?_;obtain ⟨bk,rfl,o⟩:=hR;replace b:=b.mono f;replace d:=d.mono f;replace a:=a.mono f;simp only[bW] at L;obtain ⟨d41,bm,rfl,bo,br,-⟩:=id o;apply aJ;try apply ag _
 refine ah hJ (aA hJ ?_);revert h;refine cS (fun M h=>?_) fun M h=>?_
 .cases h
 revert h;refine cS (fun N h=>?_) fun N h=>?_
 .cases h
 revert h;refine cS (fun O h=>?_) fun O h=>?_
 .cases h
 revert h;refine cS (fun P h=>?_) fun P h=>?_
 .cases h
 revert h;refine cS (fun Q h=>?_) fun Q h=>?_
 .cases h
 revert h;refine bS fun bs R h=>?_;try apply ag _
 refine bh hJ _ (AV G.1 (d.mono aY) J.1 (o.mono aY) R) (aJ ?_);try apply ag _
 revert h;refine aV hJ (fun p h=>?_) fun p h=>?_
 .cases h
 rw[Bool.not_eq_false'] at p;refine aK hJ (ah hJ ?_);refine e5 [2,3,6,7,8] fun b0 S T U=>?_;simp only[*,go_sem] at S T U;clear k l m;refine dR hJ mixed 14 2 bx aj ?_;revert h;refine cS (fun V h=>?_) fun V h=>?_
 .revert h;refine bS fun b1 W h=>?_;cases h;try apply ag _
  refine gu _ (gD a W) ⟨bx,rZ ?_⟩;try apply ag _
  apply aO;simp only[*,go_sem]
 revert h;refine bS fun X q h=>?_;obtain ⟨b2,b3⟩:=jJ q;clear q;revert h;refine bS fun s Y h=>?_;have Z:s=true:=by cases s;(simp at h);rfl
 try apply ag _
 refine ⟨_,dW hJ fun F hF=>LS (a.mono (j6 hF)) (⟨u0.steps,(if IntKind.i64.wrap (u0.aR+c)<2 then IntKind.i64.wrap (u0.aR+c) else 2),u0.ak⟩:ax) (b.mono (j6 hF)) u0 (b.mono (j6 hF)) X ([]) Z Y,eB ?_⟩;revert h;refine cS (fun ab h=>?_) fun ab h=>?_
 .revert h;refine bS fun b4 ad h=>?_;cases h;try apply ag _
  refine gu _ (gD a ad) ⟨bx,rZ ?_⟩;try apply ag _
  apply aO;simp only[*,go_sem]
 cases h
theorem LX {l:List Int}(a:l.length<=1000000):oF l l=some true:=by
 unfold oF;have key:aQ (oE l l) fu (false,0)=some (cP (cr (fun _=>(none:Option Bool)) l.length) (false,(l.length:Int))):=by
  refine gz _ (fun i=>(false,(i:Int))) l.length a (fun i hi=>?_) ?_
  .unfold oE;rw[gX hi];simp only[cond];rw[gk,List.getElem?_eq_getElem hi];simp only[ai];rw[gA aa];simp[cP]
  .unfold oE;rw[gY];rfl
 rw[key,fH.2 (fun _ _=>rfl)];simp[ai,cP,az]
def m7 (b:ax)(w:Int):ax:=⟨b.steps,w,b.ak⟩
theorem Dw {b:ax}(h:b8 b){w:Int}(hw:0<=w/\w<=2):b8 (m7 b w):=⟨h.steps,hw,h.many,fun i hi=>h.each i hi,h.ways⟩
theorem LY {b:ax}(h:b8 b){w:Int}(hw:b.aR<=w):ej (m7 b w) b where
 steps:=rfl
 aR:=⟨hw,h.aR.1⟩
 len:=rfl
 each i x a:=by
  obtain ⟨⟨a1,c,d,e⟩,c1,c2,c3,c4⟩:=js h a
  exact ⟨x,a,rfl,rfl,rfl,⟨aa,aa,aa⟩,⟨aa,aa,aa⟩⟩
theorem Dx {b:ax}(h:b8 b){w:Int}(hw:0<=w/\w<=2){u:Nat}(hu:u<16):jx (m7 b w) u=jx b u:=by
 rw[Bool.eq_iff_iff,xR (Dw h hw) hu,xR h hu];exact Iff.rfl
theorem LZ (b:ax)(a:Int)(t:0<=a/\a<=255)(d:Int)(u:0<=d/\d<=255):uq b a d=some true:=by
 unfold uq;simp only[rC];obtain ⟨g,hg,hs⟩:=xQ b;rw[hg];cases g
 .rfl
 obtain ⟨hb,h,j,-⟩:=hs rfl;have v:=h.many;have D:=kC h;have hw:=h.aR;simp only[ai,Bool.not_true,cond_false];rw[yL t aa];simp only;have k1:=Int.emod_nonneg a (b:=3) aa;have y:=Int.emod_lt_of_pos a (b:=3) aa;generalize a % 3=k at k1 y;rw[wr (show -9223372036854775808<=b.aR+k/\b.aR+k<9223372036854775808 by omega)];obtain ⟨w,z,w1,w2⟩:∃w:Int,(if b.aR+k<2 then b.aR+k else 2)=w/\b.aR<=w/\w<=2:=by
  refine ⟨_,rfl,?_,?_⟩<;>split<;>omega
 rw[z,show (⟨b.steps,w,b.ak⟩:ax)=m7 b w from rfl];have f:0<=w/\w<=2:=⟨aa,w2⟩
 have ho:=Dw h f;have l:gZ (m7 b w):=⟨hb.1,hb.2⟩
 have o:=yN l ho;have n:=LY h w1;obtain ⟨m,e1,A,m2,B⟩:=CO h j;obtain ⟨c,e2,q,r,s⟩:=CO ho o;have hlen:(m7 b w).ak.length=b.ak.length:=rfl;rw[hlen] at q s;rw[Dx h f aa] at r;have:c=m:=by
  have a1:=B c q r;have E:=s m A (by rw[Dx h f aa];exact m2);exact A0 c aa m aa aa
 subst this;have F:pop c<=4:=Nat.le_trans (List.length_filter_le _ _) an;have G:=KF c aa;have H:=n.mX ho;rw[rm h j,rm ho o,e1,e2];simp only;rw[decide_eq_false (p:=((bH (m7 b w)).length:Int)<((bH b).length:Int)) aa,LX aa];by_cases e:(bH b).length=0
 .rw[e];rfl
 have e0:(((bH b).length:Int)==0)=false:=by simp;exact fun x=>e (by rw[x];rfl)
 obtain ⟨i,hi,C⟩:=uo u v.1;rw[e0,C];simp only[cond];rw[LW n ho l e (i:=i) hi []];rfl
end Go.Proofs.YtlchekhkopimhaaGreatDoor
end

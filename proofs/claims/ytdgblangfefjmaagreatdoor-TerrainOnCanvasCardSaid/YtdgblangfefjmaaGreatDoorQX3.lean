/- A part of the proof: QX3. -/
import Derived.Test.YtdgblangfefjmaaGreatDoorQX2
set_option linter.all false
section
namespace Go.Proofs.YtdgblangfefjmaaGreatDoor
open Go Go.Sep Go.Proofs
set_option maxRecDepth 100000
attribute [go_sem] aB.nil
theorem qS:rI.n=1:=rfl
theorem uF:rB.n=1:=rfl
theorem D3 {T:Type}(r:cc T):(rL r).n=1:=rfl
attribute [go_sem] qS uF D3
structure ay where
 num:Int
 den:Int
 deriving DecidableEq
def ay.v (x:ay):Value:=.agg #[.int .i64 x.num,.int .i64 x.den]
def ay.cells (x:ay):List Value:=[.int .i64 x.num,.int .i64 x.den]
def iz:cc ay:=fS 2 ay.cells (fun _=>rfl) (fun _ v a=>by simp only[ay.cells,List.mem_cons,List.not_mem_nil,or_false] at a;rcases a with rfl|rfl<;>rfl)
theorem D4:iz.n=2:=rfl
attribute [go_sem] ay.v ay.cells D4
structure b8 where
 aQ:Int
 high:Int
 deriving DecidableEq
def b8.cells (x:b8):List Value:=[.int .i64 x.aQ,.int .i64 x.high]
def dV:cc b8:=fS 2 b8.cells (fun _=>rfl) (fun _ v a=>by simp only[b8.cells,List.mem_cons,List.not_mem_nil,or_false] at a;rcases a with rfl|rfl<;>rfl)
theorem D5:dV.n=2:=rfl
attribute [go_sem] b8.cells D5
structure c7 where
 place:Int
 fG:Int
 deriving DecidableEq
def c7.cells (x:c7):List Value:=[.int .i64 x.place,.int .i64 x.fG]
def eV:cc c7:=fS 2 c7.cells (fun _=>rfl) (fun _ v a=>by simp only[c7.cells,List.mem_cons,List.not_mem_nil,or_false] at a;rcases a with rfl|rfl<;>rfl)
theorem D6:eV.n=2:=rfl
attribute [go_sem] c7.cells D6
structure dK where
 low:Int
 high:Int
 deriving DecidableEq
def dK.v (x:dK):Value:=.agg #[.int .i64 x.low,.int .i64 x.high]
def dK.cells (x:dK):List Value:=[.int .i64 x.low,.int .i64 x.high]
def D7:cc dK:=fS 2 dK.cells (fun _=>rfl) (fun _ v a=>by simp only[dK.cells,List.mem_cons,List.not_mem_nil,or_false] at a;rcases a with rfl|rfl<;>rfl)
theorem D8:D7.n=2:=rfl
attribute [go_sem] dK.v dK.cells D8
structure dc where
 back:Int
 high:dK
 deriving DecidableEq
def dc.cells (x:dc):List Value:=[.int .i64 x.back,.int .i64 x.high.low,.int .i64 x.high.high]
def fl:cc dc:=fS 3 dc.cells (fun _=>rfl) (fun _ v a=>by simp only[dc.cells,List.mem_cons,List.not_mem_nil,or_false] at a;rcases a with rfl|rfl|rfl<;>rfl)
theorem D9:fl.n=3:=rfl
attribute [go_sem] dc.cells D9
structure cn where
 aS:Int
 bL:Bool
 deriving DecidableEq
def cn.v (x:cn):Value:=.agg #[.int .i64 x.aS,.bool x.bL]
def cn.cells (x:cn):List Value:=[.int .i64 x.aS,.bool x.bL]
def dD:cc cn:=fS 2 cn.cells (fun _=>rfl) (fun _ v a=>by simp only[cn.cells,List.mem_cons,List.not_mem_nil,or_false] at a;rcases a with rfl|rfl<;>rfl)
theorem Ea:dD.n=2:=rfl
attribute [go_sem] cn.v cn.cells Ea
structure aC where
 bE:Int
 cD:Int
 bx:ay
 aR:(List b8)
 props:(List c7)
 aU:(List dc)
 told:(List cn)
 deriving DecidableEq
def aC.rel (ro:Addr->Option Value)(x:aC)(cs:List Value):Prop:=∃a b c d,cs=[.int .i64 x.bE,.int .i64 x.cD,.int .i64 x.bx.num,.int .i64 x.bx.den,a,b,c,d]/\aB dV ro a x.aR/\aB eV ro b x.props/\aB fl ro c x.aU/\aB dD ro d x.told
theorem aC.g7 {ro:Addr->Option Value}{x:aC}{cs:List Value}(h:aC.rel ro x cs):∀v∈cs,bN v=true:=by
 obtain ⟨b,c,d,e,rfl,⟨_,_,rfl,_⟩,⟨_,_,rfl,_⟩,⟨_,_,rfl,_⟩,⟨_,_,rfl,_⟩⟩:=h;intro v a;simp only[List.mem_cons,List.not_mem_nil,or_false] at a;rcases a with rfl|rfl|rfl|rfl|rfl|rfl|rfl|rfl<;>rfl
def Eb:cc aC:=⟨8,aC.rel,fun a ⟨b,c,d,f,e,g,h,i,j⟩=>⟨b,c,d,f,e,g.mono a,h.mono a,i.mono a,j.mono a⟩,fun ⟨b,c,d,f,e,_⟩=>by rw[e];rfl,aC.g7⟩
theorem Ec:Eb.n=8:=rfl
attribute [go_sem] Ec
structure bM where
 back:Int
 high:Int
 deriving DecidableEq
def bM.v (x:bM):Value:=.agg #[.int .i64 x.back,.int .i64 x.high]
def bM.cells (x:bM):List Value:=[.int .i64 x.back,.int .i64 x.high]
def iY:cc bM:=fS 2 bM.cells (fun _=>rfl) (fun _ v a=>by simp only[bM.cells,List.mem_cons,List.not_mem_nil,or_false] at a;rcases a with rfl|rfl<;>rfl)
theorem Ed:iY.n=2:=rfl
attribute [go_sem] bM.v bM.cells Ed
structure iZ where
 cZ:ay
 row:Int
 deriving DecidableEq
def iZ.cells (x:iZ):List Value:=[.int .i64 x.cZ.num,.int .i64 x.cZ.den,.int .i64 x.row]
def ja:cc iZ:=fS 3 iZ.cells (fun _=>rfl) (fun _ v a=>by simp only[iZ.cells,List.mem_cons,List.not_mem_nil,or_false] at a;rcases a with rfl|rfl|rfl<;>rfl)
theorem Ee:ja.n=3:=rfl
attribute [go_sem] iZ.cells Ee
structure dB where
 dL:(List b8)
 size:Int
 aU:dK
 marks:(List iZ)
 deriving DecidableEq
def dB.rel (ro:Addr->Option Value)(x:dB)(cs:List Value):Prop:=∃a b,cs=[a,.int .i64 x.size,.int .i64 x.aU.low,.int .i64 x.aU.high,b]/\aB dV ro a x.dL/\aB ja ro b x.marks
theorem dB.g7 {ro:Addr->Option Value}{x:dB}{cs:List Value}(h:dB.rel ro x cs):∀v∈cs,bN v=true:=by
 obtain ⟨b,c,rfl,⟨_,_,rfl,_⟩,⟨_,_,rfl,_⟩⟩:=h;intro v a;simp only[List.mem_cons,List.not_mem_nil,or_false] at a;rcases a with rfl|rfl|rfl|rfl|rfl<;>rfl
def Ef:cc dB:=⟨5,dB.rel,fun a ⟨b,c,e,d,f⟩=>⟨b,c,e,d.mono a,f.mono a⟩,fun ⟨b,c,e,_⟩=>by rw[e];rfl,dB.g7⟩
theorem Eg:Ef.n=5:=rfl
attribute [go_sem] Eg
structure g8 where
 aQ:Int
 high:ay
 deriving DecidableEq
def g8.cells (x:g8):List Value:=[.int .i64 x.aQ,.int .i64 x.high.num,.int .i64 x.high.den]
def Eh:cc g8:=fS 3 g8.cells (fun _=>rfl) (fun _ v a=>by simp only[g8.cells,List.mem_cons,List.not_mem_nil,or_false] at a;rcases a with rfl|rfl|rfl<;>rfl)
theorem Ei:Eh.n=3:=rfl
attribute [go_sem] g8.cells Ei
structure b6 where
 spot:g8
 at_:Int
 high:ay
 deriving DecidableEq
def b6.v (x:b6):Value:=.agg #[.int .i64 x.spot.aQ,.int .i64 x.spot.high.num,.int .i64 x.spot.high.den,.int .i64 x.at_,.int .i64 x.high.num,.int .i64 x.high.den]
def b6.cells (x:b6):List Value:=[.int .i64 x.spot.aQ,.int .i64 x.spot.high.num,.int .i64 x.spot.high.den,.int .i64 x.at_,.int .i64 x.high.num,.int .i64 x.high.den]
def j6:cc b6:=fS 6 b6.cells (fun _=>rfl) (fun _ v a=>by simp only[b6.cells,List.mem_cons,List.not_mem_nil,or_false] at a;rcases a with rfl|rfl|rfl|rfl|rfl|rfl<;>rfl)
theorem Ej:j6.n=6:=rfl
attribute [go_sem] b6.v b6.cells Ej
structure cT where
 step:Int
 cZ:ay
 deriving DecidableEq
def cT.cells (x:cT):List Value:=[.int .i64 x.step,.int .i64 x.cZ.num,.int .i64 x.cZ.den]
def Ek:cc cT:=fS 3 cT.cells (fun _=>rfl) (fun _ v a=>by simp only[cT.cells,List.mem_cons,List.not_mem_nil,or_false] at a;rcases a with rfl|rfl|rfl<;>rfl)
theorem El:Ek.n=3:=rfl
attribute [go_sem] cT.cells El
structure dR where
 aS:Int
 row:Int
 cZ:ay
 qT:(List ay)
 from_:cT
 iA:cT
 deriving DecidableEq
def dR.rel (ro:Addr->Option Value)(x:dR)(cs:List Value):Prop:=∃a,cs=[.int .i64 x.aS,.int .i64 x.row,.int .i64 x.cZ.num,.int .i64 x.cZ.den,a,.int .i64 x.from_.step,.int .i64 x.from_.cZ.num,.int .i64 x.from_.cZ.den,.int .i64 x.iA.step,.int .i64 x.iA.cZ.num,.int .i64 x.iA.cZ.den]/\aB iz ro a x.qT
theorem dR.g7 {ro:Addr->Option Value}{x:dR}{cs:List Value}(h:dR.rel ro x cs):∀v∈cs,bN v=true:=by
 obtain ⟨b,rfl,⟨_,_,rfl,_⟩⟩:=h;intro v a;simp only[List.mem_cons,List.not_mem_nil,or_false] at a;rcases a with rfl|rfl|rfl|rfl|rfl|rfl|rfl|rfl|rfl|rfl|rfl<;>rfl
def Em:cc dR:=⟨11,dR.rel,fun b ⟨a,e,c⟩=>⟨a,e,c.mono b⟩,fun ⟨a,e,_⟩=>by rw[e];rfl,dR.g7⟩
theorem En:Em.n=11:=rfl
attribute [go_sem] En
structure ck where
 aQ:ay
 high:ay
 deriving DecidableEq
def ck.v (x:ck):Value:=.agg #[.int .i64 x.aQ.num,.int .i64 x.aQ.den,.int .i64 x.high.num,.int .i64 x.high.den]
def ck.cells (x:ck):List Value:=[.int .i64 x.aQ.num,.int .i64 x.aQ.den,.int .i64 x.high.num,.int .i64 x.high.den]
def l8:cc ck:=fS 4 ck.cells (fun _=>rfl) (fun _ v a=>by simp only[ck.cells,List.mem_cons,List.not_mem_nil,or_false] at a;rcases a with rfl|rfl|rfl|rfl<;>rfl)
theorem Eo:l8.n=4:=rfl
attribute [go_sem] ck.v ck.cells Eo
structure bG where
 e0:Int
 e1:Int
 e2:Int
 deriving DecidableEq
def bG.v (x:bG):Value:=.agg #[.int .i64 x.e0,.int .i64 x.e1,.int .i64 x.e2]
def bG.cells (x:bG):List Value:=[.int .i64 x.e0,.int .i64 x.e1,.int .i64 x.e2]
def g9:cc bG:=fS 3 bG.cells (fun _=>rfl) (fun _ v a=>by simp only[bG.cells,List.mem_cons,List.not_mem_nil,or_false] at a;rcases a with rfl|rfl|rfl<;>rfl)
theorem Ep:g9.n=3:=rfl
attribute [go_sem] bG.v bG.cells Ep
def bG.get (x:bG)(i:Int):Option Int:=if i=0 then some x.e0 else if i=1 then some x.e1 else if i=2 then some x.e2 else none
theorem bG.get_some {x:bG}{i:Int}{y:Int}(h:bG.get x i=some y):0<=i/\i<((3:Nat):Int)/\([.int .i64 x.e0,.int .i64 x.e1,.int .i64 x.e2]:List Value)[i.toNat]?=some (.int .i64 y):=by
 unfold bG.get at h;by_cases a:i=0
 .subst a;simp at h;subst h;exact ⟨aa,aa,rfl⟩
 by_cases b:i=1
 .subst b;simp at h;subst h;exact ⟨aa,aa,rfl⟩
 by_cases c:i=2
 .subst c;simp at h;subst h;exact ⟨aa,aa,rfl⟩
 simp[a,b,c] at h
theorem bG.Er {ro:Addr->Option Value}{b:Nat}{x:bG}{i:Int}{y:Int}(h:bG.get x i=some y)(g0:ro ⟨b,0,none⟩=some (.int .i64 x.e0))(e:ro ⟨b,1,none⟩=some (.int .i64 x.e1))(f:ro ⟨b,2,none⟩=some (.int .i64 x.e2)):ro ⟨b,i.toNat,none⟩=some (.int .i64 y):=by
 unfold bG.get at h;by_cases a:i=0
 .subst a;simp at h;subst h;exact g0
 by_cases c:i=1
 .subst c;simp at h;subst h;exact e
 by_cases d:i=2
 .subst d;simp at h;subst h;exact f
 simp[a,c,d] at h
structure dw where
 book:aC
 all:(List bG)
 deriving DecidableEq
def dw.rel (ro:Addr->Option Value)(x:dw)(cs:List Value):Prop:=∃a b c d e,cs=[.int .i64 x.book.bE,.int .i64 x.book.cD,.int .i64 x.book.bx.num,.int .i64 x.book.bx.den,a,b,c,d,e]/\aB dV ro a x.book.aR/\aB eV ro b x.book.props/\aB fl ro c x.book.aU/\aB dD ro d x.book.told/\aB g9 ro e x.all
theorem dw.g7 {ro:Addr->Option Value}{x:dw}{cs:List Value}(h:dw.rel ro x cs):∀v∈cs,bN v=true:=by
 obtain ⟨b,c,d,e,f,rfl,⟨_,_,rfl,_⟩,⟨_,_,rfl,_⟩,⟨_,_,rfl,_⟩,⟨_,_,rfl,_⟩,⟨_,_,rfl,_⟩⟩:=h;intro v a;simp only[List.mem_cons,List.not_mem_nil,or_false] at a;rcases a with rfl|rfl|rfl|rfl|rfl|rfl|rfl|rfl|rfl<;>rfl
def Es:cc dw:=⟨9,dw.rel,fun a ⟨b,c,d,f,g,e,h,i,j,k,l⟩=>⟨b,c,d,f,g,e,h.mono a,i.mono a,j.mono a,k.mono a,l.mono a⟩,fun ⟨b,c,d,f,g,e,_⟩=>by rw[e];rfl,dw.g7⟩
theorem Et:Es.n=9:=rfl
attribute [go_sem] Et
structure kX where
 book:dB
 all:(List Int)
 deriving DecidableEq
def kX.rel (ro:Addr->Option Value)(x:kX)(cs:List Value):Prop:=∃a b c,cs=[a,.int .i64 x.book.size,.int .i64 x.book.aU.low,.int .i64 x.book.aU.high,b,c]/\aB dV ro a x.book.dL/\aB ja ro b x.book.marks/\aB rI ro c x.all
theorem kX.g7 {ro:Addr->Option Value}{x:kX}{cs:List Value}(h:kX.rel ro x cs):∀v∈cs,bN v=true:=by
 obtain ⟨b,c,d,rfl,⟨_,_,rfl,_⟩,⟨_,_,rfl,_⟩,⟨_,_,rfl,_⟩⟩:=h;intro v a;simp only[List.mem_cons,List.not_mem_nil,or_false] at a;rcases a with rfl|rfl|rfl|rfl|rfl|rfl<;>rfl
def Eu:cc kX:=⟨6,kX.rel,fun a ⟨b,c,d,e,f,g,h⟩=>⟨b,c,d,e,f.mono a,g.mono a,h.mono a⟩,fun ⟨b,c,d,e,_⟩=>by rw[e];rfl,kX.g7⟩
theorem Ev:Eu.n=6:=rfl
attribute [go_sem] Ev
def dx.rel (ro:Addr->Option Value)(g:(aC->Option Int))(cs:List Value):Prop:=∃(b:FuncId) (c d:Array Value),cs=[.func (.func b) c d]/\aN Tryz.prog b=true/\∀(aT:Addr->Option Value),Ext ro aT->∀(a:aC) (e:Value) (f:Value) (h:Value) (i:Value) (z:Int),aB dV aT e a.aR->aB eV aT f a.props->aB fl aT h a.aU->aB dD aT i a.told->g a=some z->aA Tryz.prog b (c++#[.agg #[.int .i64 a.bE,.int .i64 a.cD,.int .i64 a.bx.num,.int .i64 a.bx.den,e,f,h,i]]++d) ⟨aT,[]⟩ (fun v _=>v= .int .i64 z)
theorem dx.uG {ro aT:Addr->Option Value}{g:(aC->Option Int)}{cs:List Value}(b:Ext ro aT)(h:dx.rel ro g cs):dx.rel aT g cs:=by
 obtain ⟨f,a,c,e,d,i⟩:=h;exact ⟨f,a,c,e,d,fun j k=>i j (b.trans k)⟩
theorem dx.uH {ro:Addr->Option Value}{g:(aC->Option Int)}{cs:List Value}(h:dx.rel ro g cs):cs.length=1:=by
 obtain ⟨f,a,c,e,_⟩:=h;rw[e];rfl
theorem dx.g7 {ro:Addr->Option Value}{g:(aC->Option Int)}{cs:List Value}(h:dx.rel ro g cs):∀v∈cs,bN v=true:=by
 obtain ⟨f,a,c,e,_⟩:=h;intro v b;rw[e] at b;simp at b;subst b;rfl
def dx:cc (aC->Option Int):=⟨1,dx.rel,dx.uG,dx.uH,dx.g7⟩
theorem Ew:dx.n=1:=rfl
attribute [go_sem] Ew
def fH.rel (ro:Addr->Option Value)(g:(Option Int))(cs:List Value):Prop:=∃(a:FuncId) (b c:Array Value),cs=[.func (.func a) b c]/\aN Tryz.prog a=true/\∀(aT:Addr->Option Value),Ext ro aT->∀(z:Int),g=some z->aA Tryz.prog a (b++#[]++c) ⟨aT,[]⟩ (fun v _=>v= .int .i64 z)
theorem fH.uG {ro aT:Addr->Option Value}{g:(Option Int)}{cs:List Value}(b:Ext ro aT)(h:fH.rel ro g cs):fH.rel aT g cs:=by
 obtain ⟨f,a,c,e,d,i⟩:=h;exact ⟨f,a,c,e,d,fun j k=>i j (b.trans k)⟩
theorem fH.uH {ro:Addr->Option Value}{g:(Option Int)}{cs:List Value}(h:fH.rel ro g cs):cs.length=1:=by
 obtain ⟨f,a,c,e,_⟩:=h;rw[e];rfl
theorem fH.g7 {ro:Addr->Option Value}{g:(Option Int)}{cs:List Value}(h:fH.rel ro g cs):∀v∈cs,bN v=true:=by
 obtain ⟨f,a,c,e,_⟩:=h;intro v b;rw[e] at b;simp at b;subst b;rfl
def fH:cc (Option Int):=⟨1,fH.rel,fH.uG,fH.uH,fH.g7⟩
theorem Ey:fH.n=1:=rfl
attribute [go_sem] Ey
abbrev sl {T:Type}(d:Option Addr)(l:List T)(c:Nat):Value:=.slice d l.length c
abbrev bk (x:aC)(a b c d:Value):Obj:=.cells #[.int .i64 x.bE,.int .i64 x.cD,.int .i64 x.bx.num,.int .i64 x.bx.den,a,b,c,d] 29
abbrev bl (x:aC)(a b c d:Value):Obj:=.cells #[.int .i64 x.bE,.int .i64 x.cD,.int .i64 x.bx.num,.int .i64 x.bx.den,a,b,c,d] 108
abbrev bz (t:Nat):Obj:=.cells #[.int .i64 0,.int .i64 0,.int .i64 0,.int .i64 0,.slice none 0 0,.slice none 0 0,.slice none 0 0,.slice none 0 0] t
abbrev kn (x:dw)(a b c d e:Value):Obj:=.cells #[.int .i64 x.book.bE,.int .i64 x.book.cD,.int .i64 x.book.bx.num,.int .i64 x.book.bx.den,a,b,c,d,e] 161
abbrev rt (a b:Int):Obj:=.cells #[.int .i64 a,.int .i64 b] 23
abbrev ic (a:Int):Obj:=.cells #[.int .i64 a] 3
abbrev bv (x:aC)(a b c d:Value):Value:=.agg #[.int .i64 x.bE,.int .i64 x.cD,.int .i64 x.bx.num,.int .i64 x.bx.den,a,b,c,d]
attribute [go_sem] sl bk bl bz kn rt ic bv D1 D2 List.cons_append List.nil_append List.append_nil List.append_assoc
structure bV (ro:Addr->Option Value)(u:aC)(a b c d:Value):Prop where
 e:aB dV ro a u.aR
 p:aB eV ro b u.props
 y:aB fl ro c u.aU
 t:aB dD ro d u.told
theorem bV.oc {ro:Addr->Option Value}{u:aC}{a b c d:Value}(h:bV ro u a b c d):bN a=true/\bN b=true/\bN c=true/\bN d=true:=⟨h.e.oc,h.p.oc,h.y.oc,h.t.oc⟩
theorem bV.mono {ro aT:Addr->Option Value}{u:aC}{a b c d:Value}(h:bV ro u a b c d)(f:Ext ro aT):bV aT u a b c d:=⟨h.e.mono f,h.p.mono f,h.y.mono f,h.t.mono f⟩
end Go.Proofs.YtdgblangfefjmaaGreatDoor
end
section
namespace Go.Proofs.YtdgblangfefjmaaGreatDoor
open Go Go.Sep Go.Proofs
set_option maxRecDepth 100000
set_option maxHeartbeats 4000000
def fV (u0:Int)(a:Int)(b:Int):Option Bool:=
 cond (decide (a<=u0)) (some (decide (u0<=b))) (some false)
theorem gM {ro:Addr->Option Value}(u0:Int)(a:Int)(b:Int){r:Bool}(h:fV u0 a b=some r):aA Tryz.prog 112 #[.int .i64 u0,.int .i64 a,.int .i64 b] ⟨ro,[]⟩ (fun v _=>v= .bool r):=by
 unfold fV at h;refine aA.go Tryz.func112 rfl Tryz.ntmps112 Tryz.results112 av fun main J hJ A d hd hs=>?_;have e:=hs 0;have k1:=hs 1;have f:=hs 2;clear hs;apply aD hJ _;apply an hJ;revert h;refine cS (fun c h=>?_) fun c h=>?_
 .cases h;apply ag _;apply aJ;simp only[*,go_sem]
 cases h;apply ag _;apply aJ;simp only[*,go_sem]
def gN (u0:Int):Option ay:=
 some (⟨u0,1⟩:ay)
theorem jB {ro:Addr->Option Value}(u0:Int){r:ay}(h:gN u0=some r):aA Tryz.prog 93 #[.int .i64 u0] ⟨ro,[]⟩ (fun v _=>v=r.v):=by
 unfold gN at h;cases h;refine aA.go Tryz.func93 rfl Tryz.ntmps93 Tryz.results93 av fun main J hJ A a hd hs=>?_;have b:=hs 0;clear hs;apply aD hJ _;refine az fun c r1 n1=>?_;try simp only[au] at n1
 apply aD hJ _;apply aJ;simp only[*,go_sem]
def fo (u0:ay)(a:ay):Option Bool:=
 some (decide ((IntKind.i64.wrap (u0.num*a.den))<(IntKind.i64.wrap (a.num*u0.den))))
theorem jb {ro:Addr->Option Value}(u0:ay)(a:ay){r:Bool}(h:fo u0 a=some r):aA Tryz.prog 87 #[.agg #[.int .i64 u0.num,.int .i64 u0.den],.agg #[.int .i64 a.num,.int .i64 a.den]] ⟨ro,[]⟩ (fun v _=>v= .bool r):=by
 unfold fo at h;cases h;refine aA.go Tryz.func87 rfl Tryz.ntmps87 Tryz.results87 av fun main J hJ A b hd hs=>?_;have c:=hs 0;have k1:=hs 1;clear hs;apply aD hJ _;refine az fun d r1 n1=>?_;try simp only[au] at n1
 refine az fun b2 r2 n2=>?_;try simp only[au] at n2
 apply aD hJ _;apply aJ;simp only[*,go_sem]
def oX (u0:dK)(a:Int)(b:Int):Option Bool:=
 cond (decide (a<=u0.low)) (cond (decide (u0.low<=u0.high)) (some (decide (u0.high<=b))) (some false)) (some false)
theorem zY {ro:Addr->Option Value}(u0:dK)(a:Int)(b:Int){r:Bool}(h:oX u0 a b=some r):aA Tryz.prog 106 #[.agg #[.int .i64 u0.low,.int .i64 u0.high],.int .i64 a,.int .i64 b] ⟨ro,[]⟩ (fun v _=>v= .bool r):=by
 unfold oX at h;refine aA.go Tryz.func106 rfl Tryz.ntmps106 Tryz.results106 av fun main J hJ A e hd hs=>?_;have f:=hs 0;have k1:=hs 1;have g:=hs 2;clear hs;apply aD hJ _;refine az fun i r1 n1=>?_;try simp only[au] at n1
 apply an hJ;revert h;refine cS (fun c h=>?_) fun c h=>?_
 .revert h;refine cS (fun d h=>?_) fun d h=>?_
  .cases h;apply ag _;apply aJ;simp only[*,go_sem]
  cases h;apply ag _;apply aJ;simp only[*,go_sem]
 cases h;apply ag _;apply aJ;simp only[*,go_sem]
def jc (u0:b6)(a:b6):Option Bool:=
 aj (fo u0.high a.high) fun b=>some b
theorem qU {ro:Addr->Option Value}(u0:b6)(a:b6){r:Bool}(h:jc u0 a=some r):aA Tryz.prog 78 #[.agg #[.int .i64 u0.spot.aQ,.int .i64 u0.spot.high.num,.int .i64 u0.spot.high.den,.int .i64 u0.at_,.int .i64 u0.high.num,.int .i64 u0.high.den],.agg #[.int .i64 a.spot.aQ,.int .i64 a.spot.high.num,.int .i64 a.spot.high.den,.int .i64 a.at_,.int .i64 a.high.num,.int .i64 a.high.den]] ⟨ro,[]⟩ (fun v _=>v= .bool r):=by
 unfold jc at h;refine aA.go Tryz.func78 rfl Tryz.ntmps78 Tryz.results78 av fun main J hJ A c hd hs=>?_;have d:=hs 0;have k1:=hs 1;clear hs;apply aD hJ _;refine az fun e r1 n1=>?_;try simp only[au] at n1
 refine az fun b2 r2 n2=>?_;try simp only[au] at n2
 apply an hJ;revert h;refine bS fun f b h=>?_;cases h;apply ag _;refine bf hJ _ (jb u0.high a.high b) (aP ?_);apply ag _;apply aJ;simp only[*,go_sem]
def hH (u0:Int)(b:aC):Option Int:=
 aj (fV u0 1 20) fun a=>cond (!a) (some 1) (some 0)
theorem uI {ro:Addr->Option Value}(u0:Int)(b:aC){s1 c d f:Value}(a:bV ro b s1 c d f){r:Int}(h:hH u0 b=some r):aA Tryz.prog 98 #[.int .i64 u0,bv b s1 c d f] ⟨ro,[]⟩ (fun v _=>v= .int .i64 r):=by
 obtain ⟨d3,c4,rfl,k,l,-⟩:=id a.e;obtain ⟨d10,m,rfl,n,o,-⟩:=id a.p;obtain ⟨d17,q,rfl,s,u,-⟩:=id a.y;obtain ⟨d24,w,rfl,x,z,-⟩:=id a.t;unfold hH at h;refine aA.go Tryz.func98 rfl Tryz.ntmps98 Tryz.results98 av fun main J hJ A B hd hs=>?_;have C:=hs 0;have k1:=hs 1;clear hs;apply aD hJ _;refine az fun D E g=>?_;try simp only[au] at g
 refine ah hJ (an hJ ?_);revert h;refine bS fun F i h=>?_;apply ag _;refine bf hJ _ (gM u0 1 20 i) (aP ?_);apply ag _;revert h;refine aX hJ (fun j h=>?_) fun j h=>?_
 .cases h;apply aD hJ _;apply aJ;simp only[*,go_sem]
 cases h;refine aK hJ (ah hJ ?_);apply aM hJ _;apply aJ;simp only[*,go_sem]
def e7 (u0:bM)(c:aC):Option Int:=
 aj (fV u0.back 1 20) fun a=>cond (!a) (some 1) (aj (fV u0.high 0 60) fun b=>cond (!b) (some 1) (some 0))
theorem qV {ro:Addr->Option Value}(u0:bM)(b:aC){s1 c d f:Value}(a:bV ro b s1 c d f){r:Int}(h:e7 u0 b=some r):aA Tryz.prog 53 #[.agg #[.int .i64 u0.back,.int .i64 u0.high],bv b s1 c d f] ⟨ro,[]⟩ (fun v _=>v= .int .i64 r):=by
 obtain ⟨d3,c4,rfl,n,o,-⟩:=id a.e;obtain ⟨d10,q,rfl,s,u,-⟩:=id a.p;obtain ⟨d17,w,rfl,x,z,-⟩:=id a.y;obtain ⟨d24,B,rfl,C,D,-⟩:=id a.t;unfold e7 at h;refine aA.go Tryz.func53 rfl Tryz.ntmps53 Tryz.results53 av fun main J hJ A E hd hs=>?_;have F:=hs 0;have k1:=hs 1;clear hs;apply aD hJ _;refine az fun G H g=>?_;try simp only[au] at g
 refine az fun I K i=>?_;try simp only[au] at i
 refine ah hJ (an hJ ?_);revert h;refine bS fun L j h=>?_;apply ag _;refine bf hJ _ (gM u0.back 1 20 j) (aP ?_);revert h;refine cS (fun k h=>?_) fun k h=>?_
 .cases h;apply ag _;refine cz hJ ?_;apply aD hJ _;apply aJ;simp only[*,go_sem]
 revert h;refine bS fun M l h=>?_;apply ag _;refine bf hJ _ (gM u0.high 0 60 l) (aP ?_);apply ag _;revert h;refine aX hJ (fun m h=>?_) fun m h=>?_
 .cases h;apply aD hJ _;apply aJ;simp only[*,go_sem]
 cases h;refine aK hJ (ah hJ ?_);apply aM hJ _;apply aJ;simp only[*,go_sem]
def m3 (u0:aC)(a:Int):Option Bool:=
 aj (fV a 0 (IntKind.i64.wrap ((u0.aU.length:Int) - 1))) fun b=>some b
theorem zZ {ro:Addr->Option Value}(u0:aC){s1 c d f:Value}(a:bV ro u0 s1 c d f)(b:Int){r:Bool}(h:m3 u0 b=some r):aA Tryz.prog 139 #[bv u0 s1 c d f,.int .i64 b] ⟨ro,[]⟩ (fun v _=>v= .bool r):=by
 obtain ⟨d3,c4,rfl,j,k,-⟩:=id a.e;obtain ⟨d10,l,rfl,m,n,-⟩:=id a.p;obtain ⟨d17,o,rfl,q,s,-⟩:=id a.y;obtain ⟨d24,u,rfl,w,x,-⟩:=id a.t;unfold m3 at h;refine aA.go Tryz.func139 rfl Tryz.ntmps139 Tryz.results139 av fun main J hJ A z hd hs=>?_;have B:=hs 0;have k1:=hs 1;clear hs;apply aD hJ _;refine az fun C D g=>?_;try simp only[au] at g
 apply an hJ;revert h;refine bS fun E i h=>?_;cases h;apply ag _;refine bf hJ _ (gM b 0 (IntKind.i64.wrap ((u0.aU.length:Int) - 1)) i) (aP ?_);apply ag _;apply aJ;simp only[*,go_sem]
def iB (u0:aC)(a:Int):Option Bool:=
 aj (bH u0.aR 0) fun b=>aj (bH u0.aR (IntKind.i64.wrap ((u0.aR.length:Int) - 1))) fun c=>aj (fV a b.aQ c.aQ) fun d=>some d
theorem qW {ro:Addr->Option Value}(u0:aC){s1 f g i:Value}(a:bV ro u0 s1 f g i)(b:Int){r:Bool}(h:iB u0 b=some r):aA Tryz.prog 134 #[bv u0 s1 f g i,.int .i64 b] ⟨ro,[]⟩ (fun v _=>v= .bool r):=by
 obtain ⟨d3,c4,rfl,E,G,-⟩:=id a.e;unfold iB at h;refine aA.go Tryz.func134 rfl Tryz.ntmps134 Tryz.results134 av fun main J hJ A H hd hs=>?_;have I:=hs 0;have k1:=hs 1;clear hs;apply aD hJ _;refine az fun K L n=>?_;try simp only[au] at n
 apply ah hJ;refine cM hJ mixed 20 1 aI ai ?_;revert h;refine bS fun j o h=>?_;obtain ⟨M,N,k⟩:=c6 o;obtain ⟨O,p,q,s,c⟩:=a.e.el _ _ k;obtain rfl:p=j.cells:=s;cases q;have t:=c 0 _ rfl;simp only[go_sem] at t;have u:=c 1 _ rfl;simp only[go_sem] at u;clear c k;revert h;refine bS fun l w h=>?_;obtain ⟨P,Q,m⟩:=c6 w;obtain ⟨R,x,y,z,d⟩:=a.e.el _ _ m;obtain rfl:x=l.cells:=z;cases y;have B:=d 0 _ rfl;simp only[go_sem] at B;have C:=d 1 _ rfl;simp only[go_sem] at C;clear d m;revert h;refine bS fun S D h=>?_;cases h;apply ag _;refine ⟨_,bD hJ fun F T=>gM b j.aQ l.aQ D,bY ?_⟩;apply ag _;apply aJ;simp only[*,go_sem]
def fI (u0:Int)(a:aC):Option Int:=
 aj (m3 a u0) fun b=>cond (!b) (some 6) (some 0)
theorem qX {ro:Addr->Option Value}(u0:Int)(b:aC){s1 c d f:Value}(a:bV ro b s1 c d f){r:Int}(h:fI u0 b=some r):aA Tryz.prog 83 #[.int .i64 u0,bv b s1 c d f] ⟨ro,[]⟩ (fun v _=>v= .int .i64 r):=by
 obtain ⟨d3,c4,rfl,k,l,-⟩:=id a.e;obtain ⟨d10,m,rfl,n,o,-⟩:=id a.p;obtain ⟨d17,q,rfl,s,u,-⟩:=id a.y;obtain ⟨d24,w,rfl,x,z,-⟩:=id a.t;unfold fI at h;refine aA.go Tryz.func83 rfl Tryz.ntmps83 Tryz.results83 av fun main J hJ A B hd hs=>?_;have C:=hs 0;have k1:=hs 1;clear hs;apply aD hJ _;refine az fun D E g=>?_;try simp only[au] at g
 refine ah hJ (an hJ ?_);revert h;refine bS fun F i h=>?_;apply ag _;refine bf hJ _ (zZ b (a.mono bg) u0 i) (aP ?_);apply ag _;revert h;refine aX hJ (fun j h=>?_) fun j h=>?_
 .cases h;apply aD hJ _;apply aJ;simp only[*,go_sem]
 cases h;refine aK hJ (ah hJ ?_);apply aM hJ _;apply aJ;simp only[*,go_sem]
def m4 (u0:Int)(a:aC):Option Int:=
 aj (iB a u0) fun b=>cond (!b) (some 6) (some 0)
theorem Ez {ro:Addr->Option Value}(u0:Int)(b:aC){s1 c d f:Value}(a:bV ro b s1 c d f){r:Int}(h:m4 u0 b=some r):aA Tryz.prog 73 #[.int .i64 u0,bv b s1 c d f] ⟨ro,[]⟩ (fun v _=>v= .int .i64 r):=by
 obtain ⟨d3,c4,rfl,k,l,-⟩:=id a.e;obtain ⟨d10,m,rfl,n,o,-⟩:=id a.p;obtain ⟨d17,q,rfl,s,u,-⟩:=id a.y;obtain ⟨d24,w,rfl,x,z,-⟩:=id a.t;unfold m4 at h;refine aA.go Tryz.func73 rfl Tryz.ntmps73 Tryz.results73 av fun main J hJ A B hd hs=>?_;have C:=hs 0;have k1:=hs 1;clear hs;apply aD hJ _;refine az fun D E g=>?_;try simp only[au] at g
 refine ah hJ (an hJ ?_);revert h;refine bS fun F i h=>?_;apply ag _;refine bf hJ _ (qW b (a.mono bg) u0 i) (aP ?_);apply ag _;revert h;refine aX hJ (fun j h=>?_) fun j h=>?_
 .cases h;apply aD hJ _;apply aJ;simp only[*,go_sem]
 cases h;refine aK hJ (ah hJ ?_);apply aM hJ _;apply aJ;simp only[*,go_sem]
def oY (st:(Int×Int)):Option (Fl (Int×Int) ay):=
 cond ((st.2 != 0)) (aj (g5 st.1 st.2) fun a=>some (.nx (st.2,a))) (some (.bk (st.1,st.2)))
def j7 (u0:Int)(a:Int):Option ay:=
 aj (bB (oY) fu ((if u0<IntKind.i64.wrap (0 - u0) then IntKind.i64.wrap (0 - u0) else u0),a)) fun o=>aL o (fun b=>aj (eG u0 b.1) fun c=>aj (eG a b.1) fun d=>some (⟨c,d⟩:ay)) (fun _ _=>none) (fun r=>some r)
theorem oZ {ro:Addr->Option Value}(u0:Int)(c:Int){r:ay}(h:j7 u0 c=some r):aA Tryz.prog 135 #[.int .i64 u0,.int .i64 c] ⟨ro,[]⟩ (fun v _=>v=r.v):=by
 unfold j7 at h;refine aA.go Tryz.func135 rfl Tryz.ntmps135 Tryz.results135 av fun main J hJ A l hd hs=>?_;have n:=hs 0;have k1:=hs 1;clear hs;apply aD hJ _;refine az fun o r1 n1=>?_;try simp only[au] at n1
 apply aD hJ _;refine ah hJ (aW hJ ?_);revert h;refine bS fun o4 a p=>?_;refine b7 hJ (rg 12 6 [5,6]) (fun m f F'=>∃(v2:Int) (b:Int),bB (oY) m (v2,b)=some o4/\F'=⟨ro,(o,rt 0 0)::[]⟩/\slot f 5= .int .i64 v2/\slot f 6= .int .i64 b) fu ?_ ?_
 .refine ⟨(if u0<IntKind.i64.wrap (0 - u0) then IntKind.i64.wrap (0 - u0) else u0),c,a,rfl,?_⟩;simp only[*,go_sem]
 rintro d x F' g ⟨v2,b,a,rfl,y,z⟩;obtain ⟨q,s,t⟩:=g.pick [0,1,4] aO;simp only[*,go_sem] at q s t;clear g l hd n k1;obtain _|d:=d
 .exact absurd a (by simp only[bB,reduceCtorEq,not_false_eq_true])
 revert a;refine bS fun B h e=>?_;unfold oY at h;try dsimp only at h
 refine ah hJ (an hJ ?_);apply ag _;revert h;refine aX hJ (fun u h=>?_) fun u h=>?_
 .refine aK hJ (aW hJ ?_);refine cM hJ mixed 6 1 aI ai ?_;revert h;refine bS fun w i h=>?_;cases h;obtain ⟨C,D⟩:=lY i;clear i;apply ag _;refine ⟨d,Nat.lt_succ_self _,_,Le.sub (List.Sublist.refl _),b,w,e,rfl,?_⟩;simp only[*,go_sem]
 cases h;apply bT;simp only[go_sem];obtain rfl:=sI e;clear e;have h:=p;dsimp only[aL] at h;apply ah hJ;refine cM hJ mixed 7 0 aI ai ?_;revert h;refine bS fun E j h=>?_;obtain ⟨F,G⟩:=gZ j;clear j;revert h;refine bS fun H k h=>?_;cases h;obtain ⟨I,K⟩:=gZ k;clear k;apply ag _;apply aJ;simp only[*,go_sem]
def j8 (u0:ay)(a:ay):Option ay:=
 aj (j7 (IntKind.i64.wrap ((IntKind.i64.wrap (u0.num*a.den))+(IntKind.i64.wrap (a.num*u0.den)))) (IntKind.i64.wrap (u0.den*a.den))) fun b=>some b
theorem o3 {ro:Addr->Option Value}(u0:ay)(a:ay){r:ay}(h:j8 u0 a=some r):aA Tryz.prog 97 #[.agg #[.int .i64 u0.num,.int .i64 u0.den],.agg #[.int .i64 a.num,.int .i64 a.den]] ⟨ro,[]⟩ (fun v _=>v=r.v):=by
 unfold j8 at h;refine aA.go Tryz.func97 rfl Tryz.ntmps97 Tryz.results97 av fun main J hJ A c hd hs=>?_;have d:=hs 0;have k1:=hs 1;clear hs;apply aD hJ _;refine az fun e r1 n1=>?_;try simp only[au] at n1
 refine az fun b2 r2 n2=>?_;try simp only[au] at n2
 refine az fun b3 r3 n3=>?_;try simp only[au] at n3
 apply an hJ;revert h;refine bS fun f b h=>?_;cases h;apply ag _;refine bf hJ _ (oZ (IntKind.i64.wrap ((IntKind.i64.wrap (u0.num*a.den))+(IntKind.i64.wrap (a.num*u0.den)))) (IntKind.i64.wrap (u0.den*a.den)) b) (aP ?_);apply ag _;apply aJ;simp only[*,go_sem]
def j9 (u0:ay)(a:ay):Option ay:=
 aj (j8 u0 (⟨IntKind.i64.wrap (0 - a.num),a.den⟩:ay)) fun b=>some b
theorem o5 {ro:Addr->Option Value}(u0:ay)(a:ay){r:ay}(h:j9 u0 a=some r):aA Tryz.prog 96 #[.agg #[.int .i64 u0.num,.int .i64 u0.den],.agg #[.int .i64 a.num,.int .i64 a.den]] ⟨ro,[]⟩ (fun v _=>v=r.v):=by
 unfold j9 at h;refine aA.go Tryz.func96 rfl Tryz.ntmps96 Tryz.results96 av fun main J hJ A c hd hs=>?_;have d:=hs 0;have k1:=hs 1;clear hs;apply aD hJ _;refine az fun e r1 n1=>?_;try simp only[au] at n1
 refine az fun b2 r2 n2=>?_;try simp only[au] at n2
 refine az fun b3 r3 n3=>?_;try simp only[au] at n3
 apply an hJ;revert h;refine bS fun f b h=>?_;cases h;apply ag _;refine bf hJ _ (o3 u0 (⟨IntKind.i64.wrap (0 - a.num),a.den⟩:ay) b) (aP ?_);apply ag _;apply aJ;simp only[*,go_sem]
def l9 (u0:aC)(a:bM)(e:Int)(b:g8):Option b6:=
 aj (gN a.high) fun f=>aj (j9 b.high f) fun c=>aj (j7 (IntKind.i64.wrap (u0.bE+a.back)) (IntKind.i64.wrap (b.aQ+a.back))) fun d=>aj (gN a.high) fun g=>aj (j7 (IntKind.i64.wrap (c.num*d.num)) (IntKind.i64.wrap (c.den*d.den))) fun h=>aj (j8 g h) fun i=>some (⟨b,e,i⟩:b6)
theorem z0 {ro:Addr->Option Value}(u0:aC){s1 c d e:Value}(K:bV ro u0 s1 c d e)(b:bM)(j:Int)(a:g8){r:b6}(h:l9 u0 b j a=some r):aA Tryz.prog 113 #[bv u0 s1 c d e,.agg #[.int .i64 b.back,.int .i64 b.high],.int .i64 j,.agg #[.int .i64 a.aQ,.int .i64 a.high.num,.int .i64 a.high.den]] ⟨ro,[]⟩ (fun v _=>v=r.v):=by
 unfold l9 at h;refine aA.go Tryz.func113 rfl Tryz.ntmps113 Tryz.results113 av fun main J hJ A L hd hs=>?_;have M:=hs 0;have k1:=hs 1;have N:=hs 2;have O:=hs 3;clear hs;apply aD hJ _;refine az fun k P n=>?_;try simp only[au] at n
 refine az fun l Q o=>?_;try simp only[au] at o
 refine az fun m R p=>?_;try simp only[au] at p
 refine az fun q S s=>?_;try simp only[au] at s
 apply ah hJ;refine eg hJ mixed 6 ⟨ro,[(q,.cells #[.int .i64 0,.int .i64 0,.int .i64 0,.int .i64 0,.int .i64 0,.int .i64 0] 116),(m,.cells #[.int .i64 a.aQ,.int .i64 a.high.num,.int .i64 a.high.den] 114),(l,.cells #[.int .i64 b.back,.int .i64 b.high] 112),(k,bl u0 s1 c d e)]⟩ aI ai ?_;revert h;refine bS fun t u h=>?_;apply ag _;refine ⟨_,bD hJ fun F f=>jB b.high u,bY ?_⟩;revert h;refine bS fun g w h=>?_;apply ag _;refine ⟨_,bD hJ fun F f=>o5 a.high t w,?_⟩;apply ag _;refine az fun x T y=>?_;try simp only[au] at y
 apply ag _;apply an hJ;revert h;refine bS fun i z h=>?_;apply ag _;refine bf hJ _ (oZ (IntKind.i64.wrap (u0.bE+b.back)) (IntKind.i64.wrap (a.aQ+b.back)) z) (aP ?_);apply ag _;refine az fun B U C=>?_;try simp only[au] at C
 apply ah hJ;refine eg hJ mixed 18 ⟨ro,[(B,rt i.num i.den),(x,rt g.num g.den),(m,.cells #[.int .i64 a.aQ,.int .i64 a.high.num,.int .i64 a.high.den] 114),(l,.cells #[.int .i64 b.back,.int .i64 b.high] 112),(k,bl u0 s1 c d e)]⟩ aI ai ?_;revert h;refine bS fun D E h=>?_;apply ag _;refine ⟨_,bD hJ fun F f=>jB b.high E,bY ?_⟩;revert h;refine bS fun G H h=>?_;apply ag _;refine ⟨_,bD hJ fun F f=>oZ (IntKind.i64.wrap (g.num*i.num)) (IntKind.i64.wrap (g.den*i.den)) H,bY ?_⟩;revert h;refine bS fun V I h=>?_;cases h;apply ag _;refine ⟨_,bD hJ fun F f=>o3 D G I,bY ?_⟩;apply ag _;apply aJ;simp only[*,go_sem]
def kg (u0:aC)(a:Int)(b:Int):Option bM:=
 aj (bH u0.aU a) fun c=>some (⟨c.back,b⟩:bM)
theorem mb {ro:Addr->Option Value}(u0:aC){s1 c d f:Value}(a:bV ro u0 s1 c d f)(g:Int)(i:Int){r:bM}(h:kg u0 g i=some r):aA Tryz.prog 85 #[bv u0 s1 c d f,.int .i64 g,.int .i64 i] ⟨ro,[]⟩ (fun v _=>v=r.v):=by
 obtain ⟨d3,c4,rfl,z,B,-⟩:=id a.e;obtain ⟨d10,C,rfl,D,E,-⟩:=id a.p;obtain ⟨d17,F,rfl,G,H,-⟩:=id a.y;obtain ⟨d24,I,rfl,K,L,-⟩:=id a.t;unfold kg at h;refine aA.go Tryz.func85 rfl Tryz.ntmps85 Tryz.results85 av fun main J hJ A M hd hs=>?_;have N:=hs 0;have k1:=hs 1;have O:=hs 2;clear hs;apply aD hJ _;refine az fun P Q k=>?_;try simp only[au] at k
 refine az fun R S l=>?_;try simp only[au] at l
 apply an hJ;revert h;refine bS fun m n h=>?_;cases h;obtain ⟨T,U,j⟩:=c6 n;obtain ⟨V,o,q,s,b⟩:=a.y.el _ _ j;obtain rfl:o=m.cells:=s;cases q;have u:=b 0 _ rfl;simp only[go_sem] at u;have w:=b 1 _ rfl;simp only[go_sem] at w;have x:=b 2 _ rfl;simp only[go_sem] at x;clear b j;apply ag _;apply aJ;simp only[*,go_sem]
def o6 (u0:(b6->b6->Option Bool))(i11:Nat)(a:b6)(st:b6):Option (Fl b6 b6):=
 aj (u0 st a) fun b=>cond (b) (some (.nx a)) (some (.nx st))
def mc (u0:(b6->b6->Option Bool))(a:b6)(b:(List b6)):Option b6:=
 aj (bQ (o6 u0) 0 b a) fun o=>aL o (fun c=>some c) (fun _ _=>none) (fun r=>some r)
theorem qY {ro:Addr->Option Value}(u0:(b6->b6->Option Bool)){dM:FuncId}{ej ek:Array Value}(s:aN Tryz.prog dM=true/\∀(aT:Addr->Option Value),Ext ro aT->∀(i:b6) (j:b6) (z:Bool),u0 i j=some z->aA Tryz.prog dM (ej++#[i.v,j.v]++ek) ⟨aT,[]⟩ (fun v _=>v= .bool z))(c:b6)(b:(List b6)){s1:Value}(k:aB j6 ro s1 b){r:b6}(h:mc u0 c b=some r):aA Tryz.prog 77 #[.func (.func dM) ej ek,.agg #[.int .i64 c.spot.aQ,.int .i64 c.spot.high.num,.int .i64 c.spot.high.den,.int .i64 c.at_,.int .i64 c.high.num,.int .i64 c.high.den],s1] ⟨ro,[]⟩ (fun v _=>v=r.v):=by
 obtain ⟨d3,c4,rfl,Z,l,-⟩:=id k;unfold mc at h;refine aA.go Tryz.func77 rfl Tryz.ntmps77 Tryz.results77 av fun main J hJ A t hd hs=>?_;have u:=hs 0;have k1:=hs 1;have w:=hs 2;clear hs;apply aD hJ _;refine az fun y ab B=>?_;try simp only[au] at B
 refine az fun C ad D=>?_;try simp only[au] at D
 refine ah hJ (an hJ ?_);apply ag _;apply aW hJ;revert h;refine bS fun E d F=>?_;refine b7 hJ (rg 11 10 [8]) (fun m G F'=>∃(i11:Nat) (v10:b6),m=b.length - i11/\i11<=b.length/\bQ (o6 u0) i11 (b.drop i11) v10=some E/\F'=⟨ro,(C,.cells #[.int .i64 0,.int .i64 0,.int .i64 0,.int .i64 0,.int .i64 0,.int .i64 0] 116)::(y,.cells #[.int .i64 v10.spot.aQ,.int .i64 v10.spot.high.num,.int .i64 v10.spot.high.den,.int .i64 v10.at_,.int .i64 v10.high.num,.int .i64 v10.high.den] 116)::[]⟩/\slot G 11= .int .i64 (i11:Int)) b.length ?_ ?_
 .refine ⟨0,c,(Nat.sub_zero _).symm,Nat.zero_le _,d,rfl,?_⟩;simp only[*,go_sem]
 rintro ae al F' o ⟨i11,v10,rfl,ao,d,rfl,ar⟩;obtain ⟨H,I,K⟩:=o.pick [0,4,6,9,10] aO;simp only[*,go_sem] at H I K;clear o t hd u k1 w;apply aD hJ _;apply ah hJ;rcases Nat.lt_or_ge i11 b.length with L|p
 .refine cz hJ ?_;apply aK hJ;obtain ⟨f,g⟩:∃x,b[i11]?=some x:=⟨_,List.getElem?_eq_getElem L⟩
  rw[dr g] at d;revert d;refine bS fun a0 h q=>?_;unfold o6 at h;try dsimp only at h
  obtain ⟨a2,M,N,O,e⟩:=k.el _ _ g;obtain rfl:M=f.cells:=O;cases N;have P:=e 0 _ rfl;simp only[go_sem] at P;have Q:=e 1 _ rfl;simp only[go_sem] at Q;have R:=e 2 _ rfl;simp only[go_sem] at R;have S:=e 3 _ rfl;simp only[go_sem] at S;have T:=e 4 _ rfl;simp only[go_sem] at T;have U:=e 5 _ rfl;simp only[go_sem] at U;clear e g;refine ah hJ (aW hJ (ah hJ ?_));apply aM hJ _;refine az fun a3 a4 V=>?_;try simp only[au] at V
  apply an hJ;revert h;refine bS fun a5 W h=>?_;apply ag _;refine bf hJ _ (s.2 _ (fun a v h=>bg a v h) v10 f _ W) ?_;revert h;refine aX hJ (fun X h=>?_) fun X h=>?_
  .cases h;apply aM hJ _;have Y:=cw (n:=i11) (by have:=l;omega);apply aM hJ _;refine ⟨b.length - (i11+1),aa,_,Le.sub (List.Sublist.cons _ (List.Sublist.refl _)),i11+1,f,rfl,aa,q,rfl,?_⟩;simp only[*,go_sem]
  cases h;apply aK hJ;have Y:=cw (n:=i11) (by have:=l;omega);apply aM hJ _;refine ⟨b.length - (i11+1),aa,_,Le.sub (List.Sublist.cons _ (List.Sublist.refl _)),i11+1,v10,rfl,aa,q,rfl,?_⟩;simp only[*,go_sem]
 have a6:=Nat.not_lt.2 p;refine cB hJ ?_;rw[List.drop_eq_nil_of_le p] at d;obtain rfl:=sI d;clear d;have h:=F;dsimp only[aL] at h;cases h;apply bT;simp only[go_sem];apply aD hJ _;apply aJ;simp only[*,go_sem]
def uJ (u0:(ay->ay->Option Bool))(i11:Nat)(a:ay)(st:ay):Option (Fl ay ay):=
 aj (u0 st a) fun b=>cond (b) (some (.nx a)) (some (.nx st))
def kY (u0:(ay->ay->Option Bool))(a:ay)(b:(List ay)):Option ay:=
 aj (bQ (uJ u0) 0 b a) fun o=>aL o (fun c=>some c) (fun _ _=>none) (fun r=>some r)
theorem m5 {ro:Addr->Option Value}(u0:(ay->ay->Option Bool)){dM:FuncId}{ej ek:Array Value}(s:aN Tryz.prog dM=true/\∀(aT:Addr->Option Value),Ext ro aT->∀(i:ay) (j:ay) (z:Bool),u0 i j=some z->aA Tryz.prog dM (ej++#[i.v,j.v]++ek) ⟨aT,[]⟩ (fun v _=>v= .bool z))(d:ay)(b:(List ay)){s1:Value}(k:aB iz ro s1 b){r:ay}(h:kY u0 d b=some r):aA Tryz.prog 88 #[.func (.func dM) ej ek,.agg #[.int .i64 d.num,.int .i64 d.den],s1] ⟨ro,[]⟩ (fun v _=>v=r.v):=by
 obtain ⟨d3,c4,rfl,V,l,-⟩:=id k;unfold kY at h;refine aA.go Tryz.func88 rfl Tryz.ntmps88 Tryz.results88 av fun main J hJ A t hd hs=>?_;have u:=hs 0;have k1:=hs 1;have w:=hs 2;clear hs;apply aD hJ _;refine az fun y W B=>?_;try simp only[au] at B
 refine az fun C X D=>?_;try simp only[au] at D
 refine ah hJ (an hJ ?_);apply ag _;apply aW hJ;revert h;refine bS fun E c F=>?_;refine b7 hJ (rg 11 10 [8]) (fun m G F'=>∃(i11:Nat) (v10:ay),m=b.length - i11/\i11<=b.length/\bQ (uJ u0) i11 (b.drop i11) v10=some E/\F'=⟨ro,(C,rt 0 0)::(y,rt v10.num v10.den)::[]⟩/\slot G 11= .int .i64 (i11:Int)) b.length ?_ ?_
 .refine ⟨0,d,(Nat.sub_zero _).symm,Nat.zero_le _,c,rfl,?_⟩;simp only[*,go_sem]
 rintro Y Z F' o ⟨i11,v10,rfl,ab,c,rfl,ad⟩;obtain ⟨H,I,K⟩:=o.pick [0,4,6,9,10] aO;simp only[*,go_sem] at H I K;clear o t hd u k1 w;apply aD hJ _;apply ah hJ;rcases Nat.lt_or_ge i11 b.length with L|p
 .refine cz hJ ?_;apply aK hJ;obtain ⟨e,f⟩:∃x,b[i11]?=some x:=⟨_,List.getElem?_eq_getElem L⟩
  rw[dr f] at c;revert c;refine bS fun ae h q=>?_;unfold uJ at h;try dsimp only at h
  obtain ⟨al,M,N,O,g⟩:=k.el _ _ f;obtain rfl:M=e.cells:=O;cases N;have P:=g 0 _ rfl;simp only[go_sem] at P;have Q:=g 1 _ rfl;simp only[go_sem] at Q;clear g f;refine ah hJ (aW hJ (ah hJ ?_));apply aM hJ _;refine az fun ao ar R=>?_;try simp only[au] at R
  apply an hJ;revert h;refine bS fun a0 S h=>?_;apply ag _;refine bf hJ _ (s.2 _ (fun a v h=>bg a v h) v10 e _ S) ?_;revert h;refine aX hJ (fun T h=>?_) fun T h=>?_
  .cases h;apply aM hJ _;have U:=cw (n:=i11) (by have:=l;omega);apply aM hJ _;refine ⟨b.length - (i11+1),aa,_,Le.sub (List.Sublist.cons _ (List.Sublist.refl _)),i11+1,e,rfl,aa,q,rfl,?_⟩;simp only[*,go_sem]
  cases h;apply aK hJ;have U:=cw (n:=i11) (by have:=l;omega);apply aM hJ _;refine ⟨b.length - (i11+1),aa,_,Le.sub (List.Sublist.cons _ (List.Sublist.refl _)),i11+1,v10,rfl,aa,q,rfl,?_⟩;simp only[*,go_sem]
 have a2:=Nat.not_lt.2 p;refine cB hJ ?_;rw[List.drop_eq_nil_of_le p] at c;obtain rfl:=sI c;clear c;have h:=F;dsimp only[aL] at h;cases h;apply bT;simp only[go_sem];apply aD hJ _;apply aJ;simp only[*,go_sem]
def qZ (u0:b6)(a:b6):Option Bool:=
 aj (jc a u0) fun b=>some b
theorem EA {ro:Addr->Option Value}(u0:b6)(a:b6){r:Bool}(h:qZ u0 a=some r):aA Tryz.prog 95 #[.agg #[.int .i64 u0.spot.aQ,.int .i64 u0.spot.high.num,.int .i64 u0.spot.high.den,.int .i64 u0.at_,.int .i64 u0.high.num,.int .i64 u0.high.den],.agg #[.int .i64 a.spot.aQ,.int .i64 a.spot.high.num,.int .i64 a.spot.high.den,.int .i64 a.at_,.int .i64 a.high.num,.int .i64 a.high.den]] ⟨ro,[]⟩ (fun v _=>v= .bool r):=by
 unfold qZ at h;refine aA.go Tryz.func95 rfl Tryz.ntmps95 Tryz.results95 av fun main J hJ A c hd hs=>?_;have d:=hs 0;have k1:=hs 1;clear hs;apply aD hJ _;refine az fun e r1 n1=>?_;try simp only[au] at n1
 refine az fun b2 r2 n2=>?_;try simp only[au] at n2
 apply an hJ;revert h;refine bS fun f b h=>?_;cases h;apply ag _;refine bf hJ _ (qU a u0 b) (aP ?_);apply ag _;apply aJ;simp only[*,go_sem]
def q2 (u0:ay)(a:ay):Option Bool:=
 aj (fo a u0) fun b=>some b
theorem EB {ro:Addr->Option Value}(u0:ay)(a:ay){r:Bool}(h:q2 u0 a=some r):aA Tryz.prog 86 #[.agg #[.int .i64 u0.num,.int .i64 u0.den],.agg #[.int .i64 a.num,.int .i64 a.den]] ⟨ro,[]⟩ (fun v _=>v= .bool r):=by
 unfold q2 at h;refine aA.go Tryz.func86 rfl Tryz.ntmps86 Tryz.results86 av fun main J hJ A c hd hs=>?_;have d:=hs 0;have k1:=hs 1;clear hs;apply aD hJ _;refine az fun e r1 n1=>?_;try simp only[au] at n1
 refine az fun b2 r2 n2=>?_;try simp only[au] at n2
 apply an hJ;revert h;refine bS fun f b h=>?_;cases h;apply ag _;refine bf hJ _ (jb a u0 b) (aP ?_);apply ag _;apply aJ;simp only[*,go_sem]
def q3 (u0:aC)(i32:Nat)(a:cn)(st:Int):Option (Fl Int Int):=
 aj (m3 u0 a.aS) fun b=>cond (!b) (some (.rt 6)) (some (.nx st))
def me (u0:aC):Option Int:=
 cond (decide (3<(u0.told.length:Int))) (some 2) (aj (bQ (q3 u0) 0 u0.told 0) fun o=>aL o (fun a=>some 0) (fun _ _=>none) (fun r=>some r))
theorem EC {ro:Addr->Option Value}(u0:aC){s1 c d j:Value}(e:bV ro u0 s1 c d j){r:Int}(h:me u0=some r):aA Tryz.prog 256 #[bv u0 s1 c d j] ⟨ro,[]⟩ (fun v _=>v= .int .i64 r):=by
 obtain ⟨d24,s,rfl,R,u,-⟩:=id e.t;unfold me at h;refine aA.go Tryz.func256 rfl Tryz.ntmps256 Tryz.results256 av fun main J hJ A w hd hs=>?_;have y:=hs 0;clear hs;apply aD hJ _;refine az fun z S B=>?_;try simp only[au] at B
 refine ah hJ (an hJ ?_);apply ag _;revert h;refine aX hJ (fun C h=>?_) fun C h=>?_
 .cases h;apply aD hJ _;apply aJ;simp only[*,go_sem]
 refine aK hJ (ah hJ ?_);apply aD hJ _;apply aW hJ;revert h;refine bS fun D a k=>?_;refine b7 hJ (rg 14 10 [2,4]) (fun m l F'=>∃(i32:Nat) (b:Int),m=u0.told.length - i32/\i32<=u0.told.length/\bQ (q3 u0) i32 (u0.told.drop i32) b=some D/\F'=⟨ro,(z,bl u0 s1 c d (sl d24 u0.told s))::[]⟩/\slot l 14= .int .i64 (i32:Int)/\slot l 2= .int .i64 b) u0.told.length ?_ ?_
 .refine ⟨0,0,(Nat.sub_zero _).symm,Nat.zero_le _,a,rfl,?_⟩;simp only[*,go_sem]
 rintro T U F' o ⟨i32,b,rfl,V,a,rfl,W,X⟩;obtain ⟨E,F,G⟩:=o.pick [1,12,13] aO;simp only[*,go_sem] at E F G;clear o w hd y;apply aD hJ _;apply ah hJ;rcases Nat.lt_or_ge i32 u0.told.length with H|p
 .refine cz hJ ?_;apply aK hJ;obtain ⟨q,f⟩:∃x,u0.told[i32]?=some x:=⟨_,List.getElem?_eq_getElem H⟩
  rw[dr f] at a;revert a;refine bS fun Y h g=>?_;unfold q3 at h;try dsimp only at h
  obtain ⟨Z,I,K,L,i⟩:=e.t.el _ _ f;obtain rfl:I=q.cells:=L;cases K;have M:=i 0 _ rfl;simp only[go_sem] at M;have N:=i 1 _ rfl;simp only[go_sem] at N;clear i f;refine ah hJ (aW hJ (ah hJ ?_));apply aM hJ _;refine az fun ab ad O=>?_;try simp only[au] at O
  apply an hJ;revert h;refine bS fun ae P h=>?_;apply ag _;refine bf hJ _ (zZ u0 (e.mono bg) q.aS P) (aP ?_);apply ag _;revert h;refine aX hJ (fun Q h=>?_) fun Q h=>?_
  .cases h;apply aD hJ _;obtain rfl:=sI g;clear g;have h:=k;dsimp only[aL] at h;cases h;apply aJ;simp only[*,go_sem]
  cases h;apply aK hJ;have al:=cw (n:=i32) (by have:=u;omega);apply aM hJ _;refine ⟨u0.told.length - (i32+1),aa,_,Le.sub (List.Sublist.cons _ (List.Sublist.refl _)),i32+1,b,rfl,aa,g,rfl,?_⟩;simp only[*,go_sem]
 have ao:=Nat.not_lt.2 p;refine cB hJ ?_;rw[List.drop_eq_nil_of_le p] at a;obtain rfl:=sI a;clear a;have h:=k;dsimp only[aL] at h;cases h;apply bT;simp only[go_sem];apply aD hJ _;apply aJ;simp only[*,go_sem]
def q4 (i34:Nat)(a:dc)(st:Int):Option (Fl Int Int):=
 aj (fV a.back 1 20) fun b=>cond (!b) (some (.rt 1)) (aj (oX a.high 0 60) fun c=>cond (!c) (some (.rt 1)) (cond (decide (3<=(IntKind.i64.wrap (a.high.high - a.high.low)))) (some (.rt 1)) (some (.nx st))))
def mg (u0:aC):Option Int:=
 aj (fV (u0.aU.length:Int) 1 3) fun a=>cond (!a) (some 2) (aj (bQ (q4) 0 u0.aU 0) fun o=>aL o (fun b=>some 0) (fun _ _=>none) (fun r=>some r))
theorem ED {ro:Addr->Option Value}(u0:aC){s1 f k g:Value}(l:bV ro u0 s1 f k g){r:Int}(h:mg u0=some r):aA Tryz.prog 255 #[bv u0 s1 f k g] ⟨ro,[]⟩ (fun v _=>v= .int .i64 r):=by
 obtain ⟨d17,s,rfl,W,t,-⟩:=id l.y;unfold mg at h;refine aA.go Tryz.func255 rfl Tryz.ntmps255 Tryz.results255 av fun main J hJ A u hd hs=>?_;have w:=hs 0;clear hs;apply aD hJ _;refine az fun z X B=>?_;try simp only[au] at B
 refine ah hJ (an hJ ?_);revert h;refine bS fun Y C h=>?_;apply ag _;refine bf hJ _ (gM (u0.aU.length:Int) 1 3 C) (aP ?_);apply ag _;revert h;refine aX hJ (fun D h=>?_) fun D h=>?_
 .cases h;apply aD hJ _;apply aJ;simp only[*,go_sem]
 refine aK hJ (ah hJ ?_);apply aD hJ _;apply aW hJ;revert h;refine bS fun E a c=>?_;refine b7 hJ (rg 15 25 [2,4]) (fun m o F'=>∃(i34:Nat) (d:Int),m=u0.aU.length - i34/\i34<=u0.aU.length/\bQ (q4) i34 (u0.aU.drop i34) d=some E/\F'=⟨ro,(z,bl u0 s1 f (sl d17 u0.aU s) g)::[]⟩/\slot o 15= .int .i64 (i34:Int)/\slot o 2= .int .i64 d) u0.aU.length ?_ ?_
 .refine ⟨0,0,(Nat.sub_zero _).symm,Nat.zero_le _,a,rfl,?_⟩;simp only[*,go_sem]
 rintro Z ab F' p ⟨i34,d,rfl,ad,a,rfl,ae,al⟩;obtain ⟨F,G,H⟩:=p.pick [13,14] aO;simp only[*,go_sem] at F G H;clear p u hd w;apply aD hJ _;apply ah hJ;rcases Nat.lt_or_ge i34 u0.aU.length with I|q
 .refine cz hJ ?_;apply aK hJ;obtain ⟨i,j⟩:∃x,u0.aU[i34]?=some x:=⟨_,List.getElem?_eq_getElem I⟩
  rw[dr j] at a;revert a;refine bS fun ao h b=>?_;unfold q4 at h;try dsimp only at h
  obtain ⟨ar,K,L,M,e⟩:=l.y.el _ _ j;obtain rfl:K=i.cells:=M;cases L;have N:=e 0 _ rfl;simp only[go_sem] at N;have O:=e 1 _ rfl;simp only[go_sem] at O;have P:=e 2 _ rfl;simp only[go_sem] at P;clear e j;refine ah hJ (aW hJ (ah hJ ?_));apply aM hJ _;refine az fun a0 a2 Q=>?_;try simp only[au] at Q
  apply an hJ;revert h;refine bS fun a3 R h=>?_;apply ag _;refine bf hJ _ (gM i.back 1 20 R) (aP ?_);revert h;refine cS (fun S h=>?_) fun S h=>?_
  .cases h;apply ag _;refine cz hJ ?_;apply aD hJ _;obtain rfl:=sI b;clear b;have h:=c;dsimp only[aL] at h;cases h;apply aJ;simp only[*,go_sem]
  revert h;refine bS fun a4 T h=>?_;apply ag _;refine bf hJ _ (zY i.high 0 60 T) (aP ?_);revert h;refine cS (fun U h=>?_) fun U h=>?_
  .cases h;apply ag _;refine cz hJ ?_;apply aD hJ _;obtain rfl:=sI b;clear b;have h:=c;dsimp only[aL] at h;cases h;apply aJ;simp only[*,go_sem]
  apply ag _;revert h;refine aX hJ (fun V h=>?_) fun V h=>?_
  .cases h;apply aD hJ _;obtain rfl:=sI b;clear b;have h:=c;dsimp only[aL] at h;cases h;apply aJ;simp only[*,go_sem]
  cases h;apply aK hJ;have a5:=cw (n:=i34) (by have:=t;omega);apply aM hJ _;refine ⟨u0.aU.length - (i34+1),aa,_,Le.sub (List.Sublist.cons _ (List.Sublist.refl _)),i34+1,d,rfl,aa,b,rfl,?_⟩;simp only[*,go_sem]
 have a6:=Nat.not_lt.2 q;refine cB hJ ?_;rw[List.drop_eq_nil_of_le q] at a;obtain rfl:=sI a;clear a;have h:=c;dsimp only[aL] at h;cases h;apply bT;simp only[go_sem];apply aD hJ _;apply aJ;simp only[*,go_sem]
def q5 (u0:aC)(i32:Nat)(a:c7)(st:Int):Option (Fl Int Int):=
 aj (iB u0 a.place) fun c=>cond (!c) (some (.rt 6)) (aj (hH a.fG u0) fun b=>cond ((b != 0)) (some (.rt b)) (some (.nx st)))
def mh (u0:aC):Option Int:=
 cond (decide (3<(u0.props.length:Int))) (some 2) (aj (bQ (q5 u0) 0 u0.props 0) fun o=>aL o (fun a=>some 0) (fun _ _=>none) (fun r=>some r))
theorem EE {ro:Addr->Option Value}(u0:aC){s1 l e f:Value}(c:bV ro u0 s1 l e f){r:Int}(h:mh u0=some r):aA Tryz.prog 254 #[bv u0 s1 l e f] ⟨ro,[]⟩ (fun v _=>v= .int .i64 r):=by
 obtain ⟨d10,t,rfl,T,u,-⟩:=id c.p;unfold mh at h;refine aA.go Tryz.func254 rfl Tryz.ntmps254 Tryz.results254 av fun main J hJ A w hd hs=>?_;have y:=hs 0;clear hs;apply aD hJ _;refine az fun z U B=>?_;try simp only[au] at B
 refine ah hJ (an hJ ?_);apply ag _;revert h;refine aX hJ (fun C h=>?_) fun C h=>?_
 .cases h;apply aD hJ _;apply aJ;simp only[*,go_sem]
 refine aK hJ (ah hJ ?_);apply aD hJ _;apply aW hJ;revert h;refine bS fun D a g=>?_;refine b7 hJ (rg 15 17 [2,4,5]) (fun m o F'=>∃(i32:Nat) (d:Int),m=u0.props.length - i32/\i32<=u0.props.length/\bQ (q5 u0) i32 (u0.props.drop i32) d=some D/\F'=⟨ro,(z,bl u0 s1 (sl d10 u0.props t) e f)::[]⟩/\slot o 15= .int .i64 (i32:Int)/\slot o 2= .int .i64 d) u0.props.length ?_ ?_
 .refine ⟨0,0,(Nat.sub_zero _).symm,Nat.zero_le _,a,rfl,?_⟩;simp only[*,go_sem]
 rintro V W F' q ⟨i32,d,rfl,X,a,rfl,Y,Z⟩;obtain ⟨E,F,G⟩:=q.pick [1,13,14] aO;simp only[*,go_sem] at E F G;clear q w hd y;apply aD hJ _;apply ah hJ;rcases Nat.lt_or_ge i32 u0.props.length with H|s
 .refine cz hJ ?_;apply aK hJ;obtain ⟨i,j⟩:∃x,u0.props[i32]?=some x:=⟨_,List.getElem?_eq_getElem H⟩
  rw[dr j] at a;revert a;refine bS fun ab h b=>?_;unfold q5 at h;try dsimp only at h
  obtain ⟨ad,I,K,L,k⟩:=c.p.el _ _ j;obtain rfl:I=i.cells:=L;cases K;have M:=k 0 _ rfl;simp only[go_sem] at M;have N:=k 1 _ rfl;simp only[go_sem] at N;clear k j;refine ah hJ (aW hJ (ah hJ ?_));apply aM hJ _;refine az fun ae al O=>?_;try simp only[au] at O
  refine ah hJ (an hJ ?_);revert h;refine bS fun ao P h=>?_;apply ag _;refine bf hJ _ (qW u0 (c.mono bg) i.place P) (aP ?_);apply ag _;revert h;refine aX hJ (fun Q h=>?_) fun Q h=>?_
  .cases h;apply aD hJ _;obtain rfl:=sI b;clear b;have h:=g;dsimp only[aL] at h;cases h;apply aJ;simp only[*,go_sem]
  refine aK hJ (ah hJ ?_);apply aG hJ;revert h;refine bS fun ar R h=>?_;apply ag _;refine bf hJ _ (uI i.fG u0 (c.mono bg) R) (aP ?_);apply ag _;apply aD hJ _;revert h;refine aX hJ (fun S h=>?_) fun S h=>?_
  .cases h;apply aD hJ _;obtain rfl:=sI b;clear b;have h:=g;dsimp only[aL] at h;cases h;apply aJ;simp only[*,go_sem]
  cases h;apply aK hJ;have a0:=cw (n:=i32) (by have:=u;omega);apply aM hJ _;refine ⟨u0.props.length - (i32+1),aa,_,Le.sub (List.Sublist.cons _ (List.Sublist.refl _)),i32+1,d,rfl,aa,b,rfl,?_⟩;simp only[*,go_sem]
 have a2:=Nat.not_lt.2 s;refine cB hJ ?_;rw[List.drop_eq_nil_of_le s] at a;obtain rfl:=sI a;clear a;have h:=g;dsimp only[aL] at h;cases h;apply bT;simp only[go_sem];apply aD hJ _;apply aJ;simp only[*,go_sem]
def q6 (u0:aC)(i34:Nat)(a:b8)(st:Int):Option (Fl Int Int):=
 aj (fV a.aQ 0 (IntKind.i64.wrap (u0.bE - 1))) fun b=>cond (!b) (some (.rt 1)) (aj (fV a.high 0 60) fun c=>cond (!c) (some (.rt 1)) (cond (decide (0<(i34:Int))) (aj (bH u0.aR (IntKind.i64.wrap ((i34:Int) - 1))) fun d=>cond (decide (a.aQ<=d.aQ)) (some (.rt 7)) (some (.nx st))) (some (.nx st))))
def kZ (u0:aC):Option Int:=
 aj (fV (u0.aR.length:Int) 2 5) fun a=>cond (!a) (some 2) (aj (bQ (q6 u0) 0 u0.aR 0) fun o=>aL o (fun b=>some 0) (fun _ _=>none) (fun r=>some r))
theorem EF {ro:Addr->Option Value}(u0:aC){s1 f g i:Value}(j:bV ro u0 s1 f g i){r:Int}(h:kZ u0=some r):aA Tryz.prog 253 #[bv u0 s1 f g i] ⟨ro,[]⟩ (fun v _=>v= .int .i64 r):=by
 obtain ⟨d3,c4,rfl,ar,q,-⟩:=id j.e;unfold kZ at h;refine aA.go Tryz.func253 rfl Tryz.ntmps253 Tryz.results253 av fun main J hJ A y hd hs=>?_;have z:=hs 0;clear hs;apply aD hJ _;refine az fun B a0 C=>?_;try simp only[au] at C
 refine ah hJ (an hJ ?_);revert h;refine bS fun a2 D h=>?_;apply ag _;refine bf hJ _ (gM (u0.aR.length:Int) 2 5 D) (aP ?_);apply ag _;revert h;refine aX hJ (fun E h=>?_) fun E h=>?_
 .cases h;apply aD hJ _;apply aJ;simp only[*,go_sem]
 refine aK hJ (ah hJ ?_);apply aD hJ _;apply aW hJ;revert h;refine bS fun F b d=>?_;refine b7 hJ (rg 15 35 [2,3,4]) (fun m s F'=>∃(i34:Nat) (c:Int),m=u0.aR.length - i34/\i34<=u0.aR.length/\bQ (q6 u0) i34 (u0.aR.drop i34) c=some F/\F'=⟨ro,(B,bl u0 (sl d3 u0.aR c4) f g i)::[]⟩/\slot s 15= .int .i64 (i34:Int)/\slot s 2= .int .i64 c) u0.aR.length ?_ ?_
 .refine ⟨0,0,(Nat.sub_zero _).symm,Nat.zero_le _,b,rfl,?_⟩;simp only[*,go_sem]
 rintro a3 a4 F' t ⟨i34,c,rfl,a5,b,rfl,a6,a7⟩;obtain ⟨G,H,I⟩:=t.pick [1,13,14] aO;simp only[*,go_sem] at G H I;clear t y hd z;apply aD hJ _;apply ah hJ;rcases Nat.lt_or_ge i34 u0.aR.length with K|u
 .refine cz hJ ?_;apply aK hJ;obtain ⟨k,l⟩:∃x,u0.aR[i34]?=some x:=⟨_,List.getElem?_eq_getElem K⟩
  rw[dr l] at b;revert b;refine bS fun a8 h a=>?_;unfold q6 at h;try dsimp only at h
  obtain ⟨a9,L,M,N,o⟩:=j.e.el _ _ l;obtain rfl:L=k.cells:=N;cases M;have O:=o 0 _ rfl;simp only[go_sem] at O;have P:=o 1 _ rfl;simp only[go_sem] at P;clear o l;refine ah hJ (aW hJ (ah hJ ?_));apply aM hJ _;refine az fun ba bb Q=>?_;try simp only[au] at Q
  refine aW hJ (ah hJ ?_);apply an hJ;revert h;refine bS fun bc R h=>?_;apply ag _;refine bf hJ _ (gM k.aQ 0 (IntKind.i64.wrap (u0.bE - 1)) R) (aP ?_);apply ag _;revert h;refine aX hJ (fun S h=>?_) fun S h=>?_
  .cases h;apply aK hJ;refine cz hJ ?_;apply aD hJ _;obtain rfl:=sI a;clear a;have h:=d;dsimp only[aL] at h;cases h;apply aJ;simp only[*,go_sem]
  apply aG hJ;revert h;refine bS fun bd T h=>?_;apply ag _;refine bf hJ _ (gM k.high 0 60 T) (aP ?_);apply ag _;revert h;refine aX hJ (fun U h=>?_) fun U h=>?_
  .cases h;apply aD hJ _;obtain rfl:=sI a;clear a;have h:=d;dsimp only[aL] at h;cases h;apply aJ;simp only[*,go_sem]
  apply ah hJ;refine cM hJ mixed 16 2 aI ai ?_;revert h;refine cS (fun V h=>?_) fun V h=>?_
  .revert h;refine bS fun W X h=>?_;obtain ⟨bj,bk,w⟩:=c6 X;obtain ⟨bm,Y,Z,ab,p⟩:=j.e.el _ _ w;obtain rfl:Y=W.cells:=ab;cases Z;have ad:=p 0 _ rfl;simp only[go_sem] at ad;have ae:=p 1 _ rfl;simp only[go_sem] at ae;clear p w;apply ag _;revert h;refine aX hJ (fun al h=>?_) fun al h=>?_
   .cases h;apply aD hJ _;obtain rfl:=sI a;clear a;have h:=d;dsimp only[aL] at h;cases h;apply aJ;simp only[*,go_sem]
   cases h;apply aK hJ;have ao:=cw (n:=i34) (by have:=q;omega);apply aM hJ _;refine ⟨u0.aR.length - (i34+1),aa,_,Le.sub (List.Sublist.cons _ (List.Sublist.refl _)),i34+1,c,rfl,aa,a,rfl,?_⟩;simp only[*,go_sem]
  cases h;apply ag _;refine cB hJ ?_;apply aK hJ;have ao:=cw (n:=i34) (by have:=q;omega);apply aM hJ _;refine ⟨u0.aR.length - (i34+1),aa,_,Le.sub (List.Sublist.cons _ (List.Sublist.refl _)),i34+1,c,rfl,aa,a,rfl,?_⟩;simp only[*,go_sem]
 have bo:=Nat.not_lt.2 u;refine cB hJ ?_;rw[List.drop_eq_nil_of_le u] at b;obtain rfl:=sI b;clear b;have h:=d;dsimp only[aL] at h;cases h;apply bT;simp only[go_sem];apply aD hJ _;apply aJ;simp only[*,go_sem]
def m6 (u0:aC):Option Int:=
 aj (fV u0.bE 2 60) fun b=>cond (!b) (some 1) (aj (fV u0.cD 0 60) fun c=>cond (!c) (some 1) (aj (fV u0.bx.den 1 20) fun d=>cond (!d) (some 1) (aj (fV u0.bx.num 0 20) fun e=>cond (!e) (some 1) (aj (j7 u0.bx.num u0.bx.den) fun a=>cond (!((a.num==u0.bx.num)&&(a.den==u0.bx.den))) (some 3) (some 0)))))
theorem EG {ro:Addr->Option Value}(u0:aC){s1 a b c:Value}(z:bV ro u0 s1 a b c){r:Int}(h:m6 u0=some r):aA Tryz.prog 252 #[bv u0 s1 a b c] ⟨ro,[]⟩ (fun v _=>v= .int .i64 r):=by
 unfold m6 at h;refine aA.go Tryz.func252 rfl Tryz.ntmps252 Tryz.results252 av fun main J hJ A d hd hs=>?_;have e:=hs 0;clear hs;apply aD hJ _;refine az fun B C f=>?_;try simp only[au] at f
 refine ah hJ (aW hJ (ah hJ ?_));apply an hJ;revert h;refine bS fun D g h=>?_;apply ag _;refine bf hJ _ (gM u0.bE 2 60 g) (aP ?_);apply ag _;revert h;refine aX hJ (fun i h=>?_) fun i h=>?_
 .cases h;apply aK hJ;refine cz hJ ?_;apply aD hJ _;apply aJ;simp only[*,go_sem]
 apply an hJ;revert h;refine bS fun E j h=>?_;apply ag _;refine bf hJ _ (gM u0.cD 0 60 j) (aP ?_);apply ag _;revert h;refine aX hJ (fun k h=>?_) fun k h=>?_
 .cases h;apply aK hJ;refine cz hJ ?_;apply aD hJ _;apply aJ;simp only[*,go_sem]
 apply an hJ;revert h;refine bS fun G l h=>?_;apply ag _;refine bf hJ _ (gM u0.bx.den 1 20 l) (aP ?_);apply ag _;revert h;refine aX hJ (fun m h=>?_) fun m h=>?_
 .cases h;apply aK hJ;refine cz hJ ?_;apply aD hJ _;apply aJ;simp only[*,go_sem]
 apply aG hJ;revert h;refine bS fun H n h=>?_;apply ag _;refine bf hJ _ (gM u0.bx.num 0 20 n) (aP ?_);apply ag _;revert h;refine aX hJ (fun o h=>?_) fun o h=>?_
 .cases h;apply aD hJ _;apply aJ;simp only[*,go_sem]
 apply ah hJ;refine cM hJ mixed 14 1 aI ai ?_;revert h;refine bS fun I p h=>?_;apply ag _;refine ⟨_,bD hJ fun F K=>oZ u0.bx.num u0.bx.den p,bY ?_⟩;apply ag _;revert h;refine aX hJ (fun q h=>?_) fun q h=>?_
 .cases h;apply ah hJ;refine eU [2] fun L s t u=>?_;simp only[*,go_sem] at s t u;clear d hd e;apply aM hJ _;apply aJ;simp only[*,go_sem]
 cases h;refine aK hJ (ah hJ ?_);refine eU [2] fun M w x y=>?_;simp only[*,go_sem] at w x y;clear d hd e;apply aM hJ _;apply aJ;simp only[*,go_sem]
def dy (ro:Addr->Option Value):Prop:=
 ro ⟨1,0,none⟩=some (.func (.func 252) #[] #[])/\ro ⟨1,1,none⟩=some (.func (.func 253) #[] #[])/\ro ⟨1,2,none⟩=some (.func (.func 254) #[] #[])/\ro ⟨1,3,none⟩=some (.func (.func 255) #[] #[])/\ro ⟨1,4,none⟩=some (.func (.func 256) #[] #[])/\ro ⟨0,0,none⟩=some (.func (.func 247) #[] #[])/\ro ⟨0,1,none⟩=some (.func (.func 248) #[] #[])/\ro ⟨0,2,none⟩=some (.func (.func 250) #[] #[])
theorem dy.mono {ro aT:Addr->Option Value}(h:dy ro)(a:Ext ro aT):dy aT:=by
 obtain ⟨b,c,d,e,f,g,c1,c2⟩:=h;exact ⟨a _ _ b,a _ _ c,a _ _ d,a _ _ e,a _ _ f,a _ _ g,a _ _ c1,a _ _ c2⟩
def o7 (_:aC):Option Int:=some 0
def m7 (b:aC):Option Int:=aj (me b) fun x=>cond (x != 0) (some x) (o7 b)
def m8 (b:aC):Option Int:=aj (mg b) fun x=>cond (x != 0) (some x) (m7 b)
def m9 (b:aC):Option Int:=aj (mh b) fun x=>cond (x != 0) (some x) (m8 b)
def nc (b:aC):Option Int:=aj (kZ b) fun x=>cond (x != 0) (some x) (m9 b)
def mj (b:aC):Option Int:=aj (m6 b) fun x=>cond (x != 0) (some x) (nc b)
def jD (b:aC):Option Int:=mj b
def q7:Nat->aC->Option Int
 |0=>mj|1=>nc|2=>m9|3=>m8|4=>m7|_=>o7
theorem z1 {ro:Addr->Option Value}(o:dy ro)(u0:aC){s1:Value}(e:aB dV ro s1 u0.aR){s2:Value}(f:aB eV ro s2 u0.props){g:Value}(j:aB fl ro g u0.aU){k:Value}(l:aB dD ro k u0.told){r:Int}(h:jD u0=some r):
  aA Tryz.prog 103 #[.agg #[.int .i64 u0.bE,.int .i64 u0.cD,.int .i64 u0.bx.num,.int .i64 u0.bx.den,s1,s2,g,k]] ⟨ro,[]⟩ (fun v _=>v= .int .i64 r):=by
 obtain ⟨s,t,u,w,y,-⟩:=o
 replace h:q7 0 u0=some r:=h
 refine aA.go Tryz.func103 rfl Tryz.ntmps103 Tryz.results103 av fun main J hJ A p hd hs=>?_
 have z:=hs 0
 clear hs
 first|refine aG hJ ?_|refine an hJ ?_|refine ah hJ (an hJ ?_)|refine ah hJ (ah hJ (an hJ ?_))
 apply ag _
 intro d f1;have r1:=dI f1;have n1:=ew f1;simp only[au] at n1
 first|refine aG hJ ?_|refine an hJ ?_|refine ah hJ (an hJ ?_)|refine ah hJ (ah hJ (an hJ ?_))
 apply ag _
 first|refine aW hJ (mU hJ (fun m a F=>∃i:Nat,F=⟨ro,[(d,.cells #[.int .i64 u0.bE,.int .i64 u0.cD,.int .i64 u0.bx.num,.int .i64 u0.bx.den,s1,s2,g,k] 29)]⟩/\m=5 - i/\sz a=18/\a.defers=[]/\slot a 1= .pointer (some ⟨d,0,none⟩)/\slot a 6= .agg #[.func (.func 252) #[] #[],.func (.func 253) #[] #[],.func (.func 254) #[] #[],.func (.func 255) #[] #[],.func (.func 256) #[] #[]]/\slot a 7= .int .i64 i/\i<=5/\q7 i u0=some r) (5) ?_ ?_)|refine ah hJ (aW hJ (mU hJ (fun m a F=>∃i:Nat,F=⟨ro,[(d,.cells #[.int .i64 u0.bE,.int .i64 u0.cD,.int .i64 u0.bx.num,.int .i64 u0.bx.den,s1,s2,g,k] 29)]⟩/\m=5 - i/\sz a=18/\a.defers=[]/\slot a 1= .pointer (some ⟨d,0,none⟩)/\slot a 6= .agg #[.func (.func 252) #[] #[],.func (.func 253) #[] #[],.func (.func 254) #[] #[],.func (.func 255) #[] #[],.func (.func 256) #[] #[]]/\slot a 7= .int .i64 i/\i<=5/\q7 i u0=some r) (5) ?_ ?_))|refine ah hJ (ah hJ (aW hJ (mU hJ (fun m a F=>∃i:Nat,F=⟨ro,[(d,.cells #[.int .i64 u0.bE,.int .i64 u0.cD,.int .i64 u0.bx.num,.int .i64 u0.bx.den,s1,s2,g,k] 29)]⟩/\m=5 - i/\sz a=18/\a.defers=[]/\slot a 1= .pointer (some ⟨d,0,none⟩)/\slot a 6= .agg #[.func (.func 252) #[] #[],.func (.func 253) #[] #[],.func (.func 254) #[] #[],.func (.func 255) #[] #[],.func (.func 256) #[] #[]]/\slot a 7= .int .i64 i/\i<=5/\q7 i u0=some r) (5) ?_ ?_)))
 .refine ⟨0,rfl,rfl,?_⟩
  apply bu _
  first|exact ⟨Nat.zero_le _,h⟩|exact h
 .clear h
  rintro m a F ⟨i,rfl,rfl,p,hd,B,C,D,E,h⟩
  rcases i with _|_|_|_|_|i
  .replace h:aj (m6 u0) (fun x=>cond (x != 0) (some x) (nc u0))=some r:=h
   have b:=dJ h;clear h;obtain ⟨x,q,h⟩:=b
   have n:((0:Nat):Int)=0:=rfl
   first|refine aG hJ ?_|refine an hJ ?_|refine ah hJ (an hJ ?_)|refine ah hJ (ah hJ (an hJ ?_))
   apply bu _
   apply ah hJ
   refine c5 hJ cL ?_
   apply aK hJ
   refine ah hJ (aW hJ ?_)
   first|refine aG hJ ?_|refine an hJ ?_|refine ah hJ (an hJ ?_)|refine ah hJ (ah hJ (an hJ ?_))
   apply bu _
   first|refine aG hJ ?_|refine an hJ ?_|refine ah hJ (an hJ ?_)|refine ah hJ (ah hJ (an hJ ?_))
   apply bu _
   refine bf hJ _ (EG u0 ⟨(e.mono bg),(f.mono bg),(j.mono bg),(l.mono bg)⟩ q) (aP ?_)
   apply bu _
   first|refine aG hJ ?_|refine an hJ ?_|refine ah hJ (an hJ ?_)|refine ah hJ (ah hJ (an hJ ?_))
   apply bu _
   have b:=gJ h;clear h;rcases b with ⟨c,h⟩|⟨c,h⟩
   .refine c5 hJ cL ?_
    first|refine aG hJ ?_|refine an hJ ?_|refine ah hJ (an hJ ?_)|refine ah hJ (ah hJ (an hJ ?_))
    apply bu _
    have b:=Option.some.inj h;clear h;subst b
    apply aJ
    simp only[*,go_sem]
   .refine cW hJ cL ?_
    apply aK hJ
    apply aG hJ
    apply bu _
    refine ⟨5 - 1,aa,_,Le.refl _,1,rfl,rfl,?_⟩
    have hw:IntKind.i64.wrap (0+1)=((1:Nat):Int):=aO
    apply bu _
    first|exact ⟨aa,h⟩|exact h
  .replace h:aj (kZ u0) (fun x=>cond (x != 0) (some x) (m9 u0))=some r:=h
   have b:=dJ h;clear h;obtain ⟨x,q,h⟩:=b
   have n:((0+1:Nat):Int)=1:=rfl
   first|refine aG hJ ?_|refine an hJ ?_|refine ah hJ (an hJ ?_)|refine ah hJ (ah hJ (an hJ ?_))
   apply bu _
   apply ah hJ
   refine c5 hJ cL ?_
   apply aK hJ
   refine ah hJ (aW hJ ?_)
   first|refine aG hJ ?_|refine an hJ ?_|refine ah hJ (an hJ ?_)|refine ah hJ (ah hJ (an hJ ?_))
   apply bu _
   first|refine aG hJ ?_|refine an hJ ?_|refine ah hJ (an hJ ?_)|refine ah hJ (ah hJ (an hJ ?_))
   apply bu _
   refine bf hJ _ (EF u0 ⟨(e.mono bg),(f.mono bg),(j.mono bg),(l.mono bg)⟩ q) (aP ?_)
   apply bu _
   first|refine aG hJ ?_|refine an hJ ?_|refine ah hJ (an hJ ?_)|refine ah hJ (ah hJ (an hJ ?_))
   apply bu _
   have b:=gJ h;clear h;rcases b with ⟨c,h⟩|⟨c,h⟩
   .refine c5 hJ cL ?_
    first|refine aG hJ ?_|refine an hJ ?_|refine ah hJ (an hJ ?_)|refine ah hJ (ah hJ (an hJ ?_))
    apply bu _
    have b:=Option.some.inj h;clear h;subst b
    apply aJ
    simp only[*,go_sem]
   .refine cW hJ cL ?_
    apply aK hJ
    apply aG hJ
    apply bu _
    refine ⟨5 - 2,aa,_,Le.refl _,2,rfl,rfl,?_⟩
    have hw:IntKind.i64.wrap (1+1)=((2:Nat):Int):=aO
    apply bu _
    first|exact ⟨aa,h⟩|exact h
  .replace h:aj (mh u0) (fun x=>cond (x != 0) (some x) (m8 u0))=some r:=h
   have b:=dJ h;clear h;obtain ⟨x,q,h⟩:=b
   have n:((0+1+1:Nat):Int)=2:=rfl
   first|refine aG hJ ?_|refine an hJ ?_|refine ah hJ (an hJ ?_)|refine ah hJ (ah hJ (an hJ ?_))
   apply bu _
   apply ah hJ
   refine c5 hJ cL ?_
   apply aK hJ
   refine ah hJ (aW hJ ?_)
   first|refine aG hJ ?_|refine an hJ ?_|refine ah hJ (an hJ ?_)|refine ah hJ (ah hJ (an hJ ?_))
   apply bu _
   first|refine aG hJ ?_|refine an hJ ?_|refine ah hJ (an hJ ?_)|refine ah hJ (ah hJ (an hJ ?_))
   apply bu _
   refine bf hJ _ (EE u0 ⟨(e.mono bg),(f.mono bg),(j.mono bg),(l.mono bg)⟩ q) (aP ?_)
   apply bu _
   first|refine aG hJ ?_|refine an hJ ?_|refine ah hJ (an hJ ?_)|refine ah hJ (ah hJ (an hJ ?_))
   apply bu _
   have b:=gJ h;clear h;rcases b with ⟨c,h⟩|⟨c,h⟩
   .refine c5 hJ cL ?_
    first|refine aG hJ ?_|refine an hJ ?_|refine ah hJ (an hJ ?_)|refine ah hJ (ah hJ (an hJ ?_))
    apply bu _
    have b:=Option.some.inj h;clear h;subst b
    apply aJ
    simp only[*,go_sem]
   .refine cW hJ cL ?_
    apply aK hJ
    apply aG hJ
    apply bu _
    refine ⟨5 - 3,aa,_,Le.refl _,3,rfl,rfl,?_⟩
    have hw:IntKind.i64.wrap (2+1)=((3:Nat):Int):=aO
    apply bu _
    first|exact ⟨aa,h⟩|exact h
  .replace h:aj (mg u0) (fun x=>cond (x != 0) (some x) (m7 u0))=some r:=h
   have b:=dJ h;clear h;obtain ⟨x,q,h⟩:=b
   have n:((0+1+1+1:Nat):Int)=3:=rfl
   first|refine aG hJ ?_|refine an hJ ?_|refine ah hJ (an hJ ?_)|refine ah hJ (ah hJ (an hJ ?_))
   apply bu _
   apply ah hJ
   refine c5 hJ cL ?_
   apply aK hJ
   refine ah hJ (aW hJ ?_)
   first|refine aG hJ ?_|refine an hJ ?_|refine ah hJ (an hJ ?_)|refine ah hJ (ah hJ (an hJ ?_))
   apply bu _
   first|refine aG hJ ?_|refine an hJ ?_|refine ah hJ (an hJ ?_)|refine ah hJ (ah hJ (an hJ ?_))
   apply bu _
   refine bf hJ _ (ED u0 ⟨(e.mono bg),(f.mono bg),(j.mono bg),(l.mono bg)⟩ q) (aP ?_)
   apply bu _
   first|refine aG hJ ?_|refine an hJ ?_|refine ah hJ (an hJ ?_)|refine ah hJ (ah hJ (an hJ ?_))
   apply bu _
   have b:=gJ h;clear h;rcases b with ⟨c,h⟩|⟨c,h⟩
   .refine c5 hJ cL ?_
    first|refine aG hJ ?_|refine an hJ ?_|refine ah hJ (an hJ ?_)|refine ah hJ (ah hJ (an hJ ?_))
    apply bu _
    have b:=Option.some.inj h;clear h;subst b
    apply aJ
    simp only[*,go_sem]
   .refine cW hJ cL ?_
    apply aK hJ
    apply aG hJ
    apply bu _
    refine ⟨5 - 4,aa,_,Le.refl _,4,rfl,rfl,?_⟩
    have hw:IntKind.i64.wrap (3+1)=((4:Nat):Int):=aO
    apply bu _
    first|exact ⟨aa,h⟩|exact h
  .replace h:aj (me u0) (fun x=>cond (x != 0) (some x) (o7 u0))=some r:=h
   have b:=dJ h;clear h;obtain ⟨x,q,h⟩:=b
   have n:((0+1+1+1+1:Nat):Int)=4:=rfl
   first|refine aG hJ ?_|refine an hJ ?_|refine ah hJ (an hJ ?_)|refine ah hJ (ah hJ (an hJ ?_))
   apply bu _
   apply ah hJ
   refine c5 hJ cL ?_
   apply aK hJ
   refine ah hJ (aW hJ ?_)
   first|refine aG hJ ?_|refine an hJ ?_|refine ah hJ (an hJ ?_)|refine ah hJ (ah hJ (an hJ ?_))
   apply bu _
   first|refine aG hJ ?_|refine an hJ ?_|refine ah hJ (an hJ ?_)|refine ah hJ (ah hJ (an hJ ?_))
   apply bu _
   refine bf hJ _ (EC u0 ⟨(e.mono bg),(f.mono bg),(j.mono bg),(l.mono bg)⟩ q) (aP ?_)
   apply bu _
   first|refine aG hJ ?_|refine an hJ ?_|refine ah hJ (an hJ ?_)|refine ah hJ (ah hJ (an hJ ?_))
   apply bu _
   have b:=gJ h;clear h;rcases b with ⟨c,h⟩|⟨c,h⟩
   .refine c5 hJ cL ?_
    first|refine aG hJ ?_|refine an hJ ?_|refine ah hJ (an hJ ?_)|refine ah hJ (ah hJ (an hJ ?_))
    apply bu _
    have b:=Option.some.inj h;clear h;subst b
    apply aJ
    simp only[*,go_sem]
   .refine cW hJ cL ?_
    apply aK hJ
    apply aG hJ
    apply bu _
    refine ⟨5 - 5,aa,_,Le.refl _,5,rfl,rfl,?_⟩
    have hw:IntKind.i64.wrap (4+1)=((5:Nat):Int):=aO
    apply bu _
    first|exact ⟨aa,h⟩|exact h
  .have:i=0:=aa
   subst this
   replace h:some 0=some r:=h
   have n:((0+1+1+1+1+1:Nat):Int)=5:=rfl
   first|refine aG hJ ?_|refine an hJ ?_|refine ah hJ (an hJ ?_)|refine ah hJ (ah hJ (an hJ ?_))
   apply bu _
   apply ah hJ
   refine cW hJ cL ?_
   apply bT
   simp only[go_sem]
   first|refine aG hJ ?_|refine an hJ ?_|refine ah hJ (an hJ ?_)|refine ah hJ (ah hJ (an hJ ?_))
   apply bu _
   have b:=Option.some.inj h;clear h;subst b
   apply aJ
   simp only[*,go_sem]
def ng (u0:aC)(b:bM)(i39:Nat)(a:b8)(st:(List b6)):Option (Fl (List b6) b6):=
 aj (gN a.high) fun c=>aj (l9 u0 b (i39:Int) (⟨a.aQ,c⟩:g8)) fun d=>aj (eA st ([d])) fun e=>some (.nx e)
def k3 (u0:aC)(b:bM):Option b6:=
 aj (bQ (ng u0 b) 0 u0.aR ([]:List b6)) fun o=>aL o (fun a=>aj (bH a 0) fun c=>aj (jv a 1 (a.length:Int)) fun d=>aj (mc jc c d) fun e=>some e) (fun _ _=>none) (fun r=>some r)
theorem q8 {ro:Addr->Option Value}(u0:aC){s1 f g i:Value}(u:bV ro u0 s1 f g i)(b:bM){r:b6}(h:k3 u0 b=some r):aA Tryz.prog 54 #[bv u0 s1 f g i,.agg #[.int .i64 b.back,.int .i64 b.high]] ⟨ro,[]⟩ (fun v _=>v=r.v):=by
 obtain ⟨d3,c4,rfl,dT,W,-⟩:=id u.e;unfold k3 at h;refine aA.go Tryz.func54 rfl Tryz.ntmps54 Tryz.results54 av fun main J hJ A X hd hs=>?_;have Y:=hs 0;have k1:=hs 1;clear hs;apply aD hJ _;refine az fun o Z ab=>?_;try simp only[au] at ab
 refine az fun p ad ae=>?_;try simp only[au] at ae
 refine az fun q al ao=>?_;try simp only[au] at ao
 apply aD hJ _;refine ah hJ (an hJ ?_);apply ag _;apply aW hJ;revert h;refine bS fun ar j a0=>?_;refine b7 hJ (rg 12 19 [5,6,7]) (fun m G F'=>∃(i39:Nat) (d33:Option Addr) (s:Nat) (w:List (Nat×Obj)) (c:(List b6)),m=u0.aR.length - i39/\i39<=u0.aR.length/\bQ (ng u0 b) i39 (u0.aR.drop i39) c=some ar/\F'=⟨ro,(q,.cells #[.int .i64 0,.int .i64 0,.int .i64 0,.int .i64 0,.int .i64 0,.int .i64 0] 116)::(p,.cells #[.int .i64 b.back,.int .i64 b.high] 112)::(o,bl u0 (sl d3 u0.aR c4) f g i)::w⟩/\aZ j6 ro 116 (.slice d33 c.length s) c w/\c.length<=s/\slot G 12= .int .i64 (i39:Int)/\slot G 5= .slice d33 c.length s) u0.aR.length ?_ ?_
 .refine ⟨0,none,0,[],([]:List b6),(Nat.sub_zero _).symm,Nat.zero_le _,j,rfl,aZ.nil _ _ _,Nat.le_refl _,?_⟩;simp only[*,go_sem]
 rintro ea eb F' H ⟨i39,d33,s,w,c,rfl,ec,j,rfl,I,ed,eh,et⟩;obtain ⟨a2,a3,a4⟩:=H.pick [2,3,4,10,11] aO;simp only[*,go_sem] at a2 a3 a4;clear H X hd Y k1;apply aD hJ _;apply ah hJ;rcases Nat.lt_or_ge i39 u0.aR.length with a5|K
 .refine cz hJ ?_;apply aK hJ;obtain ⟨d,y⟩:∃x,u0.aR[i39]?=some x:=⟨_,List.getElem?_eq_getElem a5⟩
  rw[dr y] at j;revert j;refine bS fun ev h a6=>?_;unfold ng at h;try dsimp only at h
  obtain ⟨z,a7,a8,a9,B⟩:=u.e.el _ _ y;obtain rfl:a7=d.cells:=a9;cases a8;have ba:=B 0 _ rfl;simp only[go_sem] at ba;have bb:=B 1 _ rfl;simp only[go_sem] at bb;clear B y;refine ah hJ (aW hJ (ah hJ ?_));refine aE hJ fun bc=>?_;apply aM hJ _;refine az fun C eQ L=>?_;have eS:=aY.cons L bc;try simp only[au] at L
  refine aE hJ fun bd=>?_;refine eg hJ mixed 11 ⟨ro,[(C,.cells #[.int .i64 d.aQ,.int .i64 d.high] 42),(q,.cells #[.int .i64 0,.int .i64 0,.int .i64 0,.int .i64 0,.int .i64 0,.int .i64 0] 116),(p,.cells #[.int .i64 b.back,.int .i64 b.high] 112),(o,bl u0 (sl (some z) u0.aR c4) f g i)]⟩ aI ai ?_;revert h;refine bS fun bj bk h=>?_;apply ag _;refine ⟨_,bD hJ fun F t=>jB d.high bk,bY ?_⟩;revert h;refine bS fun a bm h=>?_;apply ag _;refine ⟨_,bD hJ fun F t=>z0 u0 (u.mono (cx t)) b (i39:Int) (⟨d.aQ,bj⟩:g8) bm,?_⟩;revert h;refine bS fun bo br h=>?_;cases h;obtain ⟨bs,M⟩:=dQ br;apply ag _;refine az fun N bz O=>?_;have b0:=aY.cons O bd;try simp only[au] at O
  apply ag _;refine eI (r:=j6) (l:=c) (x:=a) (cs:=#[.int .i64 a.spot.aQ,.int .i64 a.spot.high.num,.int .i64 a.spot.high.den,.int .i64 a.at_,.int .i64 a.high.num,.int .i64 a.high.den]) (e2:=116) [(N,.cells #[.int .i64 a.spot.aQ,.int .i64 a.spot.high.num,.int .i64 a.spot.high.den,.int .i64 a.at_,.int .i64 a.high.num,.int .i64 a.high.den] 116),(C,.cells #[.int .i64 d.aQ,.int .i64 d.high] 42),(q,.cells #[.int .i64 0,.int .i64 0,.int .i64 0,.int .i64 0,.int .i64 0,.int .i64 0] 116),(p,.cells #[.int .i64 b.back,.int .i64 b.high] 112),(o,bl u0 (sl (some z) u0.aR c4) f g i)] [] I b0 bs rfl aI bz rfl rfl mX mX ug uj rfl uh aO aO (fun e0 P D b1 b2 e1=>?_);simp only[bn] at b2;subst b1;rw[<-M] at D;clear M;obtain ⟨d63,b3,rfl,b4⟩:=D.len;refine ⟨⟨ro,(N,.cells #[.int .i64 a.spot.aQ,.int .i64 a.spot.high.num,.int .i64 a.spot.high.den,.int .i64 a.at_,.int .i64 a.high.num,.int .i64 a.high.den] 116)::(C,.cells #[.int .i64 d.aQ,.int .i64 d.high] 42)::(q,.cells #[.int .i64 0,.int .i64 0,.int .i64 0,.int .i64 0,.int .i64 0,.int .i64 0] 116)::(p,.cells #[.int .i64 b.back,.int .i64 b.high] 112)::(o,bl u0 (sl (some z) u0.aR c4) f g i)::P⟩,Le.refl _,?_⟩;refine ⟨aI,gX ?_⟩;apply ag _;have e3:=cw (n:=i39) (by have:=W;omega);apply aM hJ _;refine ⟨u0.aR.length - (i39+1),aa,_,Le.sub (List.Sublist.cons _ (List.Sublist.cons _ (List.Sublist.refl _))),i39+1,d63,b3,P,bo,rfl,aa,a6,rfl,D,b4,?_⟩;simp only[*,go_sem]
 have fa:=Nat.not_lt.2 K;refine cB hJ ?_;rw[List.drop_eq_nil_of_le K] at j;obtain rfl:=sI j;clear j;have h:=a0;dsimp only[aL] at h;apply bT;simp only[go_sem];apply ah hJ;refine aE hJ fun Q=>?_;obtain ⟨b5,fb,ca,E,cb⟩:=I.fj [(q,.cells #[.int .i64 0,.int .i64 0,.int .i64 0,.int .i64 0,.int .i64 0,.int .i64 0] 116),(p,.cells #[.int .i64 b.back,.int .i64 b.high] 112),(o,bl u0 (sl d3 u0.aR c4) f g i)] [] Q (aF.cons al (aF.cons ad (aF.cons Z (aF.nil _))));clear Q;refine cN hJ cb ?_;obtain ⟨fg,fi,-⟩:=E.op;simp only[bC] at ca;refine eg hJ mixed 6 ⟨b5,[(p,.cells #[.int .i64 b.back,.int .i64 b.high] 112),(o,bl u0 (sl d3 u0.aR c4) f g i)]⟩ aI ai ?_;revert h;refine bS fun R cd h=>?_;obtain ⟨fp,fr,S⟩:=c6 cd;obtain ⟨fs,cf,cl,cy,k⟩:=E.el _ _ S;obtain rfl:cf=R.cells:=cy;cases cl;have cS:=k 0 _ rfl;simp only[go_sem] at cS;have c0:=k 1 _ rfl;simp only[go_sem] at c0;have da:=k 2 _ rfl;simp only[go_sem] at da;have db:=k 3 _ rfl;simp only[go_sem] at db;have dd:=k 4 _ rfl;simp only[go_sem] at dd;have df:=k 5 _ rfl;simp only[go_sem] at df;clear k S;revert h;refine bS fun dk dp h=>?_;obtain ⟨ft,fu,fv,T⟩:=mV dp;have U:(1:Int).toNat<=((c.length:Int)).toNat:=aa;have dq:((c.length:Int)).toNat<=s:=aa;have fw:0<=((c.length:Int)):=aa;obtain ⟨d80,ds,dt,V⟩:=aB.mW E (1:Int).toNat ((c.length:Int)).toNat U aa T;simp only[go_sem] at ds dt U dq;obtain ⟨_,_,du,fx,fz,gg⟩:=id V;cases du;clear T;revert h;refine bS fun gl dv h=>?_;cases h;apply ag _;refine ⟨_,bD hJ fun F t=>qY (dM:=78) (ej:=#[]) (ek:=#[]) jc ⟨by simp only[go_sem],fun gn gp dC dE _ h=>by simp only[go_sem];exact qU dC dE h⟩ R dk (V.mono (cx t)) dv,?_⟩;apply ag _;apply aJ;simp only[*,go_sem]
def q9 (u0:aC)(a:bM):Option ay:=
 aj (gN u0.cD) fun b=>aj (k3 u0 a) fun c=>aj (j9 b c.high) fun d=>some d
theorem z2 {ro:Addr->Option Value}(u0:aC){s1 b c d:Value}(f:bV ro u0 s1 b c d)(a:bM){r:ay}(h:q9 u0 a=some r):aA Tryz.prog 75 #[bv u0 s1 b c d,.agg #[.int .i64 a.back,.int .i64 a.high]] ⟨ro,[]⟩ (fun v _=>v=r.v):=by
 unfold q9 at h;refine aA.go Tryz.func75 rfl Tryz.ntmps75 Tryz.results75 av fun main J hJ A s hd hs=>?_;have t:=hs 0;have k1:=hs 1;clear hs;apply aD hJ _;refine az fun g u i=>?_;try simp only[au] at i
 refine az fun j w k=>?_;try simp only[au] at k
 refine az fun x y l=>?_;try simp only[au] at l
 apply ah hJ;refine eg hJ mixed 9 ⟨ro,[(j,.cells #[.int .i64 a.back,.int .i64 a.high] 112),(g,bl u0 s1 b c d)]⟩ aI ai ?_;revert h;refine bS fun m n h=>?_;apply ag _;refine ⟨_,bD hJ fun F e=>jB u0.cD n,bY ?_⟩;revert h;refine bS fun o p h=>?_;apply ag _;refine ⟨_,bD hJ fun F e=>q8 u0 (f.mono (cx e)) a p,bY ?_⟩;revert h;refine bS fun z q h=>?_;cases h;apply ag _;refine ⟨_,bD hJ fun F e=>o5 m o.high q,?_⟩;apply ag _;apply aJ;simp only[*,go_sem]
def uK (u0:aC)(a:Int)(st:Int):Option (Fl Int ay):=
 aj (bH u0.aR st) fun b=>cond (decide (b.aQ<a)) (some (.nx (IntKind.i64.wrap (st+1)))) (some (.bk st))
def nh (u0:aC)(b:Int):Option ay:=
 aj (bB (uK u0 b) fu 1) fun o=>aL o (fun c=>aj (bH u0.aR (IntKind.i64.wrap (c - 1))) fun a=>aj (bH u0.aR c) fun d=>aj (gN a.high) fun e=>aj (j7 (IntKind.i64.wrap ((IntKind.i64.wrap (d.high - a.high))*(IntKind.i64.wrap (b - a.aQ)))) (IntKind.i64.wrap (d.aQ - a.aQ))) fun f=>aj (j8 e f) fun g=>some g) (fun _ _=>none) (fun r=>some r)
theorem z3 {ro:Addr->Option Value}(u0:aC){s1 b c d:Value}(g:bV ro u0 s1 b c d)(i:Int){r:ay}(h:nh u0 i=some r):aA Tryz.prog 74 #[bv u0 s1 b c d,.int .i64 i] ⟨ro,[]⟩ (fun v _=>v=r.v):=by
 obtain ⟨d3,c4,rfl,bc,bd,-⟩:=id g.e;unfold nh at h;refine aA.go Tryz.func74 rfl Tryz.ntmps74 Tryz.results74 av fun main J hJ A E hd hs=>?_;have G:=hs 0;have k1:=hs 1;clear hs;apply aD hJ _;refine az fun l bj H=>?_;try simp only[au] at H
 refine az fun t bk I=>?_;try simp only[au] at I
 apply aD hJ _;refine ah hJ (aW hJ ?_);revert h;refine bS fun K j L=>?_;refine b7 hJ (rg 8 11 [5]) (fun m M F'=>∃(k:Int),bB (uK u0 i) m k=some K/\F'=⟨ro,(t,rt 0 0)::(l,bl u0 (sl d3 u0.aR c4) b c d)::[]⟩/\slot M 5= .int .i64 k) fu ?_ ?_
 .refine ⟨1,j,rfl,?_⟩;simp only[*,go_sem]
 rintro n bm F' u ⟨k,j,rfl,bo⟩;obtain ⟨N,O,P⟩:=u.pick [1,2,4] aO;simp only[*,go_sem] at N O P;clear u E hd G k1;obtain _|n:=n
 .exact absurd j (by simp only[bB,reduceCtorEq,not_false_eq_true])
 revert j;refine bS fun br h o=>?_;unfold uK at h;try dsimp only at h
 refine ah hJ (an hJ ?_);revert h;refine bS fun Q R h=>?_;obtain ⟨bs,bz,w⟩:=c6 R;obtain ⟨x,S,T,U,p⟩:=g.e.el _ _ w;obtain rfl:S=Q.cells:=U;cases T;have y:=p 0 _ rfl;simp only[go_sem] at y;have z:=p 1 _ rfl;simp only[go_sem] at z;clear p w;apply ag _;revert h;refine aX hJ (fun V h=>?_) fun V h=>?_
 .cases h;refine aK hJ (aW hJ ?_);apply aM hJ _;refine ⟨n,Nat.lt_succ_self _,_,Le.sub (List.Sublist.refl _),(IntKind.i64.wrap (k+1)),o,rfl,?_⟩;simp only[*,go_sem]
 cases h;apply bT;simp only[go_sem];obtain rfl:=sI o;clear o;have h:=L;dsimp only[aL] at h;clear y z;apply ah hJ;refine zv hJ mixed 13 ⟨ro,[(t,rt 0 0),(l,bl u0 (sl (some x) u0.aR c4) b c d)]⟩ aI ai 42 rfl zh ?_;revert h;refine bS fun a W h=>?_;obtain ⟨b0,b1,B⟩:=c6 W;obtain ⟨b2,X,Y,Z,q⟩:=g.e.el _ _ B;obtain rfl:X=a.cells:=Z;cases Y;have ab:=q 0 _ rfl;simp only[go_sem] at ab;have ad:=q 1 _ rfl;simp only[go_sem] at ad;clear q B;revert h;refine bS fun f ae h=>?_;obtain ⟨b3,b4,C⟩:=c6 ae;obtain ⟨b5,al,ao,ar,s⟩:=g.e.el _ _ C;obtain rfl:al=f.cells:=ar;cases ao;have a0:=s 0 _ rfl;simp only[go_sem] at a0;have a2:=s 1 _ rfl;simp only[go_sem] at a2;clear s C;apply ag _;refine az fun a3 ca a4=>?_;try simp only[au] at a4
 apply ag _;refine az fun a5 cb a6=>?_;try simp only[au] at a6
 apply ag _;apply ah hJ;refine eg hJ mixed 20 ⟨ro,[(a5,.cells #[.int .i64 f.aQ,.int .i64 f.high] 42),(a3,.cells #[.int .i64 a.aQ,.int .i64 a.high] 42),(l,bl u0 (sl (some x) u0.aR c4) b c d)]⟩ aI ai ?_;revert h;refine bS fun a7 a8 h=>?_;apply ag _;refine ⟨_,bD hJ fun F D=>jB a.high a8,bY ?_⟩;revert h;refine bS fun a9 ba h=>?_;apply ag _;refine ⟨_,bD hJ fun F D=>oZ (IntKind.i64.wrap ((IntKind.i64.wrap (f.high - a.high))*(IntKind.i64.wrap (i - a.aQ)))) (IntKind.i64.wrap (f.aQ - a.aQ)) ba,bY ?_⟩;revert h;refine bS fun cd bb h=>?_;cases h;apply ag _;refine ⟨_,bD hJ fun F D=>o3 a7 a9 bb,?_⟩;apply ag _;apply aJ;simp only[*,go_sem]
def uL (c:c7)(b:ay)(i59:Nat)(a:b6)(st:Unit):Option (Fl Unit (List b6)):=
 cond (((a.spot.aQ==c.place)&&((a.spot.high.num==b.num)&&(a.spot.high.den==b.den)))) (some (.br 1 ())) (some (.nx ()))
def uM (u0:aC)(c:bM)(i38:Nat)(a:c7)(st:(List b6)):Option (Fl (List b6) (List b6)):=
 aj (nh u0 a.place) fun d=>aj (gN a.fG) fun e=>aj (j8 d e) fun b=>aj (bQ (uL a b) 0 st ()) fun o=>aL o (fun h=>aj (l9 u0 c (i38:Int) (⟨a.place,b⟩:g8)) fun f=>aj (eA st ([f])) fun g=>some (.nx g)) (fun _ i=>some (.nx st)) (fun r=>some (.rt r))
def o8 (u0:aC)(a:bM):Option (List b6):=
 aj (bQ (uM u0 a) 0 u0.props ([]:List b6)) fun o=>aL o (fun b=>some b) (fun _ _=>none) (fun r=>some r)
theorem uN {ro:Addr->Option Value}(u0:aC){s1 O f g:Value}(w:bV ro u0 s1 O f g)(b:bM){r:(List b6)}(h:o8 u0 b=some r):eT Tryz.prog 76 #[bv u0 s1 O f g,.agg #[.int .i64 b.back,.int .i64 b.high]] ro (fun v aT=>∃P,v=P/\aB j6 aT P r):=by
 obtain ⟨d10,o,rfl,fi,Q,-⟩:=id w.p;unfold o8 at h;refine aA.go Tryz.func76 rfl Tryz.ntmps76 Tryz.results76 av fun main J hJ A ba hd hs=>?_;have bb:=hs 0;have k1:=hs 1;clear hs;apply aD hJ _;refine az fun q bc bj=>?_;try simp only[au] at bj
 refine az fun s bk bm=>?_;try simp only[au] at bm
 refine Cf hJ (ah hJ ?_);apply aM hJ _;apply ah hJ;refine Ce hJ ?_;refine ah hJ (an hJ ?_);apply ag _;apply aW hJ;revert h;refine bS fun bo i br=>?_;refine b7 hJ (rg 15 36 [5,6,7,8,10]) (fun m y F'=>∃(i38:Nat) (d32:Option Addr) (t:Nat) (z:List (Nat×Obj)) (c:(List b6)),m=u0.props.length - i38/\i38<=u0.props.length/\bQ (uM u0 b) i38 (u0.props.drop i38) c=some bo/\F'=⟨ro,(s,.cells #[.int .i64 b.back,.int .i64 b.high] 112)::(q,bl u0 s1 (sl d10 u0.props o) f g)::z⟩/\aZ j6 ro 116 (.slice d32 c.length t) c z/\c.length<=t/\slot y 15= .int .i64 (i38:Int)/\slot y 5= .slice d32 c.length t) u0.props.length ?_ ?_
 .refine ⟨0,none,0,[],([]:List b6),(Nat.sub_zero _).symm,Nat.zero_le _,i,rfl,aZ.nil _ _ _,Nat.le_refl _,?_⟩;simp only[*,go_sem]
 rintro fp bs F' R ⟨i38,d32,t,z,c,rfl,fr,i,rfl,u,bz,b0,b1⟩;obtain ⟨S,T,U⟩:=R.pick [2,3,4,13,14] aO;simp only[*,go_sem] at S T U;clear R ba hd bb k1;apply aD hJ _;apply ah hJ;rcases Nat.lt_or_ge i38 u0.props.length with b2|V
 .refine cz hJ ?_;apply aK hJ;obtain ⟨d,B⟩:∃x,u0.props[i38]?=some x:=⟨_,List.getElem?_eq_getElem b2⟩
  rw[dr B] at i;revert i;refine bS fun fs h W=>?_;unfold uM at h;try dsimp only at h
  obtain ⟨C,b3,b4,b5,D⟩:=w.p.el _ _ B;obtain rfl:b3=d.cells:=b5;cases b4;have ca:=D 0 _ rfl;simp only[go_sem] at ca;have cb:=D 1 _ rfl;simp only[go_sem] at cb;clear D B;refine ah hJ (aW hJ (ah hJ ?_));refine aE hJ fun cd=>?_;apply aM hJ _;refine az fun E ft X=>?_;have fu:=aY.cons X cd;try simp only[au] at X
  apply ah hJ;refine aE hJ fun cf=>?_;refine cM hJ mixed 11 3 aI ai ?_;revert h;refine bS fun cl cy h=>?_;apply ag _;refine ⟨_,bD hJ fun F G=>z3 u0 (w.mono (cx G)) d.place cy,bY ?_⟩;revert h;refine bS fun cS c0 h=>?_;apply ag _;refine ⟨_,bD hJ fun F G=>jB d.fG c0,bY ?_⟩;revert h;refine bS fun e da h=>?_;apply ag _;refine ⟨_,bD hJ fun F G=>o3 cl cS da,bY ?_⟩;apply ag _;refine az fun H fv Y=>?_;have fw:=aY.cons Y cf;try simp only[au] at Y
  apply ag _;refine ah hJ (ah hJ ?_);refine aE hJ fun fx=>?_;apply aM hJ _;apply aW hJ;revert h;refine bS fun db j Z=>?_;refine b7 hJ (rg 33 9 [10]) (fun m y F'=>∃(i59:Nat),m=c.length - i59/\i59<=c.length/\bQ (uL d e) i59 (c.drop i59) ()=some db/\F'=⟨ro,(H,.cells #[.int .i64 d.place,.int .i64 e.num,.int .i64 e.den] 114)::(E,.cells #[.int .i64 d.place,.int .i64 d.fG] 146)::(s,.cells #[.int .i64 b.back,.int .i64 b.high] 112)::(q,bl u0 s1 (sl (some C) u0.props o) f g)::z⟩/\slot y 33= .int .i64 (i59:Int)) c.length ?_ ?_
  .refine ⟨0,(Nat.sub_zero _).symm,Nat.zero_le _,j,rfl,?_⟩;simp only[*,go_sem]
  rintro fz dd F' I ⟨i59,rfl,gg,j,rfl,gl⟩;obtain ⟨df,dk,dp⟩:=I.pick [2,3,4,5,6,7,8,13,14,15,16,17,19,20,21,22,23,24,25,26,27,28,29,30,31,32] aO;simp only[*,go_sem] at df dk dp;have gn:cR (rg 15 36 [5,6,7,8,10]) dd bs:=(I.gq aO).trans aI;clear I S T U b1 b0;apply aD hJ _;apply ah hJ;rcases Nat.lt_or_ge i59 c.length with dq|ab
  .refine cz hJ ?_;apply aK hJ;obtain ⟨ds,K⟩:∃x,c[i59]?=some x:=⟨_,List.getElem?_eq_getElem dq⟩
   rw[dr K] at j;revert j;refine bS fun gp h L=>?_;unfold uL at h;(try dsimp only at h);refine aE hJ fun M=>?_;obtain ⟨ad,dt,gB,du,dv,rfl,gC,dC,k⟩:=u.elem K;obtain rfl:du=ds.cells:=dC;cases dv;replace M:=M.nd;simp only[keys,List.map_cons,List.map_nil,List.map_append,List.cons_append,List.nil_append,List.nodup_cons,List.mem_cons,List.mem_append,List.not_mem_nil,or_false,not_or] at M;have ae:=k 0 _ rfl;simp only[go_sem] at ae;have al:=k 1 _ rfl;simp only[go_sem] at al;have ao:=k 2 _ rfl;simp only[go_sem] at ao;have ar:=k 3 _ rfl;simp only[go_sem] at ar;have a0:=k 4 _ rfl;simp only[go_sem] at a0;have a2:=k 5 _ rfl;simp only[go_sem] at a2;clear k K;refine ah hJ (aW hJ (ah hJ ?_));refine aE hJ fun dE=>?_;apply aM hJ _;refine az fun gV g0 a3=>?_;have g1:=aY.cons a3 dE;try simp only[au] at a3
   apply ah hJ;refine aE hJ fun g2=>?_;apply aM hJ _;revert h;refine aX hJ (fun dT h=>?_) fun dT h=>?_
   .cases h;apply bT;simp only[go_sem];obtain rfl:=sI L;clear L;have h:=Z;dsimp only[aL] at h;cases h;clear ae al ao ar a0 a2;have ea:=cw (n:=i38) (by have:=Q;omega);apply aM hJ _;refine ⟨u0.props.length - (i38+1),aa,_,Le.sub (List.Sublist.cons _ (List.Sublist.cons _ (List.Sublist.cons _ (List.Sublist.refl _)))),i38+1,(some ⟨ad,0,none⟩),t,[(ad,Obj.cells dt 116)],c,rfl,aa,W,rfl,u,bz,?_⟩;simp only[*,go_sem]
   cases h;apply aK hJ;have g3:=cw (n:=i59) (by have:=u.bd;omega);apply aM hJ _;refine ⟨c.length - (i59+1),aa,_,Le.sub (List.Sublist.cons _ (List.Sublist.refl _)),i59+1,rfl,aa,L,rfl,?_⟩;simp only[*,go_sem]
  have g4:=Nat.not_lt.2 ab;refine cB hJ ?_;rw[List.drop_eq_nil_of_le ab] at j;obtain rfl:=sI j;clear j;have h:=Z;dsimp only[aL] at h;apply bT;simp only[go_sem];refine aE hJ fun eb=>?_;apply aG hJ;revert h;refine bS fun a ec h=>?_;apply ag _;refine bf hJ _ (z0 u0 (w.mono bg) b (i38:Int) (⟨d.place,e⟩:g8) ec) (aP ?_);revert h;refine bS fun ed eh h=>?_;cases h;obtain ⟨et,a4⟩:=dQ eh;apply ag _;refine az fun a5 ev a6=>?_;have eQ:=aY.cons a6 eb;try simp only[au] at a6
  refine eI (r:=j6) (l:=c) (x:=a) (cs:=#[.int .i64 a.spot.aQ,.int .i64 a.spot.high.num,.int .i64 a.spot.high.den,.int .i64 a.at_,.int .i64 a.high.num,.int .i64 a.high.den]) (e2:=116) [(a5,.cells #[.int .i64 a.spot.aQ,.int .i64 a.spot.high.num,.int .i64 a.spot.high.den,.int .i64 a.at_,.int .i64 a.high.num,.int .i64 a.high.den] 116),(H,.cells #[.int .i64 d.place,.int .i64 e.num,.int .i64 e.den] 114),(E,.cells #[.int .i64 d.place,.int .i64 d.fG] 146),(s,.cells #[.int .i64 b.back,.int .i64 b.high] 112),(q,bl u0 s1 (sl (some C) u0.props o) f g)] [] u eQ et rfl aI ev rfl rfl mX mX ug uj rfl uh aO aO (fun ha a7 N eS e0 hc=>?_);simp only[bn] at e0;subst eS;rw[<-a4] at N;clear a4;obtain ⟨d83,e1,rfl,e3⟩:=N.len;refine ⟨⟨ro,(a5,.cells #[.int .i64 a.spot.aQ,.int .i64 a.spot.high.num,.int .i64 a.spot.high.den,.int .i64 a.at_,.int .i64 a.high.num,.int .i64 a.high.den] 116)::(H,.cells #[.int .i64 d.place,.int .i64 e.num,.int .i64 e.den] 114)::(E,.cells #[.int .i64 d.place,.int .i64 d.fG] 146)::(s,.cells #[.int .i64 b.back,.int .i64 b.high] 112)::(q,bl u0 s1 (sl (some C) u0.props o) f g)::a7⟩,Le.refl _,?_⟩;apply aP;apply ag _;have ea:=cw (n:=i38) (by have:=Q;omega);apply aM hJ _;refine ⟨u0.props.length - (i38+1),aa,_,Le.sub (List.Sublist.cons _ (List.Sublist.cons _ (List.Sublist.cons _ (List.Sublist.refl _)))),i38+1,d83,e1,a7,ed,rfl,aa,W,rfl,N,e3,?_⟩;simp only[*,go_sem]
 have hf:=Nat.not_lt.2 V;refine cB hJ ?_;rw[List.drop_eq_nil_of_le V] at i;obtain rfl:=sI i;clear i;have h:=br;dsimp only[aL] at h;cases h;apply bT;simp only[go_sem];apply ah hJ;refine aE hJ fun hg=>?_;apply aM hJ _;refine aE hJ fun a8=>?_;obtain ⟨hh,fa,fb,a9,fg⟩:=u.fj [(s,.cells #[.int .i64 b.back,.int .i64 b.high] 112),(q,bl u0 s1 (sl d10 u0.props o) f g)] [] a8 (aF.cons bk (aF.cons bc (aF.nil _)));clear a8;refine cN hJ fg ?_;obtain ⟨hi,hj,-⟩:=a9.op;simp only[bC] at fb;refine b9 ?_;exact ⟨_,fa,Le.sub (List.nil_sublist _),_,rfl,a9⟩
def uO (i54:Nat)(a:b6)(st:ay):Option (Fl ay ay):=
 aj (kY fo st ([a.high])) fun b=>some (.nx b)
def uP (i100:Nat)(a:b6)(st:ay):Option (Fl ay ay):=
 aj (kY fo st ([a.high])) fun b=>some (.nx b)
def ni (u0:aC)(a:bM):Option ay:=
 aj (gN u0.cD) fun b=>aj (k3 u0 a) fun c=>aj (fo c.high b) fun d=>cond (d) (aj (o8 u0 a) fun e=>aj (bQ (uO) 0 e c.high) fun o=>aL o (fun f=>aj (j9 b f) fun g=>aj (gN 0) fun h=>aj (kY fo g ([h])) fun i=>some i) (fun _ _=>none) (fun r=>some r)) (aj (o8 u0 a) fun j=>aj (bQ (uP) 0 j b) fun o=>aL o (fun k=>aj (j9 c.high k) fun l=>aj (gN 0) fun m=>aj (kY fo l ([m])) fun n=>some n) (fun _ _=>none) (fun r=>some r))
theorem rf {ro:Addr->Option Value}(u0:aC){s1 p q s:Value}(t:bV ro u0 s1 p q s)(a:bM){r:ay}(h:ni u0 a=some r):aA Tryz.prog 79 #[bv u0 s1 p q s,.agg #[.int .i64 a.back,.int .i64 a.high]] ⟨ro,[]⟩ (fun v _=>v=r.v):=by
 unfold ni at h;refine aA.go Tryz.func79 rfl Tryz.ntmps79 Tryz.results79 av fun main J hJ A O hd hs=>?_;have P:=hs 0;have k1:=hs 1;clear hs;apply aD hJ _;refine az fun D fu al=>?_;try simp only[au] at al
 refine az fun E fv ao=>?_;try simp only[au] at ao
 refine az fun G fw ar=>?_;try simp only[au] at ar
 apply ah hJ;refine zv hJ mixed 8 ⟨ro,[(G,rt 0 0),(E,.cells #[.int .i64 a.back,.int .i64 a.high] 112),(D,bl u0 s1 p q s)]⟩ aI ai 23 rfl ze ?_;revert h;refine bS fun u a0 h=>?_;apply ag _;refine ⟨_,bD hJ fun F Q=>jB u0.cD a0,bY ?_⟩;revert h;refine bS fun w a2 h=>?_;apply ag _;refine ⟨_,bD hJ fun F Q=>q8 u0 (t.mono (cx Q)) a a2,bY ?_⟩;apply ag _;refine az fun R fx a3=>?_;try simp only[au] at a3
 apply ag _;refine az fun S fz a4=>?_;try simp only[au] at a4
 apply ag _;refine ah hJ (an hJ ?_);revert h;refine bS fun gg a5 h=>?_;apply ag _;refine bf hJ _ (jb w.high u a5) ?_;revert h;refine aX hJ (fun a6 h=>?_) fun a6 h=>?_
 .apply aM hJ _;refine ah hJ (an hJ ?_);revert h;refine bS fun b a7 h=>?_;apply ag _;refine cr hJ _ (uN u0 t a a7) fun v a8 a9 ba H=>?_;obtain ⟨gl,rfl,T⟩:=H;replace t:=t.mono a9;simp only[bC] at ba;obtain ⟨d48,gn,rfl,gp,bb,-⟩:=id T;apply aP;apply ag _;apply aW hJ;revert h;refine bS fun bc c bd=>?_;refine b7 hJ (rg 26 10 [8]) (fun m I F'=>∃(i54:Nat) (l:ay),m=b.length - i54/\i54<=b.length/\bQ (uO) i54 (b.drop i54) l=some bc/\F'=⟨a8,(S,rt u.num u.den)::(R,rt l.num l.den)::(G,rt 0 0)::(E,.cells #[.int .i64 a.back,.int .i64 a.high] 112)::(D,bl u0 s1 p q s)::[]⟩/\slot I 26= .int .i64 (i54:Int)) b.length ?_ ?_
  .refine ⟨0,w.high,(Nat.sub_zero _).symm,Nat.zero_le _,c,rfl,?_⟩;simp only[*,go_sem]
  rintro gB gC F' U ⟨i54,l,rfl,gV,c,rfl,g0⟩;obtain ⟨bj,bk,bm⟩:=U.pick [4,5,6,24,25] aO;simp only[*,go_sem] at bj bk bm;clear U O hd P k1;apply aD hJ _;apply ah hJ;rcases Nat.lt_or_ge i54 b.length with bo|V
  .refine cz hJ ?_;apply aK hJ;obtain ⟨y,K⟩:∃x,b[i54]?=some x:=⟨_,List.getElem?_eq_getElem bo⟩
   rw[dr K] at c;revert c;refine bS fun g1 h br=>?_;unfold uO at h;(try dsimp only at h);obtain ⟨g2,bs,bz,b0,d⟩:=T.el _ _ K;obtain rfl:bs=y.cells:=b0;cases bz;have b1:=d 0 _ rfl;simp only[go_sem] at b1;have b2:=d 1 _ rfl;simp only[go_sem] at b2;have b3:=d 2 _ rfl;simp only[go_sem] at b3;have b4:=d 3 _ rfl;simp only[go_sem] at b4;have b5:=d 4 _ rfl;simp only[go_sem] at b5;have ca:=d 5 _ rfl;simp only[go_sem] at ca;clear d K;refine ah hJ (aW hJ (ah hJ ?_));apply aM hJ _;refine az fun g3 g4 cb=>?_;try simp only[au] at cb
   refine aE hJ fun cd=>?_;apply aG hJ;revert h;refine bS fun cf cl h=>?_;cases h;apply ag _;refine az fun ha cy W=>?_;have hc:=aY.cons W cd;try simp only[au] at W
   refine bf hJ _ (m5 (dM:=87) (ej:=#[]) (ek:=#[]) fo ⟨by simp only[go_sem],fun L M f g _ h=>by simp only[go_sem];exact jb f g h⟩ l ([y.high]) ((aB.flat (r:=iz) (e:=23) (cs:=#[.int .i64 y.high.num,.int .i64 y.high.den]) ay.cells ([y.high]) (fun _=>rfl) cy rfl av).mono (jw aI)) cl) (aP ?_);apply ag _;have hf:=cw (n:=i54) (by have:=bb;omega);apply aM hJ _;refine ⟨b.length - (i54+1),aa,_,Le.sub (List.Sublist.cons _ (List.Sublist.cons _ (List.Sublist.refl _))),i54+1,cf,rfl,aa,br,rfl,?_⟩;simp only[*,go_sem]
  have hg:=Nat.not_lt.2 V;refine cB hJ ?_;rw[List.drop_eq_nil_of_le V] at c;obtain rfl:=sI c;clear c;have h:=bd;dsimp only[aL] at h;apply bT;simp only[go_sem];apply ah hJ;refine aE hJ fun cS=>?_;apply aG hJ;revert h;refine bS fun c0 da h=>?_;apply ag _;refine bf hJ _ (o5 u l da) (aP ?_);revert h;refine bS fun B db h=>?_;apply ag _;refine bf hJ _ (jB 0 db) (aP ?_);revert h;refine bS fun hh dd h=>?_;cases h;apply ag _;refine az fun hi df X=>?_;have hj:=aY.cons X cS;try simp only[au] at X
  refine bf hJ _ (m5 (dM:=87) (ej:=#[]) (ek:=#[]) fo ⟨by simp only[go_sem],fun L M f g _ h=>by simp only[go_sem];exact jb f g h⟩ c0 ([B]) ((aB.flat (r:=iz) (e:=23) (cs:=#[.int .i64 B.num,.int .i64 B.den]) ay.cells ([B]) (fun _=>rfl) df rfl av).mono (jw aI)) dd) (aP ?_);apply ag _;apply aJ;simp only[*,go_sem]
 refine aK hJ (ah hJ ?_);apply an hJ;revert h;refine bS fun i dk h=>?_;apply ag _;refine cr hJ _ (uN u0 t a dk) fun v dp hk dq H=>?_;obtain ⟨hl,rfl,Y⟩:=H;simp only[bC] at dq;obtain ⟨d94,hn,rfl,ho,ds,-⟩:=id Y;apply aP;apply ag _;apply aW hJ;revert h;refine bS fun dt j du=>?_;refine b7 hJ (rg 26 10 [8]) (fun m I F'=>∃(i100:Nat) (o:ay),m=i.length - i100/\i100<=i.length/\bQ (uP) i100 (i.drop i100) o=some dt/\F'=⟨dp,(S,rt w.high.num w.high.den)::(R,rt o.num o.den)::(G,rt 0 0)::(E,.cells #[.int .i64 a.back,.int .i64 a.high] 112)::(D,bl u0 s1 p q s)::[]⟩/\slot I 26= .int .i64 (i100:Int)) i.length ?_ ?_
 .refine ⟨0,u,(Nat.sub_zero _).symm,Nat.zero_le _,j,rfl,?_⟩;simp only[*,go_sem]
 rintro hp hq F' Z ⟨i100,o,rfl,hr,j,rfl,ht⟩;obtain ⟨dv,dC,dE⟩:=Z.pick [4,5,6,24,25] aO;simp only[*,go_sem] at dv dC dE;clear Z O hd P k1;apply aD hJ _;apply ah hJ;rcases Nat.lt_or_ge i100 i.length with dT|ab
 .refine cz hJ ?_;apply aK hJ;obtain ⟨z,N⟩:∃x,i[i100]?=some x:=⟨_,List.getElem?_eq_getElem dT⟩
  rw[dr N] at j;revert j;refine bS fun hv h ea=>?_;unfold uP at h;try dsimp only at h
  obtain ⟨hx,eb,ec,ed,k⟩:=Y.el _ _ N;obtain rfl:eb=z.cells:=ed;cases ec;have eh:=k 0 _ rfl;simp only[go_sem] at eh;have et:=k 1 _ rfl;simp only[go_sem] at et;have ev:=k 2 _ rfl;simp only[go_sem] at ev;have eQ:=k 3 _ rfl;simp only[go_sem] at eQ;have eS:=k 4 _ rfl;simp only[go_sem] at eS;have e0:=k 5 _ rfl;simp only[go_sem] at e0;clear k N;refine ah hJ (aW hJ (ah hJ ?_));apply aM hJ _;refine az fun hy hz e1=>?_;try simp only[au] at e1
  refine aE hJ fun e2=>?_;apply aG hJ;revert h;refine bS fun e3 fa h=>?_;cases h;apply ag _;refine az fun hA fb ad=>?_;have hB:=aY.cons ad e2;try simp only[au] at ad
  refine bf hJ _ (m5 (dM:=87) (ej:=#[]) (ek:=#[]) fo ⟨by simp only[go_sem],fun L M f g _ h=>by simp only[go_sem];exact jb f g h⟩ o ([z.high]) ((aB.flat (r:=iz) (e:=23) (cs:=#[.int .i64 z.high.num,.int .i64 z.high.den]) ay.cells ([z.high]) (fun _=>rfl) fb rfl av).mono (jw aI)) fa) (aP ?_);apply ag _;have hD:=cw (n:=i100) (by have:=ds;omega);apply aM hJ _;refine ⟨i.length - (i100+1),aa,_,Le.sub (List.Sublist.cons _ (List.Sublist.cons _ (List.Sublist.refl _))),i100+1,e3,rfl,aa,ea,rfl,?_⟩;simp only[*,go_sem]
 have hE:=Nat.not_lt.2 ab;refine cB hJ ?_;rw[List.drop_eq_nil_of_le ab] at j;obtain rfl:=sI j;clear j;have h:=du;dsimp only[aL] at h;apply bT;simp only[go_sem];apply ah hJ;refine aE hJ fun fg=>?_;apply aG hJ;revert h;refine bS fun fi fp h=>?_;apply ag _;refine bf hJ _ (o5 w.high o fp) (aP ?_);revert h;refine bS fun C fr h=>?_;apply ag _;refine bf hJ _ (jB 0 fr) (aP ?_);revert h;refine bS fun hF fs h=>?_;cases h;apply ag _;refine az fun hG ft ae=>?_;have hI:=aY.cons ae fg;try simp only[au] at ae
 refine bf hJ _ (m5 (dM:=87) (ej:=#[]) (ek:=#[]) fo ⟨by simp only[go_sem],fun L M f g _ h=>by simp only[go_sem];exact jb f g h⟩ fi ([C]) ((aB.flat (r:=iz) (e:=23) (cs:=#[.int .i64 C.num,.int .i64 C.den]) ay.cells ([C]) (fun _=>rfl) ft rfl av).mono (jw aI)) fs) (aP ?_);apply ag _;apply aJ;simp only[*,go_sem]
def jE (u0:aC)(a:bM):Option Bool:=
 aj (ni u0 a) fun b=>aj (fo u0.bx b) fun c=>some c
theorem mm {ro:Addr->Option Value}(u0:aC){s1 b c d:Value}(f:bV ro u0 s1 b c d)(a:bM){r:Bool}(h:jE u0 a=some r):aA Tryz.prog 80 #[bv u0 s1 b c d,.agg #[.int .i64 a.back,.int .i64 a.high]] ⟨ro,[]⟩ (fun v _=>v= .bool r):=by
 unfold jE at h;refine aA.go Tryz.func80 rfl Tryz.ntmps80 Tryz.results80 av fun main J hJ A m hd hs=>?_;have n:=hs 0;have k1:=hs 1;clear hs;apply aD hJ _;refine az fun o p g=>?_;try simp only[au] at g
 refine az fun q s i=>?_;try simp only[au] at i
 apply ah hJ;refine cM hJ mixed 8 2 aI ai ?_;revert h;refine bS fun j k h=>?_;apply ag _;refine ⟨_,bD hJ fun F e=>rf u0 (f.mono (cx e)) a k,bY ?_⟩;revert h;refine bS fun t l h=>?_;cases h;apply ag _;refine ⟨_,bD hJ fun F e=>jb u0.bx j l,bY ?_⟩;apply ag _;apply aJ;simp only[*,go_sem]
def uQ (u0:((List Int)->(List Int)->Option Bool))(i22:Nat)(a:(List Int))(st:(List Int)):Option (Fl (List Int) (List Int)):=
 aj (u0 st a) fun b=>cond (b) (some (.nx a)) (some (.nx st))
def uR (u0:((List Int)->(List Int)->Option Bool))(a:(List Int))(b:(List (List Int))):Option (List Int):=
 aj (bQ (uQ u0) 0 b a) fun o=>aL o (fun c=>some c) (fun _ _=>none) (fun r=>some r)
theorem EH {ro:Addr->Option Value}(u0:((List Int)->(List Int)->Option Bool)){dM:FuncId}{ej ek:Array Value}(G:aN Tryz.prog dM=true/\∀(aT:Addr->Option Value),Ext ro aT->∀(k:(List Int)) (l:Value) (o:(List Int)) (p:Value) (z:Bool),aB rI aT l k->aB rI aT p o->u0 k o=some z->aA Tryz.prog dM (ej++#[l,p]++ek) ⟨aT,[]⟩ (fun v _=>v= .bool z))(g:(List Int)){s1:Value}(q:aB rI ro s1 g)(b:(List (List Int))){s:Value}(t:aB (rL rI) ro s b){r:(List Int)}(h:uR u0 g b=some r):eT Tryz.prog 109 #[.func (.func dM) ej ek,s1,s] ro (fun v aT=>∃u,v=u/\aB rI aT u r):=by
 obtain ⟨d3,c4,rfl,Y,Z,-⟩:=id q;obtain ⟨d10,ab,rfl,ad,w,-⟩:=id t;unfold uR at h;refine aA.go Tryz.func109 rfl Tryz.ntmps109 Tryz.results109 av fun main J hJ A H hd hs=>?_;have I:=hs 0;have k1:=hs 1;have K:=hs 2;clear hs;apply aD hJ _;refine ah hJ (an hJ ?_);apply ag _;apply aW hJ;revert h;refine bS fun L c M=>?_;refine b7 hJ (rg 11 10 [1,8]) (fun m y F'=>∃(i22:Nat) (d16:Option Addr) (e:Nat) (d:(List Int)),m=b.length - i22/\i22<=b.length/\bQ (uQ u0) i22 (b.drop i22) d=some L/\F'=⟨ro,[]⟩/\aB rI ro (.slice d16 d.length e) d/\slot y 11= .int .i64 (i22:Int)/\slot y 1= .slice d16 d.length e) b.length ?_ ?_
 .refine ⟨0,d3,c4,g,(Nat.sub_zero _).symm,Nat.zero_le _,c,rfl,q,?_⟩;simp only[*,go_sem]
 rintro ae al F' B ⟨i22,d16,e,d,rfl,ao,c,rfl,f,ar,a0⟩;obtain ⟨a2,a3,-⟩:=f.op;obtain ⟨N,O,P⟩:=B.pick [0,6,9,10] aO;simp only[*,go_sem] at N O P;clear B H hd I k1 K;apply aD hJ _;apply ah hJ;rcases Nat.lt_or_ge i22 b.length with Q|C
 .refine cz hJ ?_;apply aK hJ;obtain ⟨D,i⟩:∃x,b[i22]?=some x:=⟨_,List.getElem?_eq_getElem Q⟩
  rw[dr i] at c;revert c;refine bS fun a4 h E=>?_;unfold uQ at h;try dsimp only at h
  obtain ⟨a5,a6,R,S,F⟩:=t.el _ _ i;obtain ⟨a7,rfl,j⟩:=S;obtain ⟨d31,T,rfl,a8,a9,ba⟩:=id j;cases R;have U:=F 0 _ rfl;simp only[go_sem] at U;clear F i;refine ah hJ (aW hJ (ah hJ ?_));apply aM hJ _;apply an hJ;revert h;refine bS fun bb V h=>?_;apply ag _;refine bf hJ _ (G.2 _ (fun a v h=>bg a v h) d _ D _ _ (f.mono bg) (j.mono bg) V) ?_;revert h;refine aX hJ (fun W h=>?_) fun W h=>?_
  .cases h;apply aM hJ _;have X:=cw (n:=i22) (by have:=w;omega);apply aM hJ _;refine ⟨b.length - (i22+1),aa,_,Le.sub (List.Sublist.refl _),i22+1,d31,T,D,rfl,aa,E,rfl,j,?_⟩;simp only[*,go_sem]
  cases h;apply aK hJ;have X:=cw (n:=i22) (by have:=w;omega);apply aM hJ _;refine ⟨b.length - (i22+1),aa,_,Le.sub (List.Sublist.refl _),i22+1,d16,e,d,rfl,aa,E,rfl,f,?_⟩;simp only[*,go_sem]
 have bc:=Nat.not_lt.2 C;refine cB hJ ?_;rw[List.drop_eq_nil_of_le C] at c;obtain rfl:=sI c;clear c;have h:=M;dsimp only[aL] at h;cases h;apply bT;simp only[go_sem];apply aD hJ _;refine b9 ?_;exact ⟨_,Ext.refl _,Le.sub (List.nil_sublist _),_,rfl,f⟩
def uS (u0:(List Int))(a:(List Int))(st:(Bool×Int)):Option (Fl (Bool×Int) Bool):=
 cond (decide (st.2<(u0.length:Int))) (aj (bH u0 st.2) fun b=>aj (bH a st.2) fun c=>cond ((b != c)) (some (.rt false)) (some (.nx (st.1,(IntKind.i64.wrap (st.2+1)))))) (some (.bk (st.1,st.2)))
def uT (u0:(List Int))(a:(List Int)):Option Bool:=
 cond (((u0.length:Int) != (a.length:Int))) (some false) (aj (bB (uS u0 a) fu (false,0)) fun o=>aL o (fun b=>some true) (fun _ _=>none) (fun r=>some r))
theorem EI {ro:Addr->Option Value}(u0:(List Int)){s1:Value}(g:aB rI ro s1 u0)(e:(List Int)){i:Value}(j:aB rI ro i e){r:Bool}(h:uT u0 e=some r):aA Tryz.prog 89 #[s1,i] ⟨ro,[]⟩ (fun v _=>v= .bool r):=by
 obtain ⟨d3,c4,rfl,R,S,-⟩:=id g;obtain ⟨d10,T,rfl,U,V,-⟩:=id j;unfold uT at h;refine aA.go Tryz.func89 rfl Tryz.ntmps89 Tryz.results89 av fun main J hJ A t hd hs=>?_;have u:=hs 0;have k1:=hs 1;clear hs;apply aD hJ _;refine ah hJ (an hJ ?_);apply ag _;revert h;refine aX hJ (fun w h=>?_) fun w h=>?_
 .cases h;apply aD hJ _;apply aJ;simp only[*,go_sem]
 refine aK hJ (ah hJ ?_);apply aD hJ _;apply aW hJ;revert h;refine bS fun x b k=>?_;refine b7 hJ (rg 11 15 [4,5]) (fun m l F'=>∃(c:Bool) (d:Int),bB (uS u0 e) m (c,d)=some x/\F'=⟨ro,[]⟩/\slot l 4= .bool c/\slot l 5= .int .i64 d) fu ?_ ?_
 .refine ⟨false,0,b,rfl,?_⟩;simp only[*,go_sem]
 rintro f W F' n ⟨c,d,b,rfl,X,Y⟩;obtain ⟨y,z,B⟩:=n.pick [0,1] aO;simp only[*,go_sem] at y z B;clear n t hd u k1;obtain _|f:=f
 .exact absurd b (by simp only[bB,reduceCtorEq,not_false_eq_true])
 revert b;refine bS fun Z h a=>?_;unfold uS at h;try dsimp only at h
 refine ah hJ (an hJ ?_);apply ag _;revert h;refine aX hJ (fun C h=>?_) fun C h=>?_
 .refine aK hJ (ah hJ ?_);refine aW hJ (ah hJ ?_);refine cM hJ mixed 9 0 aI ai ?_;revert h;refine bS fun D E h=>?_;obtain ⟨ab,ad,o⟩:=c6 E;obtain ⟨ae,F,G,H,p⟩:=g.el _ _ o;obtain rfl:F=[.int .i64 D]:=H;cases G;have I:=p 0 _ rfl;simp only[go_sem] at I;clear p o;revert h;refine bS fun K L h=>?_;obtain ⟨al,ao,q⟩:=c6 L;obtain ⟨ar,M,N,O,s⟩:=j.el _ _ q;obtain rfl:M=[.int .i64 K]:=O;cases N;have P:=s 0 _ rfl;simp only[go_sem] at P;clear s q;apply ag _;revert h;refine aX hJ (fun Q h=>?_) fun Q h=>?_
  .cases h;apply aD hJ _;obtain rfl:=sI a;clear a;have h:=k;dsimp only[aL] at h;cases h;apply aJ;simp only[*,go_sem]
  cases h;refine aK hJ (aG hJ ?_);apply ag _;refine ⟨f,Nat.lt_succ_self _,_,Le.sub (List.Sublist.refl _),c,(IntKind.i64.wrap (d+1)),a,rfl,?_⟩;simp only[*,go_sem]
 cases h;apply bT;simp only[go_sem];obtain rfl:=sI a;clear a;have h:=k;dsimp only[aL] at h;cases h;apply aD hJ _;apply aJ;simp only[*,go_sem]
def mo (u0:(List Int))(a:(List Int)):Option Bool:=
 aj (uT u0 a) fun b=>some b
theorem o9 {ro:Addr->Option Value}(u0:(List Int)){s1:Value}(b:aB rI ro s1 u0)(a:(List Int)){c:Value}(d:aB rI ro c a){r:Bool}(h:mo u0 a=some r):aA Tryz.prog 38 #[s1,c] ⟨ro,[]⟩ (fun v _=>v= .bool r):=by
 obtain ⟨d3,c4,rfl,f,g,-⟩:=id b;obtain ⟨d10,i,rfl,j,k,-⟩:=id d;unfold mo at h;refine aA.go Tryz.func38 rfl Tryz.ntmps38 Tryz.results38 av fun main J hJ A l hd hs=>?_;have m:=hs 0;have k1:=hs 1;clear hs;apply aD hJ _;apply an hJ;revert h;refine bS fun n e h=>?_;cases h;apply ag _;refine bf hJ _ (EI u0 (b.mono bg) a (d.mono bg) e) (aP ?_);apply ag _;apply aJ;simp only[*,go_sem]
def uU (a:bM)(i10:Nat)(b:bM)(st:Int):Option (Fl Int Int):=
 cond (((a.back==b.back)&&(a.high==b.high))) (some (.rt (i10:Int))) (some (.nx st))
def uV (u0:(List bM))(a:bM):Option Int:=
 aj (bQ (uU a) 0 u0 0) fun o=>aL o (fun b=>some (-1)) (fun _ _=>none) (fun r=>some r)
theorem EJ {ro:Addr->Option Value}(u0:(List bM)){s1:Value}(g:aB iY ro s1 u0)(b:bM){r:Int}(h:uV u0 b=some r):aA Tryz.prog 170 #[s1,.agg #[.int .i64 b.back,.int .i64 b.high]] ⟨ro,[]⟩ (fun v _=>v= .int .i64 r):=by
 obtain ⟨d3,c4,rfl,K,o,-⟩:=id g;unfold uV at h;refine aA.go Tryz.func170 rfl Tryz.ntmps170 Tryz.results170 av fun main J hJ A p hd hs=>?_;have q:=hs 0;have k1:=hs 1;clear hs;apply aD hJ _;refine az fun s L t=>?_;try simp only[au] at t
 refine ah hJ (an hJ ?_);apply ag _;apply aW hJ;revert h;refine bS fun u a i=>?_;refine b7 hJ (rg 8 11 [4,5]) (fun m j F'=>∃(i10:Nat) (c:Int),m=u0.length - i10/\i10<=u0.length/\bQ (uU b) i10 (u0.drop i10) c=some u/\F'=⟨ro,(s,.cells #[.int .i64 b.back,.int .i64 b.high] 112)::[]⟩/\slot j 8= .int .i64 (i10:Int)/\slot j 4= .int .i64 c) u0.length ?_ ?_
 .refine ⟨0,0,(Nat.sub_zero _).symm,Nat.zero_le _,a,rfl,?_⟩;simp only[*,go_sem]
 rintro M N F' k ⟨i10,c,rfl,O,a,rfl,P,Q⟩;obtain ⟨w,y,z⟩:=k.pick [0,3,7] aO;simp only[*,go_sem] at w y z;clear k p hd q k1;apply aD hJ _;apply ah hJ;rcases Nat.lt_or_ge i10 u0.length with B|l
 .refine cz hJ ?_;apply aK hJ;obtain ⟨C,d⟩:∃x,u0[i10]?=some x:=⟨_,List.getElem?_eq_getElem B⟩
  rw[dr d] at a;revert a;refine bS fun R h e=>?_;unfold uU at h;try dsimp only at h
  obtain ⟨S,D,E,F,f⟩:=g.el _ _ d;obtain rfl:D=C.cells:=F;cases E;have G:=f 0 _ rfl;simp only[go_sem] at G;have H:=f 1 _ rfl;simp only[go_sem] at H;clear f d;refine ah hJ (aW hJ (ah hJ ?_));apply aM hJ _;apply ah hJ;refine cM hJ mixed 6 1 aI ai ?_;apply ag _;revert h;refine aX hJ (fun I h=>?_) fun I h=>?_
  .cases h;apply aD hJ _;obtain rfl:=sI e;clear e;have h:=i;dsimp only[aL] at h;cases h;apply aJ;simp only[*,go_sem]
  cases h;apply aK hJ;have T:=cw (n:=i10) (by have:=o;omega);apply aM hJ _;refine ⟨u0.length - (i10+1),aa,_,Le.sub (List.Sublist.refl _),i10+1,c,rfl,aa,e,rfl,?_⟩;simp only[*,go_sem]
 have U:=Nat.not_lt.2 l;refine cB hJ ?_;rw[List.drop_eq_nil_of_le l] at a;obtain rfl:=sI a;clear a;have h:=i;dsimp only[aL] at h;cases h;apply bT;simp only[go_sem];apply aD hJ _;apply aJ;simp only[*,go_sem]
def uW (u0:(List bM))(a:bM):Option Bool:=
 aj (uV u0 a) fun b=>some (decide (0<=b))
theorem EK {ro:Addr->Option Value}(u0:(List bM)){s1:Value}(b:aB iY ro s1 u0)(a:bM){r:Bool}(h:uW u0 a=some r):aA Tryz.prog 142 #[s1,.agg #[.int .i64 a.back,.int .i64 a.high]] ⟨ro,[]⟩ (fun v _=>v= .bool r):=by
 obtain ⟨d3,c4,rfl,e,f,-⟩:=id b;unfold uW at h;refine aA.go Tryz.func142 rfl Tryz.ntmps142 Tryz.results142 av fun main J hJ A g hd hs=>?_;have i:=hs 0;have k1:=hs 1;clear hs;apply aD hJ _;refine az fun j k c=>?_;try simp only[au] at c
 apply an hJ;revert h;refine bS fun l d h=>?_;cases h;apply ag _;refine bf hJ _ (EJ u0 (b.mono bg) a d) (aP ?_);apply ag _;apply aJ;simp only[*,go_sem]
def uX (a:(cn->Option Bool))(i9:Nat)(b:cn)(st:Int):Option (Fl Int Int):=
 aj (a b) fun c=>cond (c) (some (.rt (i9:Int))) (some (.nx st))
def uY (u0:(List cn))(a:(cn->Option Bool)):Option Int:=
 aj (bQ (uX a) 0 u0 0) fun o=>aL o (fun b=>some (-1)) (fun _ _=>none) (fun r=>some r)
theorem EL {ro:Addr->Option Value}(u0:(List cn)){s1:Value}(i:aB dD ro s1 u0)(d:(cn->Option Bool)){dF:FuncId}{en eo:Array Value}(s:aN Tryz.prog dF=true/\∀(aT:Addr->Option Value),Ext ro aT->∀(j:cn) (z:Bool),d j=some z->aA Tryz.prog dF (en++#[j.v]++eo) ⟨aT,[]⟩ (fun v _=>v= .bool z)){r:Int}(h:uY u0 d=some r):aA Tryz.prog 195 #[s1,.func (.func dF) en eo] ⟨ro,[]⟩ (fun v _=>v= .int .i64 r):=by
 obtain ⟨d3,c4,rfl,N,t,-⟩:=id i;unfold uY at h;refine aA.go Tryz.func195 rfl Tryz.ntmps195 Tryz.results195 av fun main J hJ A u hd hs=>?_;have w:=hs 0;have k1:=hs 1;clear hs;apply aD hJ _;refine ah hJ (an hJ ?_);apply ag _;apply aW hJ;revert h;refine bS fun y b k=>?_;refine b7 hJ (rg 8 11 [4,5]) (fun m l F'=>∃(i9:Nat) (c:Int),m=u0.length - i9/\i9<=u0.length/\bQ (uX d) i9 (u0.drop i9) c=some y/\F'=⟨ro,[]⟩/\slot l 8= .int .i64 (i9:Int)/\slot l 4= .int .i64 c) u0.length ?_ ?_
 .refine ⟨0,0,(Nat.sub_zero _).symm,Nat.zero_le _,b,rfl,?_⟩;simp only[*,go_sem]
 rintro O P F' o ⟨i9,c,rfl,Q,b,rfl,R,S⟩;obtain ⟨B,C,D⟩:=o.pick [0,1,7] aO;simp only[*,go_sem] at B C D;clear o u hd w k1;apply aD hJ _;apply ah hJ;rcases Nat.lt_or_ge i9 u0.length with E|p
 .refine cz hJ ?_;apply aK hJ;obtain ⟨q,e⟩:∃x,u0[i9]?=some x:=⟨_,List.getElem?_eq_getElem E⟩
  rw[dr e] at b;revert b;refine bS fun T h f=>?_;unfold uX at h;try dsimp only at h
  obtain ⟨U,F,G,H,g⟩:=i.el _ _ e;obtain rfl:F=q.cells:=H;cases G;have I:=g 0 _ rfl;simp only[go_sem] at I;have K:=g 1 _ rfl;simp only[go_sem] at K;clear g e;refine ah hJ (aW hJ (ah hJ ?_));apply aM hJ _;apply an hJ;revert h;refine bS fun V L h=>?_;apply ag _;refine bf hJ _ (s.2 _ (fun a v h=>bg a v h) q _ L) ?_;revert h;refine aX hJ (fun M h=>?_) fun M h=>?_
  .cases h;apply aD hJ _;obtain rfl:=sI f;clear f;have h:=k;dsimp only[aL] at h;cases h;apply aJ;simp only[*,go_sem]
  cases h;apply aK hJ;have W:=cw (n:=i9) (by have:=t;omega);apply aM hJ _;refine ⟨u0.length - (i9+1),aa,_,Le.sub (List.Sublist.refl _),i9+1,c,rfl,aa,f,rfl,?_⟩;simp only[*,go_sem]
 have X:=Nat.not_lt.2 p;refine cB hJ ?_;rw[List.drop_eq_nil_of_le p] at b;obtain rfl:=sI b;clear b;have h:=k;dsimp only[aL] at h;cases h;apply bT;simp only[go_sem];apply aD hJ _;apply aJ;simp only[*,go_sem]
def uZ (u0:(List cn))(a:(cn->Option Bool)):Option Bool:=
 aj (uY u0 a) fun b=>some (decide (0<=b))
theorem EM {ro:Addr->Option Value}(u0:(List cn)){s1:Value}(b:aB dD ro s1 u0)(a:(cn->Option Bool)){dF:FuncId}{en eo:Array Value}(c:aN Tryz.prog dF=true/\∀(aT:Addr->Option Value),Ext ro aT->∀(d:cn) (z:Bool),a d=some z->aA Tryz.prog dF (en++#[d.v]++eo) ⟨aT,[]⟩ (fun v _=>v= .bool z)){r:Bool}(h:uZ u0 a=some r):aA Tryz.prog 165 #[s1,.func (.func dF) en eo] ⟨ro,[]⟩ (fun v _=>v= .bool r):=by
 obtain ⟨d3,c4,rfl,g,i,-⟩:=id b;unfold uZ at h;refine aA.go Tryz.func165 rfl Tryz.ntmps165 Tryz.results165 av fun main J hJ A j hd hs=>?_;have k:=hs 0;have k1:=hs 1;clear hs;apply aD hJ _;apply an hJ;revert h;refine bS fun l e h=>?_;cases h;apply ag _;refine bf hJ _ (EL (dF:=dF) (en:=en) (eo:=eo) u0 (b.mono bg) a ⟨c.1,fun _ f=>c.2 _ (Ext.trans bg f)⟩ e) (aP ?_);apply ag _;apply aJ;simp only[*,go_sem]
def u5 (a:(bM->Option Bool))(i9:Nat)(b:bM)(st:Int):Option (Fl Int Int):=
 aj (a b) fun c=>cond (c) (some (.rt (i9:Int))) (some (.nx st))
def u6 (u0:(List bM))(a:(bM->Option Bool)):Option Int:=
 aj (bQ (u5 a) 0 u0 0) fun o=>aL o (fun b=>some (-1)) (fun _ _=>none) (fun r=>some r)
theorem EN {ro:Addr->Option Value}(u0:(List bM)){s1:Value}(i:aB iY ro s1 u0)(d:(bM->Option Bool)){dF:FuncId}{en eo:Array Value}(s:aN Tryz.prog dF=true/\∀(aT:Addr->Option Value),Ext ro aT->∀(j:bM) (z:Bool),d j=some z->aA Tryz.prog dF (en++#[j.v]++eo) ⟨aT,[]⟩ (fun v _=>v= .bool z)){r:Int}(h:u6 u0 d=some r):aA Tryz.prog 211 #[s1,.func (.func dF) en eo] ⟨ro,[]⟩ (fun v _=>v= .int .i64 r):=by
 obtain ⟨d3,c4,rfl,N,t,-⟩:=id i;unfold u6 at h;refine aA.go Tryz.func211 rfl Tryz.ntmps211 Tryz.results211 av fun main J hJ A u hd hs=>?_;have w:=hs 0;have k1:=hs 1;clear hs;apply aD hJ _;refine ah hJ (an hJ ?_);apply ag _;apply aW hJ;revert h;refine bS fun y b k=>?_;refine b7 hJ (rg 8 11 [4,5]) (fun m l F'=>∃(i9:Nat) (c:Int),m=u0.length - i9/\i9<=u0.length/\bQ (u5 d) i9 (u0.drop i9) c=some y/\F'=⟨ro,[]⟩/\slot l 8= .int .i64 (i9:Int)/\slot l 4= .int .i64 c) u0.length ?_ ?_
 .refine ⟨0,0,(Nat.sub_zero _).symm,Nat.zero_le _,b,rfl,?_⟩;simp only[*,go_sem]
 rintro O P F' o ⟨i9,c,rfl,Q,b,rfl,R,S⟩;obtain ⟨B,C,D⟩:=o.pick [0,1,7] aO;simp only[*,go_sem] at B C D;clear o u hd w k1;apply aD hJ _;apply ah hJ;rcases Nat.lt_or_ge i9 u0.length with E|p
 .refine cz hJ ?_;apply aK hJ;obtain ⟨q,e⟩:∃x,u0[i9]?=some x:=⟨_,List.getElem?_eq_getElem E⟩
  rw[dr e] at b;revert b;refine bS fun T h f=>?_;unfold u5 at h;try dsimp only at h
  obtain ⟨U,F,G,H,g⟩:=i.el _ _ e;obtain rfl:F=q.cells:=H;cases G;have I:=g 0 _ rfl;simp only[go_sem] at I;have K:=g 1 _ rfl;simp only[go_sem] at K;clear g e;refine ah hJ (aW hJ (ah hJ ?_));apply aM hJ _;apply an hJ;revert h;refine bS fun V L h=>?_;apply ag _;refine bf hJ _ (s.2 _ (fun a v h=>bg a v h) q _ L) ?_;revert h;refine aX hJ (fun M h=>?_) fun M h=>?_
  .cases h;apply aD hJ _;obtain rfl:=sI f;clear f;have h:=k;dsimp only[aL] at h;cases h;apply aJ;simp only[*,go_sem]
  cases h;apply aK hJ;have W:=cw (n:=i9) (by have:=t;omega);apply aM hJ _;refine ⟨u0.length - (i9+1),aa,_,Le.sub (List.Sublist.refl _),i9+1,c,rfl,aa,f,rfl,?_⟩;simp only[*,go_sem]
 have X:=Nat.not_lt.2 p;refine cB hJ ?_;rw[List.drop_eq_nil_of_le p] at b;obtain rfl:=sI b;clear b;have h:=k;dsimp only[aL] at h;cases h;apply bT;simp only[go_sem];apply aD hJ _;apply aJ;simp only[*,go_sem]
def u7 (u0:(List bM))(a:(bM->Option Bool)):Option Bool:=
 aj (u6 u0 a) fun b=>some (decide (0<=b))
theorem EO {ro:Addr->Option Value}(u0:(List bM)){s1:Value}(b:aB iY ro s1 u0)(a:(bM->Option Bool)){dF:FuncId}{en eo:Array Value}(c:aN Tryz.prog dF=true/\∀(aT:Addr->Option Value),Ext ro aT->∀(d:bM) (z:Bool),a d=some z->aA Tryz.prog dF (en++#[d.v]++eo) ⟨aT,[]⟩ (fun v _=>v= .bool z)){r:Bool}(h:u7 u0 a=some r):aA Tryz.prog 184 #[s1,.func (.func dF) en eo] ⟨ro,[]⟩ (fun v _=>v= .bool r):=by
 obtain ⟨d3,c4,rfl,g,i,-⟩:=id b;unfold u7 at h;refine aA.go Tryz.func184 rfl Tryz.ntmps184 Tryz.results184 av fun main J hJ A j hd hs=>?_;have k:=hs 0;have k1:=hs 1;clear hs;apply aD hJ _;apply an hJ;revert h;refine bS fun l e h=>?_;cases h;apply ag _;refine bf hJ _ (EN (dF:=dF) (en:=en) (eo:=eo) u0 (b.mono bg) a ⟨c.1,fun _ f=>c.2 _ (Ext.trans bg f)⟩ e) (aP ?_);apply ag _;apply aJ;simp only[*,go_sem]
def u9 (a:(bG->Option Bool))(i38:Nat)(b:bG)(st:Int):Option (Fl Int Int):=
 aj (a b) fun c=>cond (c) (some (.nx (IntKind.i64.wrap (st+1)))) (some (.nx st))
def ri (u0:dw)(b:(bG->Option Bool)):Option Int:=
 aj (bQ (u9 b) 0 u0.all 0) fun o=>aL o (fun a=>cond ((a==(u0.all.length:Int))) (some 1) (cond ((a==0)) (some 2) (some 0))) (fun _ _=>none) (fun r=>some r)
theorem z4 {ro:Addr->Option Value}(u0:dw){s1 e f g:Value}(Z:bV ro u0.book s1 e f g){k:Value}(l:aB g9 ro k u0.all)(i:(bG->Option Bool)){dF:FuncId}{en eo:Array Value}(y:aN Tryz.prog dF=true/\∀(aT:Addr->Option Value),Ext ro aT->∀(o:bG) (z:Bool),i o=some z->aA Tryz.prog dF (en++#[o.v]++eo) ⟨aT,[]⟩ (fun v _=>v= .bool z)){r:Int}(h:ri u0 i=some r):aA Tryz.prog 90 #[.agg #[.int .i64 u0.book.bE,.int .i64 u0.book.cD,.int .i64 u0.book.bx.num,.int .i64 u0.book.bx.den,s1,e,f,g,k],.func (.func dF) en eo] ⟨ro,[]⟩ (fun v _=>v= .int .i64 r):=by
 obtain ⟨d31,B,rfl,ab,p,-⟩:=id l;unfold ri at h;refine aA.go Tryz.func90 rfl Tryz.ntmps90 Tryz.results90 av fun main J hJ A C hd hs=>?_;have D:=hs 0;have k1:=hs 1;clear hs;apply aD hJ _;refine az fun E ad F=>?_;try simp only[au] at F
 apply aD hJ _;refine ah hJ (an hJ ?_);apply ag _;apply aW hJ;revert h;refine bS fun G b H=>?_;refine b7 hJ (rg 11 10 [5,7]) (fun m q F'=>∃(i38:Nat) (c:Int),m=u0.all.length - i38/\i38<=u0.all.length/\bQ (u9 i) i38 (u0.all.drop i38) c=some G/\F'=⟨ro,(E,kn u0 s1 e f g (sl d31 u0.all B))::[]⟩/\slot q 11= .int .i64 (i38:Int)/\slot q 5= .int .i64 c) u0.all.length ?_ ?_
 .refine ⟨0,0,(Nat.sub_zero _).symm,Nat.zero_le _,b,rfl,?_⟩;simp only[*,go_sem]
 rintro ae al F' s ⟨i38,c,rfl,ao,b,rfl,ar,a0⟩;obtain ⟨I,K,L⟩:=s.pick [1,2,4,9,10] aO;simp only[*,go_sem] at I K L;clear s C hd D k1;apply aD hJ _;apply ah hJ;rcases Nat.lt_or_ge i38 u0.all.length with M|t
 .refine cz hJ ?_;apply aK hJ;obtain ⟨u,j⟩:∃x,u0.all[i38]?=some x:=⟨_,List.getElem?_eq_getElem M⟩
  rw[dr j] at b;revert b;refine bS fun a2 h w=>?_;unfold u9 at h;try dsimp only at h
  obtain ⟨a3,N,O,P,d⟩:=l.el _ _ j;obtain rfl:N=u.cells:=P;cases O;have Q:=d 0 _ rfl;simp only[go_sem] at Q;have R:=d 1 _ rfl;simp only[go_sem] at R;have S:=d 2 _ rfl;simp only[go_sem] at S;clear d j;refine ah hJ (aW hJ (ah hJ ?_));apply aM hJ _;refine az fun a4 a5 T=>?_;try simp only[au] at T
  apply an hJ;revert h;refine bS fun a6 U h=>?_;apply ag _;refine bf hJ _ (y.2 _ (fun a v h=>bg a v h) u _ U) ?_;revert h;refine aX hJ (fun V h=>?_) fun V h=>?_
  .cases h;apply aM hJ _;have W:=cw (n:=i38) (by have:=p;omega);apply aM hJ _;refine ⟨u0.all.length - (i38+1),aa,_,Le.sub (List.Sublist.cons _ (List.Sublist.refl _)),i38+1,(IntKind.i64.wrap (c+1)),rfl,aa,w,rfl,?_⟩;simp only[*,go_sem]
  cases h;apply aK hJ;have W:=cw (n:=i38) (by have:=p;omega);apply aM hJ _;refine ⟨u0.all.length - (i38+1),aa,_,Le.sub (List.Sublist.cons _ (List.Sublist.refl _)),i38+1,c,rfl,aa,w,rfl,?_⟩;simp only[*,go_sem]
 have a7:=Nat.not_lt.2 t;refine cB hJ ?_;rw[List.drop_eq_nil_of_le t] at b;obtain rfl:=sI b;clear b;have h:=H;dsimp only[aL] at h;apply bT;simp only[go_sem];refine ah hJ (an hJ ?_);apply ag _;refine aW hJ (ah hJ ?_);apply aM hJ _;revert h;refine aX hJ (fun X h=>?_) fun X h=>?_
 .cases h;apply aD hJ _;apply aJ;simp only[*,go_sem]
 apply aD hJ _;revert h;refine aX hJ (fun Y h=>?_) fun Y h=>?_
 .cases h;apply aD hJ _;apply aJ;simp only[*,go_sem]
 cases h;refine aK hJ (ah hJ ?_);apply aM hJ _;apply aJ;simp only[*,go_sem]
def rj (u0:cn)(a:aC)(w1:bG):Option Bool:=
 aj (bG.get w1 u0.aS) fun b=>aj (kg a u0.aS b) fun c=>aj (jE a c) fun d=>some (!(d==u0.bL))
theorem EP {ro:Addr->Option Value}(u0:cn)(a:aC){b:Nat}(y:ro ⟨b,0,none⟩=some (.int .i64 a.bE))(z:ro ⟨b,1,none⟩=some (.int .i64 a.cD))(B:ro ⟨b,2,none⟩=some (.int .i64 a.bx.num))(C:ro ⟨b,3,none⟩=some (.int .i64 a.bx.den)){s1:Value}(e:aB dV ro s1 a.aR)(D:ro ⟨b,4,none⟩=some (s1)){j:Value}(f:aB eV ro j a.props)(E:ro ⟨b,5,none⟩=some (j)){k:Value}(g:aB fl ro k a.aU)(G:ro ⟨b,6,none⟩=some (k)){l:Value}(i:aB dD ro l a.told)(H:ro ⟨b,7,none⟩=some (l))(w1:bG){d:Nat}(o:ro ⟨d,0,none⟩=some (.int .i64 w1.e0))(p:ro ⟨d,1,none⟩=some (.int .i64 w1.e1))(q:ro ⟨d,2,none⟩=some (.int .i64 w1.e2)){r:Bool}(h:rj u0 a w1=some r):aA Tryz.prog 166 #[.agg #[.int .i64 u0.aS,.bool u0.bL],.pointer (some ⟨b,0,none⟩),.pointer (some ⟨d,0,none⟩)] ⟨ro,[]⟩ (fun v _=>v= .bool r):=by
 obtain ⟨d3,c4,rfl,I,K,-⟩:=id e;obtain ⟨d10,L,rfl,M,N,-⟩:=id f;obtain ⟨d17,O,rfl,P,Q,-⟩:=id g;obtain ⟨d24,R,rfl,S,T,-⟩:=id i;unfold rj at h;refine aA.go Tryz.func166 rfl Tryz.ntmps166 Tryz.results166 av fun main J hJ A U hd hs=>?_;have V:=hs 0;have k1:=hs 1;have W:=hs 2;clear hs;apply aD hJ _;refine az fun X Y s=>?_;try simp only[au] at s
 apply ah hJ;refine cM hJ mixed 14 1 aI ai ?_;revert h;refine bS fun t m h=>?_;obtain ⟨Z,ab,n⟩:=bG.get_some m;clear n;have n:=bG.Er m o p q;revert h;refine bS fun u w h=>?_;apply ag _;refine ⟨_,bD hJ fun F c=>mb a ⟨(e.mono (cx c)),(f.mono (cx c)),(g.mono (cx c)),(i.mono (cx c))⟩ u0.aS t w,bY ?_⟩;revert h;refine bS fun ad x h=>?_;cases h;apply ag _;refine ⟨_,bD hJ fun F c=>mm a ⟨(e.mono (cx c)),(f.mono (cx c)),(g.mono (cx c)),(i.mono (cx c))⟩ u x,bY ?_⟩;apply ag _;apply aJ;simp only[*,go_sem]
def rm (u0:aC)(a:bG):Option Bool:=
 aj (uZ u0.told (fun b=>rj b u0 a)) fun c=>some (!c)
theorem ER {ro:Addr->Option Value}(u0:aC){s1 f g i:Value}(b:bV ro u0 s1 f g i)(c:bG){r:Bool}(h:rm u0 c=some r):aA Tryz.prog 137 #[bv u0 s1 f g i,.agg #[.int .i64 c.e0,.int .i64 c.e1,.int .i64 c.e2]] ⟨ro,[]⟩ (fun v _=>v= .bool r):=by
 obtain ⟨d3,c4,rfl,q,s,-⟩:=id b.e;obtain ⟨d10,u,rfl,w,x,-⟩:=id b.p;obtain ⟨d17,z,rfl,B,C,-⟩:=id b.y;obtain ⟨d24,D,rfl,E,F,-⟩:=id b.t;unfold rm at h;refine aA.go Tryz.func137 rfl Tryz.ntmps137 Tryz.results137 av fun main J hJ A G hd hs=>?_;have H:=hs 0;have k1:=hs 1;clear hs;apply aD hJ _;refine az fun j I k=>?_;try simp only[au] at k
 refine az fun l K m=>?_;try simp only[au] at m
 apply an hJ;revert h;refine bS fun L n h=>?_;cases h;apply ag _;refine bf hJ _ (EM (dF:=166) (en:=#[]) (eo:=#[.pointer (some ⟨j,0,none⟩),.pointer (some ⟨l,0,none⟩)]) u0.told (b.t.mono bg) (fun d=>rj d u0 c) ⟨by simp only[go_sem],fun M a d N o=>by simp only[go_sem];exact EP d u0 (a _ _ (by simp only[af.cG,go_sem, *])) (a _ _ (by simp only[af.cG,go_sem, *])) (a _ _ (by simp only[af.cG,go_sem, *])) (a _ _ (by simp only[af.cG,go_sem, *])) ((b.e.mono bg).mono a) (a _ _ (by simp only[af.cG,go_sem, *])) ((b.p.mono bg).mono a) (a _ _ (by simp only[af.cG,go_sem, *])) ((b.y.mono bg).mono a) (a _ _ (by simp only[af.cG,go_sem, *])) ((b.t.mono bg).mono a) (a _ _ (by simp only[af.cG,go_sem, *])) c (a _ _ (by simp only[af.cG,go_sem, *])) (a _ _ (by simp only[af.cG,go_sem, *])) (a _ _ (by simp only[af.cG,go_sem, *])) o⟩ n) (aP ?_);apply ag _;apply aJ;simp only[*,go_sem]
def rq (u0:aC)(a:(List bM)):Option Bool:=
 aj (u7 a (jE u0)) fun b=>some (!b)
theorem ES {ro:Addr->Option Value}(u0:aC){s1 c d f:Value}(a:bV ro u0 s1 c d f)(g:(List bM)){i:Value}(j:aB iY ro i g){r:Bool}(h:rq u0 g=some r):aA Tryz.prog 148 #[bv u0 s1 c d f,i] ⟨ro,[]⟩ (fun v _=>v= .bool r):=by
 obtain ⟨d31,n,rfl,o,q,-⟩:=id j;unfold rq at h;refine aA.go Tryz.func148 rfl Tryz.ntmps148 Tryz.results148 av fun main J hJ A s hd hs=>?_;have u:=hs 0;have k1:=hs 1;clear hs;apply aD hJ _;refine az fun w x k=>?_;try simp only[au] at k
 apply an hJ;revert h;refine bS fun z l h=>?_;cases h;apply ag _;refine bf hJ _ (EO (dF:=80) (en:=#[bv u0 s1 c d f]) (eo:=#[]) g (j.mono bg) (jE u0) ⟨by simp only[go_sem],fun B b m _ h=>by simp only[go_sem];exact mm u0 ⟨((a.e.mono bg).mono b),((a.p.mono bg).mono b),((a.y.mono bg).mono b),((a.t.mono bg).mono b)⟩ m h⟩ l) (aP ?_);apply ag _;apply aJ;simp only[*,go_sem]
def ru (u0:bG)(a:dw)(w1:Int):Option Bool:=
 aj (bG.get u0 w1) fun b=>aj (kg a.book w1 b) fun c=>aj (jE a.book c) fun d=>some d
theorem ET {ro:Addr->Option Value}(u0:bG)(a:dw){b:Nat}(x:ro ⟨b,0,none⟩=some (.int .i64 a.book.bE))(y:ro ⟨b,1,none⟩=some (.int .i64 a.book.cD))(z:ro ⟨b,2,none⟩=some (.int .i64 a.book.bx.num))(B:ro ⟨b,3,none⟩=some (.int .i64 a.book.bx.den)){s1:Value}(d:aB dV ro s1 a.book.aR)(C:ro ⟨b,4,none⟩=some (s1)){i:Value}(e:aB eV ro i a.book.props)(D:ro ⟨b,5,none⟩=some (i)){j:Value}(f:aB fl ro j a.book.aU)(E:ro ⟨b,6,none⟩=some (j)){k:Value}(g:aB dD ro k a.book.told)(G:ro ⟨b,7,none⟩=some (k)){l:Value}(n:aB g9 ro l a.all)(H:ro ⟨b,8,none⟩=some (l))(w1:Int){m:Nat}(I:ro ⟨m,0,none⟩=some (.int .i64 w1)){r:Bool}(h:ru u0 a w1=some r):aA Tryz.prog 91 #[.agg #[.int .i64 u0.e0,.int .i64 u0.e1,.int .i64 u0.e2],.pointer (some ⟨b,0,none⟩),.pointer (some ⟨m,0,none⟩)] ⟨ro,[]⟩ (fun v _=>v= .bool r):=by
 obtain ⟨d3,c4,rfl,K,L,-⟩:=id d;obtain ⟨d10,M,rfl,N,O,-⟩:=id e;obtain ⟨d17,P,rfl,Q,R,-⟩:=id f;obtain ⟨d24,S,rfl,T,U,-⟩:=id g;obtain ⟨d31,V,rfl,W,X,-⟩:=id n;unfold ru at h;refine aA.go Tryz.func91 rfl Tryz.ntmps91 Tryz.results91 av fun main J hJ A Y hd hs=>?_;have Z:=hs 0;have k1:=hs 1;have ab:=hs 2;clear hs;apply aD hJ _;refine az fun ad ae o=>?_;try simp only[au] at o
 apply ah hJ;refine cM hJ mixed 11 1 aI ai ?_;revert h;refine bS fun p q h=>?_;obtain ⟨al,ao,s⟩:=bG.get_some q;try simp only[go_sem] at s
 revert h;refine bS fun t u h=>?_;apply ag _;refine ⟨_,bD hJ fun F c=>mb a.book ⟨(d.mono (cx c)),(e.mono (cx c)),(f.mono (cx c)),(g.mono (cx c))⟩ w1 p u,bY ?_⟩;revert h;refine bS fun ar w h=>?_;cases h;apply ag _;refine ⟨_,bD hJ fun F c=>mm a.book ⟨(d.mono (cx c)),(e.mono (cx c)),(f.mono (cx c)),(g.mono (cx c))⟩ t w,bY ?_⟩;apply ag _;apply aJ;simp only[*,go_sem]
def vb (u0:bG)(a:dw)(i38:Nat)(e:dc)(st:Bool):Option (Fl Bool Bool):=
 aj (bG.get u0 (i38:Int)) fun b=>aj (kg a.book (i38:Int) b) fun c=>aj (jE a.book c) fun d=>cond (d) (some (.rt false)) (some (.nx st))
def ry (u0:bG)(a:dw):Option Bool:=
 aj (bQ (vb u0 a) 0 a.book.aU false) fun o=>aL o (fun b=>some true) (fun _ _=>none) (fun r=>some r)
theorem EU {ro:Addr->Option Value}(u0:bG)(a:dw){b:Nat}(ae:ro ⟨b,0,none⟩=some (.int .i64 a.book.bE))(al:ro ⟨b,1,none⟩=some (.int .i64 a.book.cD))(ao:ro ⟨b,2,none⟩=some (.int .i64 a.book.bx.num))(ar:ro ⟨b,3,none⟩=some (.int .i64 a.book.bx.den)){s1:Value}(i:aB dV ro s1 a.book.aR)(a0:ro ⟨b,4,none⟩=some (s1)){p:Value}(j:aB eV ro p a.book.props)(a2:ro ⟨b,5,none⟩=some (p)){q:Value}(e:aB fl ro q a.book.aU)(a3:ro ⟨b,6,none⟩=some (q)){s:Value}(k:aB dD ro s a.book.told)(a4:ro ⟨b,7,none⟩=some (s)){t:Value}(B:aB g9 ro t a.all)(a5:ro ⟨b,8,none⟩=some (t)){r:Bool}(h:ry u0 a=some r):aA Tryz.prog 92 #[.agg #[.int .i64 u0.e0,.int .i64 u0.e1,.int .i64 u0.e2],.pointer (some ⟨b,0,none⟩)] ⟨ro,[]⟩ (fun v _=>v= .bool r):=by
 obtain ⟨d3,c4,rfl,a6,a7,-⟩:=id i;obtain ⟨d10,a8,rfl,a9,ba,-⟩:=id j;obtain ⟨d17,bb,rfl,bc,C,-⟩:=id e;obtain ⟨d24,bd,rfl,bj,bk,-⟩:=id k;obtain ⟨d31,bl,rfl,bm,bo,-⟩:=id B;unfold ry at h;refine aA.go Tryz.func92 rfl Tryz.ntmps92 Tryz.results92 av fun main J hJ A D hd hs=>?_;have E:=hs 0;have k1:=hs 1;clear hs;apply aD hJ _;refine az fun G br H=>?_;try simp only[au] at H
 refine ah hJ (an hJ ?_);apply ag _;apply aW hJ;revert h;refine bS fun I d u=>?_;refine b7 hJ (rg 10 14 [3,4]) (fun m w F'=>∃(i38:Nat) (f:Bool),m=a.book.aU.length - i38/\i38<=a.book.aU.length/\bQ (vb u0 a) i38 (a.book.aU.drop i38) f=some I/\F'=⟨ro,(G,.cells #[.int .i64 u0.e0,.int .i64 u0.e1,.int .i64 u0.e2] 158)::[]⟩/\slot w 10= .int .i64 (i38:Int)/\slot w 3= .bool f) a.book.aU.length ?_ ?_
 .refine ⟨0,false,(Nat.sub_zero _).symm,Nat.zero_le _,d,rfl,?_⟩;simp only[*,go_sem]
 rintro bs bz F' y ⟨i38,f,rfl,b0,d,rfl,b1,b2⟩;obtain ⟨K,L,M⟩:=y.pick [1,2,9] aO;simp only[*,go_sem] at K L M;clear y D hd E k1;apply aD hJ _;apply ah hJ;rcases Nat.lt_or_ge i38 a.book.aU.length with N|z
 .refine cz hJ ?_;apply aK hJ;obtain ⟨O,l⟩:∃x,a.book.aU[i38]?=some x:=⟨_,List.getElem?_eq_getElem N⟩
  rw[dr l] at d;revert d;refine bS fun b3 h o=>?_;unfold vb at h;try dsimp only at h
  obtain ⟨b4,P,Q,R,g⟩:=e.el _ _ l;obtain rfl:P=O.cells:=R;cases Q;have S:=g 0 _ rfl;simp only[go_sem] at S;have T:=g 1 _ rfl;simp only[go_sem] at T;have U:=g 2 _ rfl;simp only[go_sem] at U;clear g l;refine ah hJ (aW hJ (ah hJ ?_));apply aM hJ _;apply ah hJ;refine cM hJ mixed 10 1 aI ai ?_;revert h;refine bS fun V W h=>?_;obtain ⟨b5,ca,X⟩:=bG.get_some W;try simp only[go_sem] at X
  revert h;refine bS fun Y Z h=>?_;apply ag _;refine ⟨_,bD hJ fun F c=>mb a.book ⟨(i.mono (cx c)),(j.mono (cx c)),(e.mono (cx c)),(k.mono (cx c))⟩ (i38:Int) V Z,bY ?_⟩;revert h;refine bS fun cb ab h=>?_;apply ag _;refine ⟨_,bD hJ fun F c=>mm a.book ⟨(i.mono (cx c)),(j.mono (cx c)),(e.mono (cx c)),(k.mono (cx c))⟩ Y ab,?_⟩;revert h;refine aX hJ (fun ad h=>?_) fun ad h=>?_
  .cases h;apply aD hJ _;obtain rfl:=sI o;clear o;have h:=u;dsimp only[aL] at h;cases h;apply aJ;simp only[*,go_sem]
  cases h;apply aK hJ;have cd:=cw (n:=i38) (by have:=C;omega);apply aM hJ _;refine ⟨a.book.aU.length - (i38+1),aa,_,Le.sub (List.Sublist.refl _),i38+1,f,rfl,aa,o,rfl,?_⟩;simp only[*,go_sem]
 have cf:=Nat.not_lt.2 z;refine cB hJ ?_;rw[List.drop_eq_nil_of_le z] at d;obtain rfl:=sI d;clear d;have h:=u;dsimp only[aL] at h;cases h;apply bT;simp only[go_sem];apply aD hJ _;apply aJ;simp only[*,go_sem]
def bG.setAt (h:bG)(i n:Int):Option bG:=if i=0 then some {h with e0:=n} else if i=1 then some {h with e1:=n} else if i=2 then some {h with e2:=n} else none
theorem bG.EV {h a:bG}{i n:Int}(e:h.setAt i n=some a):(i=0/\a={h with e0:=n})\/(i=1/\a={h with e1:=n})\/(i=2/\a={h with e2:=n}):=by
 unfold bG.setAt at e;split at e
 .exact .inl ⟨‹_›,(Option.some.inj e).symm⟩
 .split at e
  .exact .inr (.inl ⟨‹_›,(Option.some.inj e).symm⟩)
  .split at e
   .exact .inr (.inr ⟨‹_›,(Option.some.inj e).symm⟩)
   .cases e
def k4 (f:bG->List (Option bG)×bG)(i a:Int):Nat->Int->bG->List (Option bG)×bG
 |0,_,h=>([none],h)
 |k+1,n,h=>if n<=a then match h.setAt i n with
   |none=>([none],h)
   |some b=>((f b).1++(k4 f i a k (IntKind.i64.wrap (n+1)) (f b).2).1,(k4 f i a k (IntKind.i64.wrap (n+1)) (f b).2).2)
  else ([],h)
def gb (b:aC):Nat->Int->bG->List (Option bG)×bG
 |0,_,h=>([none],h)
 |fuel+1,i,h=>if i=b.aU.length then ((match rm b h with
   |some true=>[some h]
   |some false=>[]
   |none=>[none]),h)
  else match bH b.aU i with
   |none=>([none],h)
   |some e=>k4 (gb b fuel (IntKind.i64.wrap (i+1))) i e.high.high 100 e.high.low h
def nj (b:aC):List (Option bG):=(gb b 5 0 ⟨0,0,0⟩).1
theorem EW {H σ:Type}{step:σ->H->Option (Bool×σ)}{l l':List (Option H)}{s s':σ}{c:Bool}(h:dA step (l++l') s=some (c,s')):
  (∃s1,dA step l s=some (true,s1)/\dA step l' s1=some (c,s'))\/(dA step l s=some (false,s')/\c=false):=by
 rw[zP] at h
 split at h
 .rename_i s1 a;exact .inl ⟨s1,a,h⟩
 .rename_i s1 a;simp only[Option.some.injEq,Prod.mk.injEq] at h;obtain ⟨rfl,rfl⟩:=h;exact .inr ⟨a,rfl⟩
 .cases h
theorem pe {H σ:Type}{step:σ->H->Option (Bool×σ)}{s:σ}{r:Bool×σ}(h:dA step [none] s=some r):False:=by cases h
section
variable {ro:Addr->Option Value}{σ:Type}{step:σ->bG->Option (Bool×σ)}{I:σ->List (Nat×Obj)->Prop}{y:Value}
def nk (b:aC)(s1 s2 a c y:Value)(b2 b3 b4 b5:Nat)(h:bG):List (Nat×Obj):=
 [(b5,.cells #[.func (.func 136) #[] #[.pointer (some ⟨b2,0,none⟩),.pointer (some ⟨b4,0,none⟩),.pointer (some ⟨b3,0,none⟩),.pointer (some ⟨b5,0,none⟩)]] 195),
  (b4,.cells #[.int .i64 h.e0,.int .i64 h.e1,.int .i64 h.e2] 158),(b3,.cells #[y] 169),
  (b2,.cells #[.int .i64 b.bE,.int .i64 b.cD,.int .i64 b.bx.num,.int .i64 b.bx.den,s1,s2,a,c] 108)]
theorem EX (u0:aC){s1 s2 z B:Value}(G:aB dV ro s1 u0.aR)(H:aB eV ro s2 u0.props)(K:aB fl ro z u0.aU)(L:aB dD ro B u0.told)(X:uC Tryz.prog y bG.v step ro I)
  {b2 b3 b4 b5:Nat} (n1:¬b5=b4) (n2:¬b5=b3) (n3:¬b5=b2) (bd:¬b4=b3) (bj:¬b4=b2) (bk:¬b3=b2) (bl:∀off sp,ro ⟨b5,off,sp⟩=none) (bm:∀off sp,ro ⟨b4,off,sp⟩=none) (bo:∀off sp,ro ⟨b3,off,sp⟩=none) (br:∀off sp,ro ⟨b2,off,sp⟩=none):
  ∀(fuel:Nat) (i:Int) (b:bG) (s:σ) (c:Bool) (s':σ),dA step (gb u0 fuel i b).1 s=some (c,s')->∀(main:Bool) (J:Goroutine->af->Prop),Closed Tryz.prog main J->∀own,I s own->
   c8 Tryz.prog J 136 #[.int .i64 i,.pointer (some ⟨b2,0,none⟩),.pointer (some ⟨b4,0,none⟩),.pointer (some ⟨b3,0,none⟩),.pointer (some ⟨b5,0,none⟩)] ⟨ro,nk u0 s1 s2 z B y b2 b3 b4 b5 b++own⟩
    (fun v F'=>∃o q,Le ⟨ro,nk u0 s1 s2 z B y b2 b3 b4 b5 o++q⟩ F'/\v= .bool c/\I s' q/\(c=true->o=(gb u0 fuel i b).2)):=by
 intro fuel
 induction fuel with
 |zero=>intro i b s c s' h;exact (pe h).elim
 |succ fuel ih=>
  intro i b s c s' h main J hJ own j
  obtain ⟨M,N,rfl,bs,bz,e1⟩:=id G
  obtain ⟨O,P,rfl,bS,b0,e2⟩:=id H
  obtain ⟨Y,Q,rfl,b1,ca,Z⟩:=id K
  obtain ⟨R,S,rfl,cb,cd,cf⟩:=id L
  refine c8.go hJ Tryz.func136 rfl Tryz.ntmps136 Tryz.results136 av fun A ab hd hs=>?_
  have ad:=hs 0
  have k1:=hs 1
  have ae:=hs 2
  have al:=hs 3
  have ao:=hs 4
  clear hs
  unfold gb at h
  have cl:(0:Int)<((3:Nat):Int):=aO
  have cy:(1:Int)<((3:Nat):Int):=aO
  have cS:(2:Int)<((3:Nat):Int):=aO
  repeat apply ah hJ
  apply aG hJ
  apply bu _
  repeat apply ah hJ
  apply aG hJ
  simp only[nk,go_sem, *,-h]
  repeat apply ah hJ
  by_cases t:i=(u0.aU.length:Int)
  .rw[if_pos t] at h
   repeat apply ah hJ
   refine c5 hJ cL ?_
   repeat apply ah hJ
   refine aE hJ fun nd=>?_
   repeat apply ah hJ
   apply aG hJ
   apply bu _
   cases f:rm u0 b with
   |none=>rw[f] at h;exact (pe h).elim
   |some r=>
    rw[f] at h
    refine bf hJ _ (ER u0 ⟨(G.mono bg),(H.mono bg),(K.mono bg),(L.mono bg)⟩ b f) (aP ?_)
    cases r with
    |false=>
     cases h
     apply ag _
     repeat apply ah hJ
     apply aJ
     apply ag _
     refine ⟨b,own,Le.refl _,?_⟩
     first|exact ⟨rfl,j,fun _=>by unfold gb;rw[if_pos rfl]⟩|exact ⟨j,fun _=>by unfold gb;rw[if_pos rfl]⟩|exact ⟨j,by unfold gb;rw[if_pos rfl]⟩|exact j
    |true=>
     have ar:step s b=some (c,s'):=by
      simp only[dA] at h
      split at h<;>first|(cases h;assumption)|cases h
     apply bu _
     refine j4 hJ (nk u0 (.slice M u0.aR.length N) (.slice O u0.props.length P) (.slice Y u0.aU.length Q) (.slice R u0.told.length S) y b2 b3 b4 b5 b) (fun m a0 a2=>X s b c s' ar m a0 a2 own j) nd ?_
     rintro v q ⟨rfl,T⟩ c0
     apply aP
     apply bu _
     repeat apply ah hJ
     apply aJ
     apply bu _
     refine ⟨b,q,Le.refl _,?_⟩
     first|exact ⟨rfl,T,fun _=>by unfold gb;rw[if_pos rfl]⟩|exact ⟨T,fun _=>by unfold gb;rw[if_pos rfl]⟩
  .rw[if_neg t] at h
   have da:(i==(u0.aU.length:Int))=false:=by simpa using t
   repeat apply ah hJ
   refine cW hJ cL ?_
   apply aK hJ
   cases f:bH u0.aU i with
   |none=>rw[f] at h;exact (pe h).elim
   |some e=>
    rw[f] at h
    simp only at h
    have a3:=f
    obtain ⟨db,dd,U⟩:=c6 f
    obtain ⟨a4,cse,a5,a6,u⟩:=Z _ _ U
    obtain rfl:cse=e.cells:=a6
    cases a5
    have a7:=u 0 _ rfl;simp only[go_sem] at a7
    have a8:=u 1 _ rfl;simp only[go_sem] at a8
    have a9:=u 2 _ rfl;simp only[go_sem] at a9
    clear u U
    repeat apply ah hJ
    apply aG hJ
    apply bu _
    repeat apply ah hJ
    apply aW hJ
    refine b7 hJ [6,7,31,32,33,34,35,36,37,38,39,40,41,42,43,44,45,46,47,48,49,50] (fun m ba F'=>∃(n:Int) (h:bG) (s:σ) (own:List (Nat×Obj)),dA step (k4 (gb u0 fuel (IntKind.i64.wrap (i+1))) i e.high.high m n h).1 s=some (c,s')/\
     (c=true->(k4 (gb u0 fuel (IntKind.i64.wrap (i+1))) i e.high.high m n h).2=(gb u0 (fuel+1) i b).2)/\F'=⟨ro,nk u0 (.slice M u0.aR.length N) (.slice O u0.props.length P) (.slice (some a4) u0.aU.length Q) (.slice R u0.told.length S) y b2 b3 b4 b5 h++own⟩/\I s own/\slot ba 7= .int .i64 n) 100 ?_ ?_
    .have bb:(gb u0 (fuel+1) i b).2=(k4 (gb u0 fuel (IntKind.i64.wrap (i+1))) i e.high.high 100 e.high.low b).2:=by
      rw[gb,if_neg t,a3]
     exact ⟨e.high.low,b,s,own,h,fun _=>bb.symm,rfl,j,cL⟩
    .rintro m k F' g ⟨n,o,s1,C,a,d,rfl,p,df⟩
     clear h j
     have dk:sz k=51:=by rw[g.size];simp only[*,go_sem]
     have kd:k.defers=[]:=by rw[g.defers];simp only[*,go_sem]
     have dp:slot k 0= .int .i64 i:=by rw[g.fD 0 aO];simp only[*,go_sem]
     have dq:slot k 1= .pointer (some ⟨b2,0,none⟩):=by rw[g.fD 1 aO];simp only[*,go_sem]
     have ds:slot k 2= .pointer (some ⟨b4,0,none⟩):=by rw[g.fD 2 aO];simp only[*,go_sem]
     have dt:slot k 3= .pointer (some ⟨b3,0,none⟩):=by rw[g.fD 3 aO];simp only[*,go_sem]
     have du:slot k 4= .pointer (some ⟨b5,0,none⟩):=by rw[g.fD 4 aO];simp only[*,go_sem]
     clear g ad k1 ae al ao ab hd
     obtain _|m:=m
     .exact (pe a).elim
     unfold k4 at a d
     repeat apply ah hJ
     apply aG hJ
     simp only[nk,go_sem, *,-a]
     repeat apply ah hJ
     by_cases w:n<=e.high.high
     .rw[if_pos w] at a
      rw[if_pos w] at d
      repeat apply ah hJ
      refine c5 hJ (by simp only[*,go_sem,-a]) ?_
      apply aK hJ
      cases D:o.setAt i n with
      |none=>rw[D] at a;exact (pe a).elim
      |some dv=>
       rw[D] at a d
       simp only at a d
       repeat apply ah hJ
       apply aW hJ
       repeat apply ah hJ
       refine aE hJ fun nd=>?_
       repeat apply ah hJ
       apply aG hJ
       rcases bG.EV D with ⟨E,rfl⟩|⟨E,rfl⟩|⟨E,rfl⟩<;>subst E<;>
       (simp only[*,go_sem,-a]
        repeat apply ah hJ
        apply aG hJ
        simp only[*,go_sem,-a]
        have bc:=EW a
        clear a
        rcases bc with ⟨s2,F,a⟩|⟨F,rfl⟩
        .refine c8.less hJ ((ih _ _ _ _ _ F _ J hJ C p).mono ?_)
         rintro v F' ⟨V,W,hle,rfl,l,x⟩
         have x:=x rfl
         subst x
         refine ⟨_,hle,aP ?_⟩
         simp only[*,go_sem,-a]
         repeat apply ah hJ
         refine cW hJ (by simp only[*,go_sem,-a]) ?_
         apply aK hJ
         repeat apply ah hJ
         apply aG hJ
         simp only[*,go_sem,-a]
         exact ⟨m,Nat.lt_succ_self m,_,Le.refl _,_,_,_,_,a,d,rfl,l,by simp only[*,go_sem,-a]⟩
        .refine c8.less hJ ((ih _ _ _ _ _ F _ J hJ C p).mono ?_)
         rintro v F' ⟨V,W,hle,rfl,l,x⟩
         refine ⟨_,hle,aP ?_⟩
         apply ag _
         repeat apply ah hJ
         refine c5 hJ aI ?_
         repeat apply ah hJ
         apply aG hJ
         apply ag _
         repeat apply ah hJ
         apply aJ
         apply ag _
         refine ⟨V,W,Le.refl _,?_⟩
         first|exact ⟨rfl,l,fun h=>by cases h⟩|exact ⟨l,fun h=>by cases h⟩|exact l|exact ⟨l,trivial⟩)
     .rw[if_neg w] at a
      rw[if_neg w] at d
      simp only[dA,Option.some.injEq,Prod.mk.injEq] at a
      obtain ⟨rfl,rfl⟩:=a
      repeat apply ah hJ
      refine cW hJ aI ?_
      apply bT
      simp only[go_sem]
      repeat apply ah hJ
      apply aG hJ
      apply ag _
      repeat apply ah hJ
      apply aJ
      apply ag _
      refine ⟨o,C,Le.refl _,?_⟩
      first|exact ⟨rfl,p,fun h=>d h⟩|exact ⟨p,fun h=>d h⟩|exact ⟨p,d rfl⟩
theorem rz (u0:aC){s1 s2 j k:Value}(e:aB dV ro s1 u0.aR)(f:aB eV ro s2 u0.props)(g:aB fl ro j u0.aU)(h:aB dD ro k u0.told):
  jA Tryz.prog 81 #[.agg #[.int .i64 u0.bE,.int .i64 u0.cD,.int .i64 u0.bx.num,.int .i64 u0.bx.den,s1,s2,j,k]] #[] bG.v (nj u0) ro:=by
 refine ⟨by simp only[go_sem],fun aT b σ step I r t u l s c s' a main J hJ own m=>?_⟩
 replace e:=e.mono b
 replace f:=f.mono b
 replace g:=g.mono b
 replace h:=h.mono b
 refine c8.go hJ Tryz.func81 rfl Tryz.ntmps81 Tryz.results81 av fun A w hd hs=>?_
 have x:=hs 0
 have k1:=hs 1
 clear hs
 repeat apply ah hJ
 apply aG hJ
 try simp only[*,go_sem,-a]
 intro b2 f2;have r2:=dI f2;have n2:=ew f2
 intro b3 f3;have r3:=dI f3;have n3:=ew f3
 simp only[au] at n3
 try simp only[*,go_sem,-a]
 repeat apply ah hJ
 apply aG hJ
 try simp only[*,go_sem,-a]
 intro b4 f4;have n:=dI f4;have i:=ew f4
 simp only[au] at i
 try simp only[*,go_sem,-a]
 repeat apply ah hJ
 apply aG hJ
 try simp only[*,go_sem,-a]
 intro b5 f5;have o:=dI f5;have d:=ew f5
 simp only[au] at d
 try simp only[*,go_sem,-a]
 repeat apply ah hJ
 apply aG hJ
 try simp only[*,go_sem,-a]
 repeat apply ah hJ
 apply aG hJ
 try simp only[*,go_sem,-a]
 refine c8.less hJ ((EX u0 e f g h l (b2:=b2) (b3:=b3) (b4:=b4) (b5:=b5) d.1 d.2.1 d.2.2.1 i.1 i.2.1 n3.1 o n r3 r2 5 0 ⟨0,0,0⟩ s c s' a main J hJ own m).mono ?_)
 rintro v F' ⟨y,p,hle,rfl,q,_⟩
 exact ⟨_,hle,p,Le.sub (List.sublist_append_right _ _),q⟩
end
def rA (u0:List cn):Option (List cn):=if u0.length<=1000000 then some u0 else none
theorem vc {ro:Addr->Option Value}(u0:List cn){s1:Value}(b:aB dD ro s1 u0){x:List cn}(h:rA u0=some x):aA Tryz.prog 104 #[s1] ⟨ro,[]⟩ (fun v G=>∃a,aZ dD ro 101 v x a/\Le ⟨ro,a⟩ G):=by
 obtain ⟨ad,cap,rfl,le,d,e⟩:=id b;unfold rA at h;split at h
 case isFalse=>cases h
 rename_i hlen;obtain rfl:=Option.some.inj h;clear h;refine aA.go Tryz.func104 rfl Tryz.ntmps104 Tryz.results104 av fun main J hJ A f hd hs=>?_;have g:=hs 0;clear hs;apply aD hJ _;cases ad with
 |none=>
  have hu:u0=[]:=by
   cases u0 with
   |nil=>rfl
   |cons x l=>obtain ⟨p,cs,c,_⟩:=e 0 x rfl;cases c
  subst hu;first|refine an hJ ?_|refine ah hJ (an hJ ?_)
  apply ag _;refine c5 hJ aI ?_;apply aD hJ _;refine b9 ?_;exact ⟨[],aZ.nil _ _ _,Le.refl _⟩
 |some p=>
  first|refine an hJ ?_|refine ah hJ (an hJ ?_)
  apply ag _;refine cW hJ aI ?_;apply aK hJ;apply aD hJ _;intro i f1;have r1:=dI f1;try apply ag _
  refine oR r1 trivial rfl hlen b rfl rfl eM eM ir iw rfl iu aO aO (fun v a hg j=>aP ?_);apply ag _;refine b9 ?_;exact ⟨a,hg,Le.refl _⟩
def rC (u0:List dc):Option (List dc):=if u0.length<=1000000 then some u0 else none
theorem z5 {ro:Addr->Option Value}(u0:List dc){s1:Value}(b:aB fl ro s1 u0){x:List dc}(h:rC u0=some x):aA Tryz.prog 107 #[s1] ⟨ro,[]⟩ (fun v G=>∃a,aZ fl ro 144 v x a/\Le ⟨ro,a⟩ G):=by
 obtain ⟨ad,cap,rfl,le,d,e⟩:=id b;unfold rC at h;split at h
 case isFalse=>cases h
 rename_i hlen;obtain rfl:=Option.some.inj h;clear h;refine aA.go Tryz.func107 rfl Tryz.ntmps107 Tryz.results107 av fun main J hJ A f hd hs=>?_;have g:=hs 0;clear hs;apply aD hJ _;cases ad with
 |none=>
  have hu:u0=[]:=by
   cases u0 with
   |nil=>rfl
   |cons x l=>obtain ⟨p,cs,c,_⟩:=e 0 x rfl;cases c
  subst hu;first|refine an hJ ?_|refine ah hJ (an hJ ?_)
  apply ag _;refine c5 hJ aI ?_;apply aD hJ _;refine b9 ?_;exact ⟨[],aZ.nil _ _ _,Le.refl _⟩
 |some p=>
  first|refine an hJ ?_|refine ah hJ (an hJ ?_)
  apply ag _;refine cW hJ aI ?_;apply aK hJ;apply aD hJ _;intro i f1;have r1:=dI f1;try apply ag _
  refine oR r1 trivial rfl hlen b rfl rfl zg zg De Dg rfl Df aO aO (fun v a hg j=>aP ?_);apply ag _;refine b9 ?_;exact ⟨a,hg,Le.refl _⟩
def ve (u0:List b8):Option (List b8):=if u0.length<=1000000 then some u0 else none
theorem EY {ro:Addr->Option Value}(u0:List b8){s1:Value}(b:aB dV ro s1 u0){x:List b8}(h:ve u0=some x):aA Tryz.prog 153 #[s1] ⟨ro,[]⟩ (fun v G=>∃a,aZ dV ro 42 v x a/\Le ⟨ro,a⟩ G):=by
 obtain ⟨ad,cap,rfl,le,d,e⟩:=id b;unfold ve at h;split at h
 case isFalse=>cases h
 rename_i hlen;obtain rfl:=Option.some.inj h;clear h;refine aA.go Tryz.func153 rfl Tryz.ntmps153 Tryz.results153 av fun main J hJ A f hd hs=>?_;have g:=hs 0;clear hs;apply aD hJ _;cases ad with
 |none=>
  have hu:u0=[]:=by
   cases u0 with
   |nil=>rfl
   |cons x l=>obtain ⟨p,cs,c,_⟩:=e 0 x rfl;cases c
  subst hu;first|refine an hJ ?_|refine ah hJ (an hJ ?_)
  apply ag _;refine c5 hJ aI ?_;apply aD hJ _;refine b9 ?_;exact ⟨[],aZ.nil _ _ _,Le.refl _⟩
 |some p=>
  first|refine an hJ ?_|refine ah hJ (an hJ ?_)
  apply ag _;refine cW hJ aI ?_;apply aK hJ;apply aD hJ _;intro i f1;have r1:=dI f1;try apply ag _
  refine oR r1 trivial rfl hlen b rfl rfl zf zf C6 zh rfl C7 aO aO (fun v a hg j=>aP ?_);apply ag _;refine b9 ?_;exact ⟨a,hg,Le.refl _⟩
def rD (u0:List c7):Option (List c7):=if u0.length<=1000000 then some u0 else none
theorem z6 {ro:Addr->Option Value}(u0:List c7){s1:Value}(b:aB eV ro s1 u0){x:List c7}(h:rD u0=some x):aA Tryz.prog 154 #[s1] ⟨ro,[]⟩ (fun v G=>∃a,aZ eV ro 146 v x a/\Le ⟨ro,a⟩ G):=by
 obtain ⟨ad,cap,rfl,le,d,e⟩:=id b;unfold rD at h;split at h
 case isFalse=>cases h
 rename_i hlen;obtain rfl:=Option.some.inj h;clear h;refine aA.go Tryz.func154 rfl Tryz.ntmps154 Tryz.results154 av fun main J hJ A f hd hs=>?_;have g:=hs 0;clear hs;apply aD hJ _;cases ad with
 |none=>
  have hu:u0=[]:=by
   cases u0 with
   |nil=>rfl
   |cons x l=>obtain ⟨p,cs,c,_⟩:=e 0 x rfl;cases c
  subst hu;first|refine an hJ ?_|refine ah hJ (an hJ ?_)
  apply ag _;refine c5 hJ aI ?_;apply aD hJ _;refine b9 ?_;exact ⟨[],aZ.nil _ _ _,Le.refl _⟩
 |some p=>
  first|refine an hJ ?_|refine ah hJ (an hJ ?_)
  apply ag _;refine cW hJ aI ?_;apply aK hJ;apply aD hJ _;intro i f1;have r1:=dI f1;try apply ag _
  refine oR r1 trivial rfl hlen b rfl rfl kP kP qF qH rfl qG aO aO (fun v a hg j=>aP ?_);apply ag _;refine b9 ?_;exact ⟨a,hg,Le.refl _⟩
def rE (u0:List Int):Option (List Int):=if u0.length<=1000000 then some u0 else none
theorem z7 {ro:Addr->Option Value}(u0:List Int){s1:Value}(b:aB rI ro s1 u0){x:List Int}(h:rE u0=some x):aA Tryz.prog 152 #[s1] ⟨ro,[]⟩ (fun v G=>∃a,aZ rI ro 3 v x a/\Le ⟨ro,a⟩ G):=by
 obtain ⟨ad,cap,rfl,le,d,e⟩:=id b;unfold rE at h;split at h
 case isFalse=>cases h
 rename_i hlen;obtain rfl:=Option.some.inj h;clear h;refine aA.go Tryz.func152 rfl Tryz.ntmps152 Tryz.results152 av fun main J hJ A f hd hs=>?_;have g:=hs 0;clear hs;apply aD hJ _;cases ad with
 |none=>
  have hu:u0=[]:=by
   cases u0 with
   |nil=>rfl
   |cons x l=>obtain ⟨p,cs,c,_⟩:=e 0 x rfl;cases c
  subst hu;first|refine an hJ ?_|refine ah hJ (an hJ ?_)
  apply ag _;refine c5 hJ aI ?_;apply aD hJ _;refine b9 ?_;exact ⟨[],aZ.nil _ _ _,Le.refl _⟩
 |some p=>
  first|refine an hJ ?_|refine ah hJ (an hJ ?_)
  apply ag _;refine cW hJ aI ?_;apply aK hJ;apply aD hJ _;intro i f1;have r1:=dI f1;try apply ag _
  refine oR r1 trivial rfl hlen b rfl rfl fZ fZ kM kO rfl kN aO aO (fun v a hg j=>aP ?_);apply ag _;refine b9 ?_;exact ⟨a,hg,Le.refl _⟩
def rF (u0:aC)(i43:Nat)(b:(aC->Option Int))(st:Int):Option (Fl Int (aC×Int)):=
 aj (b u0) fun a=>cond ((a != 0)) (some (.rt ((⟨0,0,(⟨0,0⟩:ay),([]:(List b8)),([]:(List c7)),([]:(List dc)),([]:(List cn))⟩:aC),a))) (some (.nx st))
def gO (u0:aC)(b:(List (aC->Option Int))):Option (aC×Int):=
 aj (jD u0) fun a=>cond ((a != 0)) (some ((⟨0,0,(⟨0,0⟩:ay),([]:(List b8)),([]:(List c7)),([]:(List dc)),([]:(List cn))⟩:aC),a)) (aj (bQ (rF u0) 0 b 0) fun o=>aL o (fun c=>some (u0,0)) (fun _ _=>none) (fun r=>some r))
theorem ki {ro:Addr->Option Value}(D:dy ro)(u0:aC){s1 f g i:Value}(b:bV ro u0 s1 f g i)(c:(List (aC->Option Int))){o:Value}(q:aB (dx) ro o c){r:(aC×Int)}(h:gO u0 c=some r):eT Tryz.prog 52 #[bv u0 s1 f g i,o] ro (fun v aT=>∃s w1 w2 w3,v= .tuple #[bv r.1 s w1 w2 w3,.int .i64 r.2]/\bV aT r.1 s w1 w2 w3):=by
 obtain ⟨d31,ae,rfl,al,E,-⟩:=id q;unfold gO at h;have F:=b.oc;simp only[bN] at F;refine aA.go Tryz.func52 rfl Tryz.ntmps52 Tryz.results52 av fun main J hJ A G hd hs=>?_;have H:=hs 0;have k1:=hs 1;clear hs;apply aD hJ _;refine az fun I ao K=>?_;try simp only[au] at K
 refine az fun L ar M=>?_;try simp only[au] at M
 refine ah hJ (an hJ ?_);revert h;refine bS fun a0 N h=>?_;apply ag _;refine bf hJ _ (z1 (D.mono bg) u0 (b.e.mono bg) (b.p.mono bg) (b.y.mono bg) (b.t.mono bg) N) (aP ?_);apply ag _;apply aD hJ _;revert h;refine aX hJ (fun O h=>?_) fun O h=>?_
 .cases h;apply aD hJ _;refine b9 ?_;exact ⟨_,Ext.refl _,Le.sub (List.nil_sublist _),_,_,_,_,rfl,⟨aB.nil _ _,aB.nil _ _,aB.nil _ _,aB.nil _ _⟩⟩
 refine aK hJ (ah hJ ?_);apply aM hJ _;refine az fun P a2 Q=>?_;try simp only[au] at Q
 refine ah hJ (an hJ ?_);apply ag _;apply aW hJ;revert h;refine bS fun R d u=>?_;refine b7 hJ (rg 21 12 [5,9,10]) (fun m w F'=>∃(i43:Nat) (j:Int),m=c.length - i43/\i43<=c.length/\bQ (rF u0) i43 (c.drop i43) j=some R/\F'=⟨ro,(P,bl u0 s1 f g i)::(L,bz 108)::(I,bk u0 s1 f g i)::[]⟩/\slot w 21= .int .i64 (i43:Int)/\slot w 5= .int .i64 j) c.length ?_ ?_
 .refine ⟨0,0,(Nat.sub_zero _).symm,Nat.zero_le _,d,rfl,?_⟩;simp only[*,go_sem]
 rintro a3 a4 F' z ⟨i43,j,rfl,a5,d,rfl,a6,a7⟩;obtain ⟨S,T,U⟩:=z.pick [4,7,19,20] aO;simp only[*,go_sem] at S T U;clear z G hd H k1;apply aD hJ _;apply ah hJ;rcases Nat.lt_or_ge i43 c.length with V|B
 .refine cz hJ ?_;apply aK hJ;obtain ⟨a8,k⟩:∃x,c[i43]?=some x:=⟨_,List.getElem?_eq_getElem V⟩
  rw[dr k] at d;revert d;refine bS fun a9 h l=>?_;unfold rF at h;try dsimp only at h
  obtain ⟨ba,bb,W,X,C⟩:=q.el _ _ k;obtain ⟨bc,bd,bj,rfl,Y⟩:=X;cases W;have Z:=C 0 _ rfl;simp only[go_sem] at Z;clear C k;refine ah hJ (aW hJ (ah hJ ?_));apply aM hJ _;apply an hJ;revert h;refine bS fun bm ab h=>?_;apply ag _;refine bf hJ _ (Y.2 _ (fun a v h=>bg a v h) u0 _ _ _ _ _ (b.e.mono bg) (b.p.mono bg) (b.y.mono bg) (b.t.mono bg) ab) (aP ?_);apply ag _;apply aD hJ _;revert h;refine aX hJ (fun ad h=>?_) fun ad h=>?_
  .cases h;apply aD hJ _;obtain rfl:=sI l;clear l;have h:=u;dsimp only[aL] at h;cases h;refine b9 ?_;exact ⟨_,Ext.refl _,Le.sub (List.nil_sublist _),_,_,_,_,rfl,⟨aB.nil _ _,aB.nil _ _,aB.nil _ _,aB.nil _ _⟩⟩
  cases h;apply aK hJ;have bo:=cw (n:=i43) (by have:=E;omega);apply aM hJ _;refine ⟨c.length - (i43+1),aa,_,Le.sub (List.Sublist.refl _),i43+1,j,rfl,aa,l,rfl,?_⟩;simp only[*,go_sem]
 have br:=Nat.not_lt.2 B;refine cB hJ ?_;rw[List.drop_eq_nil_of_le B] at d;obtain rfl:=sI d;clear d;have h:=u;dsimp only[aL] at h;cases h;apply bT;simp only[go_sem];apply aD hJ _;refine b9 ?_;exact ⟨_,Ext.refl _,Le.sub (List.nil_sublist _),_,_,_,_,rfl,b⟩
def vf (u0:aC)(b:Int):Option (ay×Int):=
 aj (gO u0 ([(m4 b)])) fun a=>cond ((a.2 != 0)) (some ((⟨0,0⟩:ay),a.2)) (aj (nh a.1 b) fun c=>some (c,0))
theorem EZ {ro:Addr->Option Value}(f:dy ro)(u0:aC){s1 g i j:Value}(k:bV ro u0 s1 g i j)(a:Int){r:(ay×Int)}(h:vf u0 a=some r):aA Tryz.prog 30 #[bv u0 s1 g i j,.int .i64 a] ⟨ro,[]⟩ (fun v _=>v= .tuple #[r.1.v,.int .i64 r.2]):=by
 unfold vf at h;refine aA.go Tryz.func30 rfl Tryz.ntmps30 Tryz.results30 av fun main J hJ A V hd hs=>?_;have W:=hs 0;have k1:=hs 1;clear hs;apply aD hJ _;refine az fun B C D=>?_;try simp only[au] at D
 refine az fun E F G=>?_;try simp only[au] at G
 apply ah hJ;refine aE hJ fun H=>?_;apply aG hJ;revert h;refine bS fun I K h=>?_;apply ag _;refine az fun c m n=>?_;have q:=aY.cons n H;try simp only[au] at n
 obtain ⟨l,s,u⟩:=e4 (b:=c) (o:=(.cells #[.func (.func 73) #[.int .i64 a] #[]] 111)) [] ((E,rt 0 0)::(B,bk u0 s1 g i j)::[]) q m (aF.cons F (aF.cons C (aF.nil _)));have w:aB (dx) (bR ro c (.cells #[.func (.func 73) #[.int .i64 a] #[]] 111)) (.slice (some ⟨c,0,none⟩) 1 1) [(m4 a)]:=(aB.one (r:=(dx)) (e:=111) (cs:=#[.func (.func 73) #[.int .i64 a] #[]]) (x:=(m4 a)) (own:=[(c,.cells #[.func (.func 73) #[.int .i64 a] #[]] 111)]) m (by simp[lk]) ⟨73,#[.int .i64 a],#[],rfl,⟨by simp only[go_sem],fun X Y L _ _ _ _ _ M N O P h=>by simp only[go_sem];exact Ez a L ⟨M,N,O,P⟩ h⟩⟩)
 generalize bR ro c (.cells #[.func (.func 73) #[.int .i64 a] #[]] 111)=Z at w s l u;refine gK hJ u ?_;replace k:=k.mono l;replace f:=f.mono l;simp only[bC] at s;have Q:=aY.tl q;refine cr hJ _ (ki f u0 k ([(m4 a)]) w K) fun v ab ad R S=>?_;obtain ⟨ae,al,ao,ar,rfl,d⟩:=S;simp only[bC] at R;obtain ⟨d41,a0,rfl,a2,a3,-⟩:=id d.e;obtain ⟨d48,a4,rfl,a5,a6,-⟩:=id d.p;obtain ⟨d55,a7,rfl,a8,a9,-⟩:=id d.y;obtain ⟨d62,ba,rfl,bb,bc,-⟩:=id d.t;apply aP;apply ag _;refine az fun bd bj z=>?_;have bl:=aY.cons z Q;try simp only[au] at z
 refine ah hJ (an hJ ?_);apply ag _;revert h;refine aX hJ (fun T h=>?_) fun T h=>?_
 .cases h;apply aD hJ _;apply aJ;simp only[*,go_sem]
 refine aK hJ (ah hJ ?_);apply aG hJ;revert h;refine bS fun bm U h=>?_;cases h;apply ag _;refine bf hJ _ (z3 I.1 (d.mono bg) a U) (aP ?_);apply ag _;apply aJ;simp only[*,go_sem]
def nq (u0:aC)(b:bM):Option (Int×ay×Int):=
 aj (gO u0 ([(e7 b)])) fun a=>cond ((a.2 != 0)) (some (0,(⟨0,0⟩:ay),a.2)) (aj (k3 a.1 b) fun c=>some (c.at_,c.high,0))
theorem z8 {ro:Addr->Option Value}(k:dy ro)(u0:aC){s1 f g i:Value}(j:bV ro u0 s1 f g i)(a:bM){r:(Int×ay×Int)}(h:nq u0 a=some r):aA Tryz.prog 8 #[bv u0 s1 f g i,.agg #[.int .i64 a.back,.int .i64 a.high]] ⟨ro,[]⟩ (fun v _=>v= .tuple #[.int .i64 r.1,r.2.1.v,.int .i64 r.2.2]):=by
 unfold nq at h;have D:=j.oc;simp only[bN] at D;refine aA.go Tryz.func8 rfl Tryz.ntmps8 Tryz.results8 av fun main J hJ A a2 hd hs=>?_;have a3:=hs 0;have k1:=hs 1;clear hs;apply aD hJ _;refine az fun m E F=>?_;try simp only[au] at F
 refine az fun n G H=>?_;try simp only[au] at H
 refine az fun I K L=>?_;try simp only[au] at L
 apply ah hJ;refine aE hJ fun M=>?_;apply aG hJ;revert h;refine bS fun p N h=>?_;apply ag _;refine az fun d q s=>?_;have t:=aY.cons s M;try simp only[au] at s
 obtain ⟨l,u,w⟩:=e4 (b:=d) (o:=(.cells #[.func (.func 53) #[.agg #[.int .i64 a.back,.int .i64 a.high]] #[]] 111)) [] ((I,rt 0 0)::(n,.cells #[.int .i64 a.back,.int .i64 a.high] 33)::(m,bk u0 s1 f g i)::[]) t q (aF.cons K (aF.cons G (aF.cons E (aF.nil _))));have y:aB (dx) (bR ro d (.cells #[.func (.func 53) #[.agg #[.int .i64 a.back,.int .i64 a.high]] #[]] 111)) (.slice (some ⟨d,0,none⟩) 1 1) [(e7 a)]:=(aB.one (r:=(dx)) (e:=111) (cs:=#[.func (.func 53) #[.agg #[.int .i64 a.back,.int .i64 a.high]] #[]]) (x:=(e7 a)) (own:=[(d,.cells #[.func (.func 53) #[.agg #[.int .i64 a.back,.int .i64 a.high]] #[]] 111)]) q (by simp[lk]) ⟨53,#[.agg #[.int .i64 a.back,.int .i64 a.high]],#[],rfl,⟨by simp only[go_sem],fun a4 a5 O _ _ _ _ _ P Q R S h=>by simp only[go_sem];exact qV a O ⟨P,Q,R,S⟩ h⟩⟩)
 generalize bR ro d (.cells #[.func (.func 53) #[.agg #[.int .i64 a.back,.int .i64 a.high]] #[]] 111)=a6 at y u l w;refine gK hJ w ?_;replace j:=j.mono l;replace k:=k.mono l;simp only[bC] at u;have T:=aY.tl t;refine cr hJ _ (ki k u0 j ([(e7 a)]) y N) fun v U a7 V W=>?_;obtain ⟨X,Y,Z,ab,rfl,z⟩:=W;have ad:=z.oc;simp only[bN] at ad;simp only[bC] at V;apply aP;apply ag _;refine az fun ae a8 B=>?_;have al:=aY.cons B T;try simp only[au] at B
 refine ah hJ (an hJ ?_);apply ag _;revert h;refine aX hJ (fun ao h=>?_) fun ao h=>?_
 .cases h;apply aD hJ _;apply aJ;simp only[*,go_sem]
 refine aK hJ (ah hJ ?_);apply aG hJ;revert h;refine bS fun c ar h=>?_;cases h;apply ag _;refine bf hJ _ (q8 p.1 (z.mono bg) a ar) (aP ?_);apply ag _;refine az fun a0 a9 C=>?_;have ba:=aY.cons C al;try simp only[au] at C
 apply ah hJ;refine eg hJ mixed 5 ⟨U,[(a0,.cells #[.int .i64 c.spot.aQ,.int .i64 c.spot.high.num,.int .i64 c.spot.high.den,.int .i64 c.at_,.int .i64 c.high.num,.int .i64 c.high.den] 116),(ae,bl p.1 X Y Z ab),(n,.cells #[.int .i64 a.back,.int .i64 a.high] 33),(m,bk u0 s1 f g i)]⟩ aI ai ?_;apply ag _;apply aJ;simp only[*,go_sem]
def vg (u0:aC)(b:bM):Option (ay×Int):=
 aj (gO u0 ([(e7 b)])) fun a=>cond ((a.2 != 0)) (some ((⟨0,0⟩:ay),a.2)) (aj (q9 a.1 b) fun c=>some (c,0))
theorem E0 {ro:Addr->Option Value}(f:dy ro)(u0:aC){s1 g i j:Value}(k:bV ro u0 s1 g i j)(a:bM){r:(ay×Int)}(h:vg u0 a=some r):aA Tryz.prog 32 #[bv u0 s1 g i j,.agg #[.int .i64 a.back,.int .i64 a.high]] ⟨ro,[]⟩ (fun v _=>v= .tuple #[r.1.v,.int .i64 r.2]):=by
 unfold vg at h;refine aA.go Tryz.func32 rfl Tryz.ntmps32 Tryz.results32 av fun main J hJ A Y hd hs=>?_;have Z:=hs 0;have k1:=hs 1;clear hs;apply aD hJ _;refine az fun B C D=>?_;try simp only[au] at D
 refine az fun E F G=>?_;try simp only[au] at G
 refine az fun H I K=>?_;try simp only[au] at K
 apply ah hJ;refine aE hJ fun L=>?_;apply aG hJ;revert h;refine bS fun M N h=>?_;apply ag _;refine az fun c m n=>?_;have q:=aY.cons n L;try simp only[au] at n
 obtain ⟨l,s,u⟩:=e4 (b:=c) (o:=(.cells #[.func (.func 53) #[.agg #[.int .i64 a.back,.int .i64 a.high]] #[]] 111)) [] ((H,rt 0 0)::(E,.cells #[.int .i64 a.back,.int .i64 a.high] 33)::(B,bk u0 s1 g i j)::[]) q m (aF.cons I (aF.cons F (aF.cons C (aF.nil _))));have w:aB (dx) (bR ro c (.cells #[.func (.func 53) #[.agg #[.int .i64 a.back,.int .i64 a.high]] #[]] 111)) (.slice (some ⟨c,0,none⟩) 1 1) [(e7 a)]:=(aB.one (r:=(dx)) (e:=111) (cs:=#[.func (.func 53) #[.agg #[.int .i64 a.back,.int .i64 a.high]] #[]]) (x:=(e7 a)) (own:=[(c,.cells #[.func (.func 53) #[.agg #[.int .i64 a.back,.int .i64 a.high]] #[]] 111)]) m (by simp[lk]) ⟨53,#[.agg #[.int .i64 a.back,.int .i64 a.high]],#[],rfl,⟨by simp only[go_sem],fun ab ad O _ _ _ _ _ P Q R S h=>by simp only[go_sem];exact qV a O ⟨P,Q,R,S⟩ h⟩⟩)
 generalize bR ro c (.cells #[.func (.func 53) #[.agg #[.int .i64 a.back,.int .i64 a.high]] #[]] 111)=ae at w s l u;refine gK hJ u ?_;replace k:=k.mono l;replace f:=f.mono l;simp only[bC] at s;have T:=aY.tl q;refine cr hJ _ (ki f u0 k ([(e7 a)]) w N) fun v al ao U V=>?_;obtain ⟨ar,a0,a2,a3,rfl,d⟩:=V;simp only[bC] at U;obtain ⟨d42,a4,rfl,a5,a6,-⟩:=id d.e;obtain ⟨d49,a7,rfl,a8,a9,-⟩:=id d.p;obtain ⟨d56,ba,rfl,bb,bc,-⟩:=id d.y;obtain ⟨d63,bd,rfl,bj,bl,-⟩:=id d.t;apply aP;apply ag _;refine az fun bm bo z=>?_;have br:=aY.cons z T;try simp only[au] at z
 refine ah hJ (an hJ ?_);apply ag _;revert h;refine aX hJ (fun W h=>?_) fun W h=>?_
 .cases h;apply aD hJ _;apply aJ;simp only[*,go_sem]
 refine aK hJ (ah hJ ?_);apply aG hJ;revert h;refine bS fun bs X h=>?_;cases h;apply ag _;refine bf hJ _ (z2 M.1 (d.mono bg) a X) (aP ?_);apply ag _;apply aJ;simp only[*,go_sem]
def vh (u0:aC)(c:bM):Option (ay×Bool×Int):=
 aj (gO u0 ([(e7 c)])) fun b=>cond ((b.2 != 0)) (some ((⟨0,0⟩:ay),false,b.2)) (aj (o8 b.1 c) fun a=>cond (((a.length:Int)==0)) (some ((⟨0,0⟩:ay),false,0)) (aj (bH a 0) fun d=>aj (jv a 1 (a.length:Int)) fun e=>aj (mc jc d e) fun f=>some (f.high,true,0)))
theorem E1 {ro:Addr->Option Value}(l:dy ro)(u0:aC){s1 f g i:Value}(j:bV ro u0 s1 f g i)(a:bM){r:(ay×Bool×Int)}(h:vh u0 a=some r):aA Tryz.prog 33 #[bv u0 s1 f g i,.agg #[.int .i64 a.back,.int .i64 a.high]] ⟨ro,[]⟩ (fun v _=>v= .tuple #[r.1.v,.bool r.2.1,.int .i64 r.2.2]):=by
 unfold vh at h;have N:=j.oc;simp only[bN] at N;refine aA.go Tryz.func33 rfl Tryz.ntmps33 Tryz.results33 av fun main J hJ A cy hd hs=>?_;have cS:=hs 0;have k1:=hs 1;clear hs;apply aD hJ _;refine az fun s O P=>?_;try simp only[au] at P
 refine az fun t Q R=>?_;try simp only[au] at R
 refine az fun S T U=>?_;try simp only[au] at U
 apply ah hJ;refine aE hJ fun V=>?_;apply aG hJ;revert h;refine bS fun u W h=>?_;apply ag _;refine az fun d w y=>?_;have z:=aY.cons y V;try simp only[au] at y
 obtain ⟨m,B,C⟩:=e4 (b:=d) (o:=(.cells #[.func (.func 53) #[.agg #[.int .i64 a.back,.int .i64 a.high]] #[]] 111)) [] ((S,rt 0 0)::(t,.cells #[.int .i64 a.back,.int .i64 a.high] 33)::(s,bk u0 s1 f g i)::[]) z w (aF.cons T (aF.cons Q (aF.cons O (aF.nil _))));have D:aB (dx) (bR ro d (.cells #[.func (.func 53) #[.agg #[.int .i64 a.back,.int .i64 a.high]] #[]] 111)) (.slice (some ⟨d,0,none⟩) 1 1) [(e7 a)]:=(aB.one (r:=(dx)) (e:=111) (cs:=#[.func (.func 53) #[.agg #[.int .i64 a.back,.int .i64 a.high]] #[]]) (x:=(e7 a)) (own:=[(d,.cells #[.func (.func 53) #[.agg #[.int .i64 a.back,.int .i64 a.high]] #[]] 111)]) w (by simp[lk]) ⟨53,#[.agg #[.int .i64 a.back,.int .i64 a.high]],#[],rfl,⟨by simp only[go_sem],fun X Y n _ _ _ _ _ Z ab ad ae h=>by simp only[go_sem];exact qV a n ⟨Z,ab,ad,ae⟩ h⟩⟩)
 generalize bR ro d (.cells #[.func (.func 53) #[.agg #[.int .i64 a.back,.int .i64 a.high]] #[]] 111)=c0 at D B m C;refine gK hJ C ?_;replace j:=j.mono m;replace l:=l.mono m;simp only[bC] at B;have al:=aY.tl z;refine cr hJ _ (ki l u0 j ([(e7 a)]) D W) fun v da db ao p=>?_;obtain ⟨ar,a0,a2,a3,rfl,E⟩:=p;have a4:=E.oc;simp only[bN] at a4;simp only[bC] at ao;apply aP;apply ag _;refine az fun a5 dd G=>?_;have df:=aY.cons G al;try simp only[au] at G
 refine ah hJ (an hJ ?_);apply ag _;revert h;refine aX hJ (fun a6 h=>?_) fun a6 h=>?_
 .cases h;apply aD hJ _;apply aJ;simp only[*,go_sem]
 refine aK hJ (ah hJ ?_);apply aG hJ;revert h;refine bS fun k a7 h=>?_;apply ag _;refine cr hJ _ (uN u.1 E a a7) fun v a8 dk a9 p=>?_;obtain ⟨dp,rfl,q⟩:=p;simp only[bC] at a9;obtain ⟨d84,ba,rfl,dq,ds,-⟩:=id q;apply aP;apply ag _;refine ah hJ (an hJ ?_);apply ag _;revert h;refine aX hJ (fun bb h=>?_) fun bb h=>?_
 .cases h;apply aD hJ _;apply aJ;simp only[*,go_sem]
 refine aK hJ (ah hJ ?_);refine eg hJ mixed 7 ⟨a8,[(a5,bl u.1 ar a0 a2 a3),(t,.cells #[.int .i64 a.back,.int .i64 a.high] 33),(s,bk u0 s1 f g i)]⟩ aI ai ?_;revert h;refine bS fun H bc h=>?_;obtain ⟨dt,du,I⟩:=c6 bc;obtain ⟨dv,bd,bj,bm,c⟩:=q.el _ _ I;obtain rfl:bd=H.cells:=bm;cases bj;have bo:=c 0 _ rfl;simp only[go_sem] at bo;have br:=c 1 _ rfl;simp only[go_sem] at br;have bs:=c 2 _ rfl;simp only[go_sem] at bs;have bz:=c 3 _ rfl;simp only[go_sem] at bz;have b0:=c 4 _ rfl;simp only[go_sem] at b0;have b1:=c 5 _ rfl;simp only[go_sem] at b1;clear c I;revert h;refine bS fun b2 b3 h=>?_;obtain ⟨dC,dE,dT,K⟩:=mV b3;have L:(1:Int).toNat<=((k.length:Int)).toNat:=aa;have b4:((k.length:Int)).toNat<=ba:=aa;have ea:0<=((k.length:Int)):=aa;obtain ⟨d94,b5,ca,M⟩:=aB.mW q (1:Int).toNat ((k.length:Int)).toNat L aa K;simp only[go_sem] at b5 ca L b4;obtain ⟨_,_,cb,eb,ec,ed⟩:=id M;cases cb;clear K;revert h;refine bS fun eh cd h=>?_;cases h;apply ag _;refine ⟨_,bD hJ fun F cf=>qY (dM:=78) (ej:=#[]) (ek:=#[]) jc ⟨by simp only[go_sem],fun X Y n cl _ h=>by simp only[go_sem];exact qU n cl h⟩ H b2 (M.mono (cx cf)) cd,bY ?_⟩;apply ag _;apply aJ;simp only[*,go_sem]
def rG (u0:aC)(b:bM):Option (ay×Bool×Int):=
 aj (gO u0 ([(e7 b)])) fun a=>cond ((a.2 != 0)) (some ((⟨0,0⟩:ay),false,a.2)) (aj (ni a.1 b) fun c=>aj (jE a.1 b) fun d=>some (c,d,0))
theorem z9 {ro:Addr->Option Value}(j:dy ro)(u0:aC){s1 d f g:Value}(i:bV ro u0 s1 d f g)(a:bM){r:(ay×Bool×Int)}(h:rG u0 a=some r):aA Tryz.prog 34 #[bv u0 s1 d f g,.agg #[.int .i64 a.back,.int .i64 a.high]] ⟨ro,[]⟩ (fun v _=>v= .tuple #[r.1.v,.bool r.2.1,.int .i64 r.2.2]):=by
 unfold rG at h;have C:=i.oc;simp only[bN] at C;refine aA.go Tryz.func34 rfl Tryz.ntmps34 Tryz.results34 av fun main J hJ A a0 hd hs=>?_;have a2:=hs 0;have k1:=hs 1;clear hs;apply aD hJ _;refine az fun p D E=>?_;try simp only[au] at E
 refine az fun q G H=>?_;try simp only[au] at H
 refine az fun I K L=>?_;try simp only[au] at L
 apply ah hJ;refine aE hJ fun M=>?_;apply aG hJ;revert h;refine bS fun k N h=>?_;apply ag _;refine az fun c s t=>?_;have u:=aY.cons t M;try simp only[au] at t
 obtain ⟨l,w,y⟩:=e4 (b:=c) (o:=(.cells #[.func (.func 53) #[.agg #[.int .i64 a.back,.int .i64 a.high]] #[]] 111)) [] ((I,rt 0 0)::(q,.cells #[.int .i64 a.back,.int .i64 a.high] 33)::(p,bk u0 s1 d f g)::[]) u s (aF.cons K (aF.cons G (aF.cons D (aF.nil _))));have z:aB (dx) (bR ro c (.cells #[.func (.func 53) #[.agg #[.int .i64 a.back,.int .i64 a.high]] #[]] 111)) (.slice (some ⟨c,0,none⟩) 1 1) [(e7 a)]:=(aB.one (r:=(dx)) (e:=111) (cs:=#[.func (.func 53) #[.agg #[.int .i64 a.back,.int .i64 a.high]] #[]]) (x:=(e7 a)) (own:=[(c,.cells #[.func (.func 53) #[.agg #[.int .i64 a.back,.int .i64 a.high]] #[]] 111)]) s (by simp[lk]) ⟨53,#[.agg #[.int .i64 a.back,.int .i64 a.high]],#[],rfl,⟨by simp only[go_sem],fun a3 a4 O _ _ _ _ _ P Q R S h=>by simp only[go_sem];exact qV a O ⟨P,Q,R,S⟩ h⟩⟩)
 generalize bR ro c (.cells #[.func (.func 53) #[.agg #[.int .i64 a.back,.int .i64 a.high]] #[]] 111)=a5 at z w l y;refine gK hJ y ?_;replace i:=i.mono l;replace j:=j.mono l;simp only[bC] at w;have T:=aY.tl u;refine cr hJ _ (ki j u0 i ([(e7 a)]) z N) fun v U a6 V W=>?_;obtain ⟨X,Y,Z,ab,rfl,m⟩:=W;have ad:=m.oc;simp only[bN] at ad;simp only[bC] at V;apply aP;apply ag _;refine az fun ae a7 B=>?_;have a8:=aY.cons B T;try simp only[au] at B
 refine ah hJ (an hJ ?_);apply ag _;revert h;refine aX hJ (fun al h=>?_) fun al h=>?_
 .cases h;apply aD hJ _;apply aJ;simp only[*,go_sem]
 refine aK hJ (ah hJ ?_);refine eg hJ mixed 6 ⟨U,[(ae,bl k.1 X Y Z ab),(q,.cells #[.int .i64 a.back,.int .i64 a.high] 33),(p,bk u0 s1 d f g)]⟩ aI ai ?_;revert h;refine bS fun a9 ao h=>?_;apply ag _;refine ⟨_,bD hJ fun F n=>rf k.1 (m.mono (cx n)) a ao,bY ?_⟩;revert h;refine bS fun ba ar h=>?_;cases h;apply ag _;refine ⟨_,bD hJ fun F n=>mm k.1 (m.mono (cx n)) a ar,?_⟩;apply aJ;simp only[*,go_sem]
def vi (a:bG)(st:Bool):Option (Fl Bool Unit):=
 some (.br 1000000000 true)
def rH (u0:aC):Option Bool:=
 aj (kU (vi) (nj u0) false) fun o=>aL o (fun b=>some false) (fun k a=>cond (k==1000000000) (some a) (none)) (fun _=>none)
theorem Aa {ro:Addr->Option Value}(u0:aC){s1 c d g:Value}(k:bV ro u0 s1 c d g){r:Bool}(h:rH u0=some r):aA Tryz.prog 108 #[bv u0 s1 c d g] ⟨ro,[]⟩ (fun v _=>v= .bool r):=by
 unfold rH at h;refine aA.qQ Tryz.func108 rfl Tryz.ntmps108 Tryz.results108 av fun main J hJ A D hd hs=>?_;have E:=hs 0;clear hs;apply aD hJ _;refine az fun n x F=>?_;try simp only[au] at F
 refine az fun l z G=>?_;try simp only[au] at G
 refine ah hJ (an hJ ?_);apply ag _;revert h;refine bS fun Q H o=>?_;refine qP hJ bG.v aI (rz u0 k.e k.p k.y k.t) ai ai (ρ:=Unit) (fun (I:Bool) K=>K=(l,.cells #[.bool I] 4)::(n,bl u0 s1 c d g)::[]) (f:=vi) H ?_ ?_ aO ?_ ?_
 .exact rfl
 .rintro d33 L q M s u R h main J hJ _ rfl;unfold vi at h;try dsimp only at h
  obtain rfl:=sI h;generalize i:kV _ _ _=m;have S:sz m=6:=by rw[<-i,qO];simp only[*,go_sem]
  have T:m.defers=[]:=by rw[<-i];rfl
  have U:slot m 2= .pointer (some ⟨l,0,none⟩):=by rw[<-i,kW];simp only[*,go_sem]
  have V:slot m 5= .agg #[.int .i64 u.e0,.int .i64 u.e1,.int .i64 u.e2]:=by rw[<-i,kW];simp only[*,go_sem]
  clear i D hd E;refine fF hJ fun b a=>?_;replace a:aF ro ((L,.loop q)::(d33,.deferred (some []))::(l,.cells #[.bool s] 4)::(n,bl u0 s1 c d g)::[]):=a;have W:=a.hd;have X:=a.tl.hd;have z:=a.tl.tl.hd;have x:=a.tl.tl.tl.hd;clear a;replace b:=b.nd;simp only[keys,List.map_cons,List.map_nil,List.map_append,List.cons_append,List.nil_append,List.nodup_cons,List.mem_cons,List.mem_append,List.not_mem_nil,or_false,not_or] at b;apply aK hJ;simp only[mZ,go_sem];refine ⟨q,aI,M,?_⟩;refine aW hJ (ah hJ ?_);apply aM hJ _;apply aJ;simp only[oT,kT,go_sem];refine ⟨{q with state:=.busy},aI,?_⟩;apply ag _;refine ⟨_,Le.sub (List.Sublist.refl _),rfl,rfl⟩
 .rintro N O P _ s rfl b a;replace a:aF ro ((O,.loop P)::(N,.deferred (some []))::(l,.cells #[.bool s] 4)::(n,bl u0 s1 c d g)::[]):=a;have Y:=a.hd;have Z:=a.tl.hd;have z:=a.tl.tl.hd;have x:=a.tl.tl.tl.hd;clear a;replace b:=b.nd;simp only[keys,List.map_cons,List.map_nil,List.map_append,List.cons_append,List.nil_append,List.nodup_cons,List.mem_cons,List.mem_append,List.not_mem_nil,or_false,not_or] at b;refine ⟨fun j=>?_,fun k1 j=>?_⟩
  .subst j;have h:=o;dsimp only[aL] at h;obtain rfl:=sI h;apply aD hJ _;refine aE hJ fun w=>?_;replace w:=w.nd;(try simp only[keys,List.map_cons,List.map_nil,List.map_append,List.cons_append,List.nil_append,List.nodup_cons,List.mem_cons,List.mem_append,List.not_mem_nil,or_false,not_or] at w);apply aJ;simp only[*,go_sem]
  subst j;have h:=o;dsimp only[aL] at h;revert h;refine cS (fun B h=>?_) fun B h=>?_
  .obtain rfl:=sI h;obtain rfl:k1=1000000000:=by simpa using B
   unfold uD;rw[if_pos (show (1000000000:Nat)=qN from rfl)];simp only[*,go_sem]
  cases h
 intro k1 ab j;subst j;have h:=o;dsimp only[aL] at h;revert h;refine cS (fun C h=>?_) fun C h=>?_
 .obtain rfl:k1=1000000000:=by simpa using C
  decide
 cases h
def vj (a:bG)(st:(List bG)):Option (Fl (List bG) Unit):=
 aj (eA st ([a])) fun b=>some (.nx b)
def vk (a:(List (Option bG))):Option (List bG):=
 aj (kU (vj) a ([]:List bG)) fun o=>aL o (fun b=>some b) (fun k c=>none) (fun _=>none)
theorem E2 {ro:Addr->Option Value}(u:(List (Option bG))){dF:FuncId}{en eo:Array Value}(K:jA Tryz.prog dF en eo bG.v u ro){r:(List bG)}(h:vk u=some r):eT Tryz.prog 167 #[.slice none 0 0,.func (.func dF) en eo] ro (fun v aT=>∃w,v=w/\aB g9 aT w r):=by
 unfold vk at h;refine aA.qQ Tryz.func167 rfl Tryz.ntmps167 Tryz.results167 av fun main J hJ A L hd hs=>?_;have M:=hs 0;have k1:=hs 1;clear hs;apply an hJ;apply bu _;refine az fun e r1 n1=>?_;try simp only[au] at n1
 refine ah hJ (an hJ ?_);apply bu _;revert h;refine bS fun ar N o=>?_;have h:=trivial;refine qP hJ bG.v aI K ai ai (ρ:=Unit) (fun (m:(List bG)) O=>∃(d7:Option Addr) (c:Nat) (d:List (Nat×Obj)),O=(e,.cells #[.slice d7 m.length c] 159)::d/\aZ g9 ro 158 (.slice d7 m.length c) m d/\m.length<=c) (f:=vj) N ?_ ?_ aO ?_ ?_
 .exact ⟨none,0,[],rfl,aZ.nil _ _ _,Nat.le_refl _⟩
 .rintro d4 p i P v6 a a0 h main J hJ _ ⟨d7,c,d,rfl,q,Q⟩;unfold vj at h;try dsimp only at h
  generalize j:kV _ _ _=n;have a2:sz n=13:=by rw[<-j,qO];simp only[*,go_sem]
  have a3:n.defers=[]:=by rw[<-j];rfl
  have a4:slot n 2= .pointer (some ⟨e,0,none⟩):=by rw[<-j,kW];simp only[*,go_sem]
  have a5:slot n 7= .agg #[.int .i64 a.e0,.int .i64 a.e1,.int .i64 a.e2]:=by rw[<-j,kW];simp only[*,go_sem]
  clear j L hd M k1;refine fF hJ fun g b=>?_;replace b:aF ro ((p,.loop i)::(d4,.deferred (some []))::(e,.cells #[.slice d7 v6.length c] 159)::d):=b;have r3:=b.hd;have a6:=b.tl.hd;have r1:=b.tl.tl.hd;clear b;replace g:=g.nd;simp only[keys,List.map_cons,List.map_nil,List.map_append,List.cons_append,List.nil_append,List.nodup_cons,List.mem_cons,List.mem_append,List.not_mem_nil,or_false,not_or] at g;refine aE hJ fun R=>?_;apply aG hJ;apply bu _;refine az fun y a7 z=>?_;have a8:=aY.cons z R;try simp only[au] at z
  simp only[mZ,go_sem];refine ⟨i,aI,P,?_⟩;apply bu _;apply aW hJ;refine aE hJ fun S=>?_;apply aG hJ;revert h;refine bS fun a9 T h=>?_;obtain ⟨U,B⟩:=dQ T;apply bu _;refine az fun C V D=>?_;have W:=aY.cons D S;try simp only[au] at D
  refine eI (r:=g9) (l:=v6) (x:=a) (cs:=#[.int .i64 a.e0,.int .i64 a.e1,.int .i64 a.e2]) (e2:=158) [(C,.cells #[.int .i64 a.e0,.int .i64 a.e1,.int .i64 a.e2] 158),(y,.cells #[.int .i64 a.e0,.int .i64 a.e1,.int .i64 a.e2] 158),(p,.loop {i with state:=.busy}),(d4,.deferred (some [])),(e,.cells #[.slice d7 v6.length c] 159)] [] q W U rfl cL V rfl rfl zj zj Dh Dj rfl Di aO aO (fun ba E s d X bb=>?_);simp only[bn] at X;subst d;rw[<-B] at s;clear B;obtain ⟨d28,Y,rfl,Z⟩:=s.len;refine ⟨⟨ro,(C,.cells #[.int .i64 a.e0,.int .i64 a.e1,.int .i64 a.e2] 158)::(y,.cells #[.int .i64 a.e0,.int .i64 a.e1,.int .i64 a.e2] 158)::(p,.loop {i with state:=.busy})::(d4,.deferred (some []))::(e,.cells #[.slice d7 v6.length c] 159)::E⟩,Le.refl _,?_⟩;apply aP;apply bu _;obtain rfl:=sI h;simp only[oT,kT,go_sem];refine ⟨{i with state:=.busy},aI,?_⟩;apply ag _;refine ⟨_,Le.sub (List.Sublist.cons _ (List.Sublist.cons _ (List.Sublist.refl _))),rfl,d28,Y,E,rfl,s,Z⟩
 .rintro d49 F G _ v6 ⟨d7,c,d,rfl,q,Q⟩ g b;replace b:aF ro ((F,.loop G)::(d49,.deferred (some []))::(e,.cells #[.slice d7 v6.length c] 159)::d):=b;have ab:=b.hd;have ad:=b.tl.hd;have r1:=b.tl.tl.hd;clear b;replace g:=g.nd;simp only[keys,List.map_cons,List.map_nil,List.map_append,List.cons_append,List.nil_append,List.nodup_cons,List.mem_cons,List.mem_append,List.not_mem_nil,or_false,not_or] at g;refine ⟨fun k=>?_,fun k1 k=>?_⟩
  .subst k;have h:=o;dsimp only[aL] at h;apply ah hJ;refine aE hJ fun bc=>?_;apply aG hJ;apply bu _;obtain rfl:=sI h;refine aE hJ fun H=>?_;obtain ⟨bd,ae,al,I,ao⟩:=q.fj [(F,.loop G),(d49,.deferred (some [])),(e,.cells #[.slice d7 v6.length c] 159)] [] H (aF.cons ab (aF.cons ad (aF.cons r1 (aF.nil _))));clear H;refine cN hJ ao ?_;obtain ⟨bj,bk,-⟩:=I.op;simp only[bC] at al;refine aE hJ fun t=>?_;replace t:=t.nd;(try simp only[keys,List.map_cons,List.map_nil,List.map_append,List.cons_append,List.nil_append,List.nodup_cons,List.mem_cons,List.mem_append,List.not_mem_nil,or_false,not_or] at t);refine b9 ?_;exact ⟨_,ae,Le.sub (List.nil_sublist _),_,rfl,I⟩
  subst k;have h:=o;dsimp only[aL] at h;cases h
 intro k1 bl k;subst k;have h:=o;dsimp only[aL] at h;cases h
def vl (u0:(List (Option bG))):Option (List bG):=
 aj (vk u0) fun a=>some a
theorem Ab {ro:Addr->Option Value}(u0:(List (Option bG))){dM:FuncId}{ej ek:Array Value}(c:jA Tryz.prog dM ej ek bG.v u0 ro){r:(List bG)}(h:vl u0=some r):eT Tryz.prog 138 #[.func (.func dM) ej ek] ro (fun v aT=>∃a,v=a/\aB g9 aT a r):=by
 unfold vl at h;refine aA.go Tryz.func138 rfl Tryz.ntmps138 Tryz.results138 av fun main J hJ A g hd hs=>?_;have i:=hs 0;clear hs;apply aD hJ _;apply an hJ;revert h;refine bS fun j d h=>?_;obtain rfl:=sI h;apply ag _;refine cr hJ _ (E2 (dF:=dM) (en:=ej) (eo:=ek) u0 c d) fun v k e l f=>?_;obtain ⟨m,rfl,b⟩:=f;obtain ⟨d8,n,rfl,o,p,-⟩:=id b;apply aP;apply ag _;refine b9 ?_;exact ⟨_,e,Le.sub (List.nil_sublist _),_,rfl,b⟩
def iC (u0:aC)(c:(List (aC->Option Int))):Option (dw×Int):=
 aj (gO u0 c) fun a=>cond ((a.2 != 0)) (some ((⟨(⟨0,0,(⟨0,0⟩:ay),([]:(List b8)),([]:(List c7)),([]:(List dc)),([]:(List cn))⟩:aC),([]:(List bG))⟩:dw),a.2)) (aj (vl (nj a.1)) fun b=>cond (((b.length:Int)==0)) (some ((⟨(⟨0,0,(⟨0,0⟩:ay),([]:(List b8)),([]:(List c7)),([]:(List dc)),([]:(List cn))⟩:aC),([]:(List bG))⟩:dw),9)) (some ((⟨a.1,b⟩:dw),0)))
theorem jF {ro:Addr->Option Value}(N:dy ro)(u0:aC){s1 c d f:Value}(G:bV ro u0 s1 c d f)(B:(List (aC->Option Int))){H:Value}(I:aB (dx) ro H B){r:(dw×Int)}(h:iC u0 B=some r):eT Tryz.prog 82 #[bv u0 s1 c d f,H] ro (fun v aT=>∃K w1 w2 w3 w4,v= .tuple #[.agg #[.int .i64 r.1.book.bE,.int .i64 r.1.book.cD,.int .i64 r.1.book.bx.num,.int .i64 r.1.book.bx.den,K,w1,w2,w3,w4],.int .i64 r.2]/\bV aT r.1.book K w1 w2 w3/\aB g9 aT w4 r.1.all):=by
 obtain ⟨d31,ae,rfl,al,ao,-⟩:=id I;unfold iC at h;have O:=G.oc;simp only[bN] at O;refine aA.go Tryz.func82 rfl Tryz.ntmps82 Tryz.results82 av fun main J hJ A ar hd hs=>?_;have a0:=hs 0;have k1:=hs 1;clear hs;apply aD hJ _;refine az fun C g P=>?_;try simp only[au] at P
 refine az fun D i Q=>?_;try simp only[au] at Q
 apply an hJ;revert h;refine bS fun b R h=>?_;apply ag _;refine cr hJ _ (ki N u0 G B I R) fun v S j E k=>?_;obtain ⟨m,n,o,q,rfl,a⟩:=k;have T:=a.oc;simp only[bN] at T;replace i:=E.hd;replace g:=E.tl.hd;simp only[bC] at E;apply aP;apply ag _;refine az fun F s U=>?_;try simp only[au] at U
 refine ah hJ (an hJ ?_);apply ag _;revert h;refine aX hJ (fun V h=>?_) fun V h=>?_
 .obtain rfl:=sI h;apply aD hJ _;refine b9 ?_;exact ⟨_,j,Le.sub (List.nil_sublist _),_,_,_,_,_,rfl,⟨aB.nil _ _,aB.nil _ _,aB.nil _ _,aB.nil _ _⟩,aB.nil _ _⟩
 refine aK hJ (ah hJ ?_);refine e5 hJ mixed [] (.rd 0 (.rd 1 (.pure 2 (.two 3 (.pure 4 (.one 5 (.one 6 .done))) 5 (.one 3 (.pure 4 (.one 6 .done))))))) ⟨S,[(F,bl b.1 m n o q),(D,.cells #[.int .i64 0,.int .i64 0,.int .i64 0,.int .i64 0,.slice none 0 0,.slice none 0 0,.slice none 0 0,.slice none 0 0,.slice none 0 0] 161),(C,bk u0 s1 c d f)]⟩ aI ai ?_;apply ag _;refine j3 ?_ ?_
 .revert h;refine bS fun a2 W h=>?_;apply ag _;refine cr hJ _ (Ab (dM:=81) (ej:=#[bv b.1 m n o q]) (ek:=#[]) (nj b.1) (rz b.1 a.e a.p a.y a.t) W) fun v a3 u w k=>?_;obtain ⟨a4,rfl,L⟩:=k;replace a:=a.mono u;replace s:=w.hd;replace i:=w.tl.hd;replace g:=w.tl.tl.hd;simp only[bC] at w;obtain ⟨d80,a5,rfl,a6,a7,-⟩:=id L;have a8:=e6 (l:=[(F,bl b.1 m n o q),(D,.cells #[.int .i64 0,.int .i64 0,.int .i64 0,.int .i64 0,.slice none 0 0,.slice none 0 0,.slice none 0 0,.slice none 0 0,.slice none 0 0] 161),(C,bk u0 s1 c d f)]) u (aF.cons s (aF.cons i (aF.cons g (aF.nil _))));refine ⟨aI,?_⟩;refine cm ?_;apply ag _;refine az fun a9 ba X=>?_;try simp only[au] at X
  apply ag _;refine ah hJ (an hJ ?_);apply ag _;revert h;refine aX hJ (fun Y h=>?_) fun Y h=>?_
  .obtain rfl:=sI h;apply aD hJ _;refine b9 ?_;exact ⟨_,(j).trans u,Le.sub (List.nil_sublist _),_,_,_,_,_,rfl,⟨aB.nil _ _,aB.nil _ _,aB.nil _ _,aB.nil _ _⟩,aB.nil _ _⟩
  obtain rfl:=sI h;refine aK hJ (ah hJ ?_);apply aM hJ _;refine b9 ?_;exact ⟨_,(j).trans u,Le.sub (List.nil_sublist _),_,_,_,_,_,rfl,a,L⟩
 revert h;refine bS fun bb Z h=>?_;apply ag _;refine az fun bc bd ab=>?_;try simp only[au] at ab
 apply ag _;refine cr hJ _ (Ab (dM:=81) (ej:=#[bv b.1 m n o q]) (ek:=#[]) (nj b.1) (rz b.1 a.e a.p a.y a.t) Z) fun v bj x z k=>?_;obtain ⟨bm,rfl,M⟩:=k;replace a:=a.mono x;replace s:=z.tl.hd;replace i:=z.tl.tl.hd;replace g:=z.tl.tl.tl.hd;simp only[bC] at z;obtain ⟨d96,bo,rfl,br,bs,-⟩:=id M;have bz:=e6 (l:=[(F,bl b.1 m n o q),(D,.cells #[.int .i64 0,.int .i64 0,.int .i64 0,.int .i64 0,.slice none 0 0,.slice none 0 0,.slice none 0 0,.slice none 0 0,.slice none 0 0] 161),(C,bk u0 s1 c d f)]) x (aF.cons s (aF.cons i (aF.cons g (aF.nil _))));refine ⟨aI,?_⟩;refine cm ?_;apply ag _;refine ah hJ (an hJ ?_);apply ag _;revert h;refine aX hJ (fun ad h=>?_) fun ad h=>?_
 .obtain rfl:=sI h;apply aD hJ _;refine b9 ?_;exact ⟨_,(j).trans x,Le.sub (List.nil_sublist _),_,_,_,_,_,rfl,⟨aB.nil _ _,aB.nil _ _,aB.nil _ _,aB.nil _ _⟩,aB.nil _ _⟩
 obtain rfl:=sI h;refine aK hJ (ah hJ ?_);apply aM hJ _;refine b9 ?_;exact ⟨_,(j).trans x,Le.sub (List.nil_sublist _),_,_,_,_,_,rfl,a,M⟩
def vm (a:Int)(i56:Nat)(b:Int)(st:(List c7)):Option (Fl (List c7) aC):=
 aj (eA st ([(⟨b,a⟩:c7)])) fun c=>some (.nx c)
def rJ (u0:aC)(a:Int)(b:(List Int)):Option aC:=
 aj (rD u0.props) fun c=>aj (bQ (vm a) 0 b c) fun o=>aL o (fun d=>some (⟨u0.bE,u0.cD,u0.bx,u0.aR,d,u0.aU,u0.told⟩:aC)) (fun _ _=>none) (fun r=>some r)
theorem E3 {ro:Addr->Option Value}(u0:aC){s1 s b c:Value}(g:bV ro u0 s1 s b c)(i:Int)(d:(List Int)){D:Value}(E:aB rI ro D d){r:aC}(h:rJ u0 i d=some r):eT Tryz.prog 147 #[bv u0 s1 s b c,.int .i64 i,D] ro (fun v aT=>∃F w1 w2 w3,v=bv r F w1 w2 w3/\bV aT r F w1 w2 w3):=by
 obtain ⟨d31,b4,rfl,b5,U,-⟩:=id E;unfold rJ at h;have V:=g.oc;simp only[bN] at V;refine aA.go Tryz.func147 rfl Tryz.ntmps147 Tryz.results147 av fun main J hJ A W hd hs=>?_;have X:=hs 0;have k1:=hs 1;have Y:=hs 2;clear hs;apply aD hJ _;refine az fun k Z ab=>?_;try simp only[au] at ab
 refine az fun o ad ae=>?_;try simp only[au] at ae
 apply ah hJ;refine aE hJ fun ca=>?_;apply aG hJ;revert h;refine bS fun al ao h=>?_;apply ag _;refine ei hJ (bh:=[]) [(o,bz 108),(k,bl u0 s1 s b c)] [] _ (z6 u0.props g.p ao) (fun cb G H u w cd=>?_);simp only[bn] at w;subst u;obtain ⟨d45,ar,rfl,a0⟩:=H.len;refine ⟨⟨ro,(o,bz 108)::(k,bl u0 s1 s b c)::G⟩,Le.refl _,?_⟩;apply aP;apply ag _;refine ah hJ (ah hJ ?_);refine aE hJ fun cf=>?_;apply aM hJ _;apply aW hJ;revert h;refine bS fun a2 j a3=>?_;refine b7 hJ (rg 17 15 [8]) (fun m a4 F'=>∃(i56:Nat) (d51:Option Addr) (f:Nat) (z:List (Nat×Obj)) (a:(List c7)),m=d.length - i56/\i56<=d.length/\bQ (vm i) i56 (d.drop i56) a=some a2/\F'=⟨ro,(o,bz 108)::(k,bl u0 s1 (sl d51 a f) b c)::z⟩/\aZ eV ro 146 (.slice d51 a.length f) a z/\a.length<=f/\slot a4 17= .int .i64 (i56:Int)) d.length ?_ ?_
 .refine ⟨0,d45,ar,G,al,(Nat.sub_zero _).symm,Nat.zero_le _,j,rfl,H,a0,?_⟩;simp only[*,go_sem]
 rintro cl cy F' I ⟨i56,d51,f,z,a,rfl,cS,j,rfl,K,c0,da⟩;obtain ⟨a5,a6,a7⟩:=I.pick [1,3,6,15,16] aO;simp only[*,go_sem] at a5 a6 a7;clear I W hd X k1 Y;apply aD hJ _;apply ah hJ;rcases Nat.lt_or_ge i56 d.length with a8|L
 .refine cz hJ ?_;apply aK hJ;obtain ⟨q,B⟩:∃x,d[i56]?=some x:=⟨_,List.getElem?_eq_getElem a8⟩
  rw[dr B] at j;revert j;refine bS fun db h a9=>?_;unfold vm at h;try dsimp only at h
  obtain ⟨dd,ba,bb,bc,M⟩:=E.el _ _ B;obtain rfl:ba=[.int .i64 q]:=bc;cases bb;have bd:=M 0 _ rfl;simp only[go_sem] at bd;clear M B;refine ah hJ (aW hJ (ah hJ ?_));refine aE hJ fun df=>?_;apply aM hJ _;refine aE hJ fun bj=>?_;apply aG hJ;revert h;refine bS fun bk bm h=>?_;obtain rfl:=sI h;obtain ⟨bo,N⟩:=dQ bm;apply ag _;refine az fun O br P=>?_;have bs:=aY.cons P bj;try simp only[au] at P
  refine eI (r:=eV) (l:=a) (x:=(⟨q,i⟩:c7)) (cs:=#[.int .i64 q,.int .i64 i]) (e2:=146) [(O,.cells #[.int .i64 q,.int .i64 i] 146),(o,bz 108),(k,bl u0 s1 (sl d51 a f) b c)] [] K bs bo rfl aI br rfl rfl kP kP qF qH rfl qG aO aO (fun dk Q C u w dp=>?_);simp only[bn] at w;subst u;rw[<-N] at C;clear N;obtain ⟨d74,b0,rfl,b1⟩:=C.len;refine ⟨⟨ro,(O,.cells #[.int .i64 q,.int .i64 i] 146)::(o,bz 108)::(k,bl u0 s1 (sl d51 a f) b c)::Q⟩,Le.refl _,?_⟩;apply aP;apply ag _;have dq:=cw (n:=i56) (by have:=U;omega);apply aM hJ _;refine ⟨d.length - (i56+1),aa,_,Le.sub (List.Sublist.cons _ (List.Sublist.refl _)),i56+1,d74,b0,Q,bk,rfl,aa,a9,rfl,C,b1,?_⟩;simp only[*,go_sem]
 have ds:=Nat.not_lt.2 L;refine cB hJ ?_;rw[List.drop_eq_nil_of_le L] at j;obtain rfl:=sI j;clear j;have h:=a3;dsimp only[aL] at h;obtain rfl:=sI h;apply bT;simp only[go_sem];apply ah hJ;refine aE hJ fun dt=>?_;apply aM hJ _;refine aE hJ fun R=>?_;obtain ⟨du,S,b2,T,b3⟩:=K.fj [(o,bl u0 s1 (sl d51 a f) b c),(k,bl u0 s1 (sl d51 a f) b c)] [] R (aF.cons ad (aF.cons Z (aF.nil _)));clear R;refine cN hJ b3 ?_;obtain ⟨dv,dC,-⟩:=T.op;replace g:=g.mono S;simp only[bC] at b2;refine b9 ?_;exact ⟨_,S,Le.sub (List.nil_sublist _),_,_,_,_,rfl,⟨g.e,T,g.y,g.t⟩⟩
def vn (u0:aC)(a:(List Int))(st:((List (List Int))×Int)):Option (Fl ((List (List Int))×Int) (List (List Int))):=
 aj (iB u0 st.2) fun b=>cond (b) (aj (rE a) fun c=>aj (eA c ([st.2])) fun d=>aj (eA st.1 ([d])) fun e=>some (.nx (e,(IntKind.i64.wrap (st.2+1))))) (some (.bk (st.1,st.2)))
def vo (u0:aC)(a:(List Int))(st:((List (List Int))×Int)):Option (Fl ((List (List Int))×Int) (List (List Int))):=
 aj (iB u0 st.2) fun b=>cond (b) (aj (rE a) fun c=>aj (eA c ([st.2])) fun d=>aj (eA st.1 ([d])) fun e=>some (.nx (e,(IntKind.i64.wrap (st.2+1))))) (some (.bk (st.1,st.2)))
def vp (u0:aC)(i47:Nat)(a:(List Int))(st:(List (List Int))):Option (Fl (List (List Int)) (List (List Int))):=
 aj (bH u0.aR 0) fun b=>cond (decide (0<(a.length:Int))) (aj (bH a (IntKind.i64.wrap ((a.length:Int) - 1))) fun c=>aj (bB (vn u0 a) fu (st,(IntKind.i64.wrap (c+1)))) fun o=>aL o (fun d=>some (.nx d.1)) (fun _ _=>none) (fun r=>some (.rt r))) (aj (bB (vo u0 a) fu (st,b.aQ)) fun o=>aL o (fun e=>some (.nx e.1)) (fun _ _=>none) (fun r=>some (.rt r)))
def rK (u0:aC)(a:(List (List Int))):Option (List (List Int)):=
 aj (bQ (vp u0) 0 a ([]:List (List Int))) fun o=>aL o (fun b=>some b) (fun _ _=>none) (fun r=>some r)
theorem Ac {ro:Addr->Option Value}(u0:aC){s1 a b c:Value}(j:bV ro u0 s1 a b c)(s:(List (List Int))){bm:Value}(Q:aB (rL rI) ro bm s){r:(List (List Int))}(h:rK u0 s=some r):eT Tryz.prog 102 #[bv u0 s1 a b c,bm] ro (fun v aT=>∃bo,v=bo/\aB (rL rI) aT bo r):=by
 obtain ⟨d3,c4,rfl,ik,il,-⟩:=id j.e;obtain ⟨d31,im,rfl,iv,br,-⟩:=id Q;unfold rK at h;refine aA.go Tryz.func102 rfl Tryz.ntmps102 Tryz.results102 av fun main J hJ A e3 hd hs=>?_;have fa:=hs 0;have k1:=hs 1;clear hs;apply aD hJ _;refine az fun d u fb=>?_;try simp only[au] at fb
 apply aD hJ _;refine ah hJ (an hJ ?_);apply ag _;apply aW hJ;revert h;refine bS fun fg F fi=>?_;refine b7 hJ (rg 12 35 [5,7,8,9]) (fun m w F'=>∃(i47:Nat) (y:Addr->Option Value) (d38:Option Addr) (G:Nat) (K:List (Nat×Obj)) (z:(List (List Int))),m=s.length - i47/\i47<=s.length/\bQ (vp u0) i47 (s.drop i47) z=some fg/\F'=⟨y,(d,bl u0 (sl d3 u0.aR c4) a b c)::K⟩/\Ext ro y/\aZ (rL rI) y 60 (.slice d38 z.length G) z K/\z.length<=G/\slot w 12= .int .i64 (i47:Int)/\slot w 5= .slice d38 z.length G) s.length ?_ ?_
 .refine ⟨0,ro,none,0,[],([]:List (List Int)),(Nat.sub_zero _).symm,Nat.zero_le _,F,rfl,Ext.refl _,aZ.nil _ _ _,Nat.le_refl _,?_⟩;simp only[*,go_sem]
 rintro ix bs F' bz ⟨i47,y,d38,G,K,z,rfl,jC,F,rfl,L,Z,b0,b1,b2⟩;refine fF hJ fun _ b3=>?_;replace Q:=Q.mono L;replace j:=j.mono L;replace u:=b3.hd;simp only[bC] at b3;obtain ⟨ab,ad,ae⟩:=bz.pick [2,4,10,11] aO;simp only[*,go_sem] at ab ad ae;clear bz e3 hd fa k1;apply aD hJ _;apply ah hJ;rcases Nat.lt_or_ge i47 s.length with fp|b4
 .refine cz hJ ?_;apply aK hJ;obtain ⟨R,al⟩:∃x,s[i47]?=some x:=⟨_,List.getElem?_eq_getElem fp⟩
  rw[dr al] at F;revert F;refine bS fun j1 h b5=>?_;unfold vp at h;try dsimp only at h
  obtain ⟨j2,kh,fr,fs,ca⟩:=Q.el _ _ al;obtain ⟨kj,rfl,t⟩:=fs;obtain ⟨d56,kk,rfl,kl,km,kn⟩:=id t;cases fr;have ft:=ca 0 _ rfl;simp only[go_sem] at ft;clear ca al;refine ah hJ (aW hJ (ah hJ ?_));refine aE hJ fun kp=>?_;apply aM hJ _;apply ah hJ;refine aE hJ fun ks=>?_;apply aG hJ;revert h;refine bS fun cb fv h=>?_;obtain ⟨kt,kv,cd⟩:=c6 fv;obtain ⟨f,fw,fx,fz,ao⟩:=j.e.el _ _ cd;obtain rfl:fw=cb.cells:=fz;cases fx;have gg:=ao 0 _ rfl;simp only[go_sem] at gg;have gl:=ao 1 _ rfl;simp only[go_sem] at gl;clear ao cd;apply ag _;refine ah hJ (ah hJ ?_);refine aE hJ fun kx=>?_;apply aM hJ _;revert h;refine aX hJ (fun gn h=>?_) fun gn h=>?_
  .refine aE hJ fun ky=>?_;apply aG hJ;revert h;refine bS fun cf gp h=>?_;obtain ⟨k0,k2,cl⟩:=c6 gp;obtain ⟨lb,gB,gC,gV,cy⟩:=t.el _ _ cl;obtain rfl:gB=[.int .i64 cf]:=gV;cases gC;have g0:=cy 0 _ rfl;simp only[go_sem] at g0;clear cy cl;apply ag _;apply ah hJ;refine aE hJ fun lh=>?_;apply aM hJ _;apply aW hJ;revert h;refine bS fun g1 S g2=>?_;refine b7 hJ (rg 33 13 [5,9]) (fun m w F'=>∃(H:Addr->Option Value) (d75:Option Addr) (M:Nat) (k:List (Nat×Obj)) (B:(List (List Int))) (g:Int),bB (vn u0 R) m (B,g)=some g1/\F'=⟨H,(d,bl u0 (sl (some f) u0.aR c4) a b c)::k⟩/\Ext y H/\aZ (rL rI) H 60 (.slice d75 B.length M) B k/\B.length<=M/\slot w 5= .slice d75 B.length M/\slot w 9= .int .i64 g) fu ?_ ?_
   .refine ⟨y,d38,G,K,z,(IntKind.i64.wrap (cf+1)),S,rfl,Ext.refl _,Z,b0,?_⟩;simp only[*,go_sem]
   rintro ar g3 F' a0 ⟨H,d75,M,k,B,g,S,rfl,T,N,g4,lj,lk⟩;refine fF hJ fun _ cS=>?_;replace t:=t.mono T;replace j:=j.mono T;replace u:=cS.hd;simp only[bC] at cS;obtain ⟨ha,hc,hf⟩:=a0.pick [2,4,7,8,10,11,12,13,15,16,17,18,21,22,23,24,25,26,27,28,30,31,32] aO;simp only[*,go_sem] at ha hc hf;have ll:cR (rg 12 35 [5,7,8,9]) g3 bs:=(a0.gq aO).trans aI;clear a0 ab ad ae b2 b1;obtain _|ar:=ar
   .exact absurd S (by simp only[bB,reduceCtorEq,not_false_eq_true])
   revert S;refine bS fun ln h a2=>?_;unfold vn at h;(try dsimp only at h);refine ah hJ (ah hJ ?_);refine aE hJ fun lo=>?_;apply aG hJ;revert h;refine bS fun lr hg h=>?_;apply ag _;refine bf hJ _ (qW u0 (j.mono bg) g hg) ?_;revert h;refine aX hJ (fun hh h=>?_) fun hh h=>?_
   .refine aK hJ (ah hJ ?_);apply aW hJ;refine aE hJ fun lv=>?_;apply aG hJ;revert h;refine bS fun hi hj h=>?_;apply ag _;refine ei hJ (bh:=[]) [(d,bl u0 (sl (some f) u0.aR c4) a b c)] k _ (z7 R t hj) (fun lx hk c0 p q hl=>?_);simp only[bn] at q;subst p;obtain ⟨d133,ly,rfl,lL⟩:=c0.len;refine ⟨⟨H,(d,bl u0 (sl (some f) u0.aR c4) a b c)::(hk++k)⟩,Le.refl _,?_⟩;apply aP;revert h;refine bS fun U hn h=>?_;obtain ⟨ho,da⟩:=dQ hn;apply ag _;refine az fun C db dd=>?_;have hp:=aY.cons dd hl;try simp only[au] at dd
    refine eI (r:=rI) (l:=hi) (x:=g) (cs:=#[.int .i64 g]) (e2:=3) [(C,ic g),(d,bl u0 (sl (some f) u0.aR c4) a b c)] k c0 hp ho rfl aI db rfl rfl fZ fZ kM kO rfl kN aO aO (fun l1 df a3 p q dk=>?_);simp only[bn] at q;subst p;rw[<-da] at a3;clear da;obtain ⟨d145,a4,rfl,l2⟩:=a3.len;obtain ⟨a5,V,a6,dp,hq⟩:=a3.fj [(C,ic g),(d,bl u0 (sl (some f) u0.aR c4) a b c)] k dk (aF.cons db (aF.cons u (N.jx)));have hr:=aY.sub (l:=(C,ic g)::(d,bl u0 (sl (some f) u0.aR c4) a b c)::k) (l':=(C,ic g)::(d,bl u0 (sl (some f) u0.aR c4) a b c)::(df++k)) [(C,ic g),(d,bl u0 (sl (some f) u0.aR c4) a b c)] df k (by first|rfl|simp only[bn]|(simp only[bn];rfl)) (by first|rfl|simp only[bn]|(simp only[bn];rfl)) dk;refine ⟨⟨a5,(C,ic g)::(d,bl u0 (sl (some f) u0.aR c4) a b c)::k⟩,hq,?_⟩;obtain ⟨l3,l4,-⟩:=dp.op;replace t:=t.mono V;replace j:=j.mono V;replace u:=a6.tl.hd;replace N:=N.mono V a6.tl.tl;simp only[bC] at a6;apply aP;revert h;refine bS fun ht hv h=>?_;obtain rfl:=sI h;obtain ⟨hx,dq⟩:=dQ hv;apply ag _;refine az fun ds hy dt=>?_;have hz:=aY.cons dt hr;try simp only[au] at dt
    refine eI (r:=(rL rI)) (l:=B) (x:=U) (cs:=#[.slice d145 U.length a4]) (e2:=60) [(ds,.cells #[.slice d145 U.length a4] 60),(C,ic g),(d,bl u0 (sl (some f) u0.aR c4) a b c)] [] N hz hx ⟨_,rfl,dp⟩ aI hy rfl rfl kQ kQ qC qE rfl qD aO aO (fun ma du a7 p q mf=>?_);simp only[bn] at q;subst p;rw[<-dq] at a7;clear dq;obtain ⟨d165,hA,rfl,hB⟩:=a7.len;refine ⟨⟨a5,(ds,.cells #[.slice d145 U.length a4] 60)::(C,ic g)::(d,bl u0 (sl (some f) u0.aR c4) a b c)::du⟩,Le.refl _,?_⟩;apply aP;apply ag _;refine aE hJ fun mi=>?_;apply aM hJ _;refine ⟨ar,Nat.lt_succ_self _,_,Le.sub (List.Sublist.cons _ (List.Sublist.cons _ (List.Sublist.refl _))),a5,d165,hA,du,ht,(IntKind.i64.wrap (g+1)),a2,rfl,(T.trans V),a7,hB,?_⟩;simp only[*,go_sem]
   obtain rfl:=sI h;apply bT;simp only[go_sem];obtain rfl:=sI a2;clear a2;have h:=g2;dsimp only[aL] at h;obtain rfl:=sI h;have hD:=cw (n:=i47) (by have:=br;omega);apply aM hJ _;refine ⟨s.length - (i47+1),aa,_,Le.sub (List.Sublist.refl _),i47+1,H,d75,M,k,B,rfl,aa,b5,rfl,(L.trans T),N,g4,?_⟩;simp only[*,go_sem]
  refine aK hJ (ah hJ ?_);refine aE hJ fun ml=>?_;apply aM hJ _;apply aW hJ;revert h;refine bS fun hE W hF=>?_;refine b7 hJ (rg 33 13 [5,9]) (fun m w F'=>∃(I:Addr->Option Value) (d172:Option Addr) (O:Nat) (o:List (Nat×Obj)) (D:(List (List Int))) (i:Int),bB (vo u0 R) m (D,i)=some hE/\F'=⟨I,(d,bl u0 (sl (some f) u0.aR c4) a b c)::o⟩/\Ext y I/\aZ (rL rI) I 60 (.slice d172 D.length O) D o/\D.length<=O/\slot w 5= .slice d172 D.length O/\slot w 9= .int .i64 i) fu ?_ ?_
  .refine ⟨y,d38,G,K,z,cb.aQ,W,rfl,Ext.refl _,Z,b0,?_⟩;simp only[*,go_sem]
  rintro a8 hG F' a9 ⟨I,d172,O,o,D,i,W,rfl,X,P,hI,mn,mr⟩;refine fF hJ fun _ dv=>?_;replace t:=t.mono X;replace j:=j.mono X;replace u:=dv.hd;simp only[bC] at dv;obtain ⟨hK,hL,hM⟩:=a9.pick [2,4,7,8,10,11,12,13,15,16,17,18,21,22,23,24,32] aO;simp only[*,go_sem] at hK hL hM;have mx:cR (rg 12 35 [5,7,8,9]) hG bs:=(a9.gq aO).trans aI;clear a9 ab ad ae b2 b1;obtain _|a8:=a8
  .exact absurd W (by simp only[bB,reduceCtorEq,not_false_eq_true])
  revert W;refine bS fun my h ba=>?_;unfold vo at h;try dsimp only at h
  refine ah hJ (ah hJ ?_);refine aE hJ fun m1=>?_;apply aG hJ;revert h;refine bS fun m2 hN h=>?_;apply ag _;refine bf hJ _ (qW u0 (j.mono bg) i hN) ?_;revert h;refine aX hJ (fun hP h=>?_) fun hP h=>?_
  .refine aK hJ (ah hJ ?_);apply aW hJ;refine aE hJ fun na=>?_;apply aG hJ;revert h;refine bS fun hQ hR h=>?_;apply ag _;refine ei hJ (bh:=[]) [(d,bl u0 (sl (some f) u0.aR c4) a b c)] o _ (z7 R t hR) (fun nb hS dC p q hT=>?_);simp only[bn] at q;subst p;obtain ⟨d230,nd,rfl,nf⟩:=dC.len;refine ⟨⟨I,(d,bl u0 (sl (some f) u0.aR c4) a b c)::(hS++o)⟩,Le.refl _,?_⟩;apply aP;revert h;refine bS fun Y hV h=>?_;obtain ⟨hX,dE⟩:=dQ hV;apply ag _;refine az fun E dT ea=>?_;have hY:=aY.cons ea hT;try simp only[au] at ea
   refine eI (r:=rI) (l:=hQ) (x:=i) (cs:=#[.int .i64 i]) (e2:=3) [(E,ic i),(d,bl u0 (sl (some f) u0.aR c4) a b c)] o dC hY hX rfl aI dT rfl rfl fZ fZ kM kO rfl kN aO aO (fun nm eb bb p q ec=>?_);simp only[bn] at q;subst p;rw[<-dE] at bb;clear dE;obtain ⟨d242,bc,rfl,nn⟩:=bb.len;obtain ⟨bd,ed,bj,eh,hZ⟩:=bb.fj [(E,ic i),(d,bl u0 (sl (some f) u0.aR c4) a b c)] o ec (aF.cons dT (aF.cons u (P.jx)));have h0:=aY.sub (l:=(E,ic i)::(d,bl u0 (sl (some f) u0.aR c4) a b c)::o) (l':=(E,ic i)::(d,bl u0 (sl (some f) u0.aR c4) a b c)::(eb++o)) [(E,ic i),(d,bl u0 (sl (some f) u0.aR c4) a b c)] eb o (by first|rfl|simp only[bn]|(simp only[bn];rfl)) (by first|rfl|simp only[bn]|(simp only[bn];rfl)) ec;refine ⟨⟨bd,(E,ic i)::(d,bl u0 (sl (some f) u0.aR c4) a b c)::o⟩,hZ,?_⟩;obtain ⟨np,ns,-⟩:=eh.op;replace u:=bj.tl.hd;replace P:=P.mono ed bj.tl.tl;simp only[bC] at bj;apply aP;revert h;refine bS fun h1 h2 h=>?_;obtain rfl:=sI h;obtain ⟨h3,et⟩:=dQ h2;apply ag _;refine az fun ev h4 eQ=>?_;have h5:=aY.cons eQ h0;try simp only[au] at eQ
   refine eI (r:=(rL rI)) (l:=D) (x:=Y) (cs:=#[.slice d242 Y.length bc]) (e2:=60) [(ev,.cells #[.slice d242 Y.length bc] 60),(E,ic i),(d,bl u0 (sl (some f) u0.aR c4) a b c)] [] P h5 h3 ⟨_,rfl,eh⟩ aI h4 rfl rfl kQ kQ qC qE rfl qD aO aO (fun nx eS bk p q nz=>?_);simp only[bn] at q;subst p;rw[<-et] at bk;clear et;obtain ⟨h6,h7,rfl,h8⟩:=bk.len;refine ⟨⟨bd,(ev,.cells #[.slice d242 Y.length bc] 60)::(E,ic i)::(d,bl u0 (sl (some f) u0.aR c4) a b c)::eS⟩,Le.refl _,?_⟩;apply aP;apply ag _;refine aE hJ fun nA=>?_;apply aM hJ _;refine ⟨a8,Nat.lt_succ_self _,_,Le.sub (List.Sublist.cons _ (List.Sublist.cons _ (List.Sublist.refl _))),bd,h6,h7,eS,h1,(IntKind.i64.wrap (i+1)),ba,rfl,(X.trans ed),bk,h8,?_⟩;simp only[*,go_sem]
  obtain rfl:=sI h;apply bT;simp only[go_sem];obtain rfl:=sI ba;clear ba;have h:=hF;dsimp only[aL] at h;obtain rfl:=sI h;have hD:=cw (n:=i47) (by have:=br;omega);apply aM hJ _;refine ⟨s.length - (i47+1),aa,_,Le.sub (List.Sublist.refl _),i47+1,I,d172,O,o,D,rfl,aa,b5,rfl,(L.trans X),P,hI,?_⟩;simp only[*,go_sem]
 have nH:=Nat.not_lt.2 b4;refine cB hJ ?_;rw[List.drop_eq_nil_of_le b4] at F;obtain rfl:=sI F;clear F;have h:=fi;dsimp only[aL] at h;obtain rfl:=sI h;apply bT;simp only[go_sem];apply ah hJ;refine aE hJ fun nI=>?_;apply aM hJ _;refine aE hJ fun e0=>?_;obtain ⟨nK,h9,ib,e1,ih⟩:=Z.fj [(d,bl u0 (sl d3 u0.aR c4) a b c)] [] e0 (aF.cons u (aF.nil _));clear e0;refine cN hJ ih ?_;obtain ⟨nQ,nR,-⟩:=e1.op;simp only[bC] at ib;refine b9 ?_;exact ⟨_,(L).trans h9,Le.sub (List.nil_sublist _),_,rfl,e1⟩
def nt (u0:Int):Option Bool:=
 some (u0 != u0)
theorem rM {ro:Addr->Option Value}(u0:Int){r:Bool}(h:nt u0=some r):aA Tryz.prog 192 #[.int .i64 u0] ⟨ro,[]⟩ (fun v _=>v= .bool r):=by
 unfold nt at h;cases h;refine aA.go Tryz.func192 rfl Tryz.ntmps192 Tryz.results192 av fun main J hJ A a hd hs=>?_;have b:=hs 0;clear hs;apply aD hJ _;apply aD hJ _;apply aJ;simp only[*,go_sem]
def iD (u0:Int)(a:Int):Option Bool:=
 aj (nt u0) fun b=>cond (b) (aj (nt a) fun c=>cond (!c) (some true) (some (decide (u0<a)))) (some (decide (u0<a)))
theorem jG {ro:Addr->Option Value}(u0:Int)(a:Int){r:Bool}(h:iD u0 a=some r):aA Tryz.prog 202 #[.int .i64 u0,.int .i64 a] ⟨ro,[]⟩ (fun v _=>v= .bool r):=by
 unfold iD at h;refine aA.go Tryz.func202 rfl Tryz.ntmps202 Tryz.results202 av fun main J hJ A f hd hs=>?_;have g:=hs 0;have k1:=hs 1;clear hs;apply aD hJ _;apply an hJ;revert h;refine bS fun i b h=>?_;apply ag _;refine bf hJ _ (rM u0 b) (aP ?_);revert h;refine cS (fun c h=>?_) fun c h=>?_
 .revert h;refine bS fun j d h=>?_;apply ag _;refine bf hJ _ (rM a d) (aP ?_);revert h;refine cS (fun e h=>?_) fun e h=>?_
  .cases h;apply ag _;apply aJ;simp only[*,go_sem]
  cases h;apply ag _;apply aJ;simp only[*,go_sem]
 cases h;apply ag _;apply aJ;simp only[*,go_sem]
def vq (c:Int)(st:(Int×(List Int))):Option (Fl (Int×(List Int)) (Unit×(List Int))):=
 cond (decide (c<st.1)) (aj (bH st.2 st.1) fun b=>aj (bH st.2 (IntKind.i64.wrap (st.1 - 1))) fun a=>aj (iD b a) fun d=>cond (d) (aj (bH (st.2.set (st.1).toNat a) (IntKind.i64.wrap (st.1 - 1))) fun e=>some (.nx ((IntKind.i64.wrap (st.1 - 1)),((st.2.set (st.1).toNat a).set (IntKind.i64.wrap (st.1 - 1)).toNat b)))) (some (.bk (st.1,st.2)))) (some (.bk (st.1,st.2)))
def vr (a:Int)(b:Int)(st:(Int×(List Int))):Option (Fl (Int×(List Int)) (Unit×(List Int))):=
 cond (decide (st.1<b)) (aj (bB (vq a) fu (st.1,st.2)) fun o=>aL o (fun c=>some (.nx ((IntKind.i64.wrap (st.1+1)),c.2))) (fun _ _=>none) (fun r=>some (.rt r))) (some (.bk (st.1,st.2)))
def rN (u0:(List Int))(a:Int)(b:Int):Option (Unit×(List Int)):=
 cond (List.isEmpty u0) none (aj (bB (vr a b) fu ((IntKind.i64.wrap (a+1)),u0)) fun o=>aL o (fun c=>some ((),c.2)) (fun _ _=>none) (fun r=>some r))
theorem Ad {ro:Addr->Option Value}(u0:(List Int)){w:Value}{K:List (Nat×Obj)}(x:aZ rI ro 3 w u0 K)(k:Int)(z:Int){r:(Unit×(List Int))}(h:rN u0 k z=some r):aA Tryz.prog 196 #[w,.int .i64 k,.int .i64 z] ⟨ro,K⟩ (fun v G=>∃L,(v= .tuple #[]/\aZ rI ro 3 w r.2 L)/\Le ⟨ro,L⟩ G):=by
 obtain ⟨d1,c2,rfl,b4⟩:=x.len;unfold rN at h;revert h;refine cS (fun M h=>?_) fun M h=>?_
 .cases h
 obtain ⟨b,ab,rfl,rfl,b5⟩:=x.iy M;refine aA.go Tryz.func196 rfl Tryz.ntmps196 Tryz.results196 av fun main J hJ A ad hd hs=>?_;have ae:=hs 0;have k1:=hs 1;have al:=hs 2;clear hs;apply ah hJ;refine aE hJ fun ca=>?_;apply aM hJ _;apply aW hJ;revert h;refine bS fun ao n ar=>?_;refine b7 hJ (rg 10 39 [6,7]) (fun m B F'=>∃(p:Array Value) (j:Int) (q:(List Int)),bB (vr k z) m (j,q)=some ao/\F'=⟨ro,[(b,Obj.cells p 3)]⟩/\aZ rI ro 3 (.slice (some ⟨b,0,none⟩) u0.length c2) q [(b,Obj.cells p 3)]/\slot B 6= .int .i64 j) fu ?_ ?_
 .refine ⟨ab,(IntKind.i64.wrap (k+1)),u0,n,rfl,x,?_⟩;simp only[*,go_sem]
 rintro s a0 F' N ⟨p,j,q,n,rfl,O,a2⟩;obtain ⟨P,Q,R⟩:=N.pick [0,1,2] aO;simp only[*,go_sem] at P Q R;clear N ad hd ae k1 al;obtain _|s:=s
 .exact absurd n (by simp only[bB,reduceCtorEq,not_false_eq_true])
 revert n;refine bS fun cb h t=>?_;unfold vr at h;try dsimp only at h
 refine ah hJ (ah hJ ?_);refine aE hJ fun cd=>?_;apply aM hJ _;revert h;refine aX hJ (fun a3 h=>?_) fun a3 h=>?_
 .refine aK hJ (ah hJ ?_);refine aW hJ (ah hJ ?_);refine aE hJ fun cf=>?_;apply aM hJ _;apply aW hJ;revert h;refine bS fun a4 u S=>?_;refine b7 hJ (rg 16 33 [7]) (fun m B F'=>∃(d:Array Value) (a:Int) (e:(List Int)),bB (vq k) m (a,e)=some a4/\F'=⟨ro,[(b,Obj.cells d 3)]⟩/\aZ rI ro 3 (.slice (some ⟨b,0,none⟩) u0.length c2) e [(b,Obj.cells d 3)]/\slot B 7= .int .i64 a) fu ?_ ?_
  .refine ⟨p,j,q,u,rfl,O,?_⟩;simp only[*,go_sem]
  rintro C a5 F' D ⟨d,a,e,u,rfl,g,cl⟩;obtain ⟨a6,a7,a8⟩:=D.pick [0,1,2,6,10,11,12,15] aO;simp only[*,go_sem] at a6 a7 a8;have cy:cR (rg 10 39 [6,7]) a5 a0:=(D.gq aO).trans aI;clear D P Q R a2;obtain _|C:=C
  .exact absurd u (by simp only[bB,reduceCtorEq,not_false_eq_true])
  revert u;refine bS fun c0 h l=>?_;unfold vq at h;try dsimp only at h
  refine ah hJ (ah hJ ?_);refine aE hJ fun da=>?_;refine cM hJ mixed 15 1 aI ai ?_;revert h;refine cS (fun a9 h=>?_) fun a9 h=>?_
  .revert h;refine bS fun f ba h=>?_;obtain ⟨db,dd,T⟩:=c6 ba;have df:a<((u0.length:Nat):Int):=by have:=g.count;omega
   obtain ⟨bb,bc,bd⟩:=g.iX T;obtain rfl:bb=[.int .i64 f]:=bc;have U:=bd 0 _ rfl;simp only[go_sem] at U;have dk:=(Array.getElem?_eq_some_iff.1 U).1;revert h;refine bS fun c bj h=>?_;obtain ⟨dp,dq,bk⟩:=c6 bj;have ds:IntKind.i64.wrap (a - 1)<((u0.length:Nat):Int):=by have:=g.count;omega
   obtain ⟨bl,bm,bo⟩:=g.iX bk;obtain rfl:bl=[.int .i64 c]:=bm;have V:=bo 0 _ rfl;simp only[go_sem] at V;have dt:=(Array.getElem?_eq_some_iff.1 V).1;revert h;refine bS fun du br h=>?_;apply ag _;refine ⟨_,bD hJ fun F dv=>jG f c br,bY ?_⟩;apply ag _;revert h;refine aX hJ (fun bs h=>?_) fun bs h=>?_
   .refine aK hJ (ah hJ ?_);apply aW hJ;refine aE hJ fun dC=>?_;refine e5 hJ mixed [15,16,17] (.pure 0 (.pure 1 (.pure 2 (.pure 3 (.pure 4 (.pure 5 (.pure 6 (.pure 7 (.pure 8 (.rd 9 (.pure 10 (.pure 11 (.pure 12 (.rd 13 (.pure 14 (.last 15 (.pure 16 (.last 17 .done)))))))))))))))))) ⟨ro,[(b,Obj.cells d 3)]⟩ aI ai ?_;have E:aZ rI ro 3 (.slice (some ⟨b,0,none⟩) u0.length c2) (e.set (a).toNat c) [(b,Obj.cells (cU d (a).toNat [.int .i64 c]) 3)]:=by have H:=g.qL (i:=(a).toNat) (y:=c) (by have:=T;have:=(List.getElem?_eq_some_iff.1 this).1;simpa only[List.length_set] using this) (cs:=[.int .i64 c]) rfl;simpa only[qS,uF,Nat.mul_one,Nat.add_zero] using H
    revert h;refine bS fun bz b0 h=>?_;cases h;obtain ⟨dE,dT,W⟩:=c6 b0;have ea:IntKind.i64.wrap (a - 1)<((u0.length:Nat):Int):=by have:=E.count;omega
    obtain ⟨b1,b2,b3⟩:=E.iX W;obtain rfl:b1=[.int .i64 bz]:=b2;have X:=b3 0 _ rfl;simp only[go_sem] at X;have eb:=(Array.getElem?_eq_some_iff.1 X).1;have Y:aZ rI ro 3 (.slice (some ⟨b,0,none⟩) u0.length c2) ((e.set (a).toNat c).set (IntKind.i64.wrap (a - 1)).toNat f) [(b,Obj.cells (cU (cU d (a).toNat [.int .i64 c]) (IntKind.i64.wrap (a - 1)).toNat [.int .i64 f]) 3)]:=by have H:=E.qL (i:=(IntKind.i64.wrap (a - 1)).toNat) (y:=f) (by have:=W;have:=(List.getElem?_eq_some_iff.1 this).1;simpa only[List.length_set] using this) (cs:=[.int .i64 f]) rfl;simpa only[qS,uF,Nat.mul_one,Nat.add_zero] using H
    apply ag _;obtain ⟨Z,I⟩:∃o,o=(cU (cU d (a).toNat [.int .i64 c]) (IntKind.i64.wrap (a - 1)).toNat [.int .i64 f]):=⟨_,rfl⟩
    refine cN (F:=⟨ro,[(b,Obj.cells Z 3)]⟩) hJ (by rw[I];exact Le.refl _) ?_;rw[<-I] at Y;clear I;refine aE hJ fun ec=>?_;apply aM hJ _;refine ⟨C,Nat.lt_succ_self _,_,Le.sub (List.Sublist.refl _),Z,(IntKind.i64.wrap (a - 1)),((e.set (a).toNat c).set (IntKind.i64.wrap (a - 1)).toNat f),l,rfl,Y,?_⟩;simp only[*,go_sem]
   cases h;apply bT;simp only[go_sem];obtain rfl:=sI l;clear l;have h:=S;dsimp only[aL] at h;cases h;refine aE hJ fun ed=>?_;apply aM hJ _;refine ⟨s,Nat.lt_succ_self _,_,Le.sub (List.Sublist.refl _),d,(IntKind.i64.wrap (j+1)),e,t,rfl,g,?_⟩;simp only[*,go_sem]
  cases h;apply ag _;refine cB hJ ?_;apply bT;simp only[go_sem];obtain rfl:=sI l;clear l;have h:=S;dsimp only[aL] at h;cases h;refine aE hJ fun eh=>?_;apply aM hJ _;refine ⟨s,Nat.lt_succ_self _,_,Le.sub (List.Sublist.refl _),d,(IntKind.i64.wrap (j+1)),e,t,rfl,g,?_⟩;simp only[*,go_sem]
 cases h;apply bT;simp only[go_sem];obtain rfl:=sI t;clear t;have h:=ar;dsimp only[aL] at h;cases h;apply ag _;exact ⟨_,O,Le.sub (List.Sublist.refl _)⟩
def vt (u0:(List Int))(st:(Int×Int×Int×Bool×Bool)):Option (Fl (Int×Int×Int×Bool×Bool) (Unit×(List Int))):=
 cond (decide ((IntKind.i64.wrap (st.2.1 - st.1))<=12)) (aj (rN u0 st.1 st.2.1) fun a=>some (.rt ((),a.2))) (none)
def rO (u0:(List Int))(a:Int)(b:Int)(c:Int):Option (Unit×(List Int)):=
 cond (List.isEmpty u0) none (aj (bB (vt u0) fu (a,b,c,true,true)) fun o=>aL o (fun d=>some ((),u0)) (fun _ _=>none) (fun r=>some r))
theorem Ae {ro:Addr->Option Value}(u0:(List Int)){f:Value}{p:List (Nat×Obj)}(g:aZ rI ro 3 f u0 p)(i:Int)(j:Int)(k:Int){r:(Unit×(List Int))}(h:rO u0 i j k=some r):aA Tryz.prog 168 #[f,.int .i64 i,.int .i64 j,.int .i64 k] ⟨ro,p⟩ (fun v G=>∃b,(v= .tuple #[]/\aZ rI ro 3 f r.2 b)/\Le ⟨ro,b⟩ G):=by
 obtain ⟨d1,c2,rfl,Q⟩:=g.len;unfold rO at h;revert h;refine cS (fun q h=>?_) fun q h=>?_
 .cases h
 obtain ⟨s,y,rfl,rfl,R⟩:=g.iy q;refine aA.go Tryz.func168 rfl Tryz.ntmps168 Tryz.results168 av fun main J hJ A z hd hs=>?_;have B:=hs 0;have k1:=hs 1;have C:=hs 2;have D:=hs 3;clear hs;apply ah hJ;refine aE hJ fun S=>?_;apply aM hJ _;apply ah hJ;refine aE hJ fun T=>?_;apply aM hJ _;apply aW hJ;revert h;refine bS fun E c F=>?_;refine b7 hJ (rg 8 126 [1,2,3]) (fun m a F'=>∃(d:Int) (e:Int) (l:Int) (n:Bool) (o:Bool),bB (vt u0) m (d,e,l,n,o)=some E/\F'=⟨ro,[(s,Obj.cells y 3)]⟩/\slot a 1= .int .i64 d/\slot a 2= .int .i64 e/\slot a 3= .int .i64 l/\slot a 8= .bool n/\slot a 9= .bool o) fu ?_ ?_
 .refine ⟨i,j,k,true,true,c,rfl,?_⟩;simp only[*,go_sem]
 rintro t U F' u ⟨d,e,l,n,o,c,rfl,V,W,X,Y,Z⟩;obtain ⟨H,I,K⟩:=u.pick [0] aO;simp only[*,go_sem] at H I K;clear u z hd B k1 C D;obtain _|t:=t
 .exact absurd c (by simp only[bB,reduceCtorEq,not_false_eq_true])
 revert c;refine bS fun ab h w=>?_;unfold vt at h;try dsimp only at h
 refine aW hJ (ah hJ ?_);refine aE hJ fun ad=>?_;apply aM hJ _;refine ah hJ (ah hJ ?_);refine aE hJ fun ae=>?_;apply aM hJ _;revert h;refine aX hJ (fun L h=>?_) fun L h=>?_
 .apply ah hJ;refine aE hJ fun al=>?_;apply aG hJ;revert h;refine bS fun ao M h=>?_;cases h;apply ag _;refine ei hJ [] [] _ (Ad u0 g d e M) (fun ar a0 N b O a2=>?_);obtain ⟨rfl,x⟩:=N;obtain ⟨P,rfl⟩:=x.gL;simp only[bn] at O;subst b;refine ⟨⟨ro,[(s,Obj.cells P 3)]⟩,Le.refl _,?_⟩;obtain rfl:=sI w;clear w;have h:=F;dsimp only[aL] at h;cases h;refine b9 ?_;exact ⟨_,x,Le.sub (List.Sublist.refl _)⟩
 cases h
def pg (u0:(List Int))(a:Int)(b:Int)(c:Int):Option (((Int×Int)×(List Int))×Int):=
 cond (List.isEmpty u0) none (aj (bH u0 b) fun d=>aj (bH u0 a) fun e=>aj (iD d e) fun f=>cond (f) (some (((b,a),u0),IntKind.i64.wrap (c+1))) (some (((a,b),u0),c)))
theorem vu {ro:Addr->Option Value}(u0:(List Int)){c:Value}{f:List (Nat×Obj)}(a:aZ rI ro 3 c u0 f)(d:Int)(e:Int)(g:Int){b:Nat}(I:∀off sp,ro ⟨b,off,sp⟩=none){r:(((Int×Int)×(List Int))×Int)}(h:pg u0 d e g=some r):aA Tryz.prog 229 #[c,.int .i64 d,.int .i64 e,.pointer (some ⟨b,0,none⟩)] ⟨ro,(b,ic g)::f⟩ (fun v G=>∃i,(∃j,i=(b,ic r.2)::j/\v= .tuple #[.int .i64 r.1.1.1,.int .i64 r.1.1.2]/\aZ rI ro 3 c r.1.2 j)/\Le ⟨ro,i⟩ G):=by
 obtain ⟨d1,c2,rfl,K⟩:=a.len;unfold pg at h;revert h;refine cS (fun k h=>?_) fun k h=>?_
 .cases h
 obtain ⟨L,M,rfl,rfl,N⟩:=a.iy k;refine aA.go Tryz.func229 rfl Tryz.ntmps229 Tryz.results229 av fun main J hJ A O hd hs=>?_;have P:=hs 0;have k1:=hs 1;have Q:=hs 2;have R:=hs 3;clear hs;refine aE hJ fun p=>?_;have q:=p.nd;simp only[keys,List.map_cons,List.map_nil,List.map_append,List.cons_append,List.nil_append,List.nodup_cons,List.mem_cons,List.mem_append,List.not_mem_nil,or_false,not_or] at q;apply ah hJ;refine aE hJ fun S=>?_;apply aM hJ _;refine ah hJ (ah hJ ?_);refine aE hJ fun T=>?_;refine cM hJ mixed 9 2 aI ai ?_;revert h;refine bS fun l s h=>?_;obtain ⟨U,V,t⟩:=c6 s;have W:e<((u0.length:Nat):Int):=by have:=a.count;omega
 obtain ⟨u,w,x⟩:=a.iX t;obtain rfl:u=[.int .i64 l]:=w;have m:=x 0 _ rfl;simp only[go_sem] at m;have X:=(Array.getElem?_eq_some_iff.1 m).1;revert h;refine bS fun n y h=>?_;obtain ⟨Y,Z,z⟩:=c6 y;have ab:d<((u0.length:Nat):Int):=by have:=a.count;omega
 obtain ⟨B,C,D⟩:=a.iX z;obtain rfl:B=[.int .i64 n]:=C;have o:=D 0 _ rfl;simp only[go_sem] at o;have ad:=(Array.getElem?_eq_some_iff.1 o).1;revert h;refine bS fun ae E h=>?_;apply ag _;refine ⟨_,bD hJ fun F al=>jG l n E,?_⟩;revert h;refine aX hJ (fun H h=>?_) fun H h=>?_
 .cases h;apply ah hJ;refine aE hJ fun ao=>?_;apply aM hJ _;apply ah hJ;refine aE hJ fun ar=>?_;apply aM hJ _;refine b9 ?_;exact ⟨_,⟨_,rfl,a⟩,Le.sub (List.Sublist.refl _)⟩
 cases h;refine aK hJ (ah hJ ?_);refine aE hJ fun a0=>?_;apply aM hJ _;refine b9 ?_;exact ⟨_,⟨_,rfl,a⟩,Le.sub (List.Sublist.refl _)⟩
def vv (u0:(List Int))(d:Int)(e:Int)(f:Int)(g:Int):Option ((Int×(List Int))×Int):=
 cond (List.isEmpty u0) none (aj (pg u0 d e g) fun a=>aj (pg a.1.2 a.1.1.2 f a.2) fun b=>aj (pg b.1.2 a.1.1.1 b.1.1.1 b.2) fun c=>some ((c.1.1.2,c.1.2),c.2))
theorem E4 {ro:Addr->Option Value}(u0:(List Int)){g:Value}{p:List (Nat×Obj)}(i:aZ rI ro 3 g u0 p)(j:Int)(k:Int)(l:Int)(m:Int){b:Nat}(n:∀off sp,ro ⟨b,off,sp⟩=none){r:((Int×(List Int))×Int)}(h:vv u0 j k l m=some r):aA Tryz.prog 221 #[g,.int .i64 j,.int .i64 k,.int .i64 l,.pointer (some ⟨b,0,none⟩)] ⟨ro,(b,ic m)::p⟩ (fun v G=>∃a,(∃q,a=(b,ic r.2)::q/\v= .int .i64 r.1.1/\aZ rI ro 3 g r.1.2 q)/\Le ⟨ro,a⟩ G):=by
 obtain ⟨d1,c2,rfl,S⟩:=i.len;unfold vv at h;revert h;refine cS (fun s h=>?_) fun s h=>?_
 .cases h
 obtain ⟨o,T,rfl,rfl,U⟩:=i.iy s;refine aA.go Tryz.func221 rfl Tryz.ntmps221 Tryz.results221 av fun main J hJ A y hd hs=>?_;have z:=hs 0;have k1:=hs 1;have B:=hs 2;have C:=hs 3;have D:=hs 4;clear hs;refine aE hJ fun E=>?_;have F:=E.nd;simp only[keys,List.map_cons,List.map_nil,List.map_append,List.cons_append,List.nil_append,List.nodup_cons,List.mem_cons,List.mem_append,List.not_mem_nil,or_false,not_or] at F;apply ah hJ;refine aE hJ fun V=>?_;apply aM hJ _;apply ah hJ;refine aE hJ fun W=>?_;apply aG hJ;revert h;refine bS fun c H h=>?_;apply ag _;refine ei hJ [] [] _ (vu u0 i j k m n H) (fun X t d a e Y=>?_);obtain ⟨Z,rfl,rfl,u⟩:=d;obtain ⟨I,rfl⟩:=u.gL;simp only[bn] at e;subst a;refine ⟨⟨ro,(b,ic c.2)::[(o,Obj.cells I 3)]⟩,Le.refl _,?_⟩;apply aP;apply ag _;apply ah hJ;refine aE hJ fun ab=>?_;apply aG hJ;revert h;refine bS fun f K h=>?_;apply ag _;refine ei hJ [] [] _ (vu c.1.2 u c.1.1.2 l c.2 n K) (fun ad t d a e ae=>?_);obtain ⟨al,rfl,rfl,w⟩:=d;obtain ⟨L,rfl⟩:=w.gL;simp only[bn] at e;subst a;refine ⟨⟨ro,(b,ic f.2)::[(o,Obj.cells L 3)]⟩,Le.refl _,?_⟩;apply aP;apply ag _;apply ah hJ;refine aE hJ fun ao=>?_;apply aG hJ;revert h;refine bS fun M N h=>?_;cases h;apply ag _;refine ei hJ [] [] _ (vu f.1.2 w c.1.1.1 f.1.1.1 f.2 n N) (fun ar t d a e a0=>?_);obtain ⟨a2,rfl,rfl,x⟩:=d;obtain ⟨O,rfl⟩:=x.gL;simp only[bn] at e;subst a;refine ⟨⟨ro,(b,ic M.2)::[(o,Obj.cells O 3)]⟩,Le.refl _,?_⟩;apply aP;apply ag _;apply ah hJ;refine eU [0,2,10,12,20,28] fun a3 P Q R=>?_;simp only[*,go_sem] at P Q R;clear y hd z k1 B C D;refine aE hJ fun a4=>?_;apply aM hJ _;refine b9 ?_;exact ⟨_,⟨_,rfl,x⟩,Le.sub (List.Sublist.refl _)⟩
def vw (u0:(List Int))(b:Int)(d:Int):Option ((Int×Int)×(List Int)):=
 cond (List.isEmpty u0) none (aj (eG (IntKind.i64.wrap (d - b)) 4) fun c=>cond (decide (8<=(IntKind.i64.wrap (d - b)))) (cond (decide (50<=(IntKind.i64.wrap (d - b)))) (none) (aj (vv u0 (IntKind.i64.wrap (b+(IntKind.i64.wrap (c*1)))) (IntKind.i64.wrap (b+(IntKind.i64.wrap (c*2)))) (IntKind.i64.wrap (b+(IntKind.i64.wrap (c*3)))) 0) fun a=>cond ((a.2==0)) (some ((a.1.1,1),a.1.2)) (cond ((a.2==12)) (some ((a.1.1,2),a.1.2)) (some ((a.1.1,0),a.1.2))))) (some ((IntKind.i64.wrap (b+(IntKind.i64.wrap (c*2))),1),u0)))
theorem E5 {ro:Addr->Option Value}(u0:(List Int)){e:Value}{g:List (Nat×Obj)}(b:aZ rI ro 3 e u0 g)(a:Int)(i:Int){r:((Int×Int)×(List Int))}(h:vw u0 a i=some r):aA Tryz.prog 199 #[e,.int .i64 a,.int .i64 i] ⟨ro,g⟩ (fun v G=>∃c,(v= .tuple #[.int .i64 r.1.1,.int .i64 r.1.2]/\aZ rI ro 3 e r.2 c)/\Le ⟨ro,c⟩ G):=by
 obtain ⟨d1,c2,rfl,N⟩:=b.len;unfold vw at h;revert h;refine cS (fun j h=>?_) fun j h=>?_
 .cases h
 obtain ⟨p,O,rfl,rfl,P⟩:=b.iy j;refine aA.go Tryz.func199 rfl Tryz.ntmps199 Tryz.results199 av fun main J hJ A k hd hs=>?_;have l:=hs 0;have k1:=hs 1;have m:=hs 2;clear hs;apply ah hJ;refine aE hJ fun Q=>?_;apply aM hJ _;apply ah hJ;refine aE hJ fun R=>?_;apply aM hJ _;apply ah hJ;refine aE hJ fun q=>?_;apply aM hJ _;refine az fun s t n=>?_;have S:=aY.cons n q;try simp only[au] at n
 apply ah hJ;refine aE hJ fun T=>?_;apply aG hJ;revert h;refine bS fun f o h=>?_;obtain ⟨U,V⟩:=gZ o;clear o;apply ag _;apply ah hJ;refine aE hJ fun W=>?_;apply aM hJ _;apply ah hJ;refine aE hJ fun X=>?_;apply aM hJ _;refine ah hJ (ah hJ ?_);refine aE hJ fun Y=>?_;apply aM hJ _;revert h;refine aX hJ (fun u h=>?_) fun u h=>?_
 .refine ah hJ (ah hJ ?_);refine aE hJ fun Z=>?_;apply aM hJ _;revert h;refine aX hJ (fun w h=>?_) fun w h=>?_
  .cases h
  apply aK hJ;refine aE hJ fun ab=>?_;apply aG hJ;revert h;refine bS fun x y h=>?_;apply ag _;refine ei hJ [] [] _ (E4 u0 b (IntKind.i64.wrap (a+(IntKind.i64.wrap (f*1)))) (IntKind.i64.wrap (a+(IntKind.i64.wrap (f*2)))) (IntKind.i64.wrap (a+(IntKind.i64.wrap (f*3)))) 0 t y) (fun ad ae z c B al=>?_);obtain ⟨ao,rfl,rfl,d⟩:=z;obtain ⟨C,rfl⟩:=d.gL;simp only[bn] at B;subst c;refine ⟨⟨ro,(s,ic x.2)::[(p,Obj.cells C 3)]⟩,Le.refl _,?_⟩;apply aP;apply ag _;apply ah hJ;refine eU [0,6,7,9,11,44] fun ar D E F=>?_;simp only[*,go_sem] at D E F;clear k hd l k1 m;refine aE hJ fun a0=>?_;apply aM hJ _;refine aW hJ (ah hJ ?_);refine aE hJ fun a2=>?_;apply aM hJ _;revert h;refine aX hJ (fun H h=>?_) fun H h=>?_
  .cases h;apply ah hJ;refine aE hJ fun a3=>?_;apply aM hJ _;refine b9 ?_;exact ⟨_,d,Le.sub (.cons _ (List.Sublist.refl _))⟩
  apply ah hJ;refine aE hJ fun a4=>?_;apply aM hJ _;revert h;refine aX hJ (fun I h=>?_) fun I h=>?_
  .cases h;apply ah hJ;refine aE hJ fun a5=>?_;apply aM hJ _;refine b9 ?_;exact ⟨_,d,Le.sub (.cons _ (List.Sublist.refl _))⟩
  cases h;apply ah hJ;refine aE hJ fun a6=>?_;apply aM hJ _;refine b9 ?_;exact ⟨_,d,Le.sub (.cons _ (List.Sublist.refl _))⟩
 cases h;refine aK hJ (ah hJ ?_);refine aE hJ fun a7=>?_;apply aM hJ _;refine aW hJ (ah hJ ?_);refine aE hJ fun a8=>?_;apply aM hJ _;refine cz hJ ?_;apply ah hJ;refine eU [0,6,7,11] fun a9 K L M=>?_;simp only[*,go_sem] at K L M;clear k hd l k1 m;refine aE hJ fun ba=>?_;apply aM hJ _;refine b9 ?_;exact ⟨_,b,Le.sub (.cons _ (List.Sublist.refl _))⟩
end Go.Proofs.YtdgblangfefjmaaGreatDoor
end
section
namespace Go.Sep
open Go Go.Conc
variable {P:Program}{main:Bool}{J:Goroutine->af->Prop}{Q:Ex->Act->af->Prop}{a:Act}{F:af}
def Qn (E:Act->af->Prop)(Q:Ex->Act->af->Prop):Ex->Act->af->Prop
 | .normal,a,F=>∃F0,Le F0 F/\E a F0
 | .exit i,a,F=>Q (.exit i) a F
 | .ret,a,F=>Q .ret a F
theorem E6 (E:Act->af->Prop)(Q:Ex->Act->af->Prop)(i:Nat)(a:Act)(F:af):Qn E Q (.exit i) a F=Q (.exit i) a F:=Eq.trans rfl rfl
theorem E7 (E:Act->af->Prop)(Q:Ex->Act->af->Prop)(a:Act)(F:af):Qn E Q .ret a F=Q .ret a F:=Eq.trans rfl rfl
attribute [go_sem] E6 E7
theorem Qn.intro {E:Act->af->Prop}(h:∃F0,Le F0 F/\E a F0):Qn E Q .normal a F:=h
theorem gu (hJ:Closed P main J){x y:Code}(E:Act->af->Prop)(c:Wp J x (Qn E Q) a F)(d:∀a F,E a F->Wp J y Q a F):Wp J (.seq x y) Q a F:=
 ah hJ (c.mono fun e a F b=>by
  cases e with
  |normal=>obtain ⟨F0,hle,f⟩:=b;exact cN hJ hle (d a F0 f)
  |exit i=>exact b
  |ret=>exact b)
theorem aZ.de {ro:Addr->Option Value}{e:TypeId}{b n cap:Nat}{l:List Int}{arr:Array Value}(h:aZ rI ro e (.slice (some ⟨b,0,none⟩) n cap) l [(b,.cells arr e)]){i x:Int}(q:bH l i=some x):
  0<=i/\i<((n:Nat):Int)/\arr[i.toNat]?=some (.int .i64 x)/\i.toNat<arr.size:=by
 obtain ⟨a,f,c⟩:=c6 q
 have g:=h.count
 obtain ⟨cs,d,hm⟩:=h.iX c
 obtain rfl:cs=[.int .i64 x]:=d
 have m:=hm 0 _ rfl
 have m:arr[i.toNat*1+0]?=some (.int .i64 x):=m
 rw[Nat.mul_one,Nat.add_zero] at m
 exact ⟨a,aa,m,(Array.getElem?_eq_some_iff.1 m).1⟩
theorem aZ.gd {ro:Addr->Option Value}{e:TypeId}{b n cap:Nat}{l:List Int}{arr:Array Value}(h:aZ rI ro e (.slice (some ⟨b,0,none⟩) n cap) l [(b,.cells arr e)]){i:Int}(a:0<=i)(c:i<((n:Nat):Int))(y:Int):
  aZ rI ro e (.slice (some ⟨b,0,none⟩) n cap) (l.set i.toNat y) [(b,.cells (cU arr i.toNat [.int .i64 y]) e)]:=by
 have d:=h.count
 have:=h.qL (i:=i.toNat) (y:=y) aa (cs:=[.int .i64 y]) rfl
 rwa [show i.toNat*rI.n=i.toNat from Nat.mul_one _] at this
end Go.Sep
end
section
namespace Go.Proofs.YtdgblangfefjmaaGreatDoor
open Go Go.Sep Go.Proofs
set_option maxRecDepth 100000
set_option maxHeartbeats 4000000
def k5 (m:Nat):Nat:=if m=0 then 0 else m.log2+1
def rP (n:Int):Option Int:=if 0<=n/\n<256 then some ((k5 n.toNat:Nat):Int) else none
theorem E8:∀m:Fin 256,k5 m.val<=8:=by decide+kernel
theorem E9 {ro:Addr->Option Value}(n:Int)(c:0<=n)(d:n<256):aA Tryz.prog 206 #[.int .u64 n] ⟨ro,[]⟩ (fun v _=>v= .int .i64 ((k5 n.toNat:Nat):Int)):=by
 refine aA.go Tryz.func206 rfl Tryz.ntmps206 Tryz.results206 av fun main J hJ A e hd hs=>?_;have f:=hs 0;clear hs;have a1:¬(4294967296:Int)<=n:=aa;have a2:¬(65536:Int)<=n:=aa;have a3:¬(256:Int)<=n:=aa;have g:Tryz.prog.underlying 227=some (.int .u64):=ai;have h:Tryz.prog.underlying 5=some (.int .u8):=ai;have i:Tryz.prog.underlying 3=some (.int .i64):=ai;have j:Tryz.prog.underlying 9=some .string:=ai;have a4:IntKind.u8.wrap n=n:=IntWalk.u8_in n ⟨c,aa⟩;repeat refine ah hJ ?_
 refine aG hJ ?_;apply ag _;repeat refine ah hJ ?_
 refine aG hJ ?_;apply ag _;repeat refine ah hJ ?_
 refine cW hJ (by simp only[*,go_sem,ge_iff_le]) ?_;refine aK hJ ?_;repeat refine ah hJ ?_
 refine aG hJ ?_;apply ag _;repeat refine ah hJ ?_
 refine cW hJ (by simp only[*,go_sem,ge_iff_le]) ?_;refine aK hJ ?_;repeat refine ah hJ ?_
 refine aG hJ ?_;apply ag _;repeat refine ah hJ ?_
 refine cW hJ (by simp only[*,go_sem,ge_iff_le]) ?_;refine aK hJ ?_;repeat refine ah hJ ?_
 refine aG hJ ?_;apply ag _;generalize a:ByteArray.mk _=S;have key:∀m:Fin 256,S[m.val]?=some (UInt8.ofNat (k5 m.val)):=by rw[<-a];decide+kernel
 clear a;have b:n.toNat<256:=aa;have hb:=key ⟨n.toNat,b⟩;have hle:=E8 ⟨n.toNat,b⟩;simp only at hb hle;simp only[hb,Option.map_some];refine aJ ?_;apply ag _;have e1:(UInt8.ofNat (k5 n.toNat)).toNat=k5 n.toNat:=by rw[UInt8.toNat_ofNat'];omega
 rw[e1,IntWalk.i64_in (k5 n.toNat:Int) ⟨aa,aa⟩,Int.zero_add,IntWalk.i64_in (k5 n.toNat:Int) ⟨aa,aa⟩]
theorem Af {ro:Addr->Option Value}(n:Int){r:Int}(h:rP n=some r):aA Tryz.prog 169 #[.int .u64 n] ⟨ro,[]⟩ (fun v _=>v= .int .i64 r):=by
 unfold rP at h;split at h
 case isFalse=>cases h
 rename_i a;obtain ⟨b,c⟩:=a;cases h;refine aA.go Tryz.func169 rfl Tryz.ntmps169 Tryz.results169 av fun main J hJ A d hd hs=>?_;have e:=hs 0;clear hs;repeat refine ah hJ ?_
 refine aG hJ ?_;apply ag _;repeat refine ah hJ ?_
 refine cW hJ aI ?_;refine aK hJ ?_;repeat refine ah hJ ?_
 refine aG hJ ?_;apply ag _;refine bf hJ _ (E9 n b c) (aP ?_);apply ag _;refine aJ ?_;simp only[*,go_sem]
theorem Fa:Tryz.prog.underlying 3=some (.int .i64):=ai
attribute [go_sem] Fa
theorem Fb:Tryz.prog.underlying 227=some (.int .u64):=ai
attribute [go_sem] Fb
theorem Fc:Tryz.prog.underlying 253=some (.int .u64):=ai
attribute [go_sem] Fc
theorem Fe:Tryz.prog.underlying 297=some (.int .u64):=ai
attribute [go_sem] Fe
def vz (u0:Int):Option (Int×Int):=
 aj (oL u0 13) fun a=>aj (uf (g6 u0 a) 7) fun b=>aj (oL (g6 (g6 u0 a) b) 17) fun c=>some ((g6 (g6 (g6 u0 a) b) c),(g6 (g6 (g6 u0 a) b) c))
theorem Ff {ro:Addr->Option Value}(u0:Int){a:Nat}(r1:∀off sp,ro ⟨a,off,sp⟩=none){r:(Int×Int)}(h:vz u0=some r):aA Tryz.prog 219 #[.pointer (some ⟨a,0,none⟩)] ⟨ro,[(a,.cells #[.int .u64 u0] 297)]⟩ (fun v G=>∃b,(v= .int .u64 r.1/\b=[(a,.cells #[.int .u64 r.2] 297)])/\Le ⟨ro,b⟩ G):=by
 unfold vz at h;refine aA.go Tryz.func219 rfl Tryz.ntmps219 Tryz.results219 av fun main J hJ A g hd hs=>?_;have i:=hs 0;clear hs;apply aD hJ _;apply ah hJ;refine e5 hJ mixed [9] (.pure 0 (.pure 1 (.rd 2 (.pure 3 (.pure 4 (.rd 5 (.pure 6 (.pure 7 (.pure 8 (.last 9 .done)))))))))) ⟨ro,[(a,.cells #[.int .u64 u0] 297)]⟩ aI ai ?_;revert h;refine bS fun c d h=>?_;obtain ⟨q,j⟩:=ua d;clear d;try simp only[go_sem] at j
 apply ag _;apply ah hJ;refine e5 hJ mixed [9] (.pure 0 (.pure 1 (.rd 2 (.pure 3 (.pure 4 (.rd 5 (.pure 6 (.pure 7 (.pure 8 (.last 9 .done)))))))))) ⟨ro,[(a,.cells #[.int .u64 (g6 u0 c)] 297)]⟩ aI ai ?_;revert h;refine bS fun k e h=>?_;obtain ⟨s,l⟩:=CX e;clear e;try simp only[go_sem] at l
 apply ag _;apply ah hJ;refine e5 hJ mixed [9] (.pure 0 (.pure 1 (.rd 2 (.pure 3 (.pure 4 (.rd 5 (.pure 6 (.pure 7 (.pure 8 (.last 9 .done)))))))))) ⟨ro,[(a,.cells #[.int .u64 (g6 (g6 u0 c) k)] 297)]⟩ aI ai ?_;revert h;refine bS fun t f h=>?_;cases h;obtain ⟨u,m⟩:=ua f;clear f;try simp only[go_sem] at m
 apply ag _;apply ah hJ;refine eU [0,2] fun w n o p=>?_;simp only[*,go_sem] at n o p;clear g hd i;apply aM hJ _;refine b9 ?_;exact ⟨_,rfl,Le.sub (List.Sublist.refl _)⟩
def vA (u0:Int):Option Int:=
 aj (rP (IntKind.u64.wrap u0)) fun a=>aj (oL 1 a) fun b=>some b
theorem Fg {ro:Addr->Option Value}(u0:Int){r:Int}(h:vA u0=some r):aA Tryz.prog 218 #[.int .i64 u0] ⟨ro,[]⟩ (fun v _=>v= .int .u64 r):=by
 unfold vA at h;refine aA.go Tryz.func218 rfl Tryz.ntmps218 Tryz.results218 av fun main J hJ A d hd hs=>?_;have e:=hs 0;clear hs;apply aD hJ _;apply an hJ;revert h;refine bS fun f b h=>?_;apply ag _;refine bf hJ _ (Af (IntKind.u64.wrap u0) b) (aP ?_);revert h;refine bS fun g a h=>?_;cases h;obtain ⟨i,c⟩:=ua a;clear a;try simp only[go_sem] at c
 apply ag _;apply aJ;simp only[*,go_sem]
def vB (a:Int)(e:Int)(c:Int)(h:Int)(st:(Int×(List Int)×Int)):Option (Fl (Int×(List Int)×Int) (Unit×(List Int))):=
 cond (decide (st.1<=(IntKind.i64.wrap ((IntKind.i64.wrap (a+(IntKind.i64.wrap (h*2))))+1)))) (aj (aj (vz st.2.2) fun b=>aj (cond (decide ((IntKind.i64.wrap (e - a))<=(IntKind.i64.wrap (iq b.1 (IntKind.u64.wrap (c - 1)))))) (some (.bk (IntKind.i64.wrap ((IntKind.i64.wrap (iq b.1 (IntKind.u64.wrap (c - 1)))) - (IntKind.i64.wrap (e - a)))))) (some (.bk (IntKind.i64.wrap (iq b.1 (IntKind.u64.wrap (c - 1)))))):Option (Fl Int (Unit×(List Int)))) fun o=>aL o (fun d=>aj (bH st.2.1 (IntKind.i64.wrap (a+d))) fun f=>aj (bH st.2.1 st.1) fun i=>aj (bH (st.2.1.set (st.1).toNat f) (IntKind.i64.wrap (a+d))) fun j=>some (.bk (((st.2.1.set (st.1).toNat f).set (IntKind.i64.wrap (a+d)).toNat i),b.2))) (fun _ _=>none) (fun r=>some (.rt r)):Option (Fl ((List Int)×Int) (Unit×(List Int)))) fun o=>aL o (fun g=>some (.nx ((IntKind.i64.wrap (st.1+1)),g.1,g.2))) (fun _ _=>none) (fun r=>some (.rt r))) (some (.bk (st.1,st.2.1,st.2.2)))
def vC (u0:(List Int))(a:Int)(b:Int):Option (Unit×(List Int)):=
 cond (List.isEmpty u0) none (cond (decide (8<=(IntKind.i64.wrap (b - a)))) (aj (vA (IntKind.i64.wrap (b - a))) fun d=>aj (eG (IntKind.i64.wrap (b - a)) 4) fun c=>aj (bB (vB a b d c) fu ((IntKind.i64.wrap ((IntKind.i64.wrap (a+(IntKind.i64.wrap (c*2)))) - 1)),u0,(IntKind.u64.wrap (IntKind.i64.wrap (b - a))))) fun o=>aL o (fun e=>some ((),e.2.1)) (fun _ _=>none) (fun r=>some r)) (some ((),u0)))
theorem Fh {ro:Addr->Option Value}(u0:(List Int)){x:Value}{H:List (Nat×Obj)}(l:aZ rI ro 3 x u0 H)(b:Int)(d:Int){r:(Unit×(List Int))}(h:vC u0 b d=some r):aA Tryz.prog 198 #[x,.int .i64 b,.int .i64 d] ⟨ro,H⟩ (fun v G=>∃n,(v= .tuple #[]/\aZ rI ro 3 x r.2 n)/\Le ⟨ro,n⟩ G):=by
 obtain ⟨d1,c2,rfl,bm⟩:=l.len;unfold vC at h;revert h;refine cS (fun I h=>?_) fun I h=>?_
 .cases h
 obtain ⟨c,T,rfl,rfl,bo⟩:=l.iy I;refine aA.go Tryz.func198 rfl Tryz.ntmps198 Tryz.results198 av fun main J hJ A U hd hs=>?_;have V:=hs 0;have k1:=hs 1;have W:=hs 2;clear hs;apply ah hJ;refine aE hJ fun br=>?_;apply aM hJ _;apply ah hJ;refine aE hJ fun bs=>?_;apply aM hJ _;revert h;refine aX hJ (fun X h=>?_) fun X h=>?_
 .apply ah hJ;refine aE hJ fun Y=>?_;apply aM hJ _;refine az fun g Z K=>?_;have bz:=aY.cons K Y;try simp only[au] at K
  apply ah hJ;refine aE hJ fun b0=>?_;apply aG hJ;revert h;refine bS fun j ab h=>?_;apply ag _;refine bf hJ _ (Fg (IntKind.i64.wrap (d - b)) ab) (aP ?_);apply ag _;apply ah hJ;refine aE hJ fun b1=>?_;apply aG hJ;revert h;refine bS fun L M h=>?_;obtain ⟨b2,b3⟩:=gZ M;clear M;apply ag _;apply aW hJ;revert h;refine bS fun ad o ae=>?_;refine b7 hJ (rg 26 39 [9,10]) (fun m a F'=>∃(e:Array Value) (f:Int) (p:(List Int)) (q:Int),bB (vB b d j L) m (f,p,q)=some ad/\F'=⟨ro,(g,.cells #[.int .u64 q] 297)::[(c,Obj.cells e 3)]⟩/\aZ rI ro 3 (.slice (some ⟨c,0,none⟩) u0.length c2) p [(c,Obj.cells e 3)]/\slot a 9= .int .i64 f) fu ?_ ?_
  .refine ⟨T,(IntKind.i64.wrap ((IntKind.i64.wrap (b+(IntKind.i64.wrap (L*2)))) - 1)),u0,(IntKind.u64.wrap (IntKind.i64.wrap (d - b))),o,rfl,l,?_⟩;simp only[*,go_sem]
  rintro y N F' O ⟨e,f,p,q,o,rfl,s,P⟩;obtain ⟨z,B,C⟩:=O.pick [0,1,6,7,8] aO;simp only[*,go_sem] at z B C;clear O U hd V k1 W;obtain _|y:=y
  .exact absurd o (by simp only[bB,reduceCtorEq,not_false_eq_true])
  revert o;refine bS fun b4 h D=>?_;unfold vB at h;try dsimp only at h
  refine ah hJ (ah hJ ?_);refine aE hJ fun b5=>?_;apply aM hJ _;revert h;refine aX hJ (fun al h=>?_) fun al h=>?_
  .apply aK hJ;revert h;refine bS fun ao h ar=>?_;refine gu hJ (fun a F'=>∃(t:Array Value) (u:(List Int)) (w:Int),some (Fl.bk (u,w):Fl ((List Int)×Int) (Unit×(List Int)))=some ao/\F'=⟨ro,(g,.cells #[.int .u64 w] 297)::[(c,Obj.cells t 3)]⟩/\aZ rI ro 3 (.slice (some ⟨c,0,none⟩) u0.length c2) u [(c,Obj.cells t 3)]/\sz a=65/\a.defers=[]/\cR (rg 26 39 [9,10]) a N/\slot a 0= .slice (some ⟨c,0,none⟩) u0.length c2/\slot a 1= .int .i64 b/\slot a 6= .int .i64 (IntKind.i64.wrap (d - b))/\slot a 7= .pointer (some ⟨g,0,none⟩)/\slot a 8= .int .u64 j/\slot a 9= .int .i64 f) ?_ ?_
   .refine aW hJ (ah hJ ?_);refine aE hJ fun ca=>?_;apply aG hJ;revert h;refine bS fun i a0 h=>?_;apply ag _;refine ei hJ [] ([(c,Obj.cells e 3)]) _ (Ff q Z a0) (fun cb cd a2 n a3 cf=>?_);obtain ⟨rfl,rfl⟩:=a2;simp only[bn] at a3;subst n;refine ⟨⟨ro,(g,.cells #[.int .u64 i.2] 297)::[(c,Obj.cells e 3)]⟩,Le.refl _,?_⟩;apply aP;apply ag _;revert h;refine bS fun a4 h a5=>?_;refine gu hJ (fun a F'=>∃(k:Int),some (Fl.bk k:Fl Int (Unit×(List Int)))=some a4/\F'=⟨ro,(g,.cells #[.int .u64 i.2] 297)::[(c,Obj.cells e 3)]⟩/\sz a=65/\a.defers=[]/\cR (rg 26 39 [9,10]) a N/\slot a 0= .slice (some ⟨c,0,none⟩) u0.length c2/\slot a 1= .int .i64 b/\slot a 6= .int .i64 (IntKind.i64.wrap (d - b))/\slot a 7= .pointer (some ⟨g,0,none⟩)/\slot a 8= .int .u64 j/\slot a 9= .int .i64 f/\slot a 10= .int .i64 k) ?_ ?_
    .apply ah hJ;refine aE hJ fun cl=>?_;apply aM hJ _;revert h;refine aX hJ (fun a6 h=>?_) fun a6 h=>?_
     .refine aE hJ fun cy=>?_;apply aM hJ _;refine Qn.intro ⟨_,Le.sub (List.Sublist.refl _),(IntKind.i64.wrap ((IntKind.i64.wrap (iq i.1 (IntKind.u64.wrap (j - 1)))) - (IntKind.i64.wrap (d - b)))),h,rfl,?_⟩;simp only[*,go_sem]
     apply mS hJ _;refine Qn.intro ⟨_,Le.sub (List.Sublist.refl _),(IntKind.i64.wrap (iq i.1 (IntKind.u64.wrap (j - 1)))),h,rfl,?_⟩;simp only[*,go_sem]
    rintro c0 F' ⟨k,Q,rfl,da,db,dd,df,dk,dp,dq,ds,dt,du⟩;obtain rfl:=sI Q;clear Q;have h:=a5;dsimp only[aL] at h;clear z B C P;refine aE hJ fun dv=>?_;refine e5 hJ mixed [17,18,19] (.pure 0 (.pure 1 (.pure 2 (.pure 3 (.pure 4 (.pure 5 (.pure 6 (.pure 7 (.pure 8 (.pure 9 (.pure 10 (.rd 11 (.pure 12 (.pure 13 (.pure 14 (.rd 15 (.pure 16 (.last 17 (.pure 18 (.last 19 .done)))))))))))))))))))) ⟨ro,[(g,.cells #[.int .u64 i.2] 297),(c,Obj.cells e 3)]⟩ aI ai ?_;revert h;refine bS fun E a7 h=>?_;obtain ⟨dC,dE,dT,ea⟩:=s.de a7;revert h;refine bS fun F a8 h=>?_;obtain ⟨a9,ba,eb,ec⟩:=s.de a8;have R:=s.gd a9 ba E;revert h;refine bS fun ed bb h=>?_;obtain ⟨bc,bd,eh,et⟩:=R.de bb;have bj:=R.gd bc bd F;apply ag _;refine Qn.intro ⟨_,Le.sub (List.Sublist.refl _),(cU (cU e (f).toNat [.int .i64 E]) (IntKind.i64.wrap (b+k)).toNat [.int .i64 F]),((p.set (f).toNat E).set (IntKind.i64.wrap (b+k)).toNat F),i.2,h,rfl,bj,?_⟩;simp only[*,go_sem]
   rintro ev F' ⟨t,u,w,S,rfl,bl,eQ,eS,e0,e1,e2,e3,fa,fb,fg⟩;obtain rfl:=sI S;clear S;have h:=ar;dsimp only[aL] at h;cases h;clear z B C P;refine aE hJ fun fi=>?_;apply aM hJ _;refine ⟨y,Nat.lt_succ_self _,_,Le.sub (List.Sublist.refl _),t,(IntKind.i64.wrap (f+1)),u,w,D,rfl,bl,?_⟩;simp only[*,go_sem]
  cases h;apply bT;simp only[go_sem];obtain rfl:=sI D;clear D;have h:=ae;dsimp only[aL] at h;cases h;apply ag _;exact ⟨_,s,Le.sub (.cons _ (List.Sublist.refl _))⟩
 cases h;apply mS hJ _;exact ⟨_,l,Le.sub (List.Sublist.refl _)⟩
def vD (u0:(List Int))(a:Int)(e:Int)(b:Int)(c:Int)(d:Int)(st:Int):Option (Fl Int ((Int×Bool)×(List Int))):=
 cond (decide (st<=(IntKind.i64.wrap (e - 1)))) (aj (bH ((u0.set (a).toNat c).set (b).toNat d) st) fun f=>aj (bH ((u0.set (a).toNat c).set (b).toNat d) a) fun g=>aj (iD f g) fun h=>cond (h) (some (.nx (IntKind.i64.wrap (st+1)))) (some (.bk st))) (some (.bk st))
def vE (u0:(List Int))(a:Int)(b:Int)(c:Int)(d:Int)(e:Int)(st:Int):Option (Fl Int ((Int×Bool)×(List Int))):=
 cond (decide (e<=st)) (aj (bH ((u0.set (a).toNat c).set (b).toNat d) st) fun f=>aj (bH ((u0.set (a).toNat c).set (b).toNat d) a) fun g=>aj (iD f g) fun h=>cond (!h) (some (.nx (IntKind.i64.wrap (st - 1)))) (some (.bk st))) (some (.bk st))
def vF (b:Int)(c:Int)(a:(List Int))(st:Int):Option (Fl Int ((Int×Bool)×(List Int))):=
 cond (decide (st<=c)) (aj (bH a st) fun d=>aj (bH a b) fun e=>aj (iD d e) fun f=>cond (f) (some (.nx (IntKind.i64.wrap (st+1)))) (some (.bk st))) (some (.bk st))
def vG (b:Int)(a:(List Int))(c:Int)(st:Int):Option (Fl Int ((Int×Bool)×(List Int))):=
 cond (decide (c<=st)) (aj (bH a st) fun d=>aj (bH a b) fun e=>aj (iD d e) fun f=>cond (!f) (some (.nx (IntKind.i64.wrap (st - 1)))) (some (.bk st))) (some (.bk st))
def vH (c:Int)(st:(Int×Int×(List Int))):Option (Fl (Int×Int×(List Int)) ((Int×Bool)×(List Int))):=
 aj (aj (bB (vF c st.2.1 st.2.2) fu st.1) fun o=>aL o (fun e=>some (.bk e)) (fun _ _=>none) (fun r=>some (.rt r)):Option (Fl Int ((Int×Bool)×(List Int)))) fun o=>aL o (fun a=>aj (aj (bB (vG c st.2.2 a) fu st.2.1) fun o=>aL o (fun f=>some (.bk f)) (fun _ _=>none) (fun r=>some (.rt r)):Option (Fl Int ((Int×Bool)×(List Int)))) fun o=>aL o (fun b=>cond (decide (b<a)) (some (.bk (a,b,st.2.2))) (aj (bH st.2.2 b) fun d=>aj (bH st.2.2 a) fun g=>aj (bH (st.2.2.set (a).toNat d) b) fun h=>some (.nx ((IntKind.i64.wrap (a+1)),(IntKind.i64.wrap (b - 1)),((st.2.2.set (a).toNat d).set (b).toNat g))))) (fun _ _=>none) (fun r=>some (.rt r))) (fun _ _=>none) (fun r=>some (.rt r))
def vI (u0:(List Int))(a:Int)(h:Int)(b:Int):Option ((Int×Bool)×(List Int)):=
 cond (List.isEmpty u0) none (aj (bH u0 b) fun c=>aj (bH u0 a) fun d=>aj (bH (u0.set (a).toNat c) b) fun t=>aj (aj (bB (vD u0 a h b c d) fu (IntKind.i64.wrap (a+1))) fun o=>aL o (fun m=>some (.bk m)) (fun _ _=>none) (fun r=>some (.rt r)):Option (Fl Int ((Int×Bool)×(List Int)))) fun o=>aL o (fun g=>aj (aj (bB (vE u0 a b c d g) fu (IntKind.i64.wrap (h - 1))) fun o=>aL o (fun n=>some (.bk n)) (fun _ _=>none) (fun r=>some (.rt r)):Option (Fl Int ((Int×Bool)×(List Int)))) fun o=>aL o (fun e=>cond (decide (e<g)) (aj (bH ((u0.set (a).toNat c).set (b).toNat d) a) fun i=>aj (bH ((u0.set (a).toNat c).set (b).toNat d) e) fun p=>aj (bH (((u0.set (a).toNat c).set (b).toNat d).set (e).toNat i) a) fun u=>some ((e,true),((((u0.set (a).toNat c).set (b).toNat d).set (e).toNat i).set (a).toNat p))) (aj (bH ((u0.set (a).toNat c).set (b).toNat d) e) fun j=>aj (bH ((u0.set (a).toNat c).set (b).toNat d) g) fun q=>aj (bH (((u0.set (a).toNat c).set (b).toNat d).set (g).toNat j) e) fun v=>aj (aj (bB (vH a) fu ((IntKind.i64.wrap (g+1)),(IntKind.i64.wrap (e - 1)),((((u0.set (a).toNat c).set (b).toNat d).set (g).toNat j).set (e).toNat q))) fun o=>aL o (fun k=>some (.bk (k.2.1,k.2.2))) (fun _ _=>none) (fun r=>some (.rt r)):Option (Fl (Int×(List Int)) ((Int×Bool)×(List Int)))) fun o=>aL o (fun f=>aj (bH f.2 a) fun l=>aj (bH f.2 f.1) fun s=>aj (bH (f.2.set (f.1).toNat l) a) fun w=>some ((f.1,false),((f.2.set (f.1).toNat l).set (a).toNat s))) (fun _ _=>none) (fun r=>some r))) (fun _ _=>none) (fun r=>some r)) (fun _ _=>none) (fun r=>some r))
theorem Fi {ro:Addr->Option Value}(u0:(List Int)){S:Value}{bb:List (Nat×Obj)}(x:aZ rI ro 3 S u0 bb)(c:Int)(y:Int)(p:Int){r:((Int×Bool)×(List Int))}(h:vI u0 c y p=some r):aA Tryz.prog 204 #[S,.int .i64 c,.int .i64 y,.int .i64 p] ⟨ro,bb⟩ (fun v G=>∃bc,(v= .tuple #[.int .i64 r.1.1,.bool r.1.2]/\aZ rI ro 3 S r.2 bc)/\Le ⟨ro,bc⟩ G):=by
 obtain ⟨d1,c2,rfl,ly⟩:=x.len;unfold vI at h;revert h;refine cS (fun bd h=>?_) fun bd h=>?_
 .cases h
 obtain ⟨b,bj,rfl,rfl,lL⟩:=x.iy bd;refine aA.go Tryz.func204 rfl Tryz.ntmps204 Tryz.results204 av fun main J hJ A bl hd hs=>?_;have bm:=hs 0;have k1:=hs 1;have bo:=hs 2;have br:=hs 3;clear hs;apply ah hJ;refine aE hJ fun l1=>?_;apply aM hJ _;apply ah hJ;refine aE hJ fun l2=>?_;refine e5 hJ mixed [13,14,15] (.pure 0 (.pure 1 (.pure 2 (.pure 3 (.pure 4 (.pure 5 (.pure 6 (.rd 7 (.pure 8 (.pure 9 (.pure 10 (.rd 11 (.pure 12 (.last 13 (.pure 14 (.last 15 .done)))))))))))))))) ⟨ro,[(b,Obj.cells bj 3)]⟩ aI ai ?_;revert h;refine bS fun z fz h=>?_;obtain ⟨l3,l4,ma,mf⟩:=x.de fz;revert h;refine bS fun B gg h=>?_;obtain ⟨gl,gn,mi,ml⟩:=x.de gg;have bs:=x.gd gl gn z;revert h;refine bS fun mn gp h=>?_;obtain ⟨gB,gC,mr,mx⟩:=bs.de gp;have d:=bs.gd gB gC B;apply ag _;apply ah hJ;obtain ⟨f,T⟩:∃o,o=(cU (cU bj (c).toNat [.int .i64 z]) (p).toNat [.int .i64 B]):=⟨_,rfl⟩
 refine cN (F:=⟨ro,[(b,Obj.cells f 3)]⟩) hJ (by rw[T];exact Le.refl _) ?_;rw[<-T] at d;clear T;refine aE hJ fun my=>?_;apply aM hJ _;revert h;refine bS fun gV h g0=>?_;refine gu hJ (fun a F'=>∃(g:Int),some (Fl.bk g:Fl Int ((Int×Bool)×(List Int)))=some gV/\F'=⟨ro,[(b,Obj.cells f 3)]⟩/\sz a=168/\a.defers=[]/\slot a 0= .slice (some ⟨b,0,none⟩) u0.length c2/\slot a 1= .int .i64 c/\slot a 8= .int .i64 0/\slot a 9= .bool false/\slot a 10= .int .i64 g/\slot a 11= .int .i64 (IntKind.i64.wrap (y - 1))) ?_ ?_
 .apply aW hJ;revert h;refine bS fun g1 K bz=>?_;refine b7 hJ (rg 30 16 [10]) (fun m a F'=>∃(q:Int),bB (vD u0 c y p z B) m q=some g1/\F'=⟨ro,[(b,Obj.cells f 3)]⟩/\slot a 10= .int .i64 q) fu ?_ ?_
  .refine ⟨(IntKind.i64.wrap (c+1)),K,rfl,?_⟩;simp only[*,go_sem]
  rintro U m1 F' b0 ⟨q,K,rfl,m2⟩;obtain ⟨g2,g3,g4⟩:=b0.pick [0,1,8,9,11] aO;simp only[*,go_sem] at g2 g3 g4;clear b0 bl hd bm k1 bo br;obtain _|U:=U
  .exact absurd K (by simp only[bB,reduceCtorEq,not_false_eq_true])
  revert K;refine bS fun na h C=>?_;unfold vD at h;try dsimp only at h
  refine ah hJ (ah hJ ?_);refine aE hJ fun nb=>?_;refine cM hJ mixed 14 1 aI ai ?_;revert h;refine cS (fun ha h=>?_) fun ha h=>?_
  .revert h;refine bS fun hc hf h=>?_;obtain ⟨nd,nf,nm,nn⟩:=d.de hf;revert h;refine bS fun hg hh h=>?_;obtain ⟨np,ns,nx,nz⟩:=d.de hh;revert h;refine bS fun nA hi h=>?_;apply ag _;refine ⟨_,bD hJ fun F V=>jG hc hg hi,bY ?_⟩;apply ag _;revert h;refine aX hJ (fun hj h=>?_) fun hj h=>?_
   .cases h;refine aK hJ (aW hJ ?_);refine aE hJ fun nH=>?_;apply aM hJ _;refine ⟨U,Nat.lt_succ_self _,_,Le.sub (List.Sublist.refl _),(IntKind.i64.wrap (q+1)),C,rfl,?_⟩;simp only[*,go_sem]
   cases h;apply bT;simp only[go_sem];obtain rfl:=sI C;clear C;have h:=bz;dsimp only[aL] at h;apply ag _;refine Qn.intro ⟨_,Le.sub (List.Sublist.refl _),q,h,rfl,?_⟩;simp only[*,go_sem]
  cases h;apply ag _;refine cB hJ ?_;apply bT;simp only[go_sem];obtain rfl:=sI C;clear C;have h:=bz;dsimp only[aL] at h;refine Qn.intro ⟨_,Le.sub (List.Sublist.refl _),q,h,rfl,?_⟩;simp only[*,go_sem]
 rintro nI F' ⟨g,b1,rfl,b2,b3,b4,b5,ca,cb,cd,cf⟩;obtain rfl:=sI b1;clear b1;have h:=g0;dsimp only[aL] at h;clear bl hd bm k1 bo br;revert h;refine bS fun hk h hl=>?_;refine gu hJ (fun a F'=>∃(k:Int),some (Fl.bk k:Fl Int ((Int×Bool)×(List Int)))=some hk/\F'=⟨ro,[(b,Obj.cells f 3)]⟩/\sz a=168/\a.defers=[]/\slot a 0= .slice (some ⟨b,0,none⟩) u0.length c2/\slot a 1= .int .i64 c/\slot a 8= .int .i64 0/\slot a 9= .bool false/\slot a 10= .int .i64 g/\slot a 11= .int .i64 k) ?_ ?_
 .apply aW hJ;revert h;refine bS fun hn L cl=>?_;refine b7 hJ (rg 46 17 [11]) (fun m a F'=>∃(s:Int),bB (vE u0 c p z B g) m s=some hn/\F'=⟨ro,[(b,Obj.cells f 3)]⟩/\slot a 11= .int .i64 s) fu ?_ ?_
  .refine ⟨(IntKind.i64.wrap (y - 1)),L,rfl,?_⟩;simp only[*,go_sem]
  rintro W nK F' cy ⟨s,L,rfl,nQ⟩;obtain ⟨ho,hp,hq⟩:=cy.pick [0,1,8,9,10] aO;simp only[*,go_sem] at ho hp hq;clear cy b2 b3 b4 b5 ca cb cd cf;obtain _|W:=W
  .exact absurd L (by simp only[bB,reduceCtorEq,not_false_eq_true])
  revert L;refine bS fun nR h D=>?_;unfold vE at h;try dsimp only at h
  refine ah hJ (ah hJ ?_);refine aE hJ fun nT=>?_;refine cM hJ mixed 15 1 aI ai ?_;revert h;refine cS (fun hr h=>?_) fun hr h=>?_
  .revert h;refine bS fun ht hv h=>?_;obtain ⟨nV,nX,nY,n0⟩:=d.de hv;revert h;refine bS fun hx hy h=>?_;obtain ⟨n1,n2,n3,oc⟩:=d.de hy;revert h;refine bS fun oi hz h=>?_;apply ag _;refine ⟨_,bD hJ fun F V=>jG ht hx hz,bY ?_⟩;apply ag _;revert h;refine aX hJ (fun hA h=>?_) fun hA h=>?_
   .cases h;refine aK hJ (aW hJ ?_);refine aE hJ fun oj=>?_;apply aM hJ _;refine ⟨W,Nat.lt_succ_self _,_,Le.sub (List.Sublist.refl _),(IntKind.i64.wrap (s - 1)),D,rfl,?_⟩;simp only[*,go_sem]
   cases h;apply bT;simp only[go_sem];obtain rfl:=sI D;clear D;have h:=cl;dsimp only[aL] at h;apply ag _;refine Qn.intro ⟨_,Le.sub (List.Sublist.refl _),s,h,rfl,?_⟩;simp only[*,go_sem]
  cases h;apply ag _;refine cB hJ ?_;apply bT;simp only[go_sem];obtain rfl:=sI D;clear D;have h:=cl;dsimp only[aL] at h;refine Qn.intro ⟨_,Le.sub (List.Sublist.refl _),s,h,rfl,?_⟩;simp only[*,go_sem]
 rintro ox F' ⟨k,c0,rfl,da,db,dd,df,dk,dp,dq,ds⟩;obtain rfl:=sI c0;clear c0;have h:=hl;dsimp only[aL] at h;clear b2 b3 b4 b5 ca cb cd cf;refine ah hJ (ah hJ ?_);refine aE hJ fun oy=>?_;apply aM hJ _;revert h;refine aX hJ (fun hB h=>?_) fun hB h=>?_
 .apply ah hJ;refine aE hJ fun o0=>?_;refine e5 hJ mixed [13,14,15] (.pure 0 (.pure 1 (.pure 2 (.pure 3 (.pure 4 (.pure 5 (.pure 6 (.rd 7 (.pure 8 (.pure 9 (.pure 10 (.rd 11 (.pure 12 (.last 13 (.pure 14 (.last 15 .done)))))))))))))))) ⟨ro,[(b,Obj.cells f 3)]⟩ aI ai ?_;revert h;refine bS fun dt hD h=>?_;obtain ⟨o1,o2,o4,pa⟩:=d.de hD;revert h;refine bS fun du hE h=>?_;obtain ⟨hF,hG,pb,pd⟩:=d.de hE;have dv:=d.gd hF hG dt;revert h;refine bS fun pf hI h=>?_;cases h;obtain ⟨hK,hL,ph,pj⟩:=dv.de hI;have dC:=dv.gd hK hL du;apply ag _;apply ah hJ;obtain ⟨hM,X⟩:∃o,o=(cU (cU f (k).toNat [.int .i64 dt]) (c).toNat [.int .i64 du]):=⟨_,rfl⟩
  refine cN (F:=⟨ro,[(b,Obj.cells hM 3)]⟩) hJ (by rw[X];exact Le.refl _) ?_;rw[<-X] at dC;clear X;refine aE hJ fun pk=>?_;apply aM hJ _;refine b9 ?_;exact ⟨_,dC,Le.sub (List.Sublist.refl _)⟩
 refine aK hJ (ah hJ ?_);refine aE hJ fun po=>?_;refine e5 hJ mixed [13,14,15] (.pure 0 (.pure 1 (.pure 2 (.pure 3 (.pure 4 (.pure 5 (.pure 6 (.rd 7 (.pure 8 (.pure 9 (.pure 10 (.rd 11 (.pure 12 (.last 13 (.pure 14 (.last 15 .done)))))))))))))))) ⟨ro,[(b,Obj.cells f 3)]⟩ aI ai ?_;revert h;refine bS fun Y hN h=>?_;obtain ⟨pr,ps,pt,pv⟩:=d.de hN;revert h;refine bS fun Z hP h=>?_;obtain ⟨hQ,hR,pw,px⟩:=d.de hP;have dE:=d.gd hQ hR Y;revert h;refine bS fun py hS h=>?_;obtain ⟨hT,hV,pA,pB⟩:=dE.de hS;have dT:=dE.gd hT hV Z;apply ag _;apply ah hJ;obtain ⟨ea,ab⟩:∃o,o=(cU (cU f (g).toNat [.int .i64 Y]) (k).toNat [.int .i64 Z]):=⟨_,rfl⟩
 refine cN (F:=⟨ro,[(b,Obj.cells ea 3)]⟩) hJ (by rw[ab];exact Le.refl _) ?_;rw[<-ab] at dT;clear ab;refine aE hJ fun pC=>?_;apply aM hJ _;apply ah hJ;refine aE hJ fun pD=>?_;apply aM hJ _;revert h;refine bS fun hX h hY=>?_;refine gu hJ (fun a F'=>∃(E:Array Value) (M:Int) (ad:(List Int)),some (Fl.bk (M,ad):Fl (Int×(List Int)) ((Int×Bool)×(List Int)))=some hX/\F'=⟨ro,[(b,Obj.cells E 3)]⟩/\aZ rI ro 3 (.slice (some ⟨b,0,none⟩) u0.length c2) ad [(b,Obj.cells E 3)]/\sz a=168/\a.defers=[]/\slot a 0= .slice (some ⟨b,0,none⟩) u0.length c2/\slot a 1= .int .i64 c/\slot a 8= .int .i64 0/\slot a 9= .bool false/\slot a 11= .int .i64 M) ?_ ?_
 .apply aW hJ;revert h;refine bS fun hZ N h0=>?_;refine b7 hJ (rg 99 54 [10,11]) (fun m a F'=>∃(e:Array Value) (O:Int) (t:Int) (l:(List Int)),bB (vH c) m (O,t,l)=some hZ/\F'=⟨ro,[(b,Obj.cells e 3)]⟩/\aZ rI ro 3 (.slice (some ⟨b,0,none⟩) u0.length c2) l [(b,Obj.cells e 3)]/\slot a 10= .int .i64 O/\slot a 11= .int .i64 t) fu ?_ ?_
  .refine ⟨ea,(IntKind.i64.wrap (g+1)),(IntKind.i64.wrap (k - 1)),((((u0.set (c).toNat z).set (p).toNat B).set (g).toNat Y).set (k).toNat Z),N,rfl,dT,?_⟩;simp only[*,go_sem]
  rintro ae P F' eb ⟨e,O,t,l,N,rfl,i,ec,ed⟩;obtain ⟨al,ao,ar⟩:=eb.pick [0,1,8,9] aO;simp only[*,go_sem] at al ao ar;clear eb da db dd df dk dp dq ds;obtain _|ae:=ae
  .exact absurd N (by simp only[bB,reduceCtorEq,not_false_eq_true])
  revert N;refine bS fun pT h a0=>?_;unfold vH at h;try dsimp only at h
  apply aW hJ;revert h;refine bS fun h1 h h2=>?_;refine gu hJ (fun a F'=>∃(j:Int),some (Fl.bk j:Fl Int ((Int×Bool)×(List Int)))=some h1/\F'=⟨ro,[(b,Obj.cells e 3)]⟩/\sz a=168/\a.defers=[]/\cR (rg 99 54 [10,11]) a P/\slot a 0= .slice (some ⟨b,0,none⟩) u0.length c2/\slot a 1= .int .i64 c/\slot a 8= .int .i64 0/\slot a 9= .bool false/\slot a 10= .int .i64 j/\slot a 11= .int .i64 t) ?_ ?_
  .apply aW hJ;revert h;refine bS fun h3 Q eh=>?_;refine b7 hJ (rg 99 16 [10]) (fun m a F'=>∃(u:Int),bB (vF c t l) m u=some h3/\F'=⟨ro,[(b,Obj.cells e 3)]⟩/\slot a 10= .int .i64 u) fu ?_ ?_
   .refine ⟨O,Q,rfl,?_⟩;simp only[*,go_sem]
   rintro a2 h4 F' a3 ⟨u,Q,rfl,p0⟩;obtain ⟨h5,h6,h7⟩:=a3.pick [0,1,8,9,11] aO;simp only[*,go_sem] at h5 h6 h7;have p1:cR (rg 99 54 [10,11]) h4 P:=(a3.gq aO).trans aI;clear a3 al ao ar ec ed;obtain _|a2:=a2
   .exact absurd Q (by simp only[bB,reduceCtorEq,not_false_eq_true])
   revert Q;refine bS fun qe h H=>?_;unfold vF at h;(try dsimp only at h);refine ah hJ (ah hJ ?_);refine aE hJ fun qk=>?_;refine cM hJ mixed 14 1 aI ai ?_;revert h;refine cS (fun h8 h=>?_) fun h8 h=>?_
   .revert h;refine bS fun h9 ib h=>?_;obtain ⟨q0,q1,ra,rb⟩:=i.de ib;revert h;refine bS fun ic ih h=>?_;obtain ⟨re,rh,rk,rl⟩:=i.de ih;revert h;refine bS fun rn ik h=>?_;apply ag _;refine ⟨_,bD hJ fun F V=>jG h9 ic ik,bY ?_⟩;apply ag _;revert h;refine aX hJ (fun il h=>?_) fun il h=>?_
    .cases h;refine aK hJ (aW hJ ?_);refine aE hJ fun rp=>?_;apply aM hJ _;refine ⟨a2,Nat.lt_succ_self _,_,Le.sub (List.Sublist.refl _),(IntKind.i64.wrap (u+1)),H,rfl,?_⟩;simp only[*,go_sem]
    cases h;apply bT;simp only[go_sem];obtain rfl:=sI H;clear H;have h:=eh;dsimp only[aL] at h;apply ag _;refine Qn.intro ⟨_,Le.sub (List.Sublist.refl _),u,h,rfl,?_⟩;simp only[*,go_sem]
   cases h;apply ag _;refine cB hJ ?_;apply bT;simp only[go_sem];obtain rfl:=sI H;clear H;have h:=eh;dsimp only[aL] at h;refine Qn.intro ⟨_,Le.sub (List.Sublist.refl _),u,h,rfl,?_⟩;simp only[*,go_sem]
  rintro rr F' ⟨j,et,rfl,ev,eQ,rv,eS,e0,e1,e2,e3,fa⟩;obtain rfl:=sI et;clear et;have h:=h2;dsimp only[aL] at h;clear al ao ar ec ed;revert h;refine bS fun im h iv=>?_;refine gu hJ (fun a F'=>∃(n:Int),some (Fl.bk n:Fl Int ((Int×Bool)×(List Int)))=some im/\F'=⟨ro,[(b,Obj.cells e 3)]⟩/\sz a=168/\a.defers=[]/\cR (rg 99 54 [10,11]) a P/\slot a 0= .slice (some ⟨b,0,none⟩) u0.length c2/\slot a 1= .int .i64 c/\slot a 8= .int .i64 0/\slot a 9= .bool false/\slot a 10= .int .i64 j/\slot a 11= .int .i64 n) ?_ ?_
  .apply aW hJ;revert h;refine bS fun ix R fb=>?_;refine b7 hJ (rg 115 17 [11]) (fun m a F'=>∃(w:Int),bB (vG c l j) m w=some ix/\F'=⟨ro,[(b,Obj.cells e 3)]⟩/\slot a 11= .int .i64 w) fu ?_ ?_
   .refine ⟨t,R,rfl,?_⟩;simp only[*,go_sem]
   rintro a4 jC F' a5 ⟨w,R,rfl,rB⟩;obtain ⟨j1,j2,kh⟩:=a5.pick [0,1,8,9,10] aO;simp only[*,go_sem] at j1 j2 kh;have rL:cR (rg 99 54 [10,11]) jC P:=(a5.gq aO).trans aI;clear a5 ev eQ eS e0 e1 e2 e3 fa;obtain _|a4:=a4
   .exact absurd R (by simp only[bB,reduceCtorEq,not_false_eq_true])
   revert R;refine bS fun sa h I=>?_;unfold vG at h;(try dsimp only at h);refine ah hJ (ah hJ ?_);refine aE hJ fun sb=>?_;refine cM hJ mixed 15 1 aI ai ?_;revert h;refine cS (fun kj h=>?_) fun kj h=>?_
   .revert h;refine bS fun kk kl h=>?_;obtain ⟨sc,sf,sg,sh⟩:=i.de kl;revert h;refine bS fun km kn h=>?_;obtain ⟨sl,sm,ss,sy⟩:=i.de kn;revert h;refine bS fun sT kp h=>?_;apply ag _;refine ⟨_,bD hJ fun F V=>jG kk km kp,bY ?_⟩;apply ag _;revert h;refine aX hJ (fun ks h=>?_) fun ks h=>?_
    .cases h;refine aK hJ (aW hJ ?_);refine aE hJ fun ta=>?_;apply aM hJ _;refine ⟨a4,Nat.lt_succ_self _,_,Le.sub (List.Sublist.refl _),(IntKind.i64.wrap (w - 1)),I,rfl,?_⟩;simp only[*,go_sem]
    cases h;apply bT;simp only[go_sem];obtain rfl:=sI I;clear I;have h:=fb;dsimp only[aL] at h;apply ag _;refine Qn.intro ⟨_,Le.sub (List.Sublist.refl _),w,h,rfl,?_⟩;simp only[*,go_sem]
   cases h;apply ag _;refine cB hJ ?_;apply bT;simp only[go_sem];obtain rfl:=sI I;clear I;have h:=fb;dsimp only[aL] at h;refine Qn.intro ⟨_,Le.sub (List.Sublist.refl _),w,h,rfl,?_⟩;simp only[*,go_sem]
  rintro tb F' ⟨n,fg,rfl,te,ti,tk,tl,tm,tp,ts,tt,tx⟩;obtain rfl:=sI fg;clear fg;have h:=iv;dsimp only[aL] at h;clear ev eQ eS e0 e1 e2 e3 fa;refine ah hJ (ah hJ ?_);refine aE hJ fun tz=>?_;apply aM hJ _;revert h;refine aX hJ (fun kt h=>?_) fun kt h=>?_
  .cases h;apply bT;simp only[go_sem];obtain rfl:=sI a0;clear a0;have h:=h0;dsimp only[aL] at h;apply ag _;refine Qn.intro ⟨_,Le.sub (List.Sublist.refl _),e,n,l,h,rfl,i,?_⟩;simp only[*,go_sem]
  refine aK hJ (ah hJ ?_);refine aE hJ fun tI=>?_;refine e5 hJ mixed [13,14,15] (.pure 0 (.pure 1 (.pure 2 (.pure 3 (.pure 4 (.pure 5 (.pure 6 (.rd 7 (.pure 8 (.pure 9 (.pure 10 (.rd 11 (.pure 12 (.last 13 (.pure 14 (.last 15 .done)))))))))))))))) ⟨ro,[(b,Obj.cells e 3)]⟩ aI ai ?_;revert h;refine bS fun a6 kv h=>?_;obtain ⟨tM,tW,ub,ui⟩:=i.de kv;revert h;refine bS fun a7 kx h=>?_;obtain ⟨ky,k0,u1,u2⟩:=i.de kx;have fi:=i.gd ky k0 a6;revert h;refine bS fun u3 k2 h=>?_;cases h;obtain ⟨lb,lh,u4,va⟩:=fi.de k2;have fp:=fi.gd lb lh a7;apply ag _;apply ah hJ;obtain ⟨fr,a8⟩:∃o,o=(cU (cU e (j).toNat [.int .i64 a6]) (n).toNat [.int .i64 a7]):=⟨_,rfl⟩
  refine cN (F:=⟨ro,[(b,Obj.cells fr 3)]⟩) hJ (by rw[a8];exact Le.refl _) ?_;rw[<-a8] at fp;clear a8;refine aE hJ fun vd=>?_;apply aM hJ _;refine aE hJ fun vs=>?_;apply aM hJ _;refine ⟨ae,Nat.lt_succ_self _,_,Le.sub (List.Sublist.refl _),fr,(IntKind.i64.wrap (j+1)),(IntKind.i64.wrap (n - 1)),((l.set (j).toNat a6).set (n).toNat a7),a0,rfl,fp,?_⟩;simp only[*,go_sem]
 rintro vx F' ⟨E,M,ad,fs,rfl,a9,vy,v3,wa,wb,wc,wi,wx⟩;obtain rfl:=sI fs;clear fs;have h:=hY;dsimp only[aL] at h;clear da db dd df dk dp dq ds;apply ah hJ;refine aE hJ fun wy=>?_;refine e5 hJ mixed [13,14,15] (.pure 0 (.pure 1 (.pure 2 (.pure 3 (.pure 4 (.pure 5 (.pure 6 (.rd 7 (.pure 8 (.pure 9 (.pure 10 (.rd 11 (.pure 12 (.last 13 (.pure 14 (.last 15 .done)))))))))))))))) ⟨ro,[(b,Obj.cells E 3)]⟩ aI ai ?_;revert h;refine bS fun ft lj h=>?_;obtain ⟨w0,xa,xc,xf⟩:=a9.de lj;revert h;refine bS fun fv lk h=>?_;obtain ⟨ll,ln,xi,xn⟩:=a9.de lk;have fw:=a9.gd ll ln ft;revert h;refine bS fun xr lo h=>?_;cases h;obtain ⟨lr,lv,xt,xv⟩:=fw.de lo;have fx:=fw.gd lr lv fv;apply ag _;apply ah hJ;obtain ⟨lx,ba⟩:∃o,o=(cU (cU E (M).toNat [.int .i64 ft]) (c).toNat [.int .i64 fv]):=⟨_,rfl⟩
 refine cN (F:=⟨ro,[(b,Obj.cells lx 3)]⟩) hJ (by rw[ba];exact Le.refl _) ?_;rw[<-ba] at fx;clear ba;refine aE hJ fun x0=>?_;apply aM hJ _;refine b9 ?_;exact ⟨_,fx,Le.sub (List.Sublist.refl _)⟩
def vJ (b:Int)(c:Int)(a:(List Int))(st:Int):Option (Fl Int (Int×(List Int))):=
 cond (decide (st<=c)) (aj (bH a b) fun d=>aj (bH a st) fun e=>aj (iD d e) fun f=>cond (!f) (some (.nx (IntKind.i64.wrap (st+1)))) (some (.bk st))) (some (.bk st))
def vK (b:Int)(a:(List Int))(c:Int)(st:Int):Option (Fl Int (Int×(List Int))):=
 cond (decide (c<=st)) (aj (bH a b) fun d=>aj (bH a st) fun e=>aj (iD d e) fun f=>cond (f) (some (.nx (IntKind.i64.wrap (st - 1)))) (some (.bk st))) (some (.bk st))
def vL (c:Int)(st:(Int×Int×(List Int))):Option (Fl (Int×Int×(List Int)) (Int×(List Int))):=
 aj (aj (bB (vJ c st.2.1 st.2.2) fu st.1) fun o=>aL o (fun e=>some (.bk e)) (fun _ _=>none) (fun r=>some (.rt r)):Option (Fl Int (Int×(List Int)))) fun o=>aL o (fun a=>aj (aj (bB (vK c st.2.2 a) fu st.2.1) fun o=>aL o (fun f=>some (.bk f)) (fun _ _=>none) (fun r=>some (.rt r)):Option (Fl Int (Int×(List Int)))) fun o=>aL o (fun b=>cond (decide (b<a)) (some (.bk (a,b,st.2.2))) (aj (bH st.2.2 b) fun d=>aj (bH st.2.2 a) fun g=>aj (bH (st.2.2.set (a).toNat d) b) fun h=>some (.nx ((IntKind.i64.wrap (a+1)),(IntKind.i64.wrap (b - 1)),((st.2.2.set (a).toNat d).set (b).toNat g))))) (fun _ _=>none) (fun r=>some (.rt r))) (fun _ _=>none) (fun r=>some (.rt r))
def vM (u0:(List Int))(a:Int)(f:Int)(b:Int):Option (Int×(List Int)):=
 cond (List.isEmpty u0) none (aj (bH u0 b) fun c=>aj (bH u0 a) fun g=>aj (bH (u0.set (a).toNat c) b) fun h=>aj (aj (bB (vL a) fu ((IntKind.i64.wrap (a+1)),(IntKind.i64.wrap (f - 1)),((u0.set (a).toNat c).set (b).toNat g))) fun o=>aL o (fun d=>some (.bk (d.1,d.2.2))) (fun _ _=>none) (fun r=>some (.rt r)):Option (Fl (Int×(List Int)) (Int×(List Int)))) fun o=>aL o (fun e=>some (e.1,e.2)) (fun _ _=>none) (fun r=>some r))
theorem Fj {ro:Addr->Option Value}(u0:(List Int)){z:Value}{X:List (Nat×Obj)}(n:aZ rI ro 3 z u0 X)(c:Int)(B:Int)(s:Int){r:(Int×(List Int))}(h:vM u0 c B s=some r):aA Tryz.prog 203 #[z,.int .i64 c,.int .i64 B,.int .i64 s] ⟨ro,X⟩ (fun v G=>∃Y,(v= .int .i64 r.1/\aZ rI ro 3 z r.2 Y)/\Le ⟨ro,Y⟩ G):=by
 obtain ⟨d1,c2,rfl,fw⟩:=n.len;unfold vM at h;revert h;refine cS (fun Z h=>?_) fun Z h=>?_
 .cases h
 obtain ⟨b,ab,rfl,rfl,fx⟩:=n.iy Z;refine aA.go Tryz.func203 rfl Tryz.ntmps203 Tryz.results203 av fun main J hJ A ad hd hs=>?_;have ae:=hs 0;have k1:=hs 1;have al:=hs 2;have ao:=hs 3;clear hs;apply ah hJ;refine aE hJ fun fz=>?_;apply aM hJ _;apply ah hJ;refine aE hJ fun gg=>?_;refine e5 hJ mixed [13,14,15] (.pure 0 (.pure 1 (.pure 2 (.pure 3 (.pure 4 (.pure 5 (.pure 6 (.rd 7 (.pure 8 (.pure 9 (.pure 10 (.rd 11 (.pure 12 (.last 13 (.pure 14 (.last 15 .done)))))))))))))))) ⟨ro,[(b,Obj.cells ab 3)]⟩ aI ai ?_;revert h;refine bS fun C b0 h=>?_;obtain ⟨gl,gn,gp,gB⟩:=n.de b0;revert h;refine bS fun D b1 h=>?_;obtain ⟨b2,b3,gC,gV⟩:=n.de b1;have ar:=n.gd b2 b3 C;revert h;refine bS fun g0 b4 h=>?_;obtain ⟨b5,ca,g1,g2⟩:=ar.de b4;have a0:=ar.gd b5 ca D;apply ag _;apply ah hJ;obtain ⟨a2,E⟩:∃o,o=(cU (cU ab (c).toNat [.int .i64 C]) (s).toNat [.int .i64 D]):=⟨_,rfl⟩
 refine cN (F:=⟨ro,[(b,Obj.cells a2 3)]⟩) hJ (by rw[E];exact Le.refl _) ?_;rw[<-E] at a0;clear E;refine aE hJ fun g3=>?_;apply aM hJ _;revert h;refine bS fun cb h cd=>?_;refine gu hJ (fun a F'=>∃(H:Array Value) (I:Int) (K:(List Int)),some (Fl.bk (I,K):Fl (Int×(List Int)) (Int×(List Int)))=some cb/\F'=⟨ro,[(b,Obj.cells H 3)]⟩/\aZ rI ro 3 (.slice (some ⟨b,0,none⟩) u0.length c2) K [(b,Obj.cells H 3)]/\sz a=84/\a.defers=[]/\slot a 0= .slice (some ⟨b,0,none⟩) u0.length c2/\slot a 8= .int .i64 0/\slot a 9= .int .i64 I) ?_ ?_
 .apply aW hJ;revert h;refine bS fun cf t cl=>?_;refine b7 hJ (rg 29 54 [9,10]) (fun m a F'=>∃(d:Array Value) (u:Int) (i:Int) (g:(List Int)),bB (vL c) m (u,i,g)=some cf/\F'=⟨ro,[(b,Obj.cells d 3)]⟩/\aZ rI ro 3 (.slice (some ⟨b,0,none⟩) u0.length c2) g [(b,Obj.cells d 3)]/\slot a 9= .int .i64 u/\slot a 10= .int .i64 i) fu ?_ ?_
  .refine ⟨a2,(IntKind.i64.wrap (c+1)),(IntKind.i64.wrap (B - 1)),((u0.set (c).toNat C).set (s).toNat D),t,rfl,a0,?_⟩;simp only[*,go_sem]
  rintro L w F' a3 ⟨d,u,i,g,t,rfl,f,a4,a5⟩;obtain ⟨M,N,O⟩:=a3.pick [0,1,8] aO;simp only[*,go_sem] at M N O;clear a3 ad hd ae k1 al ao;obtain _|L:=L
  .exact absurd t (by simp only[bB,reduceCtorEq,not_false_eq_true])
  revert t;refine bS fun g4 h P=>?_;unfold vL at h;try dsimp only at h
  apply aW hJ;revert h;refine bS fun cy h c0=>?_;refine gu hJ (fun a F'=>∃(e:Int),some (Fl.bk e:Fl Int (Int×(List Int)))=some cy/\F'=⟨ro,[(b,Obj.cells d 3)]⟩/\sz a=84/\a.defers=[]/\cR (rg 29 54 [9,10]) a w/\slot a 0= .slice (some ⟨b,0,none⟩) u0.length c2/\slot a 1= .int .i64 c/\slot a 8= .int .i64 0/\slot a 9= .int .i64 e/\slot a 10= .int .i64 i) ?_ ?_
  .apply aW hJ;revert h;refine bS fun da x a6=>?_;refine b7 hJ (rg 29 17 [9]) (fun m a F'=>∃(j:Int),bB (vJ c i g) m j=some da/\F'=⟨ro,[(b,Obj.cells d 3)]⟩/\slot a 9= .int .i64 j) fu ?_ ?_
   .refine ⟨u,x,rfl,?_⟩;simp only[*,go_sem]
   rintro Q db F' R ⟨j,x,rfl,ha⟩;obtain ⟨dd,df,dk⟩:=R.pick [0,1,8,10] aO;simp only[*,go_sem] at dd df dk;have hc:cR (rg 29 54 [9,10]) db w:=(R.gq aO).trans aI;clear R M N O a4 a5;obtain _|Q:=Q
   .exact absurd x (by simp only[bB,reduceCtorEq,not_false_eq_true])
   revert x;refine bS fun hf h p=>?_;unfold vJ at h;(try dsimp only at h);refine ah hJ (ah hJ ?_);refine aE hJ fun hg=>?_;refine cM hJ mixed 15 1 aI ai ?_;revert h;refine cS (fun dp h=>?_) fun dp h=>?_
   .revert h;refine bS fun dq ds h=>?_;obtain ⟨hh,hi,hj,hk⟩:=f.de ds;revert h;refine bS fun dt du h=>?_;obtain ⟨hl,hn,ho,hp⟩:=f.de du;revert h;refine bS fun hq dv h=>?_;apply ag _;refine ⟨_,bD hJ fun F dC=>jG dq dt dv,bY ?_⟩;apply ag _;revert h;refine aX hJ (fun dE h=>?_) fun dE h=>?_
    .cases h;refine aK hJ (aW hJ ?_);refine aE hJ fun hr=>?_;apply aM hJ _;refine ⟨Q,Nat.lt_succ_self _,_,Le.sub (List.Sublist.refl _),(IntKind.i64.wrap (j+1)),p,rfl,?_⟩;simp only[*,go_sem]
    cases h;apply bT;simp only[go_sem];obtain rfl:=sI p;clear p;have h:=a6;dsimp only[aL] at h;apply ag _;refine Qn.intro ⟨_,Le.sub (List.Sublist.refl _),j,h,rfl,?_⟩;simp only[*,go_sem]
   cases h;apply ag _;refine cB hJ ?_;apply bT;simp only[go_sem];obtain rfl:=sI p;clear p;have h:=a6;dsimp only[aL] at h;refine Qn.intro ⟨_,Le.sub (List.Sublist.refl _),j,h,rfl,?_⟩;simp only[*,go_sem]
  rintro ht F' ⟨e,a7,rfl,a8,a9,hv,ba,bb,bc,bd,bj⟩;obtain rfl:=sI a7;clear a7;have h:=c0;dsimp only[aL] at h;clear M N O a4 a5;revert h;refine bS fun dT h ea=>?_;refine gu hJ (fun a F'=>∃(k:Int),some (Fl.bk k:Fl Int (Int×(List Int)))=some dT/\F'=⟨ro,[(b,Obj.cells d 3)]⟩/\sz a=84/\a.defers=[]/\cR (rg 29 54 [9,10]) a w/\slot a 0= .slice (some ⟨b,0,none⟩) u0.length c2/\slot a 1= .int .i64 c/\slot a 8= .int .i64 0/\slot a 9= .int .i64 e/\slot a 10= .int .i64 k) ?_ ?_
  .apply aW hJ;revert h;refine bS fun eb y bl=>?_;refine b7 hJ (rg 46 16 [10]) (fun m a F'=>∃(l:Int),bB (vK c g e) m l=some eb/\F'=⟨ro,[(b,Obj.cells d 3)]⟩/\slot a 10= .int .i64 l) fu ?_ ?_
   .refine ⟨i,y,rfl,?_⟩;simp only[*,go_sem]
   rintro S ec F' T ⟨l,y,rfl,hx⟩;obtain ⟨ed,eh,et⟩:=T.pick [0,1,8,9] aO;simp only[*,go_sem] at ed eh et;have hy:cR (rg 29 54 [9,10]) ec w:=(T.gq aO).trans aI;clear T a8 a9 ba bb bc bd bj;obtain _|S:=S
   .exact absurd y (by simp only[bB,reduceCtorEq,not_false_eq_true])
   revert y;refine bS fun hz h q=>?_;unfold vK at h;(try dsimp only at h);refine ah hJ (ah hJ ?_);refine aE hJ fun hA=>?_;refine cM hJ mixed 14 1 aI ai ?_;revert h;refine cS (fun ev h=>?_) fun ev h=>?_
   .revert h;refine bS fun eQ eS h=>?_;obtain ⟨hB,hD,hE,hF⟩:=f.de eS;revert h;refine bS fun e0 e1 h=>?_;obtain ⟨hG,hI,hK,hL⟩:=f.de e1;revert h;refine bS fun hM e2 h=>?_;apply ag _;refine ⟨_,bD hJ fun F dC=>jG eQ e0 e2,bY ?_⟩;apply ag _;revert h;refine aX hJ (fun e3 h=>?_) fun e3 h=>?_
    .cases h;refine aK hJ (aW hJ ?_);refine aE hJ fun hN=>?_;apply aM hJ _;refine ⟨S,Nat.lt_succ_self _,_,Le.sub (List.Sublist.refl _),(IntKind.i64.wrap (l - 1)),q,rfl,?_⟩;simp only[*,go_sem]
    cases h;apply bT;simp only[go_sem];obtain rfl:=sI q;clear q;have h:=bl;dsimp only[aL] at h;apply ag _;refine Qn.intro ⟨_,Le.sub (List.Sublist.refl _),l,h,rfl,?_⟩;simp only[*,go_sem]
   cases h;apply ag _;refine cB hJ ?_;apply bT;simp only[go_sem];obtain rfl:=sI q;clear q;have h:=bl;dsimp only[aL] at h;refine Qn.intro ⟨_,Le.sub (List.Sublist.refl _),l,h,rfl,?_⟩;simp only[*,go_sem]
  rintro hP F' ⟨k,bm,rfl,hQ,hR,hS,hT,hV,hX,hY,hZ⟩;obtain rfl:=sI bm;clear bm;have h:=ea;dsimp only[aL] at h;clear a8 a9 ba bb bc bd bj;refine ah hJ (ah hJ ?_);refine aE hJ fun h0=>?_;apply aM hJ _;revert h;refine aX hJ (fun fa h=>?_) fun fa h=>?_
  .cases h;apply bT;simp only[go_sem];obtain rfl:=sI P;clear P;have h:=cl;dsimp only[aL] at h;apply ag _;refine Qn.intro ⟨_,Le.sub (List.Sublist.refl _),d,e,g,h,rfl,f,?_⟩;simp only[*,go_sem]
  refine aK hJ (ah hJ ?_);refine aE hJ fun h1=>?_;refine e5 hJ mixed [13,14,15] (.pure 0 (.pure 1 (.pure 2 (.pure 3 (.pure 4 (.pure 5 (.pure 6 (.rd 7 (.pure 8 (.pure 9 (.pure 10 (.rd 11 (.pure 12 (.last 13 (.pure 14 (.last 15 .done)))))))))))))))) ⟨ro,[(b,Obj.cells d 3)]⟩ aI ai ?_;revert h;refine bS fun U fb h=>?_;obtain ⟨h2,h3,h4,h5⟩:=f.de fb;revert h;refine bS fun V fg h=>?_;obtain ⟨fi,fp,h6,h7⟩:=f.de fg;have bo:=f.gd fi fp U;revert h;refine bS fun h8 fr h=>?_;cases h;obtain ⟨fs,ft,h9,ib⟩:=bo.de fr;have br:=bo.gd fs ft V;apply ag _;apply ah hJ;obtain ⟨bs,W⟩:∃o,o=(cU (cU d (e).toNat [.int .i64 U]) (k).toNat [.int .i64 V]):=⟨_,rfl⟩
  refine cN (F:=⟨ro,[(b,Obj.cells bs 3)]⟩) hJ (by rw[W];exact Le.refl _) ?_;rw[<-W] at br;clear W;refine aE hJ fun ic=>?_;apply aM hJ _;refine aE hJ fun ih=>?_;apply aM hJ _;refine ⟨L,Nat.lt_succ_self _,_,Le.sub (List.Sublist.refl _),bs,(IntKind.i64.wrap (e+1)),(IntKind.i64.wrap (k - 1)),((g.set (e).toNat U).set (k).toNat V),P,rfl,br,?_⟩;simp only[*,go_sem]
 rintro ik F' ⟨H,I,K,bz,rfl,fv,il,im,iv,ix,jC⟩;obtain rfl:=sI bz;clear bz;have h:=cd;dsimp only[aL] at h;cases h;clear ad hd ae k1 al ao;apply ah hJ;refine aE hJ fun j1=>?_;apply aM hJ _;refine b9 ?_;exact ⟨_,fv,Le.sub (List.Sublist.refl _)⟩
def vN (u0:(List Int))(a:Int)(st:Int):Option (Fl Int (Bool×(List Int))):=
 cond (decide (st<a)) (aj (bH u0 st) fun b=>aj (bH u0 (IntKind.i64.wrap (st - 1))) fun c=>aj (iD b c) fun d=>cond (!d) (some (.nx (IntKind.i64.wrap (st+1)))) (some (.bk st))) (some (.bk st))
def vO (u0:(List Int))(b:Int)(a:Int)(st:(Bool×Int×Int)):Option (Fl (Bool×Int×Int) (Bool×(List Int))):=
 cond (decide (st.2.2<5)) (aj (aj (bB (vN u0 a) fu st.2.1) fun o=>aL o (fun c=>some (.bk c)) (fun _ _=>none) (fun r=>some (.rt r)):Option (Fl Int (Bool×(List Int)))) fun o=>aL o (fun d=>cond ((d==a)) (some (.rt (true,u0))) (cond (decide ((IntKind.i64.wrap (a - b))<50)) (some (.rt (false,u0))) (none))) (fun _ _=>none) (fun r=>some (.rt r))) (some (.bk (st.1,st.2.1,st.2.2)))
def vP (u0:(List Int))(a:Int)(b:Int):Option (Bool×(List Int)):=
 cond (List.isEmpty u0) none (aj (aj (bB (vO u0 a b) fu (false,(IntKind.i64.wrap (a+1)),0)) fun o=>aL o (fun c=>some (.bk c.1)) (fun _ _=>none) (fun r=>some (.rt r)):Option (Fl Bool (Bool×(List Int)))) fun o=>aL o (fun d=>some (false,u0)) (fun _ _=>none) (fun r=>some r))
theorem Fo {ro:Addr->Option Value}(u0:(List Int)){p:Value}{C:List (Nat×Obj)}(b:aZ rI ro 3 p u0 C)(f:Int)(g:Int){r:(Bool×(List Int))}(h:vP u0 f g=some r):aA Tryz.prog 201 #[p,.int .i64 f,.int .i64 g] ⟨ro,C⟩ (fun v G=>∃D,(v= .bool r.1/\aZ rI ro 3 p r.2 D)/\Le ⟨ro,D⟩ G):=by
 obtain ⟨d1,c2,rfl,a8⟩:=b.len;unfold vP at h;revert h;refine cS (fun E h=>?_) fun E h=>?_
 .cases h
 obtain ⟨c,k,rfl,rfl,a9⟩:=b.iy E;refine aA.go Tryz.func201 rfl Tryz.ntmps201 Tryz.results201 av fun main J hJ A H hd hs=>?_;have I:=hs 0;have k1:=hs 1;have K:=hs 2;clear hs;apply ah hJ;refine aE hJ fun ba=>?_;apply aM hJ _;apply ah hJ;refine aE hJ fun bb=>?_;apply aM hJ _;revert h;refine bS fun U h q=>?_;refine gu hJ (fun a F'=>∃(s:Bool),some (Fl.bk s:Fl Bool (Bool×(List Int)))=some U/\F'=⟨ro,[(c,Obj.cells k 3)]⟩/\sz a=133/\a.defers=[]/\slot a 0= .slice (some ⟨c,0,none⟩) u0.length c2/\slot a 6= .bool s) ?_ ?_
 .apply ah hJ;refine aE hJ fun bc=>?_;apply aM hJ _;apply aW hJ;revert h;refine bS fun V l t=>?_;refine b7 hJ (rg 13 120 [6,7,8,9,10]) (fun m a F'=>∃(i:Bool) (n:Int) (v20:Int),bB (vO u0 f g) m (i,n,v20)=some V/\F'=⟨ro,[(c,Obj.cells k 3)]⟩/\slot a 6= .bool i/\slot a 7= .int .i64 n/\slot a 8= .int .i64 v20) fu ?_ ?_
  .refine ⟨false,(IntKind.i64.wrap (f+1)),0,l,rfl,?_⟩;simp only[*,go_sem]
  rintro L M F' N ⟨i,n,v20,l,rfl,O,P,Q⟩;obtain ⟨u,w,x⟩:=N.pick [0,1,2] aO;simp only[*,go_sem] at u w x;clear N H hd I k1 K;obtain _|L:=L
  .exact absurd l (by simp only[bB,reduceCtorEq,not_false_eq_true])
  revert l;refine bS fun bd h d=>?_;unfold vO at h;try dsimp only at h
  refine ah hJ (ah hJ ?_);refine aE hJ fun bj=>?_;apply aM hJ _;revert h;refine aX hJ (fun W h=>?_) fun W h=>?_
  .refine aK hJ (ah hJ ?_);apply aW hJ;revert h;refine bS fun X h Y=>?_;refine gu hJ (fun a F'=>∃(y:Int),some (Fl.bk y:Fl Int (Bool×(List Int)))=some X/\F'=⟨ro,[(c,Obj.cells k 3)]⟩/\sz a=133/\a.defers=[]/\cR (rg 13 120 [6,7,8,9,10]) a M/\slot a 0= .slice (some ⟨c,0,none⟩) u0.length c2/\slot a 1= .int .i64 f/\slot a 2= .int .i64 g/\slot a 6= .bool i/\slot a 7= .int .i64 y/\slot a 8= .int .i64 v20) ?_ ?_
   .apply aW hJ;revert h;refine bS fun Z o R=>?_;refine b7 hJ (rg 17 18 [7]) (fun m a F'=>∃(e:Int),bB (vN u0 g) m e=some Z/\F'=⟨ro,[(c,Obj.cells k 3)]⟩/\slot a 7= .int .i64 e) fu ?_ ?_
    .refine ⟨n,o,rfl,?_⟩;simp only[*,go_sem]
    rintro z ab F' B ⟨e,o,rfl,bl⟩;obtain ⟨ad,ae,al⟩:=B.pick [0,1,2,6,8,13,14] aO;simp only[*,go_sem] at ad ae al;have bm:cR (rg 13 120 [6,7,8,9,10]) ab M:=(B.gq aO).trans aI;clear B u w x O P Q;obtain _|z:=z
    .exact absurd o (by simp only[bB,reduceCtorEq,not_false_eq_true])
    revert o;refine bS fun bo h j=>?_;unfold vN at h;(try dsimp only at h);refine ah hJ (ah hJ ?_);refine aE hJ fun br=>?_;refine cM hJ mixed 16 1 aI ai ?_;revert h;refine cS (fun ao h=>?_) fun ao h=>?_
    .revert h;refine bS fun ar a0 h=>?_;obtain ⟨bs,bz,b0,b1⟩:=b.de a0;revert h;refine bS fun a2 a3 h=>?_;obtain ⟨b2,b3,b4,b5⟩:=b.de a3;revert h;refine bS fun ca a4 h=>?_;apply ag _;refine ⟨_,bD hJ fun F cb=>jG ar a2 a4,bY ?_⟩;apply ag _;revert h;refine aX hJ (fun a5 h=>?_) fun a5 h=>?_
     .cases h;refine aK hJ (aW hJ ?_);refine aE hJ fun cd=>?_;apply aM hJ _;refine ⟨z,Nat.lt_succ_self _,_,Le.sub (List.Sublist.refl _),(IntKind.i64.wrap (e+1)),j,rfl,?_⟩;simp only[*,go_sem]
     cases h;apply bT;simp only[go_sem];obtain rfl:=sI j;clear j;have h:=R;dsimp only[aL] at h;apply ag _;refine Qn.intro ⟨_,Le.sub (List.Sublist.refl _),e,h,rfl,?_⟩;simp only[*,go_sem]
    cases h;apply ag _;refine cB hJ ?_;apply bT;simp only[go_sem];obtain rfl:=sI j;clear j;have h:=R;dsimp only[aL] at h;refine Qn.intro ⟨_,Le.sub (List.Sublist.refl _),e,h,rfl,?_⟩;simp only[*,go_sem]
   rintro cf F' ⟨y,S,rfl,cl,cy,c0,da,db,dd,df,dk,dp⟩;obtain rfl:=sI S;clear S;have h:=Y;dsimp only[aL] at h;clear u w x O P Q;refine ah hJ (ah hJ ?_);refine aE hJ fun dq=>?_;apply aM hJ _;revert h;refine aX hJ (fun a6 h=>?_) fun a6 h=>?_
   .cases h;apply ah hJ;refine aE hJ fun ds=>?_;apply aM hJ _;obtain rfl:=sI d;clear d;have h:=t;dsimp only[aL] at h;cases h;have h:=q;dsimp only[aL] at h;cases h;refine b9 ?_;exact ⟨_,b,Le.sub (List.Sublist.refl _)⟩
   refine aK hJ (ah hJ ?_);apply ah hJ;refine aE hJ fun dt=>?_;apply aM hJ _;revert h;refine aX hJ (fun a7 h=>?_) fun a7 h=>?_
   .cases h;apply ah hJ;refine aE hJ fun du=>?_;apply aM hJ _;obtain rfl:=sI d;clear d;have h:=t;dsimp only[aL] at h;cases h;have h:=q;dsimp only[aL] at h;cases h;refine b9 ?_;exact ⟨_,b,Le.sub (List.Sublist.refl _)⟩
   cases h
  cases h;apply bT;simp only[go_sem];obtain rfl:=sI d;clear d;have h:=t;dsimp only[aL] at h;apply ag _;refine Qn.intro ⟨_,Le.sub (List.Sublist.refl _),i,h,rfl,?_⟩;simp only[*,go_sem]
 rintro dv F' ⟨s,T,rfl,dC,dE,dT,ea⟩;obtain rfl:=sI T;clear T;have h:=q;dsimp only[aL] at h;cases h;clear H hd I k1 K;apply ah hJ;refine aE hJ fun eb=>?_;apply aM hJ _;refine b9 ?_;exact ⟨_,b,Le.sub (List.Sublist.refl _)⟩
def vQ (st:(Int×Int×Int×Bool×Bool×(List Int))):Option (Fl (Int×Int×Int×Bool×Bool×(List Int)) (Unit×(List Int))):=
 cond (decide ((IntKind.i64.wrap (st.2.1 - st.1))<=12)) (aj (rN st.2.2.2.2.2 st.1 st.2.1) fun j=>some (.rt ((),j.2))) (cond ((st.2.2.1==0)) (none) (aj (cond (!st.2.2.2.1) (aj (vC st.2.2.2.2.2 st.1 st.2.1) fun k=>some (.bk ((IntKind.i64.wrap (st.2.2.1 - 1)),k.2))) (some (.bk (st.2.2.1,st.2.2.2.2.2))):Option (Fl (Int×(List Int)) (Unit×(List Int)))) fun o=>aL o (fun c=>aj (vw c.2 st.1 st.2.1) fun b=>cond ((b.1.2==2)) (none) (aj (cond (st.2.2.2.1) (cond (st.2.2.2.2.1) (cond ((b.1.2==1)) (aj (vP b.2 st.1 st.2.1) fun f=>cond (f.1) (some (.rt ((),f.2))) (some (.bk f.2))) (some (.bk b.2))) (some (.bk b.2))) (some (.bk b.2)):Option (Fl (List Int) (Unit×(List Int)))) fun o=>aL o (fun e=>aj (cond (decide (0<st.1)) (aj (bH e (IntKind.i64.wrap (st.1 - 1))) fun l=>aj (bH e b.1.1) fun m=>aj (iD l m) fun n=>cond (!n) (aj (vM e st.1 st.2.1 b.1.1) fun g=>some (.br 1 (g.1,g.2))) (some (.bk (st.1,e)))) (some (.bk (st.1,e))):Option (Fl (Int×(List Int)) (Unit×(List Int)))) fun o=>aL o (fun d=>aj (vI d.2 d.1 st.2.1 b.1.1) fun a=>aj (eG (IntKind.i64.wrap (st.2.1 - st.1)) 8) fun h=>cond (decide ((IntKind.i64.wrap (a.1.1 - d.1))<(IntKind.i64.wrap (st.2.1 - a.1.1)))) (aj (rO a.2 d.1 a.1.1 c.1) fun p=>some (.nx ((IntKind.i64.wrap (a.1.1+1)),st.2.1,c.1,(decide (h<=(IntKind.i64.wrap (a.1.1 - d.1)))),a.1.2,p.2))) (aj (rO a.2 (IntKind.i64.wrap (a.1.1+1)) st.2.1 c.1) fun q=>some (.nx (d.1,a.1.1,c.1,(decide (h<=(IntKind.i64.wrap (st.2.1 - a.1.1)))),a.1.2,q.2)))) (fun _ i=>some (.nx (i.1,st.2.1,c.1,st.2.2.2.1,st.2.2.2.2.1,i.2))) (fun r=>some (.rt r))) (fun _ _=>none) (fun r=>some (.rt r)))) (fun _ _=>none) (fun r=>some (.rt r))))
def vR (u0:(List Int))(a:Int)(b:Int)(c:Int):Option (Unit×(List Int)):=
 cond (List.isEmpty u0) none (aj (bB (vQ) fu (a,b,c,true,true,u0)) fun o=>aL o (fun d=>some ((),d.2.2.2.2.2)) (fun _ _=>none) (fun r=>some r))
theorem Fp {ro:Addr->Option Value}(u0:(List Int)){H:Value}{T:List (Nat×Obj)}(I:aZ rI ro 3 H u0 T)(K:Int)(L:Int)(M:Int){r:(Unit×(List Int))}(h:vR u0 K L M=some r):aA Tryz.prog 168 #[H,.int .i64 K,.int .i64 L,.int .i64 M] ⟨ro,T⟩ (fun v G=>∃d,(v= .tuple #[]/\aZ rI ro 3 H r.2 d)/\Le ⟨ro,d⟩ G):=by
 obtain ⟨d1,c2,rfl,gV⟩:=I.len;unfold vR at h;revert h;refine cS (fun U h=>?_) fun U h=>?_
 .cases h
 obtain ⟨b,bd,rfl,rfl,g0⟩:=I.iy U;refine aA.go Tryz.func168 rfl Tryz.ntmps168 Tryz.results168 av fun main J hJ A bj hd hs=>?_;have bl:=hs 0;have k1:=hs 1;have bm:=hs 2;have bo:=hs 3;clear hs;apply ah hJ;refine aE hJ fun g1=>?_;apply aM hJ _;apply ah hJ;refine aE hJ fun g2=>?_;apply aM hJ _;apply aW hJ;revert h;refine bS fun br z V=>?_;refine b7 hJ (rg 8 126 [1,2,3]) (fun m a F'=>∃(B:Array Value) (e:Int) (c:Int) (t:Int) (l:Bool) (n:Bool) (q:(List Int)),bB (vQ) m (e,c,t,l,n,q)=some br/\F'=⟨ro,[(b,Obj.cells B 3)]⟩/\aZ rI ro 3 (.slice (some ⟨b,0,none⟩) u0.length c2) q [(b,Obj.cells B 3)]/\slot a 1= .int .i64 e/\slot a 2= .int .i64 c/\slot a 3= .int .i64 t/\slot a 8= .bool l/\slot a 9= .bool n) fu ?_ ?_
 .refine ⟨bd,K,L,M,true,true,u0,z,rfl,I,?_⟩;simp only[*,go_sem]
 rintro u N F' W ⟨B,e,c,t,l,n,q,z,rfl,O,bs,bz,b0,b1,b2⟩;obtain ⟨X,Y,Z⟩:=W.pick [0] aO;simp only[*,go_sem] at X Y Z;clear W bj hd bl k1 bm bo;obtain _|u:=u
 .exact absurd z (by simp only[bB,reduceCtorEq,not_false_eq_true])
 revert z;refine bS fun g3 h o=>?_;unfold vQ at h;try dsimp only at h
 refine aW hJ (ah hJ ?_);refine aE hJ fun g4=>?_;apply aM hJ _;refine ah hJ (ah hJ ?_);refine aE hJ fun ha=>?_;apply aM hJ _;revert h;refine aX hJ (fun b3 h=>?_) fun b3 h=>?_
 .apply ah hJ;refine aE hJ fun hc=>?_;apply aG hJ;revert h;refine bS fun hf b4 h=>?_;cases h;apply ag _;refine ei hJ [] [] _ (Ad q O e c b4) (fun hg hh f d g hi=>?_);obtain ⟨rfl,ab⟩:=f;obtain ⟨b5,rfl⟩:=ab.gL;simp only[bn] at g;subst d;refine ⟨⟨ro,[(b,Obj.cells b5 3)]⟩,Le.refl _,?_⟩;obtain rfl:=sI o;clear o;have h:=V;dsimp only[aL] at h;cases h;refine b9 ?_;exact ⟨_,ab,Le.sub (List.Sublist.refl _)⟩
 refine aK hJ (ah hJ ?_);apply ah hJ;refine aE hJ fun hj=>?_;apply aM hJ _;revert h;refine aX hJ (fun ca h=>?_) fun ca h=>?_
 .cases h
 apply aK hJ;revert h;refine bS fun cb h cd=>?_;refine gu hJ (fun a F'=>∃(P:Array Value) (i:Int) (C:(List Int)),some (Fl.bk (i,C):Fl (Int×(List Int)) (Unit×(List Int)))=some cb/\F'=⟨ro,[(b,Obj.cells P 3)]⟩/\aZ rI ro 3 (.slice (some ⟨b,0,none⟩) u0.length c2) C [(b,Obj.cells P 3)]/\sz a=134/\a.defers=[]/\cR (rg 8 126 [1,2,3]) a N/\slot a 0= .slice (some ⟨b,0,none⟩) u0.length c2/\slot a 1= .int .i64 e/\slot a 2= .int .i64 c/\slot a 3= .int .i64 i/\slot a 8= .bool l/\slot a 9= .bool n/\slot a 10= .int .i64 (IntKind.i64.wrap (c - e))) ?_ ?_
 .apply ah hJ;refine aE hJ fun hk=>?_;apply aM hJ _;revert h;refine aX hJ (fun cf h=>?_) fun cf h=>?_
  .apply ah hJ;refine aE hJ fun hl=>?_;apply aG hJ;revert h;refine bS fun cl cy h=>?_;apply ag _;refine ei hJ [] [] _ (Fh q O e c cy) (fun hn ho f d g hp=>?_);obtain ⟨rfl,ad⟩:=f;obtain ⟨ae,rfl⟩:=ad.gL;simp only[bn] at g;subst d;refine ⟨⟨ro,[(b,Obj.cells ae 3)]⟩,Le.refl _,?_⟩;refine aE hJ fun hq=>?_;apply aM hJ _;refine Qn.intro ⟨_,Le.sub (List.Sublist.refl _),ae,(IntKind.i64.wrap (t - 1)),cl.2,h,rfl,ad,?_⟩;simp only[*,go_sem]
  apply mS hJ _;refine Qn.intro ⟨_,Le.sub (List.Sublist.refl _),B,t,q,h,rfl,O,?_⟩;simp only[*,go_sem]
 rintro hr F' ⟨P,i,C,al,rfl,c0,da,db,ht,dd,df,dk,dp,dq,ds,dt⟩;obtain rfl:=sI al;clear al;have h:=cd;dsimp only[aL] at h;clear X Y Z bs bz b0 b1 b2;apply ah hJ;refine aE hJ fun hv=>?_;apply aG hJ;revert h;refine bS fun k du h=>?_;apply ag _;refine ei hJ [] [] _ (E5 C c0 e c du) (fun hx hy f d g hz=>?_);obtain ⟨rfl,w⟩:=f;obtain ⟨D,rfl⟩:=w.gL;simp only[bn] at g;subst d;refine ⟨⟨ro,[(b,Obj.cells D 3)]⟩,Le.refl _,?_⟩;apply aP;apply ag _;refine ah hJ (ah hJ ?_);refine aE hJ fun hA=>?_;apply aM hJ _;revert h;refine aX hJ (fun dv h=>?_) fun dv h=>?_
 .cases h
 apply aK hJ;revert h;refine bS fun dC h ao=>?_;refine gu hJ (fun a F'=>∃(x:Array Value) (s:(List Int)),some (Fl.bk s:Fl (List Int) (Unit×(List Int)))=some dC/\F'=⟨ro,[(b,Obj.cells x 3)]⟩/\aZ rI ro 3 (.slice (some ⟨b,0,none⟩) u0.length c2) s [(b,Obj.cells x 3)]/\sz a=134/\a.defers=[]/\cR (rg 8 126 [1,2,3]) a N/\slot a 0= .slice (some ⟨b,0,none⟩) u0.length c2/\slot a 1= .int .i64 e/\slot a 2= .int .i64 c/\slot a 3= .int .i64 i/\slot a 8= .bool l/\slot a 9= .bool n/\slot a 10= .int .i64 (IntKind.i64.wrap (c - e))/\slot a 11= .int .i64 k.1.1) ?_ ?_
 .apply ah hJ;refine aE hJ fun hB=>?_;apply aG hJ;revert h;refine cS (fun dE h=>?_) fun dE h=>?_
  .revert h;refine cS (fun dT h=>?_) fun dT h=>?_
   .apply ag _;revert h;refine aX hJ (fun ea h=>?_) fun ea h=>?_
    .apply ah hJ;refine aE hJ fun hD=>?_;apply aG hJ;revert h;refine bS fun eb ec h=>?_;apply ag _;refine ei hJ [] [] _ (Fo k.2 w e c ec) (fun hE hF f d g hG=>?_);obtain ⟨rfl,Q⟩:=f;obtain ⟨ar,rfl⟩:=Q.gL;simp only[bn] at g;subst d;refine ⟨⟨ro,[(b,Obj.cells ar 3)]⟩,Le.refl _,?_⟩;revert h;refine aX hJ (fun ed h=>?_) fun ed h=>?_
     .cases h;have h:=ao;dsimp only[aL] at h;cases h;obtain rfl:=sI o;clear o;have h:=V;dsimp only[aL] at h;cases h;refine b9 ?_;exact ⟨_,Q,Le.sub (List.Sublist.refl _)⟩
     apply mS hJ _;refine Qn.intro ⟨_,Le.sub (List.Sublist.refl _),ar,eb.2,h,rfl,Q,?_⟩;simp only[*,go_sem]
    apply mS hJ _;refine Qn.intro ⟨_,Le.sub (List.Sublist.refl _),D,k.2,h,rfl,w,?_⟩;simp only[*,go_sem]
   apply ag _;refine cB hJ ?_;apply aK hJ;refine Qn.intro ⟨_,Le.sub (List.Sublist.refl _),D,k.2,h,rfl,w,?_⟩;simp only[*,go_sem]
  apply ag _;refine cB hJ ?_;apply aK hJ;refine Qn.intro ⟨_,Le.sub (List.Sublist.refl _),D,k.2,h,rfl,w,?_⟩;simp only[*,go_sem]
 rintro hI F' ⟨x,s,a0,rfl,y,eh,et,hK,ev,eQ,eS,e0,e1,e2,e3,fa⟩;obtain rfl:=sI a0;clear a0;have h:=ao;dsimp only[aL] at h;clear da db dd df dk dp dq ds dt;revert h;refine bS fun fb h a2=>?_;refine gu hJ (fun a F'=>∃(R:Array Value) (p:Int) (E:(List Int)),some (Fl.bk (p,E):Fl (Int×(List Int)) (Unit×(List Int)))=some fb/\F'=⟨ro,[(b,Obj.cells R 3)]⟩/\aZ rI ro 3 (.slice (some ⟨b,0,none⟩) u0.length c2) E [(b,Obj.cells R 3)]/\sz a=134/\a.defers=[]/\cR (rg 8 126 [1,2,3]) a N/\slot a 0= .slice (some ⟨b,0,none⟩) u0.length c2/\slot a 1= .int .i64 p/\slot a 2= .int .i64 c/\slot a 3= .int .i64 i/\slot a 8= .bool l/\slot a 9= .bool n/\slot a 10= .int .i64 (IntKind.i64.wrap (c - e))/\slot a 11= .int .i64 k.1.1) ?_ ?_
 .apply ah hJ;refine aE hJ fun hL=>?_;refine cM hJ mixed 15 1 aI ai ?_;revert h;refine cS (fun fg h=>?_) fun fg h=>?_
  .revert h;refine bS fun fi fp h=>?_;obtain ⟨hM,hN,hP,hQ⟩:=y.de fp;revert h;refine bS fun fr fs h=>?_;obtain ⟨hR,hS,hT,hV⟩:=y.de fs;revert h;refine bS fun hX ft h=>?_;apply ag _;refine ⟨_,bD hJ fun F hY=>jG fi fr ft,bY ?_⟩;apply ag _;revert h;refine aX hJ (fun fv h=>?_) fun fv h=>?_
   .apply ah hJ;refine aE hJ fun hZ=>?_;apply aG hJ;revert h;refine bS fun a3 fw h=>?_;cases h;apply ag _;refine ei hJ [] [] _ (Fj s y e c k.1.1 fw) (fun h0 h1 f d g h2=>?_);obtain ⟨rfl,a4⟩:=f;obtain ⟨a5,rfl⟩:=a4.gL;simp only[bn] at g;subst d;refine ⟨⟨ro,[(b,Obj.cells a5 3)]⟩,Le.refl _,?_⟩;apply aP;apply ag _;apply ah hJ;refine aE hJ fun h3=>?_;apply aM hJ _;apply bT;simp only[go_sem];have h:=a2;dsimp only[aL] at h;cases h;apply ag _;refine ⟨u,Nat.lt_succ_self _,_,Le.sub (List.Sublist.refl _),a5,a3.1,c,i,l,n,a3.2,o,rfl,a4,?_⟩;simp only[*,go_sem]
   apply mS hJ _;refine Qn.intro ⟨_,Le.sub (List.Sublist.refl _),x,e,s,h,rfl,y,?_⟩;simp only[*,go_sem]
  apply ag _;refine cB hJ ?_;apply aK hJ;refine Qn.intro ⟨_,Le.sub (List.Sublist.refl _),x,e,s,h,rfl,y,?_⟩;simp only[*,go_sem]
 rintro h4 F' ⟨R,p,E,a6,rfl,fx,h5,h6,h7,h8,h9,ib,ic,ih,ik,il,im⟩;obtain rfl:=sI a6;clear a6;have h:=a2;dsimp only[aL] at h;clear eh et ev eQ eS e0 e1 e2 e3 fa;apply ah hJ;refine aE hJ fun iv=>?_;apply aG hJ;revert h;refine bS fun j fz h=>?_;apply ag _;refine ei hJ [] [] _ (Fi E fx p c k.1.1 fz) (fun ix jC f d g j1=>?_);obtain ⟨rfl,S⟩:=f;obtain ⟨gg,rfl⟩:=S.gL;simp only[bn] at g;subst d;refine ⟨⟨ro,[(b,Obj.cells gg 3)]⟩,Le.refl _,?_⟩;apply aP;apply ag _;apply ah hJ;refine aE hJ fun j2=>?_;apply aM hJ _;apply ah hJ;refine aE hJ fun kh=>?_;apply aM hJ _;apply ah hJ;refine aE hJ fun kj=>?_;apply aG hJ;revert h;refine bS fun a7 a8 h=>?_;obtain ⟨kk,kl⟩:=gZ a8;clear a8;apply ag _;apply ah hJ;refine aE hJ fun km=>?_;apply aM hJ _;revert h;refine aX hJ (fun gl h=>?_) fun gl h=>?_
 .apply ah hJ;refine aE hJ fun kn=>?_;apply aM hJ _;apply ah hJ;refine aE hJ fun kp=>?_;apply aG hJ;revert h;refine bS fun gn gp h=>?_;cases h;apply ag _;refine ei hJ [] [] _ (Ae j.2 S p j.1.1 i gp) (fun ks kt f d g kv=>?_);obtain ⟨rfl,a9⟩:=f;obtain ⟨ba,rfl⟩:=a9.gL;simp only[bn] at g;subst d;refine ⟨⟨ro,[(b,Obj.cells ba 3)]⟩,Le.refl _,?_⟩;refine aE hJ fun kx=>?_;apply aM hJ _;refine ⟨u,Nat.lt_succ_self _,_,Le.sub (List.Sublist.refl _),ba,(IntKind.i64.wrap (j.1.1+1)),c,i,(decide (a7<=(IntKind.i64.wrap (j.1.1 - p)))),j.1.2,gn.2,o,rfl,a9,?_⟩;simp only[*,go_sem]
 apply ah hJ;refine aE hJ fun ky=>?_;apply aM hJ _;apply ah hJ;refine aE hJ fun k0=>?_;apply aG hJ;revert h;refine bS fun gB gC h=>?_;cases h;apply ag _;refine ei hJ [] [] _ (Ae j.2 S (IntKind.i64.wrap (j.1.1+1)) c i gC) (fun k2 lb f d g lh=>?_);obtain ⟨rfl,bb⟩:=f;obtain ⟨bc,rfl⟩:=bb.gL;simp only[bn] at g;subst d;refine ⟨⟨ro,[(b,Obj.cells bc 3)]⟩,Le.refl _,?_⟩;refine aE hJ fun lj=>?_;apply aM hJ _;refine ⟨u,Nat.lt_succ_self _,_,Le.sub (List.Sublist.refl _),bc,p,j.1.1,i,(decide (a7<=(IntKind.i64.wrap (c - j.1.1)))),j.1.2,gB.2,o,rfl,bb,?_⟩;simp only[*,go_sem]
def vS (u0:(List Int)):Option (Unit×(List Int)):=
 cond (List.isEmpty u0) none (aj (rP (IntKind.u64.wrap (u0.length:Int))) fun a=>aj (vR u0 0 (u0.length:Int) a) fun b=>some ((),b.2))
theorem Fq {ro:Addr->Option Value}(u0:(List Int)){b:Value}{d:List (Nat×Obj)}(c:aZ rI ro 3 b u0 d){r:(Unit×(List Int))}(h:vS u0=some r):aA Tryz.prog 140 #[b] ⟨ro,d⟩ (fun v G=>∃a,(v= .tuple #[]/\aZ rI ro 3 b r.2 a)/\Le ⟨ro,a⟩ G):=by
 obtain ⟨d1,c2,rfl,o⟩:=c.len;unfold vS at h;revert h;refine cS (fun e h=>?_) fun e h=>?_
 .cases h
 obtain ⟨g,p,rfl,rfl,q⟩:=c.iy e;refine aA.go Tryz.func140 rfl Tryz.ntmps140 Tryz.results140 av fun main J hJ A s hd hs=>?_;have t:=hs 0;clear hs;apply ah hJ;refine aE hJ fun u=>?_;apply aG hJ;apply bu _;refine aE hJ fun w=>?_;apply aG hJ;revert h;refine bS fun i j h=>?_;apply bu _;refine bf hJ _ (Af (IntKind.u64.wrap (u0.length:Int)) j) (aP ?_);revert h;refine bS fun x k h=>?_;apply bu _;refine ei hJ [] [] _ (Fp u0 c 0 (u0.length:Int) i k) (fun y z l a m B=>?_);obtain ⟨rfl,f⟩:=l;obtain ⟨n,rfl⟩:=f.gL;simp only[bn] at m;subst a;refine ⟨⟨ro,[(g,Obj.cells n 3)]⟩,Le.refl _,?_⟩;cases h;apply ag _;exact ⟨_,f,Le.sub (List.Sublist.refl _)⟩
end Go.Proofs.YtdgblangfefjmaaGreatDoor
end

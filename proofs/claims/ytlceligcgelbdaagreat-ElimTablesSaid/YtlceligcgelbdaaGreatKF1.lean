/- Filings; sums; how great things are; what is the same, walked. -/
import Derived.WalkKit
import Derived.Orders
import Derived.Test.YtlceligcgelbdaaGreatKD4
set_option linter.unusedVariables false
set_option linter.unusedSimpArgs false
set_option maxRecDepth 100000
set_option maxHeartbeats 1000000
namespace Go.Proofs.YtlceligcgelbdaaGreat
open Go.CE Go.RowKit
structure qZ where
 n:Bool
 nm:List UInt32
 d:Bool
 dm:List UInt32
def S5:RT qZ:=fun z cs a=>∃ c0 c1,cs=[.v (.bool a.n),c0,.v (.bool a.d),c1]∧CZ 1 RW z c0 a.nm∧CZ 1 RW z c1 a.dm
theorem Dp {z:dA} {a:qZ} {c0 c1:C} (g0:CZ 1 RW z c0 a.nm) (g1:CZ 1 RW z c1 a.dm):S5 z [.v (.bool a.n),c0,.v (.bool a.d),c1] a:=⟨c0,c1,rfl,g0,g1⟩
instance:RMono S5:=⟨fun hz ⟨c0,c1,h,g0,g1⟩=>⟨c0,c1,h,g0.mono hz,g1.mono hz⟩⟩
structure aSI where
 frm:qZ
 rate:qZ
def tI:RT aSI:=fun z cs a=>∃ c0 c1 c2 c3,cs=[.v (.bool a.frm.n),c0,.v (.bool a.frm.d),c1,.v (.bool a.rate.n),c2,.v (.bool a.rate.d),c3]∧CZ 1 RW z c0 a.frm.nm∧CZ 1 RW z c1 a.frm.dm∧CZ 1 RW z c2 a.rate.nm∧CZ 1 RW z c3 a.rate.dm
theorem aZn {z:dA} {a:aSI} {c0 c1 c2 c3:C} (g0:CZ 1 RW z c0 a.frm.nm) (g1:CZ 1 RW z c1 a.frm.dm) (g2:CZ 1 RW z c2 a.rate.nm) (g3:CZ 1 RW z c3 a.rate.dm):tI z [.v (.bool a.frm.n),c0,.v (.bool a.frm.d),c1,.v (.bool a.rate.n),c2,.v (.bool a.rate.d),c3] a:=⟨c0,c1,c2,c3,rfl,g0,g1,g2,g3⟩
instance:RMono tI:=⟨fun hz ⟨c0,c1,c2,c3,h,g0,g1,g2,g3⟩=>⟨c0,c1,c2,c3,h,g0.mono hz,g1.mono hz,g2.mono hz,g3.mono hz⟩⟩
structure nN where
 name:ByteArray
 kind:Int
 arg:qZ
def vR:RT nN:=fun z cs a=>∃ c0 c1,cs=[.v (.string a.name),.v (.int .u8 a.kind),.v (.bool a.arg.n),c0,.v (.bool a.arg.d),c1]∧CZ 1 RW z c0 a.arg.nm∧CZ 1 RW z c1 a.arg.dm
theorem bIm {z:dA} {a:nN} {c0 c1:C} (g0:CZ 1 RW z c0 a.arg.nm) (g1:CZ 1 RW z c1 a.arg.dm):vR z [.v (.string a.name),.v (.int .u8 a.kind),.v (.bool a.arg.n),c0,.v (.bool a.arg.d),c1] a:=⟨c0,c1,rfl,g0,g1⟩
instance:RMono vR:=⟨fun hz ⟨c0,c1,h,g0,g1⟩=>⟨c0,c1,h,g0.mono hz,g1.mono hz⟩⟩
structure bHC where
 owner:ByteArray
 owned:ByteArray
 share:qZ
def aMF:RT bHC:=fun z cs a=>∃ c0 c1,cs=[.v (.string a.owner),.v (.string a.owned),.v (.bool a.share.n),c0,.v (.bool a.share.d),c1]∧CZ 1 RW z c0 a.share.nm∧CZ 1 RW z c1 a.share.dm
theorem bK0 {z:dA} {a:bHC} {c0 c1:C} (g0:CZ 1 RW z c0 a.share.nm) (g1:CZ 1 RW z c1 a.share.dm):aMF z [.v (.string a.owner),.v (.string a.owned),.v (.bool a.share.n),c0,.v (.bool a.share.d),c1] a:=⟨c0,c1,rfl,g0,g1⟩
instance:RMono aMF:=⟨fun hz ⟨c0,c1,h,g0,g1⟩=>⟨c0,c1,h,g0.mono hz,g1.mono hz⟩⟩
structure Nv where
 entity:ByteArray
 cls:ByteArray
 amount:qZ
def aMb:RT Nv:=fun z cs a=>∃ c0 c1,cs=[.v (.string a.entity),.v (.string a.cls),.v (.bool a.amount.n),c0,.v (.bool a.amount.d),c1]∧CZ 1 RW z c0 a.amount.nm∧CZ 1 RW z c1 a.amount.dm
theorem bKr {z:dA} {a:Nv} {c0 c1:C} (g0:CZ 1 RW z c0 a.amount.nm) (g1:CZ 1 RW z c1 a.amount.dm):aMb z [.v (.string a.entity),.v (.string a.cls),.v (.bool a.amount.n),c0,.v (.bool a.amount.d),c1] a:=⟨c0,c1,rfl,g0,g1⟩
instance:RMono aMb:=⟨fun hz ⟨c0,c1,h,g0,g1⟩=>⟨c0,c1,h,g0.mono hz,g1.mono hz⟩⟩
structure lL where
 give:Bool
 id:ByteArray
 kind:Int
 payee:ByteArray
 payer:ByteArray
 cls:ByteArray
 amount:qZ
def aGn:RT lL:=fun z cs a=>∃ c0 c1,cs=[.v (.bool a.give),.v (.string a.id),.v (.int .u8 a.kind),.v (.string a.payee),.v (.string a.payer),.v (.string a.cls),.v (.bool a.amount.n),c0,.v (.bool a.amount.d),c1]∧CZ 1 RW z c0 a.amount.nm∧CZ 1 RW z c1 a.amount.dm
theorem bJY {z:dA} {a:lL} {c0 c1:C} (g0:CZ 1 RW z c0 a.amount.nm) (g1:CZ 1 RW z c1 a.amount.dm):aGn z [.v (.bool a.give),.v (.string a.id),.v (.int .u8 a.kind),.v (.string a.payee),.v (.string a.payer),.v (.string a.cls),.v (.bool a.amount.n),c0,.v (.bool a.amount.d),c1] a:=⟨c0,c1,rfl,g0,g1⟩
instance:RMono aGn:=⟨fun hz ⟨c0,c1,h,g0,g1⟩=>⟨c0,c1,h,g0.mono hz,g1.mono hz⟩⟩
structure aZf where
 id:ByteArray
 margin:qZ
 unsold:qZ
def aDq:RT aZf:=fun z cs a=>∃ c0 c1 c2 c3,cs=[.v (.string a.id),.v (.bool a.margin.n),c0,.v (.bool a.margin.d),c1,.v (.bool a.unsold.n),c2,.v (.bool a.unsold.d),c3]∧CZ 1 RW z c0 a.margin.nm∧CZ 1 RW z c1 a.margin.dm∧CZ 1 RW z c2 a.unsold.nm∧CZ 1 RW z c3 a.unsold.dm
theorem bFO {z:dA} {a:aZf} {c0 c1 c2 c3:C} (g0:CZ 1 RW z c0 a.margin.nm) (g1:CZ 1 RW z c1 a.margin.dm) (g2:CZ 1 RW z c2 a.unsold.nm) (g3:CZ 1 RW z c3 a.unsold.dm):aDq z [.v (.string a.id),.v (.bool a.margin.n),c0,.v (.bool a.margin.d),c1,.v (.bool a.unsold.n),c2,.v (.bool a.unsold.d),c3] a:=⟨c0,c1,c2,c3,rfl,g0,g1,g2,g3⟩
instance:RMono aDq:=⟨fun hz ⟨c0,c1,c2,c3,h,g0,g1,g2,g3⟩=>⟨c0,c1,c2,c3,h,g0.mono hz,g1.mono hz,g2.mono hz,g3.mono hz⟩⟩
structure bE3 where
 id:ByteArray
 share:qZ
def aLV:RT bE3:=fun z cs a=>∃ c0 c1,cs=[.v (.string a.id),.v (.bool a.share.n),c0,.v (.bool a.share.d),c1]∧CZ 1 RW z c0 a.share.nm∧CZ 1 RW z c1 a.share.dm
theorem bLe {z:dA} {a:bE3} {c0 c1:C} (g0:CZ 1 RW z c0 a.share.nm) (g1:CZ 1 RW z c1 a.share.dm):aLV z [.v (.string a.id),.v (.bool a.share.n),c0,.v (.bool a.share.d),c1] a:=⟨c0,c1,rfl,g0,g1⟩
instance:RMono aLV:=⟨fun hz ⟨c0,c1,h,g0,g1⟩=>⟨c0,c1,h,g0.mono hz,g1.mono hz⟩⟩
structure aGA where
 number:Int
 holds:List bHC
 books:List Nv
 deals:List lL
 stocks:List aZf
 solds:List bE3
def Gk:RT aGA:=fun z cs a=>∃ c0 c1 c2 c3 c4,cs=[.v (.int .i64 a.number),c0,c1,c2,c3,c4]∧CZ 6 aMF z c0 a.holds∧CZ 6 aMb z c1 a.books∧CZ 10 aGn z c2 a.deals∧CZ 9 aDq z c3 a.stocks∧CZ 5 aLV z c4 a.solds
theorem aWh {z:dA} {a:aGA} {c0 c1 c2 c3 c4:C} (g0:CZ 6 aMF z c0 a.holds) (g1:CZ 6 aMb z c1 a.books) (g2:CZ 10 aGn z c2 a.deals) (g3:CZ 9 aDq z c3 a.stocks) (g4:CZ 5 aLV z c4 a.solds):Gk z [.v (.int .i64 a.number),c0,c1,c2,c3,c4] a:=⟨c0,c1,c2,c3,c4,rfl,g0,g1,g2,g3,g4⟩
instance:RMono Gk:=⟨fun hz ⟨c0,c1,c2,c3,c4,h,g0,g1,g2,g3,g4⟩=>⟨c0,c1,c2,c3,c4,h,g0.mono hz,g1.mono hz,g2.mono hz,g3.mono hz,g4.mono hz⟩⟩
structure oK where
 name:ByteArray
 parent:ByteArray
 brackets:List aSI
 threshold:qZ
 cap:qZ
 back:Int
 forward:Int
 interest:qZ
 floor:qZ
 keep:Int
 classes:List nN
 entities:List ByteArray
 years:List aGA
abbrev kF (a:oK) (c0 c1 c2 c3 c4 c5 c6 c7 c8 c9 c10 c11:C):List C:=[.v (.string a.name),.v (.string a.parent),c0,.v (.bool a.threshold.n),c1,.v (.bool a.threshold.d),c2,.v (.bool a.cap.n),c3,.v (.bool a.cap.d),c4,.v (.int .i64 a.back),.v (.int .i64 a.forward),.v (.bool a.interest.n),c5,.v (.bool a.interest.d),c6,.v (.bool a.floor.n),c7,.v (.bool a.floor.d),c8,.v (.int .i64 a.keep),c9,c10,c11]
abbrev kR (a:qZ) (c0 c1:C):List C:=[.v (.bool a.n),c0,.v (.bool a.d),c1]
def Pm:RT oK:=fun z cs a=>∃ c0 c1 c2 c3 c4 c5 c6 c7 c8 c9 c10 c11,cs=[.v (.string a.name),.v (.string a.parent),c0,.v (.bool a.threshold.n),c1,.v (.bool a.threshold.d),c2,.v (.bool a.cap.n),c3,.v (.bool a.cap.d),c4,.v (.int .i64 a.back),.v (.int .i64 a.forward),.v (.bool a.interest.n),c5,.v (.bool a.interest.d),c6,.v (.bool a.floor.n),c7,.v (.bool a.floor.d),c8,.v (.int .i64 a.keep),c9,c10,c11]∧CZ 8 tI z c0 a.brackets∧CZ 1 RW z c1 a.threshold.nm∧CZ 1 RW z c2 a.threshold.dm∧CZ 1 RW z c3 a.cap.nm∧CZ 1 RW z c4 a.cap.dm∧CZ 1 RW z c5 a.interest.nm∧CZ 1 RW z c6 a.interest.dm∧CZ 1 RW z c7 a.floor.nm∧CZ 1 RW z c8 a.floor.dm∧CZ 6 vR z c9 a.classes∧CZ 1 RS z c10 a.entities∧CZ 6 Gk z c11 a.years
theorem V2 {z:dA} {a:oK} {c0 c1 c2 c3 c4 c5 c6 c7 c8 c9 c10 c11:C} (g0:CZ 8 tI z c0 a.brackets) (g1:CZ 1 RW z c1 a.threshold.nm) (g2:CZ 1 RW z c2 a.threshold.dm) (g3:CZ 1 RW z c3 a.cap.nm) (g4:CZ 1 RW z c4 a.cap.dm) (g5:CZ 1 RW z c5 a.interest.nm) (g6:CZ 1 RW z c6 a.interest.dm) (g7:CZ 1 RW z c7 a.floor.nm) (g8:CZ 1 RW z c8 a.floor.dm) (g9:CZ 6 vR z c9 a.classes) (g10:CZ 1 RS z c10 a.entities) (g11:CZ 6 Gk z c11 a.years):Pm z [.v (.string a.name),.v (.string a.parent),c0,.v (.bool a.threshold.n),c1,.v (.bool a.threshold.d),c2,.v (.bool a.cap.n),c3,.v (.bool a.cap.d),c4,.v (.int .i64 a.back),.v (.int .i64 a.forward),.v (.bool a.interest.n),c5,.v (.bool a.interest.d),c6,.v (.bool a.floor.n),c7,.v (.bool a.floor.d),c8,.v (.int .i64 a.keep),c9,c10,c11] a:=⟨c0,c1,c2,c3,c4,c5,c6,c7,c8,c9,c10,c11,rfl,g0,g1,g2,g3,g4,g5,g6,g7,g8,g9,g10,g11⟩
open Go.CE Go.RowKit
abbrev AZ {α:Type} (R:RT α) (z:dA) (v:AV) (a:α):Prop:=∃ cs,v=.agg cs∧R z cs a
theorem pE {α:Type} {l:List α} {i:Nat} (h:i<l.length):∃ a,l[i]? = some a:=⟨_,List.getElem?_eq_getElem h⟩
theorem aAI (a b:ByteArray):pS .eql (.string a) (.string b)=some (.bool (decide (a=b))):=by
 show some (Value.bool (J6 a.data.toList b.data.toList))=_
 rw [D5]
 congr 2
 rw [Bool.eq_iff_iff]
 simp only [beq_iff_eq,decide_eq_true_eq]
 constructor
 ·intro h
  apply ByteArray.ext
  exact Array.ext' h
 intro h;rw [h]
theorem bGL (a b:ByteArray):pS .neq (.string a) (.string b)=some (.bool (!decide (a=b))):=by
 have:=aAI a b
 simp only [pS,bOF,Option.some.injEq,Value.bool.injEq] at this ⊢
 rw [this]
abbrev Sm (x:qZ):Prop:=x.nm.length≤6∧x.dm.length≤6
structure SmY (y:aGA):Prop where
 l0:y.holds.length≤40
 l1:y.books.length≤40
 l2:y.deals.length≤40
 l3:y.stocks.length≤40
 l4:y.solds.length≤40
 r0:∀ a,a∈y.holds→Sm a.share
 r1:∀ a,a∈y.books→Sm a.amount
 r2:∀ a,a∈y.deals→Sm a.amount
 r3:∀ a,a∈y.stocks→Sm a.margin
 r3':∀ a,a∈y.stocks→Sm a.unsold
 r4:∀ a,a∈y.solds→Sm a.share
structure SmF (f:oK):Prop where
 l0:f.brackets.length≤20
 l1:f.classes.length≤70
 l2:f.entities.length≤260
 l3:f.years.length≤45
 t:Sm f.threshold
 c:Sm f.cap
 i:Sm f.interest
 g:Sm f.floor
 r0:∀ a,a∈f.brackets→Sm a.frm
 r0':∀ a,a∈f.brackets→Sm a.rate
 r1:∀ a,a∈f.classes→Sm a.arg
 y:∀ a,a∈f.years→SmY a
theorem Ei {α:Type} {l:List α} {i:Nat} {a:α} (h:l[i]? = some a):l.take i++[a]=l.take (i+1):=by
 rw [List.take_add_one,h];rfl
theorem uD {α:Type} {l:List α} {i:Nat} (h:l.length≤i):l.take i=l:=List.take_of_length_le h
theorem Gp {α:Type} {L:List α} {i:Nat} {a0:α} {P:α→Prop} (ha:L[i]? = some a0) (h1:∀ a,a∈L.take i→P a) (h2:P a0):∀ a,a∈L.take (i+1)→P a:=by
  rw [← Ei ha]
  intro a h
  rcases List.mem_append.1 h with h | h
  · exact h1 a h
  · have : a = a0 := by simpa using h
    subst this;exact h2
structure LnY (y:aGA):Prop where
 l0:y.holds.length≤40
 l1:y.books.length≤40
 l2:y.deals.length≤40
 l3:y.stocks.length≤40
 l4:y.solds.length≤40
structure LnF (f:oK):Prop where
 l0:f.brackets.length≤20
 l1:f.classes.length≤70
 l2:f.entities.length≤260
 l3:f.years.length≤45
 y:∀ a,a∈f.years→LnY a
structure InY (y:aGA) (l:List qZ):Prop where
 r0:∀ a,a∈y.holds→a.share∈l
 r1:∀ a,a∈y.books→a.amount∈l
 r2:∀ a,a∈y.deals→a.amount∈l
 r3:∀ a,a∈y.stocks→a.margin∈l∧a.unsold∈l
 r4:∀ a,a∈y.solds→a.share∈l
theorem InY.mono {y:aGA} {l l':List qZ} (h:InY y l) (g:∀ r,r∈l→r∈l'):InY y l':=
 ⟨fun a ha=>g _ (h.r0 a ha),fun a ha=>g _ (h.r1 a ha),fun a ha=>g _ (h.r2 a ha),fun a ha=>⟨g _ (h.r3 a ha).1,g _ (h.r3 a ha).2⟩,fun a ha=>g _ (h.r4 a ha)⟩
structure InF (f:oK) (l:List qZ):Prop where
 t:f.threshold∈l
 c:f.cap∈l
 i:f.interest∈l
 g:f.floor∈l
 r0:∀ a,a∈f.brackets→a.frm∈l∧a.rate∈l
 r1:∀ a,a∈f.classes→a.arg∈l
 y:∀ a,a∈f.years→InY a l
theorem SmF.of {f:oK} {l:List qZ} (h:LnF f) (g:InF f l) (s:∀ r,r∈l→Sm r):SmF f:=
  ⟨h.l0, h.l1, h.l2, h.l3, s _ g.t, s _ g.c, s _ g.i, s _ g.g, fun a ha => s _ (g.r0 a ha).1, fun a ha => s _ (g.r0 a ha).2, fun a ha => s _ (g.r1 a ha), fun a ha =>
    ⟨(h.y a ha).l0, (h.y a ha).l1, (h.y a ha).l2, (h.y a ha).l3, (h.y a ha).l4, fun b hb => s _ ((g.y a ha).r0 b hb), fun b hb => s _ ((g.y a ha).r1 b hb), fun b hb => s _ ((g.y a ha).r2 b hb),
      fun b hb=>s _ ((g.y a ha).r3 b hb).1,fun b hb=>s _ ((g.y a ha).r3 b hb).2,fun b hb=>s _ ((g.y a ha).r4 b hb)⟩⟩
open Go.CE Go.RowKit Go.Num
open Go.Eng (kN)
theorem bD0 {k:Nat} (hk:10≤k) {z:dA} {n1 n2:Bool} {c1 c2:C} {l1 l2:List UInt32} (hx:CZ 1 RW z c1 l1) (hy:CZ 1 RW z c2 l2) (h1:l1.length≤9000000) (h2:l2.length≤9000000) {n3 n4:Bool} {c3 c4:C} {l3 l4:List UInt32} (hu:CZ 1 RW z c3 l3) (hw:CZ 1 RW z c4 l4) (h3:l3.length≤9000000) (h4:l4.length≤9000000):FC (E k) 36 [.agg [Cb n1,c1,Cb n2,c2],.agg [Cb n3,c3,Cb n4,c4]] z fun v z'=>QV (zd z z') v ((valR ((n1,l1),(n2,l2)))+(valR ((n3,l3),(n4,l4)))):=by
 have em1:=Nat.le_trans (Ov (x:=((n1,l1),(n2,l2)))) h1
 have en1:=Nat.le_trans (Ox (x:=((n1,l1),(n2,l2)))) (Nat.succ_le_succ h2)
 have em2:=Nat.le_trans (Ov (x:=((n3,l3),(n4,l4)))) h3
 have en2:=Nat.le_trans (Ox (x:=((n3,l3),(n4,l4)))) (Nat.succ_le_succ h4)
 have om1:=Nat.le_trans em1 (show 9000000≤20000000 by decide)
 have om2:=Nat.le_trans em2 (show 9000000≤20000000 by decide)
 have on1:=Nat.le_trans en1 (show 9000000+1≤20000000 by decide)
 have on2:=Nat.le_trans en2 (show 9000000+1≤20000000 by decide)
 refine eA (bFR) (by omega) (aU O) fun B j hj=>?_
 refine xR ?_
 refine iU O fun b2=>?_
 refine iU O fun b3=>?_
 refine uM fun b4=>?_
 refine lN ?_
 refine iN ?_
 refine gl4 O O (.inr Y2) O ?_
 refine gC z (Cf (by omega) hx hy (Nat.le_trans h1 (show 9000000≤20000000 by decide)) (Nat.le_trans h2 (show 9000000≤20000000 by decide))) O O O O fun v6 z6 hz6 hv6=>?_
 have hw6:=yI (hv6 _ hx.m hy.m jF)
 obtain ⟨c6,d6,hv,hm6,hn6⟩:=hw6
 subst hv
 refine gl4 O O (.inr Y1) O ?_
 refine gC z6 (Cf (by omega) hu.m hw.m (Nat.le_trans h3 (show 9000000≤20000000 by decide)) (Nat.le_trans h4 (show 9000000≤20000000 by decide))) O O O O fun v8 z8 hz8 hv8=>?_
 have hw8:=yI (hv8 _ hu.m hw.m jF)
 obtain ⟨c8,d8,hv,hm8,hn8⟩:=hw8
 subst hv
 refine gC z8 (aUR (by omega) hm6.m hn6.m hm8 hn8 (Nat.le_succ_of_le em1) en1 (Nat.le_succ_of_le em2) en2) O O O O fun v9 z9 _ hv9=>?_
 obtain ⟨c9,d9,hv,hm9,hn9⟩:=hv9
 subst hv
 have hm9:=hm9.mono (qY (hz6.trans hz8))
 have hn9:=hn9.mono (qY (hz6.trans hz8))
 refine gS O O O ?_
 refine pA O O iW ?_
 refine lN ?_
 refine mL ?_
 refine xT ?_
 refine rQ (.inl O) (rc4 O mem0 rn) ?_
 exact ⟨_,_,rfl,hm9,hn9⟩
theorem aVK {k:Nat} (hk:10≤k) {z:dA} {v:AV} {x:qZ} (hx:SZ 4 S5 z v [x]) (h1:x.nm.length≤9000000) (h2:x.dm.length≤9000000):FC (E k) 37 [v] z fun v z'=>QV (zd z z') v (valR ((x.n,x.nm),(x.d,x.dm))):=by
 have em:=Nat.le_trans (Ov (x:=((x.n,x.nm),(x.d,x.dm)))) h1
 have en:=Nat.le_trans (Ox (x:=((x.n,x.nm),(x.d,x.dm)))) (Nat.succ_le_succ h2)
 refine eA (bHK) (by omega) (aU O) fun B j hj=>?_
 refine xR ?_
 refine uM fun b2=>?_
 refine lN ?_
 refine xR ?_
 refine lZ z (aDM (by omega) (by decide) (by decide)) O O fun v6 z6 hz6 hv6=>?_
 obtain ⟨c6,d6,hv,hm6,hn6⟩:=hv6
 subst hv
 refine uM fun b3=>?_
 refine pA O O iW ?_
 refine lN ?_
 refine R4 12 O ?_
 refine aS O hx ?_
 refine R0 2 O ?_
 refine aT (aQ ?_)
 refine dX (fun n fs=>∃ (i:Nat) (q:Rat) (c3:C) (d3:C) (zz:dA),LZ z6 zz [.blk b3 (.cells 35 [Cb (decide (q.num<0)),c3,Cb (decide ((q.den:Int)<0)),d3]),.blk b2 (.cells 35 [Cb false,Cz,Cb false,Cz])] [(2,Ap b2),(3,Ap b3),(7,v),(8,Az ([x].length)),(9,Az i)] fs∧n=1 - i∧(i≤1)∧(q=if i=0 then 0 else valR ((x.n,x.nm),(x.d,x.dm)))∧(CZ 1 RW (zd z zz) c3 (toL q.num.natAbs))∧(CZ 1 RW (zd z zz) d3 (toL (q.den:Int).natAbs))) ?_ _ ⟨0,0,_,_,_,LZ.m [] O,rfl,by omega,rfl,hm6,hn6⟩ (kK (by omega))
 intro n fs ⟨i,q,c3,d3,zz,hL0,hmz0,hi,hq,hqm,hqn⟩
 refine hL0.open fun e hzz=>?_
 refine R5 8 O ?_
 refine xD O (fun hc10=>?_) (fun hc10=>?_)
 ·refine cP ?_
  refine aT (aQ ?_)
  refine xR ?_
  have hi0:i=0:=by have:=hc10;simp only [List.length_cons,List.length_nil] at this;omega
  have hq0:q=0:=by rw [hq,if_pos hi0]
  have hql:(toL q.num.natAbs).length≤9000001:=by rw [hq0,show toL (0:Rat).num.natAbs=[] from sY];simp
  have hqd:(toL (q.den:Int).natAbs).length≤9000001:=by rw [hq0];exact Nat.le_trans (m:=1) (pG.2 (by decide)) (by omega)
  refine dE (zz:=zz) O O hx.m i O x (by rw [hi0];rfl) fun b11 p11 cs at11 hR=>?_
  obtain ⟨c11,d11,hcs,qm,qn⟩:=hR
  subst hcs
  refine nQ (off:=0) O at11 O (by simp) O ?_
  refine uM fun b5=>?_
  refine pA O O iW ?_
  refine lN ?_
  refine wC ?_
  refine gl4 O O (.inr Y1) O ?_
  refine gl4 O O Ht O ?_
  refine gC zz (Cf (by omega) qm qn (Nat.le_trans h1 (show 9000000≤20000000 by decide)) (Nat.le_trans h2 (show 9000000≤20000000 by decide))) O O O O fun v15 z15 hz15 hv15=>?_
  have hw15:=yI (hv15 _ qm.m qn.m jF)
  obtain ⟨c15,d15,hv,hm15,hn15⟩:=hw15
  subst hv
  refine gC z15 (aUR (by omega) hqm.m hqn.m hm15 hn15 hql hqd (Nat.le_succ_of_le em) en) O O O O fun v16 z16 _ hv16=>?_
  rw [hq0,Rat.zero_add] at hv16
  obtain ⟨c16,d16,hv,hm16,hn16⟩:=hv16
  subst hv
  have hm16:=hm16.mono (qY (hz6.trans (hzz.trans hz15)))
  have hn16:=hn16.mono (qY (hz6.trans (hzz.trans hz15)))
  refine gS O O O ?_
  refine pA O O P1 ?_
  refine lN ?_
  refine mL ?_
  refine eT ?_
  refine xG ?_
  refine lB O O (gI (n:=i+1) (by omega) (by omega)) ?_
  refine R0 2 O ?_
  exact mK (by omega) ⟨i+1,valR ((x.n,x.nm),(x.d,x.dm)),_,_,_,LZ.m [_] O,rfl,by omega,by rw [if_neg (by omega)],hm16,hn16⟩
 refine dH ?_
 refine nF ?_
 refine eT ?_
 refine xR ?_
 refine sL O mem0 O ?_
 refine pA O O P1 ?_
 refine lN ?_
 refine xT ?_
 refine rQ (.inl O) (rc4 O Y1 rn) ?_
 rw [if_neg (show ¬ i=0 by have:=hc10;simp only [List.length_cons,List.length_nil] at this;omega)] at hq
 subst hq
 exact ⟨_,_,rfl,hqm,hqn⟩
open Go.CE Go.RowKit Go.Num
open Go.Eng (kN)
abbrev nE (b:Bool):AV:=Ab b
structure PEn where
 ent:Int
 cls:Int
 am:qZ
def REn:RT PEn:=fun z cs a=>∃ c0 c1,cs=[Ci a.ent,Ci a.cls,Cb a.am.n,c0,Cb a.am.d,c1]∧CZ 1 RW z c0 a.am.nm∧CZ 1 RW z c1 a.am.dm
instance:RMono REn:=⟨fun hz ⟨c0,c1,h,g0,g1⟩=>⟨c0,c1,h,g0.mono hz,g1.mono hz⟩⟩
theorem bGU {α:Type} {P:α→Prop} {l:List α} {i:Nat} {a:α} (ha:l[i]? = some a) (h:∀ x,x∈l.take i→P x) (g:P a):∀ x,x∈l.take (i+1)→P x:=fun x hx=>by
 rw [List.take_add_one,ha] at hx
 rcases List.mem_append.1 hx with hx | hx
 ·exact h x hx
 simp at hx;subst hx;exact g
open Go.CE Go.RowKit Go.Num
open Go.Eng (kN)
theorem aOY {α:Type} {size:Nat} {R:RT α} [RMono R] {call:eE} {B:pK} {fs:Sf} {l:List I} {Q:Sf→Prop} {u:AV} {ty n:Nat} {cs:List C} {r:List α} {p q:List HA} {z0:dA} (e:fs.H=p++.row u ty size n cs::q) (hz0:zle z0 fs.z) (hc:CL size R (zd z0 fs.z) cs r) (hn:r.length=n) (hm:n≤9223372036854775807)
    (hw:∀ z',zle fs.z z'→SZ size R (zd z0 z') u r→FL call B l (fs.frz z' (p++q)) Q):FL call B l fs Q:=fun st rf=>by
  obtain ⟨g1,g2⟩:=rf.hold.h (.row u ty size n cs) (by rw [e];simp)
  rcases g2 with ⟨h0,rfl⟩ | ⟨b,rfl,h3⟩
  · have hr0 : r = [] := List.eq_nil_of_length_eq_zero (by omega)
    subst hr0
    refine hw fs.z zI .nil st ?_
    have hsub:(p++q).Sublist fs.H:=by rw [e];exact (List.Sublist.refl p).append (List.sublist_cons_self _ _)
    exact ⟨rf.env,rf.hold.sub hsub,rf.le,rf.old,fun b hb=>rf.own b ((Eh hsub).subset hb),rf.zle,rf.zin⟩
  · have h1 := rf.frz (p := p) (q := q) (b := b) (k := .cells ty cs) (a := .row (.c (.sl b 0 n size)) ty size n cs) e rfl (fun m hm => by
      obtain ⟨_,hm⟩:=hm
      rcases hm with ⟨_,hm⟩ | ⟨b',hb',hm⟩
      · cases hm
      · injection hb' with hb';injection hb' with hb';subst hb';exact hm)
    have hnb:∀ k',¬ z0 b k':=fun k' hb=>(rf.hold.z b k' (hz0 b k' hb)).2.2 (by rw [e,jM,iJ];simp [HA.fp])
    exact hw _ ⟨fun _ _ h=>.inl h⟩ ((hc.mono (jO ⟨fun _ _ h=>.inl h⟩)).sz hn hm ⟨.inr ⟨rfl,rfl⟩,hnb,rfl⟩) st h1
theorem aFH {call:eE} {B:pK} {fs:Sf} {l:List I} {Q:Sf→Prop} {x y:Go.Eng.Od} {b ty:Nat} {c0 c:C} {H':List HA} (hx:fs.ev x=Ap b) (hy:fs.ev y=.c c) (hr:By fs.H (.blk b (.cells ty [c0])) (.blk b (.cells ty [c])) H') (hw:FL call B l (fs.heap H') Q):FL call B (⟨none,none,.store 1 x y⟩::l) fs Q:=aGQ hx hy rfl hr rfl (Nat.le_refl _) hw
theorem C4 {fs:Sf} {i b ty size:Nat} {cs:List C} {rs:List RR} {vs:List AV} (hp:fs.e i=Ap b) (hm:HA.blk b (.cells ty cs)∈fs.H) (hs:cs.length=size) (t:Vf fs rs vs):Vf fs (.c i true size::rs) (.agg cs::vs):=rc hp hm (by omega) (by rw [List.drop_zero,List.take_of_length_le (by omega)];rfl) t
theorem D6 {α:Type} {l:List α} {i:Nat} {a:α} (h:l[i]? = some a):l.take (i+1)=l.take i++[a]:=by rw [List.take_add_one,h];rfl
open Go.CE Go.RowKit Go.Num
open Go.Eng (kN)
theorem aZM {k:IntKind} {n:Int}:pS .neq (.int k n) (.int k n)=some (.bool false):=by rw [bLS];simp
theorem bLQ (a:Bool):Go.Eng.binBV .eql (.bool a) (.bool a)=some (.bool true):=by cases a<;>rfl
theorem aV3 {k:Nat} (hk:1≤k) {z:dA} {u v:AV} {l:List UInt32} (hx:SZ 1 RW z u l) (hy:SZ 1 RW z v l):FC (E k) 65 [u,v] z fun u _=>u=nE true:=by
 have hxl:=hx.le
 refine eA (bFN) (by omega) (aU O) fun B j hj=>?_
 refine R4 48 O ?_
 refine aS O hx ?_
 refine lM O ?_
 refine aS O hy ?_
 refine lB O O aZM ?_
 refine lN ?_
 refine R5 64 O ?_
 refine aT (aQ ?_)
 refine dX (fun n fs=>∃ (i:Nat),LI z [] [(0,u),(1,v),(5,Az i)] fs∧n=l.length - i∧(i≤l.length)) ?_ _ ⟨0,LI.m [] O,rfl,Nat.zero_le _⟩ (kK (by omega))
 intro n fs ⟨i,hL0,hmz0,hi⟩
 refine hL0.open fun e zl0 _=>?_
 refine R4 24 O ?_
 refine aS O hx ?_
 refine R3 4 O ?_
 refine xD O (fun hc14=>?_) (fun hc14=>?_)
 ·refine cP ?_
  refine aT (aQ ?_)
  refine iN ?_
  refine G1 5 O ?_
  refine gP O O F ?_
  refine sJ O O hx (i) (O) (by omega) fun p19 hp19=>lN ?_
  refine glP O O hp19 ti ?_
  refine G1 5 O ?_
  refine gP O O F ?_
  refine sJ O O hy (i) (O) (by omega) fun p23 hp23=>lN ?_
  refine glP O O hp23 ti ?_
  refine gP O O F ?_
  refine lB O O aZM (lN ?_)
  refine mL ?_
  refine aDJ O ?_
  refine oC ?_
  refine eT ?_
  refine xG ?_
  refine lC O ?_
  refine lB O O (gI (n:=i+1) (by omega) (by omega)) ?_
  refine R0 2 O ?_
  exact mK (by omega) ⟨i+1,LI.m [] O,rfl,by omega⟩
 refine dH ?_
 refine nF ?_
 refine eT ?_
 refine R5 4 O ?_
 refine xT ?_
 refine rI O ?_
 rfl
theorem aMJ {k:Nat} (hk:2≤k) {z:dA} {n1 n2:Bool} {c1 c2 d1 d2:C} {l1 l2:List UInt32} (hx:CZ 1 RW z c1 l1) (hy:CZ 1 RW z c2 l2) (gx:CZ 1 RW z d1 l1) (gy:CZ 1 RW z d2 l2):FC (E k) 20 [.agg [Cb n1,c1,Cb n2,c2],.agg [Cb n1,d1,Cb n2,d2]] z fun u _=>u=nE true:=by
 refine eA (bGF) (by omega) (aU O) fun B j hj=>?_
 refine xR ?_
 refine iU O fun b2=>?_
 refine iU O fun b3=>?_
 refine R2 16 O ?_
 refine dK O Y1 O ?_
 refine R1 4 O ?_
 refine dK O mem0 O ?_
 refine Ej O O (bLQ _) ?_
 refine R1 8 O ?_
 refine lD O ?_
 refine dK O Y1 O ?_
 refine R1 4 O ?_
 refine lD O ?_
 refine dK O mem0 O ?_
 refine lD O ?_
 refine Ej O O (bLQ _) ?_
 refine R1 18 O ?_
 refine lD O ?_
 refine dK O Y1 O ?_
 refine R1 4 O ?_
 refine lD O ?_
 refine dK O mem0 O ?_
 refine lD O ?_
 refine lE z (aV3 (by omega) hx gx) O O fun z28 _=>?_
 refine R1 18 O ?_
 refine lD O ?_
 refine dK O Y1 O ?_
 refine R1 4 O ?_
 refine lD O ?_
 refine dK O mem0 O ?_
 refine lD O ?_
 refine lE z28 (aV3 (by omega) hy.m gy.m) O O fun z37 _=>?_
 refine R0 6 O ?_
 refine xT ?_
 refine rI O ?_
 rfl
theorem aZP {k:Nat} (hk:3≤k) {z:dA} {ct cr:C} {t:List (List qZ)} (hx:CZ 1 (RC 4 S5) z ct t) (hy:CZ 1 (RC 4 S5) z cr t):FC (E k) 16 [.agg [ct],.agg [cr]] z fun u _=>u=nE true:=by
 have hxl:=hx.le
 refine eA (bF5) (by omega) (aU O) fun B j hj=>?_
 refine xR ?_
 refine iU O fun b2=>?_
 refine iU O fun b3=>?_
 refine R2 16 O ?_
 refine dK O Y1 O ?_
 refine aS O hx ?_
 refine lF O ?_
 refine dK O mem0 O ?_
 refine aS O hy ?_
 refine lB O O aZM ?_
 refine lN ?_
 refine R5 64 O ?_
 refine aT (aQ ?_)
 refine dX (fun n fs=>∃ (i:Nat),LI z [.blk b3 (.cells 40 [cr]),.blk b2 (.cells 24 [ct])] [(2,Ap b2),(3,Ap b3),(5,Az i)] fs∧n=t.length - i∧(i≤t.length)) ?_ _ ⟨0,LI.m [] O,rfl,Nat.zero_le _⟩ (kK (by omega))
 intro n fs ⟨i,hL0,hmz0,hi⟩
 refine hL0.open fun e zl0 _=>?_
 refine R4 16 O ?_
 refine dK O Y1 O ?_
 refine aS O hx ?_
 refine R3 4 O ?_
 refine xD O (fun hc18=>?_) (fun hc18=>?_)
 ·refine cP ?_
  refine aT (aQ ?_)
  refine Xb ?_
  refine iN ?_
  obtain ⟨r,hr⟩:=pE (l:=t) (i:=i) (by omega)
  refine G1 2 O ?_
  refine zG O O (.inr Y1) O ?_
  refine G1 2 O ?_
  refine gP O O F ?_
  refine dE O O hx i O r hr fun b24 p24 cs at24 hR=>lN ?_
  obtain ⟨c24,hcs,q24⟩:=hR
  subst hcs
  refine oD (i:=⟨_,_,.load _ _ _⟩) (off:=0) O O F O at24 ti O (by simp) O sR ?_
  refine gP O O F ?_
  refine aS O q24 (lN ?_)
  refine G1 2 O ?_
  refine zG O O Ht O ?_
  refine G1 2 O ?_
  refine gP O O F ?_
  refine dE O O hy i O r hr fun b30 p30 cs at30 hR=>lN ?_
  obtain ⟨c30,hcs,q30⟩:=hR
  subst hcs
  refine oD (i:=⟨_,_,.load _ _ _⟩) (off:=0) O O F O at30 ti O (by simp) O sR ?_
  refine gP O O F ?_
  refine aS O q30 (lN ?_)
  refine gP O O F ?_
  refine lB O O aZM (lN ?_)
  refine mL ?_
  refine R4 16 O ?_
  have hrl:=q24.le
  refine R0 2 O ?_
  refine aQ ?_
  refine dX (fun n fs=>∃ (jj:Nat),LI zl0 [.blk b3 (.cells 40 [cr]),.blk b2 (.cells 24 [ct])] [(2,Ap b2),(3,Ap b3),(5,Az i),(6,Az jj)] fs∧n=r.length - jj∧(jj≤r.length)) ?_ _ ⟨0,LI.m [] O,rfl,Nat.zero_le _⟩ (kK (by omega))
  intro n fs ⟨jj,hL1,hmz1,hj5⟩
  refine hL1.open fun e zl1 _=>?_
  refine R4 16 O ?_
  refine dK O Y1 O ?_
  refine lC O ?_
  refine dE (zz:=zl1) O O hx.m i O r hr fun b38 p38 cs at38 hR=>?_
  obtain ⟨c38,hcs,q38⟩:=hR
  subst hcs
  refine nQ (off:=0) O at38 O (by simp) O ?_
  refine aS O q38 ?_
  refine R3 4 O ?_
  refine xD O (fun hc41=>?_) (fun hc41=>?_)
  ·refine cP ?_
   refine aT (aQ ?_)
   refine iN ?_
   obtain ⟨y,hyy⟩:=pE (l:=r) (i:=jj) (by omega)
   refine G1 2 O ?_
   refine zG O O (.inr Y1) O ?_
   refine G1 2 O ?_
   refine gP O O F ?_
   refine dE O O hx i O r hr fun b47 p47 cs at47 hR=>lN ?_
   obtain ⟨c47,hcs,q47⟩:=hR
   subst hcs
   refine oD (i:=⟨_,_,.load _ _ _⟩) (off:=0) O O F O at47 ti O (by simp) O sR ?_
   refine G1 2 O ?_
   refine gP O O F ?_
   refine dE O O q47 jj O y hyy fun b50 p50 cs at50 hR=>lN ?_
   obtain ⟨c50,d50,hcs,q50,r50⟩:=hR
   subst hcs
   refine oD (i:=⟨_,_,.load _ _ _⟩) (off:=0) O O F O at50 ti O (by simp) O sR ?_
   refine G1 2 O ?_
   refine zG O O Ht O ?_
   refine G1 2 O ?_
   refine gP O O F ?_
   refine dE O O hy i O r hr fun b55 p55 cs at55 hR=>lN ?_
   obtain ⟨c55,hcs,q55⟩:=hR
   subst hcs
   refine oD (i:=⟨_,_,.load _ _ _⟩) (off:=0) O O F O at55 ti O (by simp) O sR ?_
   refine G1 2 O ?_
   refine gP O O F ?_
   refine dE O O q55 jj O y hyy fun b58 p58 cs at58 hR=>lN ?_
   obtain ⟨c58,d58,hcs,q58,r58⟩:=hR
   subst hcs
   refine oD (i:=⟨_,_,.load _ _ _⟩) (off:=0) O O F O at58 ti O (by simp) O sR ?_
   refine gE zl1 (aMJ (by omega) q50.m r50.m q58.m r58.m) O O O O fun z60 _=>?_
   refine G0 2 O ?_
   refine aDJ O ?_
   refine oC ?_
   refine eT ?_
   refine xG ?_
   refine lC O ?_
   refine lB O O (gI (n:=jj+1) (by omega) (by omega)) ?_
   have hrl:=q24.le
   refine R0 2 O ?_
   exact mK (by omega) ⟨jj+1,LI.m [] O,rfl,by omega⟩
  refine dH ?_
  refine nF ?_
  refine eT ?_
  refine xG ?_
  refine lC O ?_
  refine lB O O (gI (n:=i+1) (by omega) (by omega)) ?_
  refine R0 2 O ?_
  exact mK (by omega) ⟨i+1,LI.m [] O,rfl,by omega⟩
 refine dH ?_
 refine nF ?_
 refine eT ?_
 refine R5 4 O ?_
 refine xT ?_
 refine rI O ?_
 rfl
theorem aWE {k:Nat} (hk:3≤k) {z:dA} {u v:AV} {l:List PEn} (hx:SZ 6 REn z u l) (hy:SZ 6 REn z v l):FC (E k) 60 [u,v] z fun u _=>u=nE true:=by
 have hxl:=hx.le
 refine eA (bHo) (by omega) (aU O) fun B j hj=>?_
 refine R4 48 O ?_
 refine aS O hx ?_
 refine lM O ?_
 refine aS O hy ?_
 refine lB O O aZM ?_
 refine lN ?_
 refine R5 64 O ?_
 refine aT (aQ ?_)
 refine dX (fun n fs=>∃ (i:Nat),LI z [] [(0,u),(1,v),(5,Az i)] fs∧n=l.length - i∧(i≤l.length)) ?_ _ ⟨0,LI.m [] O,rfl,Nat.zero_le _⟩ (kK (by omega))
 intro n fs ⟨i,hL0,hmz0,hi⟩
 refine hL0.open fun e zl0 _=>?_
 refine R4 24 O ?_
 refine aS O hx ?_
 refine R3 4 O ?_
 refine xD O (fun hc14=>?_) (fun hc14=>?_)
 ·refine cP ?_
  refine aT (aQ ?_)
  refine iN ?_
  obtain ⟨a,ha⟩:=pE (l:=l) (i:=i) (by omega)
  refine G1 5 O ?_
  refine gP O O F ?_
  refine dE O O hx i O a ha fun b19 p19 cs at19 hR=>lN ?_
  obtain ⟨c19,d19,hcs,q19,r19⟩:=hR
  subst hcs
  refine G1 2 O ?_
  refine oD (i:=⟨_,_,.load _ _ _⟩) (off:=0) O O F O at19 ti O (by simp) O sR ?_
  refine G1 5 O ?_
  refine gP O O F ?_
  refine dE O O hy i O a ha fun b24 p24 cs at24 hR=>lN ?_
  obtain ⟨c24,d24,hcs,q24,r24⟩:=hR
  subst hcs
  refine G1 2 O ?_
  refine oD (i:=⟨_,_,.load _ _ _⟩) (off:=0) O O F O at24 ti O (by simp) O sR ?_
  refine gP O O F ?_
  refine lB O O aZM (lN ?_)
  refine G1 10 O ?_
  refine gP O O O ?_
  refine dE O O hx i O a ha fun b31 p31 cs at31 hR=>lN ?_
  obtain ⟨c31,d31,hcs,q31,r31⟩:=hR
  subst hcs
  refine G1 2 O ?_
  refine oD (i:=⟨_,_,.load _ _ _⟩) (off:=1) O O O O at31 ti O (by simp) O sR ?_
  refine G1 5 O ?_
  refine gP O O O ?_
  refine dE O O hy i O a ha fun b36 p36 cs at36 hR=>lN ?_
  obtain ⟨c36,d36,hcs,q36,r36⟩:=hR
  subst hcs
  refine G1 2 O ?_
  refine oD (i:=⟨_,_,.load _ _ _⟩) (off:=1) O O O O at36 ti O (by simp) O sR ?_
  refine gP O O O ?_
  refine lB O O aZM (lN ?_)
  refine G1 22 O ?_
  refine gP O O O ?_
  refine dE O O hx i O a ha fun b44 p44 cs at44 hR=>lN ?_
  obtain ⟨c44,d44,hcs,q44,r44⟩:=hR
  subst hcs
  refine G1 2 O ?_
  refine oD (i:=⟨_,_,.load _ _ _⟩) (off:=2) O O O O at44 ti O (by simp) O sR ?_
  refine G1 5 O ?_
  refine gP O O O ?_
  refine dE O O hy i O a ha fun b49 p49 cs at49 hR=>lN ?_
  obtain ⟨c49,d49,hcs,q49,r49⟩:=hR
  subst hcs
  refine G1 2 O ?_
  refine oD (i:=⟨_,_,.load _ _ _⟩) (off:=2) O O O O at49 ti O (by simp) O sR ?_
  refine gE zl0 (aMJ (by omega) q44.m r44.m q49.m r49.m) O O O O fun z52 _=>?_
  refine G0 4 O ?_
  refine aDJ O ?_
  refine oC ?_
  refine eT ?_
  refine xG ?_
  refine lC O ?_
  refine lB O O (gI (n:=i+1) (by omega) (by omega)) ?_
  refine R0 2 O ?_
  exact mK (by omega) ⟨i+1,LI.m [] O,rfl,by omega⟩
 refine dH ?_
 refine nF ?_
 refine eT ?_
 refine R5 4 O ?_
 refine xT ?_
 refine rI O ?_
 rfl
end Go.Proofs.YtlceligcgelbdaaGreat

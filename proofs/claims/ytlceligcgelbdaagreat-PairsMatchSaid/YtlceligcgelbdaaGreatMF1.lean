/- Filings; whether they are small, walked. -/
import Derived.WalkKit
import Derived.Orders
import Derived.Test.YtlceligcgelbdaaGreatMD1
set_option linter.unusedVariables false
set_option linter.unusedSimpArgs false
set_option maxRecDepth 100000
set_option maxHeartbeats 1000000
namespace Go.Proofs.YtlceligcgelbdaaGreat
open Go.CE Go.RowKit
structure Ax where
 n:Bool
 nm:List UInt32
 d:Bool
 dm:List UInt32
def aSY:RT Ax:=fun z cs a=>∃ c0 c1,cs=[.v (.bool a.n),c0,.v (.bool a.d),c1]∧CZ 1 RW z c0 a.nm∧CZ 1 RW z c1 a.dm
theorem Ed {z:fR} {a:Ax} {c0 c1:C} (g0:CZ 1 RW z c0 a.nm) (g1:CZ 1 RW z c1 a.dm):aSY z [.v (.bool a.n),c0,.v (.bool a.d),c1] a:=⟨c0,c1,rfl,g0,g1⟩
instance:RMono aSY:=⟨fun hz ⟨c0,c1,h,g0,g1⟩=>⟨c0,c1,h,g0.mono hz,g1.mono hz⟩⟩
theorem Ax.ext_iff {a b:Ax}:a=b↔a.n=b.n∧a.nm=b.nm∧a.d=b.d∧a.dm=b.dm:=by
 cases a;cases b;simp only [Ax.mk.injEq]
structure aOt where
 frm:Ax
 rate:Ax
def vF:RT aOt:=fun z cs a=>∃ c0 c1 c2 c3,cs=[.v (.bool a.frm.n),c0,.v (.bool a.frm.d),c1,.v (.bool a.rate.n),c2,.v (.bool a.rate.d),c3]∧CZ 1 RW z c0 a.frm.nm∧CZ 1 RW z c1 a.frm.dm∧CZ 1 RW z c2 a.rate.nm∧CZ 1 RW z c3 a.rate.dm
theorem aXB {z:fR} {a:aOt} {c0 c1 c2 c3:C} (g0:CZ 1 RW z c0 a.frm.nm) (g1:CZ 1 RW z c1 a.frm.dm) (g2:CZ 1 RW z c2 a.rate.nm) (g3:CZ 1 RW z c3 a.rate.dm):vF z [.v (.bool a.frm.n),c0,.v (.bool a.frm.d),c1,.v (.bool a.rate.n),c2,.v (.bool a.rate.d),c3] a:=⟨c0,c1,c2,c3,rfl,g0,g1,g2,g3⟩
instance:RMono vF:=⟨fun hz ⟨c0,c1,c2,c3,h,g0,g1,g2,g3⟩=>⟨c0,c1,c2,c3,h,g0.mono hz,g1.mono hz,g2.mono hz,g3.mono hz⟩⟩
structure rS where
 name:ByteArray
 kind:Int
 arg:Ax
def yM:RT rS:=fun z cs a=>∃ c0 c1,cs=[.v (.string a.name),.v (.int .u8 a.kind),.v (.bool a.arg.n),c0,.v (.bool a.arg.d),c1]∧CZ 1 RW z c0 a.arg.nm∧CZ 1 RW z c1 a.arg.dm
theorem bIq {z:fR} {a:rS} {c0 c1:C} (g0:CZ 1 RW z c0 a.arg.nm) (g1:CZ 1 RW z c1 a.arg.dm):yM z [.v (.string a.name),.v (.int .u8 a.kind),.v (.bool a.arg.n),c0,.v (.bool a.arg.d),c1] a:=⟨c0,c1,rfl,g0,g1⟩
instance:RMono yM:=⟨fun hz ⟨c0,c1,h,g0,g1⟩=>⟨c0,c1,h,g0.mono hz,g1.mono hz⟩⟩
structure bFv where
 owner:ByteArray
 owned:ByteArray
 share:Ax
def aDU:RT bFv:=fun z cs a=>∃ c0 c1,cs=[.v (.string a.owner),.v (.string a.owned),.v (.bool a.share.n),c0,.v (.bool a.share.d),c1]∧CZ 1 RW z c0 a.share.nm∧CZ 1 RW z c1 a.share.dm
theorem bLA {z:fR} {a:bFv} {c0 c1:C} (g0:CZ 1 RW z c0 a.share.nm) (g1:CZ 1 RW z c1 a.share.dm):aDU z [.v (.string a.owner),.v (.string a.owned),.v (.bool a.share.n),c0,.v (.bool a.share.d),c1] a:=⟨c0,c1,rfl,g0,g1⟩
instance:RMono aDU:=⟨fun hz ⟨c0,c1,h,g0,g1⟩=>⟨c0,c1,h,g0.mono hz,g1.mono hz⟩⟩
structure bEk where
 entity:ByteArray
 cls:ByteArray
 amount:Ax
def aD4:RT bEk:=fun z cs a=>∃ c0 c1,cs=[.v (.string a.entity),.v (.string a.cls),.v (.bool a.amount.n),c0,.v (.bool a.amount.d),c1]∧CZ 1 RW z c0 a.amount.nm∧CZ 1 RW z c1 a.amount.dm
theorem bI2 {z:fR} {a:bEk} {c0 c1:C} (g0:CZ 1 RW z c0 a.amount.nm) (g1:CZ 1 RW z c1 a.amount.dm):aD4 z [.v (.string a.entity),.v (.string a.cls),.v (.bool a.amount.n),c0,.v (.bool a.amount.d),c1] a:=⟨c0,c1,rfl,g0,g1⟩
instance:RMono aD4:=⟨fun hz ⟨c0,c1,h,g0,g1⟩=>⟨c0,c1,h,g0.mono hz,g1.mono hz⟩⟩
structure mG where
 give:Bool
 id:ByteArray
 kind:Int
 payee:ByteArray
 payer:ByteArray
 cls:ByteArray
 amount:Ax
def aA0:RT mG:=fun z cs a=>∃ c0 c1,cs=[.v (.bool a.give),.v (.string a.id),.v (.int .u8 a.kind),.v (.string a.payee),.v (.string a.payer),.v (.string a.cls),.v (.bool a.amount.n),c0,.v (.bool a.amount.d),c1]∧CZ 1 RW z c0 a.amount.nm∧CZ 1 RW z c1 a.amount.dm
theorem bJI {z:fR} {a:mG} {c0 c1:C} (g0:CZ 1 RW z c0 a.amount.nm) (g1:CZ 1 RW z c1 a.amount.dm):aA0 z [.v (.bool a.give),.v (.string a.id),.v (.int .u8 a.kind),.v (.string a.payee),.v (.string a.payer),.v (.string a.cls),.v (.bool a.amount.n),c0,.v (.bool a.amount.d),c1] a:=⟨c0,c1,rfl,g0,g1⟩
instance:RMono aA0:=⟨fun hz ⟨c0,c1,h,g0,g1⟩=>⟨c0,c1,h,g0.mono hz,g1.mono hz⟩⟩
structure aXg where
 id:ByteArray
 margin:Ax
 unsold:Ax
def Rz:RT aXg:=fun z cs a=>∃ c0 c1 c2 c3,cs=[.v (.string a.id),.v (.bool a.margin.n),c0,.v (.bool a.margin.d),c1,.v (.bool a.unsold.n),c2,.v (.bool a.unsold.d),c3]∧CZ 1 RW z c0 a.margin.nm∧CZ 1 RW z c1 a.margin.dm∧CZ 1 RW z c2 a.unsold.nm∧CZ 1 RW z c3 a.unsold.dm
theorem bIe {z:fR} {a:aXg} {c0 c1 c2 c3:C} (g0:CZ 1 RW z c0 a.margin.nm) (g1:CZ 1 RW z c1 a.margin.dm) (g2:CZ 1 RW z c2 a.unsold.nm) (g3:CZ 1 RW z c3 a.unsold.dm):Rz z [.v (.string a.id),.v (.bool a.margin.n),c0,.v (.bool a.margin.d),c1,.v (.bool a.unsold.n),c2,.v (.bool a.unsold.d),c3] a:=⟨c0,c1,c2,c3,rfl,g0,g1,g2,g3⟩
instance:RMono Rz:=⟨fun hz ⟨c0,c1,c2,c3,h,g0,g1,g2,g3⟩=>⟨c0,c1,c2,c3,h,g0.mono hz,g1.mono hz,g2.mono hz,g3.mono hz⟩⟩
structure bHX where
 id:ByteArray
 share:Ax
def aD2:RT bHX:=fun z cs a=>∃ c0 c1,cs=[.v (.string a.id),.v (.bool a.share.n),c0,.v (.bool a.share.d),c1]∧CZ 1 RW z c0 a.share.nm∧CZ 1 RW z c1 a.share.dm
theorem bIS {z:fR} {a:bHX} {c0 c1:C} (g0:CZ 1 RW z c0 a.share.nm) (g1:CZ 1 RW z c1 a.share.dm):aD2 z [.v (.string a.id),.v (.bool a.share.n),c0,.v (.bool a.share.d),c1] a:=⟨c0,c1,rfl,g0,g1⟩
instance:RMono aD2:=⟨fun hz ⟨c0,c1,h,g0,g1⟩=>⟨c0,c1,h,g0.mono hz,g1.mono hz⟩⟩
structure aGp where
 number:Int
 holds:List bFv
 books:List bEk
 deals:List mG
 stocks:List aXg
 solds:List bHX
def Ib:RT aGp:=fun z cs a=>∃ c0 c1 c2 c3 c4,cs=[.v (.int .i64 a.number),c0,c1,c2,c3,c4]∧CZ 6 aDU z c0 a.holds∧CZ 6 aD4 z c1 a.books∧CZ 10 aA0 z c2 a.deals∧CZ 9 Rz z c3 a.stocks∧CZ 5 aD2 z c4 a.solds
theorem aT5 {z:fR} {a:aGp} {c0 c1 c2 c3 c4:C} (g0:CZ 6 aDU z c0 a.holds) (g1:CZ 6 aD4 z c1 a.books) (g2:CZ 10 aA0 z c2 a.deals) (g3:CZ 9 Rz z c3 a.stocks) (g4:CZ 5 aD2 z c4 a.solds):Ib z [.v (.int .i64 a.number),c0,c1,c2,c3,c4] a:=⟨c0,c1,c2,c3,c4,rfl,g0,g1,g2,g3,g4⟩
instance:RMono Ib:=⟨fun hz ⟨c0,c1,c2,c3,c4,h,g0,g1,g2,g3,g4⟩=>⟨c0,c1,c2,c3,c4,h,g0.mono hz,g1.mono hz,g2.mono hz,g3.mono hz,g4.mono hz⟩⟩
structure uV where
 name:ByteArray
 parent:ByteArray
 brackets:List aOt
 threshold:Ax
 cap:Ax
 back:Int
 forward:Int
 interest:Ax
 floor:Ax
 keep:Int
 classes:List rS
 entities:List ByteArray
 years:List aGp
abbrev kF (a:uV) (c0 c1 c2 c3 c4 c5 c6 c7 c8 c9 c10 c11:C):List C:=[.v (.string a.name),.v (.string a.parent),c0,.v (.bool a.threshold.n),c1,.v (.bool a.threshold.d),c2,.v (.bool a.cap.n),c3,.v (.bool a.cap.d),c4,.v (.int .i64 a.back),.v (.int .i64 a.forward),.v (.bool a.interest.n),c5,.v (.bool a.interest.d),c6,.v (.bool a.floor.n),c7,.v (.bool a.floor.d),c8,.v (.int .i64 a.keep),c9,c10,c11]
abbrev kR (a:Ax) (c0 c1:C):List C:=[.v (.bool a.n),c0,.v (.bool a.d),c1]
def Ox:RT uV:=fun z cs a=>∃ c0 c1 c2 c3 c4 c5 c6 c7 c8 c9 c10 c11,cs=[.v (.string a.name),.v (.string a.parent),c0,.v (.bool a.threshold.n),c1,.v (.bool a.threshold.d),c2,.v (.bool a.cap.n),c3,.v (.bool a.cap.d),c4,.v (.int .i64 a.back),.v (.int .i64 a.forward),.v (.bool a.interest.n),c5,.v (.bool a.interest.d),c6,.v (.bool a.floor.n),c7,.v (.bool a.floor.d),c8,.v (.int .i64 a.keep),c9,c10,c11]∧CZ 8 vF z c0 a.brackets∧CZ 1 RW z c1 a.threshold.nm∧CZ 1 RW z c2 a.threshold.dm∧CZ 1 RW z c3 a.cap.nm∧CZ 1 RW z c4 a.cap.dm∧CZ 1 RW z c5 a.interest.nm∧CZ 1 RW z c6 a.interest.dm∧CZ 1 RW z c7 a.floor.nm∧CZ 1 RW z c8 a.floor.dm∧CZ 6 yM z c9 a.classes∧CZ 1 RS z c10 a.entities∧CZ 6 Ib z c11 a.years
theorem L9 {z:fR} {a:uV} {c0 c1 c2 c3 c4 c5 c6 c7 c8 c9 c10 c11:C} (g0:CZ 8 vF z c0 a.brackets) (g1:CZ 1 RW z c1 a.threshold.nm) (g2:CZ 1 RW z c2 a.threshold.dm) (g3:CZ 1 RW z c3 a.cap.nm) (g4:CZ 1 RW z c4 a.cap.dm) (g5:CZ 1 RW z c5 a.interest.nm) (g6:CZ 1 RW z c6 a.interest.dm) (g7:CZ 1 RW z c7 a.floor.nm) (g8:CZ 1 RW z c8 a.floor.dm) (g9:CZ 6 yM z c9 a.classes) (g10:CZ 1 RS z c10 a.entities) (g11:CZ 6 Ib z c11 a.years):Ox z [.v (.string a.name),.v (.string a.parent),c0,.v (.bool a.threshold.n),c1,.v (.bool a.threshold.d),c2,.v (.bool a.cap.n),c3,.v (.bool a.cap.d),c4,.v (.int .i64 a.back),.v (.int .i64 a.forward),.v (.bool a.interest.n),c5,.v (.bool a.interest.d),c6,.v (.bool a.floor.n),c7,.v (.bool a.floor.d),c8,.v (.int .i64 a.keep),c9,c10,c11] a:=⟨c0,c1,c2,c3,c4,c5,c6,c7,c8,c9,c10,c11,rfl,g0,g1,g2,g3,g4,g5,g6,g7,g8,g9,g10,g11⟩
open Go.CE Go.RowKit
abbrev AZ {α:Type} (R:RT α) (z:fR) (v:AV) (a:α):Prop:=∃ cs,v=.agg cs∧R z cs a
theorem vB {α:Type} {l:List α} {i:Nat} (h:i<l.length):∃ a,l[i]? = some a:=⟨_,List.getElem?_eq_getElem h⟩
theorem Wl (a b:ByteArray):pC .eql (.string a) (.string b)=some (.bool (decide (a=b))):=by
 show some (Value.bool (J1 a.data.toList b.data.toList))=_
 rw [Bd]
 congr 2
 rw [Bool.eq_iff_iff]
 simp only [beq_iff_eq,decide_eq_true_eq]
 constructor
 ·intro h
  apply ByteArray.ext
  exact Array.ext' h
 intro h;rw [h]
theorem aW8 (a b:ByteArray):pC .neq (.string a) (.string b)=some (.bool (!decide (a=b))):=by
 have:=Wl a b
 simp only [pC,bHj,Option.some.injEq,Value.bool.injEq] at this ⊢
 rw [this]
theorem bLr {α:Type} {l r:List α} {i j:Nat} {a b:α} (hp:∀ j,j<i→l[j]? = r[j]?) (ha:l[i]? = some a) (hb:r[i]? = some b) (h:a=b) (hj:j<i+1):l[j]? = r[j]?:=by
  rcases Nat.lt_or_ge j i with h1 | h1
  · exact hp j h1
  · have : j = i := by omega
    subst this
    rw [ha,hb,h]
theorem bON {α:Type} {l r:List α} {i:Nat} (hl:l.length=r.length) (hp:∀ j,j<i→l[j]? = r[j]?) (h:l.length≤i):l=r:=by
 apply List.ext_getElem?
 intro j
 rcases Nat.lt_or_ge j i with h1 | h1
 ·exact hp j h1
 rw [List.getElem?_eq_none (by omega),List.getElem?_eq_none (by omega)]
abbrev Sm (x:Ax):Prop:=x.nm.length≤6∧x.dm.length≤6
structure SmY (y:aGp):Prop where
 l0:y.holds.length≤40
 l1:y.books.length≤40
 l2:y.deals.length≤40
 l3:y.stocks.length≤40
 l4:y.solds.length≤40
 r0:∀ a,a∈y.holds→Sm a.share
 r1:∀ a,a∈y.books→Sm a.amount
 r2:∀ a,a∈y.deals→Sm a.amount
 r3:∀ a,a∈y.stocks→Sm a.margin
 r3':∀ a,a∈y.stocks→Sm a.unsold
 r4:∀ a,a∈y.solds→Sm a.share
structure SmF (f:uV):Prop where
 l0:f.brackets.length≤20
 l1:f.classes.length≤70
 l2:f.entities.length≤260
 l3:f.years.length≤45
 t:Sm f.threshold
 c:Sm f.cap
 i:Sm f.interest
 g:Sm f.floor
 r0:∀ a,a∈f.brackets→Sm a.frm
 r0':∀ a,a∈f.brackets→Sm a.rate
 r1:∀ a,a∈f.classes→Sm a.arg
 y:∀ a,a∈f.years→SmY a
theorem Cm {α:Type} {l:List α} {i:Nat} {a:α} (h:l[i]? = some a):l.take i++[a]=l.take (i+1):=by
 rw [List.take_add_one,h];rfl
theorem uD {α:Type} {l:List α} {i:Nat} (h:l.length≤i):l.take i=l:=List.take_of_length_le h
theorem Es {α:Type} {L:List α} {i:Nat} {a0:α} {P:α→Prop} (ha:L[i]? = some a0) (h1:∀ a,a∈L.take i→P a) (h2:P a0):∀ a,a∈L.take (i+1)→P a:=by
  rw [← Cm ha]
  intro a h
  rcases List.mem_append.1 h with h | h
  · exact h1 a h
  · have : a = a0 := by simpa using h
    subst this;exact h2
structure LnY (y:aGp):Prop where
 l0:y.holds.length≤40
 l1:y.books.length≤40
 l2:y.deals.length≤40
 l3:y.stocks.length≤40
 l4:y.solds.length≤40
structure LnF (f:uV):Prop where
 l0:f.brackets.length≤20
 l1:f.classes.length≤70
 l2:f.entities.length≤260
 l3:f.years.length≤45
 y:∀ a,a∈f.years→LnY a
structure InY (y:aGp) (l:List Ax):Prop where
 r0:∀ a,a∈y.holds→a.share∈l
 r1:∀ a,a∈y.books→a.amount∈l
 r2:∀ a,a∈y.deals→a.amount∈l
 r3:∀ a,a∈y.stocks→a.margin∈l∧a.unsold∈l
 r4:∀ a,a∈y.solds→a.share∈l
theorem InY.mono {y:aGp} {l l':List Ax} (h:InY y l) (g:∀ r,r∈l→r∈l'):InY y l':=
 ⟨fun a ha=>g _ (h.r0 a ha),fun a ha=>g _ (h.r1 a ha),fun a ha=>g _ (h.r2 a ha),fun a ha=>⟨g _ (h.r3 a ha).1,g _ (h.r3 a ha).2⟩,fun a ha=>g _ (h.r4 a ha)⟩
structure InF (f:uV) (l:List Ax):Prop where
 t:f.threshold∈l
 c:f.cap∈l
 i:f.interest∈l
 g:f.floor∈l
 r0:∀ a,a∈f.brackets→a.frm∈l∧a.rate∈l
 r1:∀ a,a∈f.classes→a.arg∈l
 y:∀ a,a∈f.years→InY a l
theorem SmF.of {f:uV} {l:List Ax} (h:LnF f) (g:InF f l) (s:∀ r,r∈l→Sm r):SmF f:=
  ⟨h.l0, h.l1, h.l2, h.l3, s _ g.t, s _ g.c, s _ g.i, s _ g.g, fun a ha => s _ (g.r0 a ha).1, fun a ha => s _ (g.r0 a ha).2, fun a ha => s _ (g.r1 a ha), fun a ha =>
    ⟨(h.y a ha).l0, (h.y a ha).l1, (h.y a ha).l2, (h.y a ha).l3, (h.y a ha).l4, fun b hb => s _ ((g.y a ha).r0 b hb), fun b hb => s _ ((g.y a ha).r1 b hb), fun b hb => s _ ((g.y a ha).r2 b hb),
      fun b hb=>s _ ((g.y a ha).r3 b hb).1,fun b hb=>s _ ((g.y a ha).r3 b hb).2,fun b hb=>s _ ((g.y a ha).r4 b hb)⟩⟩
open Go.CE Go.RowKit
theorem few {k:Nat} (hk:1≤k) {z:fR} {v:AV} {l:List Ax} (hx:SZ 4 aSY z v l):FC (E k) 172 [v] z fun v _=>∃ b:Bool,v=Ab b∧(b=true→∀ a,a∈l→Sm a):=by
 have hxl:=hx.le
 refine iI (bDB) (by omega) (dN O) fun B j hj=>?_
 refine R5 50 O ?_
 refine dE (bQ ?_)
 refine eT (fun n fs=>∃ (i0:Nat) (e:O6) (zz:fR) (Hx:List HA),fs=⟨e,zz,Hx++[]⟩∧zle z zz∧Sr e [(0,v),(3,Ai (i0:Int))]∧n=l.length - i0∧i0≤l.length∧(∀ a,a∈l.take i0→Sm a)) ?_ _ ⟨0,_,_,[],rfl,zle.refl _,(lL rfl (lL rfl D3)),rfl,Nat.zero_le _,fun a ha=>by simp at ha⟩ (kK (by omega))
 intro n fs hI
 obtain ⟨i0,e,zl0,Hx,rfl,hzl0,hat,rfl,hi0,hm0⟩:=hI
 refine zH hat fun e=>?_
 refine uQ (List.sublist_append_right _ _) ?_
 refine R4 28 O ?_
 refine cX O hx ?_
 refine R3 4 O ?_
 refine kJ O (fun hc7=>?_) (fun hc7=>?_)
 ·have hp7:=jB.1 hc7
  refine dX ?_
  refine dE (bQ ?_)
  refine R4 14 O ?_
  obtain ⟨a12,ha12⟩:=vB (l:=l) (i:=i0) (by omega)
  refine eA O O hx i0 O a12 ha12 fun b12 p12 cs12 at12 hR12=>?_
  obtain ⟨c12_0,c12_1,rfl,h12_0,h12_1⟩:=hR12
  refine R1 4 O ?_
  refine tG (v:=.c (c12_0)) (off:=1) O (at12.mono (hzl0)) O (dN O) O ?_
  refine cX O h12_0 ?_
  refine R1 6 O ?_
  refine O3 9 18 (fun r=>[(0,v),(3,Ai (i0:Int)),(27,Ab r)]) ((6<(a12.nm.length:Int))∨(6<(a12.dm.length:Int))) rfl (fun hg=>?_) (fun hg=>?_) (fun e z27 r27 _ hr27=>?_)
  ·refine R1 512 O ?_
   exact zK true rfl zI (lL rfl (lL rfl (lL rfl D3))) (O0 jB hg)
  ·refine R1 7 O ?_
   refine lD O ?_
   refine eA O O hx i0 O a12 ha12 fun b21 p21 cs21 at21 hR21=>?_
   obtain ⟨c21_0,c21_1,rfl,h21_0,h21_1⟩:=hR21
   refine R1 4 O ?_
   refine lD O ?_
   refine tG (v:=.c (c21_1)) (off:=3) O (at21.mono (hzl0)) O (dN O) O ?_
   refine lD O ?_
   refine cX O h21_1 ?_
   refine R1 4 O ?_
   exact zK (decide (6<(a12.dm.length:Int))) rfl zI (lL rfl (lL rfl (lL rfl D3))) (Ov jB hg jB)
  refine lN ?_
  refine kJ O (fun hc27=>?_) (fun hc27=>?_)
  ·have hp27:=hr27.1 hc27
   refine R5 6 O ?_
   refine xT ?_
   refine oD ?_
   refine Ou ?_
   refine oD ?_
   exact rI O ⟨false,rfl,fun h=>(by cases h)⟩
  have hp27:=sL hr27 hc27
  simp only [not_or,Classical.not_not] at hp27
  refine mQ ?_
  refine iE ?_
  refine xG ?_
  refine lM O ?_
  refine lB O O (tI (r:=((i0+1:Nat):Int)) (vR (by omega))) ?_
  refine R0 3 O ?_
  exact nN (by omega) ⟨i0+1,_,_,[],rfl,hzl0.trans zI,(lL rfl (lL rfl D3)),rfl,by omega,Es ha12 hm0 ⟨by omega,by omega⟩⟩
 have hp7:=sL jB hc7
 refine eE ?_
 refine oC ?_
 refine iE ?_
 refine R5 6 O ?_
 refine xT ?_
 exact rI O ⟨true,rfl,fun _ a ha=>hm0 a (by rw [uD (by omega)];exact ha)⟩
theorem bS3 {k:Nat} (hk:1≤k) {z:fR} {v:AV} {l:List ByteArray} (hx:SZ 1 RS z v l):FC (E k) 174 [v] z fun v _=>∃ b:Bool,v=Ab b:=by
 have hxl:=hx.le
 refine iI (bCa) (by omega) (dN O) fun B j hj=>?_
 refine R5 50 O ?_
 refine dE (bQ ?_)
 refine eT (fun n fs=>∃ (i0:Nat) (e:O6) (zz:fR) (Hx:List HA),fs=⟨e,zz,Hx++[]⟩∧zle z zz∧Sr e [(0,v),(3,Ai (i0:Int))]∧n=l.length - i0∧i0≤l.length) ?_ _ ⟨0,_,_,[],rfl,zle.refl _,(lL rfl (lL rfl D3)),rfl,Nat.zero_le _⟩ (kK (by omega))
 intro n fs hI
 obtain ⟨i0,e,zl0,Hx,rfl,hzl0,hat,rfl,hi0⟩:=hI
 refine zH hat fun e=>?_
 refine uQ (List.sublist_append_right _ _) ?_
 refine R4 28 O ?_
 refine cX O hx ?_
 refine R3 4 O ?_
 refine kJ O (fun hc7=>?_) (fun hc7=>?_)
 ·have hp7:=jB.1 hc7
  refine dX ?_
  refine dE (bQ ?_)
  refine R4 14 O ?_
  obtain ⟨a12,ha12⟩:=vB (l:=l) (i:=i0) (by omega)
  refine eA O O hx i0 O a12 ha12 fun b12 p12 cs12 at12 hR12=>?_
  obtain rfl:=hR12
  refine tG (v:=.c (Cs a12)) (off:=0) O (at12.mono (hzl0)) O (dN O) O ?_
  refine bJA O ?_
  refine R0 2 O ?_
  refine kJ O (fun hc15=>?_) (fun hc15=>?_)
  ·have hp15:=jB.1 hc15
   refine R5 6 O ?_
   refine xT ?_
   refine oD ?_
   refine Ou ?_
   refine oD ?_
   exact rI O ⟨false,rfl⟩
  have hp15:=sL jB hc15
  refine mQ ?_
  refine iE ?_
  refine xG ?_
  refine lM O ?_
  refine lB O O (tI (r:=((i0+1:Nat):Int)) (vR (by omega))) ?_
  refine R0 3 O ?_
  exact nN (by omega) ⟨i0+1,_,_,[],rfl,hzl0,(lL rfl (lL rfl D3)),rfl,by omega⟩
 have hp7:=sL jB hc7
 refine eE ?_
 refine oC ?_
 refine iE ?_
 refine R5 6 O ?_
 refine xT ?_
 exact rI O ⟨true,rfl⟩
open Go.CE Go.RowKit
abbrev RK (z0:fR):RT Ax:=fun _ cs a=>aSY z0 cs a
instance {z0:fR}:RMono (RK z0):=⟨fun _ h=>h⟩
theorem C4 {z z1:fR} {a:Ax} {c0 c1:C} (g0:CZ 1 RW z c0 a.nm) (g1:CZ 1 RW z c1 a.dm):RK z z1 [Cb a.n,c0,Cb a.d,c1] a:=Ed g0 g1
theorem bNV {z z1:fR} {c:C} {l:List Ax} (hz:zle z z1) (h:CZ 4 (RK z) (zd z z1) c l):CZ 4 aSY z1 c l:=by
 cases h with
 | nil=>exact .nil
 | em=>exact .em
 | sl b o n k full l hl hm hz' hk hf hh=>exact .sl b o n k full l hl hm hz'.1 hk hf fun i a hi=>RMono.mono (R:=aSY) hz (hh i a hi)
theorem bS7 {k:Nat} (hk:1≤k) {z:fR} {v:AV} {x:uV} (hx:AZ Ox z v x) (hL:LnF x):FC (E k) 173 [v] z fun v z1=>∃ c l,v=.c c∧CZ 4 (RK z) (zd z z1) c l∧InF x l:=by
  have e0:=hL.l0
  have e1:=hL.l1
  have e3:=hL.l3
  obtain ⟨_,rfl,cx_0,cx_1,cx_2,cx_3,cx_4,cx_5,cx_6,cx_7,cx_8,cx_9,cx_10,cx_11,rfl,hx_0,hx_1,hx_2,hx_3,hx_4,hx_5,hx_6,hx_7,hx_8,hx_9,hx_10,hx_11⟩:=hx
  refine iI (bBc) (by omega) (dN O) fun B j hj=>?_
  refine xR ?_
  refine aEu O O fun b1=>?_
  refine R2 9 O ?_
  refine mL (v:=.agg [Cb x.threshold.n,cx_1,Cb x.threshold.d,cx_2]) O mem0 (dN O) O ?_
  refine lF O ?_
  refine mL (v:=.agg [Cb x.cap.n,cx_3,Cb x.cap.d,cx_4]) O mem0 (dN O) O ?_
  refine lF O ?_
  refine mL (v:=.agg [Cb x.interest.n,cx_5,Cb x.interest.d,cx_6]) O mem0 (dN O) O ?_
  refine lF O ?_
  refine mL (v:=.agg [Cb x.floor.n,cx_7,Cb x.floor.d,cx_8]) O mem0 (dN O) O ?_
  refine gU O fun b21=>?_
  refine Hw (p:=[]) (n:=4) (size:=4) O O ?_
  have cl0:CL 4 (RK z) z [Cb x.threshold.n,cx_1,Cb x.threshold.d,cx_2,Cb x.cap.n,cx_3,Cb x.cap.d,cx_4,Cb x.interest.n,cx_5,Cb x.interest.d,cx_6,Cb x.floor.n,cx_7,Cb x.floor.d,cx_8] [x.threshold,x.cap,x.interest,x.floor]:=(CL.append (cs:=[Cb x.threshold.n,cx_1,Cb x.threshold.d,cx_2]) (cs':=[Cb x.cap.n,cx_3,Cb x.cap.d,cx_4,Cb x.interest.n,cx_5,Cb x.interest.d,cx_6,Cb x.floor.n,cx_7,Cb x.floor.d,cx_8]) (l:=[x.threshold]) (l':=[x.cap,x.interest,x.floor]) (CL.one rfl (C4 hx_1 hx_2)) (CL.append (cs:=[Cb x.cap.n,cx_3,Cb x.cap.d,cx_4]) (cs':=[Cb x.interest.n,cx_5,Cb x.interest.d,cx_6,Cb x.floor.n,cx_7,Cb x.floor.d,cx_8]) (l:=[x.cap]) (l':=[x.interest,x.floor]) (CL.one rfl (C4 hx_3 hx_4)) (CL.append (cs:=[Cb x.interest.n,cx_5,Cb x.interest.d,cx_6]) (cs':=[Cb x.floor.n,cx_7,Cb x.floor.d,cx_8]) (l:=[x.interest]) (l':=[x.floor]) (CL.one rfl (C4 hx_5 hx_6)) (CL.one rfl (C4 hx_7 hx_8)))))
  refine R3 25 O ?_
  refine dE (bQ ?_)
  refine eT (fun n fs=>∃ (i0:Nat) (w0:C) (cs0:List C) (m0:Nat) (l0:List Ax) (e:O6) (zz:fR) (Hx:List HA),fs=⟨e,zz,Hx++[.row (.c w0) 35 4 m0 cs0,.blk b1 (.cells 101 [Cs x.name,Cs x.parent,cx_0,Cb x.threshold.n,cx_1,Cb x.threshold.d,cx_2,Cb x.cap.n,cx_3,Cb x.cap.d,cx_4,Ci x.back,Ci x.forward,Cb x.interest.n,cx_5,Cb x.interest.d,cx_6,Cb x.floor.n,cx_7,Cb x.floor.d,cx_8,Ci x.keep,cx_9,cx_10,cx_11])]⟩∧zle z zz∧Sr e [(1,Ap b1),(3,.c w0),(4,Ai (i0:Int))]∧n=x.brackets.length - i0∧i0≤x.brackets.length∧CL 4 (RK z) zz cs0 l0∧m0=l0.length∧m0≤4+2 * i0∧pG w0 w0=true∧(∀ r,r∈[x.threshold,x.cap,x.interest,x.floor]→r∈l0)∧(∀ a,a∈x.brackets.take i0→a.frm∈l0∧a.rate∈l0)) ?_ _ ⟨0,_,_,4,[x.threshold,x.cap,x.interest,x.floor],_,_,[],rfl,zle.refl _,(lL rfl (lL rfl (lL rfl D3))),rfl,Nat.zero_le _,cl0,rfl,by omega,by simp [pG],fun r h=>h,fun a ha=>by simp at ha⟩ (kK (by omega))
  intro n fs hI
  obtain ⟨i0,w0,cs0,m0,l0,e,zl0,Hx,rfl,hzl0,hat,rfl,hi0,hcl0,hlen0,hmb0,hw0,hs0,hm0⟩:=hI
  refine zH hat fun e=>?_
  refine uQ (List.sublist_append_right _ _) ?_
  refine R4 20 O ?_
  refine mL (v:=.c (cx_0)) O Y1 (dN O) O ?_
  refine cX O hx_0 ?_
  refine R3 4 O ?_
  refine kJ O (fun hc26=>?_) (fun hc26=>?_)
  · skip
    have hp26:=jB.1 hc26
    refine dX ?_
    refine dE (bQ ?_)
    refine Ak ?_
    refine gP O O F ?_
    refine R0 3 O ?_
    refine gP O O F ?_
    refine R0 2 O ?_
    refine Lr (v:=.c (cx_0)) O O (.inr Y1) O (dN O) O ?_
    refine gP O O F ?_
    refine R0 3 O ?_
    obtain ⟨a33,ha33⟩:=vB (l:=x.brackets) (i:=i0) (by omega)
    refine gP O O F ?_
    refine eA O O hx_0 i0 O a33 ha33 fun b33 p33 cs33 at33 hR33=>?_
    refine lN ?_
    obtain ⟨c33_0,c33_1,c33_2,c33_3,rfl,h33_0,h33_1,h33_2,h33_3⟩:=hR33
    refine gP O O F ?_
    refine R0 2 O ?_
    refine glA (v:=.agg [Cb a33.frm.n,c33_0,Cb a33.frm.d,c33_1]) (off:=0) O O at33 (fun _ _ h=>.inl ((hzl0) _ _ h)) O (dN O) O ?_
    refine gP O O F ?_
    refine R0 2 O ?_
    refine Lr (v:=.c (cx_0)) O O (.inr Y1) O (dN O) O ?_
    refine gP O O F ?_
    refine R0 3 O ?_
    refine gP O O F ?_
    refine eA O O hx_0 i0 O a33 ha33 fun b39 p39 cs39 at39 hR39=>?_
    refine lN ?_
    obtain ⟨c39_0,c39_1,c39_2,c39_3,rfl,h39_0,h39_1,h39_2,h39_3⟩:=hR39
    refine gP O O F ?_
    refine R0 2 O ?_
    refine glA (v:=.agg [Cb a33.rate.n,c39_2,Cb a33.rate.d,c39_3]) (off:=4) O O at39 (fun _ _ h=>.inl ((hzl0) _ _ h)) O (dN O) O ?_
    refine xM (k:=.cells 35 [Cb a33.frm.n,c33_0,Cb a33.frm.d,c33_1,Cb a33.rate.n,c39_2,Cb a33.rate.d,c39_3]) (w:=fun b=>.c (.sl b 0 2 4)) rfl F rfl (fun _=>rfl) (fun st hst=>?_) (fun b42 hT42=>?_)
    · simp only [eP,yB,AS.ev,hst 35 (by simp [mK.sl,Od.sls,Od.sl]),hst 41 (by simp [mK.sl,Od.sls,Od.sl])];rfl
    refine D5 (i:=⟨_,_,.app _ _ _ _ _ _⟩) O F O O O O ?_
    refine rA O O mem0 O (fun _=>P1) (by omega) (by omega) fun w43 hw43=>?_
    have cl43:CL 4 (RK z) zl0 _ (l0++[a33.frm,a33.rate]):=CL.append hcl0 (CL.append (cs:=[Cb a33.frm.n,c33_0,Cb a33.frm.d,c33_1]) (cs':=[Cb a33.rate.n,c39_2,Cb a33.rate.d,c39_3]) (l:=[a33.frm]) (l':=[a33.rate]) (CL.one rfl (C4 h33_0 h33_1)) (CL.one rfl (C4 h39_2 h39_3)))
    refine lN ?_
    refine gP O O F ?_
    refine R0 3 O ?_
    refine nQ ?_
    refine iE ?_
    refine xG ?_
    refine lM O ?_
    refine lB O O (tI (r:=((i0+1:Nat):Int)) (vR (by omega))) ?_
    refine R0 3 O ?_
    exact nN (by omega) ⟨i0+1,_,_,_,_,_,_,[_],rfl,hzl0,(lL rfl (lL rfl (lL rfl D3))),rfl,by omega,cl43,by simp;omega,by omega,hw43,fun r h=>by simp [hs0 r h],Es ha33 (fun a h=>by have:=hm0 a h;simp [this]) (by simp)⟩
  · skip
    have hp26:=sL jB hc26
    refine eE ?_
    refine oC ?_
    refine iE ?_
    refine R5 12 O ?_
    refine dE (bQ ?_)
    refine eT (fun n fs=>∃ (i1:Nat) (w1:C) (cs1:List C) (m1:Nat) (l1:List Ax) (e:O6) (zz:fR) (Hx:List HA),fs=⟨e,zz,Hx++[.row (.c w1) 35 4 m1 cs1,.blk b1 (.cells 101 [Cs x.name,Cs x.parent,cx_0,Cb x.threshold.n,cx_1,Cb x.threshold.d,cx_2,Cb x.cap.n,cx_3,Cb x.cap.d,cx_4,Ci x.back,Ci x.forward,Cb x.interest.n,cx_5,Cb x.interest.d,cx_6,Cb x.floor.n,cx_7,Cb x.floor.d,cx_8,Ci x.keep,cx_9,cx_10,cx_11])]⟩∧zle zl0 zz∧Sr e [(1,Ap b1),(3,.c w1),(5,Ai (i1:Int))]∧n=x.classes.length - i1∧i1≤x.classes.length∧CL 4 (RK z) zz cs1 l1∧m1=l1.length∧m1≤m0+1 * i1∧pG w1 w1=true∧(∀ r,r∈l0→r∈l1)∧(∀ a,a∈x.classes.take i1→a.arg∈l1)) ?_ _ ⟨0,_,_,m0,l0,_,_,[],rfl,zle.refl _,(lL rfl (lL rfl (lL rfl D3))),rfl,Nat.zero_le _,hcl0,hlen0,by omega,hw0,fun r h=>h,fun a ha=>by simp at ha⟩ (kK (by omega))
    intro n fs hI
    obtain ⟨i1,w1,cs1,m1,l1,e,zl1,Hx,rfl,hzl1,hat,rfl,hi1,hcl1,hlen1,hmb1,hw1,hs1,hm1⟩:=hI
    refine zH hat fun e=>?_
    refine uQ (List.sublist_append_right _ _) ?_
    refine R4 20 O ?_
    refine mL (v:=.c (cx_9)) O Y1 (dN O) O ?_
    refine cX O hx_9 ?_
    refine R3 4 O ?_
    refine kJ O (fun hc48=>?_) (fun hc48=>?_)
    · skip
      have hp48:=jB.1 hc48
      refine dX ?_
      refine dE (bQ ?_)
      refine xG ?_
      refine R1 5 O ?_
      refine mL (v:=.c (cx_9)) O Y1 (dN O) O ?_
      refine lM O ?_
      obtain ⟨a55,ha55⟩:=vB (l:=x.classes) (i:=i1) (by omega)
      refine eA O O hx_9 i1 O a55 ha55 fun b55 p55 cs55 at55 hR55=>?_
      obtain ⟨c55_0,c55_1,rfl,h55_0,h55_1⟩:=hR55
      refine lF O ?_
      refine tG (v:=.agg [Cb a55.arg.n,c55_0,Cb a55.arg.d,c55_1]) (off:=2) O (at55.mono (hzl0.trans hzl1)) O (dN O) O ?_
      refine gU O fun b58=>?_
      refine rA O O mem0 O (fun _=>P1) (by omega) (by omega) fun w59 hw59=>?_
      have cl59:CL 4 (RK z) zl1 _ (l1++[a55.arg]):=CL.append hcl1 (CL.one rfl (C4 h55_0 h55_1))
      refine R0 3 O ?_
      refine iE ?_
      refine xG ?_
      refine lM O ?_
      refine lB O O (tI (r:=((i1+1:Nat):Int)) (vR (by omega))) ?_
      refine R0 3 O ?_
      exact nN (by omega) ⟨i1+1,_,_,_,_,_,_,[_],rfl,hzl1,(lL rfl (lL rfl (lL rfl D3))),rfl,by omega,cl59,by simp;omega,by omega,hw59,fun r h=>by simp [hs1 r h],Es ha55 (fun a h=>by have:=hm1 a h;simp [this]) (by simp)⟩
    · skip
      have hp48:=sL jB hc48
      refine eE ?_
      refine oC ?_
      refine iE ?_
      refine R5 12 O ?_
      refine dE (bQ ?_)
      refine eT (fun n fs=>∃ (i2:Nat) (w2:C) (cs2:List C) (m2:Nat) (l2:List Ax) (e:O6) (zz:fR) (Hx:List HA),fs=⟨e,zz,Hx++[.row (.c w2) 35 4 m2 cs2,.blk b1 (.cells 101 [Cs x.name,Cs x.parent,cx_0,Cb x.threshold.n,cx_1,Cb x.threshold.d,cx_2,Cb x.cap.n,cx_3,Cb x.cap.d,cx_4,Ci x.back,Ci x.forward,Cb x.interest.n,cx_5,Cb x.interest.d,cx_6,Cb x.floor.n,cx_7,Cb x.floor.d,cx_8,Ci x.keep,cx_9,cx_10,cx_11])]⟩∧zle zl1 zz∧Sr e [(1,Ap b1),(3,.c w2),(6,Ai (i2:Int))]∧n=x.years.length - i2∧i2≤x.years.length∧CL 4 (RK z) zz cs2 l2∧m2=l2.length∧m2≤m1+240 * i2∧pG w2 w2=true∧(∀ r,r∈l1→r∈l2)∧(∀ a,a∈x.years.take i2→InY a l2)) ?_ _ ⟨0,_,_,m1,l1,_,_,[],rfl,zle.refl _,(lL rfl (lL rfl (lL rfl D3))),rfl,Nat.zero_le _,hcl1,hlen1,by omega,hw1,fun r h=>h,fun a ha=>by simp at ha⟩ (kK (by omega))
      intro n fs hI
      obtain ⟨i2,w2,cs2,m2,l2,e,zl2,Hx,rfl,hzl2,hat,rfl,hi2,hcl2,hlen2,hmb2,hw2,hs2,hm2⟩:=hI
      refine zH hat fun e=>?_
      refine uQ (List.sublist_append_right _ _) ?_
      refine R4 20 O ?_
      refine mL (v:=.c (cx_11)) O Y1 (dN O) O ?_
      refine cX O hx_11 ?_
      refine R3 4 O ?_
      refine kJ O (fun hc64=>?_) (fun hc64=>?_)
      · skip
        have hp64:=jB.1 hc64
        refine dX ?_
        refine dE (bQ ?_)
        refine R4 4 O ?_
        refine mL (v:=.c (cx_11)) O Y1 (dN O) O ?_
        refine lM O ?_
        obtain ⟨a70,ha70⟩:=vB (l:=x.years) (i:=i2) (by omega)
        refine eA O O hx_11 i2 O a70 ha70 fun b70 p70 cs70 at70 hR70=>?_
        obtain ⟨c70_0,c70_1,c70_2,c70_3,c70_4,rfl,h70_0,h70_1,h70_2,h70_3,h70_4⟩:=hR70
        refine tG (v:=.agg [Ci a70.number,c70_0,c70_1,c70_2,c70_3,c70_4]) (off:=0) O (at70.mono (hzl0.trans (hzl1.trans hzl2))) O (dN O) O ?_
        obtain ⟨ly0,ly1,ly2,ly3,ly4⟩:=hL.y _ (List.mem_of_getElem? ha70)
        refine uF fun b7=>?_
        refine vO (cs':=[Ci a70.number,c70_0,c70_1,c70_2,c70_3,c70_4]) O O O lR (by kernel_rfl) O (dN O) ?_
        refine lN ?_
        refine R5 12 O ?_
        refine dE (bQ ?_)
        refine eT (fun n fs=>∃ (i3:Nat) (w3:C) (cs3:List C) (m3:Nat) (l3:List Ax) (e:O6) (zz:fR) (Hx:List HA),fs=⟨e,zz,Hx++[.blk b7 (.cells 134 [Ci a70.number,c70_0,c70_1,c70_2,c70_3,c70_4]),.row (.c w3) 35 4 m3 cs3,.blk b1 (.cells 101 [Cs x.name,Cs x.parent,cx_0,Cb x.threshold.n,cx_1,Cb x.threshold.d,cx_2,Cb x.cap.n,cx_3,Cb x.cap.d,cx_4,Ci x.back,Ci x.forward,Cb x.interest.n,cx_5,Cb x.interest.d,cx_6,Cb x.floor.n,cx_7,Cb x.floor.d,cx_8,Ci x.keep,cx_9,cx_10,cx_11])]⟩∧zle zl2 zz∧Sr e [(1,Ap b1),(6,Ai (i2:Int)),(7,Ap b7),(3,.c w3),(8,Ai (i3:Int))]∧n=a70.holds.length - i3∧i3≤a70.holds.length∧CL 4 (RK z) zz cs3 l3∧m3=l3.length∧m3≤m2+1 * i3∧pG w3 w3=true∧(∀ r,r∈l2→r∈l3)∧(∀ a,a∈a70.holds.take i3→a.share∈l3)) ?_ _ ⟨0,_,_,m2,l2,_,_,[],rfl,zle.refl _,(lL rfl (lL rfl (lL rfl (lL rfl (lL rfl D3))))),rfl,Nat.zero_le _,hcl2,hlen2,by omega,hw2,fun r h=>h,fun a ha=>by simp at ha⟩ (kK (by omega))
        intro n fs hI
        obtain ⟨i3,w3,cs3,m3,l3,e,zl3,Hx,rfl,hzl3,hat,rfl,hi3,hcl3,hlen3,hmb3,hw3,hs3,hm3⟩:=hI
        refine zH hat fun e=>?_
        refine uQ (List.sublist_append_right _ _) ?_
        refine R4 20 O ?_
        refine mL (v:=.c (c70_0)) O mem0 (dN O) O ?_
        refine cX O h70_0 ?_
        refine R3 4 O ?_
        refine kJ O (fun hc76=>?_) (fun hc76=>?_)
        · skip
          have hp76:=jB.1 hc76
          refine dX ?_
          refine dE (bQ ?_)
          refine xG ?_
          refine R1 5 O ?_
          refine mL (v:=.c (c70_0)) O mem0 (dN O) O ?_
          refine lM O ?_
          obtain ⟨a83,ha83⟩:=vB (l:=a70.holds) (i:=i3) (by omega)
          refine eA O O h70_0 i3 O a83 ha83 fun b83 p83 cs83 at83 hR83=>?_
          obtain ⟨c83_0,c83_1,rfl,h83_0,h83_1⟩:=hR83
          refine lF O ?_
          refine tG (v:=.agg [Cb a83.share.n,c83_0,Cb a83.share.d,c83_1]) (off:=2) O (at83.mono (hzl0.trans (hzl1.trans (hzl2.trans hzl3)))) O (dN O) O ?_
          refine gU O fun b86=>?_
          refine rA O O mem0 O (fun _=>P2) (by omega) (by omega) fun w87 hw87=>?_
          have cl87:CL 4 (RK z) zl3 _ (l3++[a83.share]):=CL.append hcl3 (CL.one rfl (C4 h83_0 h83_1))
          refine R0 3 O ?_
          refine iE ?_
          refine xG ?_
          refine lM O ?_
          refine lB O O (tI (r:=((i3+1:Nat):Int)) (vR (by omega))) ?_
          refine R0 3 O ?_
          exact nN (by omega) ⟨i3+1,_,_,_,_,_,_,[_],rfl,hzl3,(lL rfl (lL rfl (lL rfl (lL rfl (lL rfl D3))))),rfl,by omega,cl87,by simp;omega,by omega,hw87,fun r h=>by simp [hs3 r h],Es ha83 (fun a h=>by have:=hm3 a h;simp [this]) (by simp)⟩
        · skip
          have hp76:=sL jB hc76
          refine eE ?_
          refine oC ?_
          refine iE ?_
          refine R5 12 O ?_
          refine dE (bQ ?_)
          refine eT (fun n fs=>∃ (i4:Nat) (w4:C) (cs4:List C) (m4:Nat) (l4:List Ax) (e:O6) (zz:fR) (Hx:List HA),fs=⟨e,zz,Hx++[.blk b7 (.cells 134 [Ci a70.number,c70_0,c70_1,c70_2,c70_3,c70_4]),.row (.c w4) 35 4 m4 cs4,.blk b1 (.cells 101 [Cs x.name,Cs x.parent,cx_0,Cb x.threshold.n,cx_1,Cb x.threshold.d,cx_2,Cb x.cap.n,cx_3,Cb x.cap.d,cx_4,Ci x.back,Ci x.forward,Cb x.interest.n,cx_5,Cb x.interest.d,cx_6,Cb x.floor.n,cx_7,Cb x.floor.d,cx_8,Ci x.keep,cx_9,cx_10,cx_11])]⟩∧zle zl3 zz∧Sr e [(1,Ap b1),(6,Ai (i2:Int)),(7,Ap b7),(3,.c w4),(9,Ai (i4:Int))]∧n=a70.books.length - i4∧i4≤a70.books.length∧CL 4 (RK z) zz cs4 l4∧m4=l4.length∧m4≤m3+1 * i4∧pG w4 w4=true∧(∀ r,r∈l3→r∈l4)∧(∀ a,a∈a70.books.take i4→a.amount∈l4)) ?_ _ ⟨0,_,_,m3,l3,_,_,[],rfl,zle.refl _,(lL rfl (lL rfl (lL rfl (lL rfl (lL rfl D3))))),rfl,Nat.zero_le _,hcl3,hlen3,by omega,hw3,fun r h=>h,fun a ha=>by simp at ha⟩ (kK (by omega))
          intro n fs hI
          obtain ⟨i4,w4,cs4,m4,l4,e,zl4,Hx,rfl,hzl4,hat,rfl,hi4,hcl4,hlen4,hmb4,hw4,hs4,hm4⟩:=hI
          refine zH hat fun e=>?_
          refine uQ (List.sublist_append_right _ _) ?_
          refine R4 20 O ?_
          refine mL (v:=.c (c70_1)) O mem0 (dN O) O ?_
          refine cX O h70_1 ?_
          refine R3 4 O ?_
          refine kJ O (fun hc92=>?_) (fun hc92=>?_)
          · skip
            have hp92:=jB.1 hc92
            refine dX ?_
            refine dE (bQ ?_)
            refine xG ?_
            refine R1 5 O ?_
            refine mL (v:=.c (c70_1)) O mem0 (dN O) O ?_
            refine lM O ?_
            obtain ⟨a99,ha99⟩:=vB (l:=a70.books) (i:=i4) (by omega)
            refine eA O O h70_1 i4 O a99 ha99 fun b99 p99 cs99 at99 hR99=>?_
            obtain ⟨c99_0,c99_1,rfl,h99_0,h99_1⟩:=hR99
            refine lF O ?_
            refine tG (v:=.agg [Cb a99.amount.n,c99_0,Cb a99.amount.d,c99_1]) (off:=2) O (at99.mono (hzl0.trans (hzl1.trans (hzl2.trans (hzl3.trans hzl4))))) O (dN O) O ?_
            refine gU O fun b102=>?_
            refine rA O O mem0 O (fun _=>P2) (by omega) (by omega) fun w103 hw103=>?_
            have cl103:CL 4 (RK z) zl4 _ (l4++[a99.amount]):=CL.append hcl4 (CL.one rfl (C4 h99_0 h99_1))
            refine R0 3 O ?_
            refine iE ?_
            refine xG ?_
            refine lM O ?_
            refine lB O O (tI (r:=((i4+1:Nat):Int)) (vR (by omega))) ?_
            refine R0 3 O ?_
            exact nN (by omega) ⟨i4+1,_,_,_,_,_,_,[_],rfl,hzl4,(lL rfl (lL rfl (lL rfl (lL rfl (lL rfl D3))))),rfl,by omega,cl103,by simp;omega,by omega,hw103,fun r h=>by simp [hs4 r h],Es ha99 (fun a h=>by have:=hm4 a h;simp [this]) (by simp)⟩
          · skip
            have hp92:=sL jB hc92
            refine eE ?_
            refine oC ?_
            refine iE ?_
            refine R5 12 O ?_
            refine dE (bQ ?_)
            refine eT (fun n fs=>∃ (i5:Nat) (w5:C) (cs5:List C) (m5:Nat) (l5:List Ax) (e:O6) (zz:fR) (Hx:List HA),fs=⟨e,zz,Hx++[.blk b7 (.cells 134 [Ci a70.number,c70_0,c70_1,c70_2,c70_3,c70_4]),.row (.c w5) 35 4 m5 cs5,.blk b1 (.cells 101 [Cs x.name,Cs x.parent,cx_0,Cb x.threshold.n,cx_1,Cb x.threshold.d,cx_2,Cb x.cap.n,cx_3,Cb x.cap.d,cx_4,Ci x.back,Ci x.forward,Cb x.interest.n,cx_5,Cb x.interest.d,cx_6,Cb x.floor.n,cx_7,Cb x.floor.d,cx_8,Ci x.keep,cx_9,cx_10,cx_11])]⟩∧zle zl4 zz∧Sr e [(1,Ap b1),(6,Ai (i2:Int)),(7,Ap b7),(3,.c w5),(10,Ai (i5:Int))]∧n=a70.deals.length - i5∧i5≤a70.deals.length∧CL 4 (RK z) zz cs5 l5∧m5=l5.length∧m5≤m4+1 * i5∧pG w5 w5=true∧(∀ r,r∈l4→r∈l5)∧(∀ a,a∈a70.deals.take i5→a.amount∈l5)) ?_ _ ⟨0,_,_,m4,l4,_,_,[],rfl,zle.refl _,(lL rfl (lL rfl (lL rfl (lL rfl (lL rfl D3))))),rfl,Nat.zero_le _,hcl4,hlen4,by omega,hw4,fun r h=>h,fun a ha=>by simp at ha⟩ (kK (by omega))
            intro n fs hI
            obtain ⟨i5,w5,cs5,m5,l5,e,zl5,Hx,rfl,hzl5,hat,rfl,hi5,hcl5,hlen5,hmb5,hw5,hs5,hm5⟩:=hI
            refine zH hat fun e=>?_
            refine uQ (List.sublist_append_right _ _) ?_
            refine R4 20 O ?_
            refine mL (v:=.c (c70_2)) O mem0 (dN O) O ?_
            refine cX O h70_2 ?_
            refine R3 4 O ?_
            refine kJ O (fun hc108=>?_) (fun hc108=>?_)
            · skip
              have hp108:=jB.1 hc108
              refine dX ?_
              refine dE (bQ ?_)
              refine xG ?_
              refine R1 5 O ?_
              refine mL (v:=.c (c70_2)) O mem0 (dN O) O ?_
              refine lM O ?_
              obtain ⟨a115,ha115⟩:=vB (l:=a70.deals) (i:=i5) (by omega)
              refine eA O O h70_2 i5 O a115 ha115 fun b115 p115 cs115 at115 hR115=>?_
              obtain ⟨c115_0,c115_1,rfl,h115_0,h115_1⟩:=hR115
              refine lF O ?_
              refine tG (v:=.agg [Cb a115.amount.n,c115_0,Cb a115.amount.d,c115_1]) (off:=6) O (at115.mono (hzl0.trans (hzl1.trans (hzl2.trans (hzl3.trans (hzl4.trans hzl5)))))) O (dN O) O ?_
              refine gU O fun b118=>?_
              refine rA O O mem0 O (fun _=>P2) (by omega) (by omega) fun w119 hw119=>?_
              have cl119:CL 4 (RK z) zl5 _ (l5++[a115.amount]):=CL.append hcl5 (CL.one rfl (C4 h115_0 h115_1))
              refine R0 3 O ?_
              refine iE ?_
              refine xG ?_
              refine lM O ?_
              refine lB O O (tI (r:=((i5+1:Nat):Int)) (vR (by omega))) ?_
              refine R0 3 O ?_
              exact nN (by omega) ⟨i5+1,_,_,_,_,_,_,[_],rfl,hzl5,(lL rfl (lL rfl (lL rfl (lL rfl (lL rfl D3))))),rfl,by omega,cl119,by simp;omega,by omega,hw119,fun r h=>by simp [hs5 r h],Es ha115 (fun a h=>by have:=hm5 a h;simp [this]) (by simp)⟩
            · skip
              have hp108:=sL jB hc108
              refine eE ?_
              refine oC ?_
              refine iE ?_
              refine R5 12 O ?_
              refine dE (bQ ?_)
              refine eT (fun n fs=>∃ (i6:Nat) (w6:C) (cs6:List C) (m6:Nat) (l6:List Ax) (e:O6) (zz:fR) (Hx:List HA),fs=⟨e,zz,Hx++[.blk b7 (.cells 134 [Ci a70.number,c70_0,c70_1,c70_2,c70_3,c70_4]),.row (.c w6) 35 4 m6 cs6,.blk b1 (.cells 101 [Cs x.name,Cs x.parent,cx_0,Cb x.threshold.n,cx_1,Cb x.threshold.d,cx_2,Cb x.cap.n,cx_3,Cb x.cap.d,cx_4,Ci x.back,Ci x.forward,Cb x.interest.n,cx_5,Cb x.interest.d,cx_6,Cb x.floor.n,cx_7,Cb x.floor.d,cx_8,Ci x.keep,cx_9,cx_10,cx_11])]⟩∧zle zl5 zz∧Sr e [(1,Ap b1),(6,Ai (i2:Int)),(7,Ap b7),(3,.c w6),(11,Ai (i6:Int))]∧n=a70.stocks.length - i6∧i6≤a70.stocks.length∧CL 4 (RK z) zz cs6 l6∧m6=l6.length∧m6≤m5+2 * i6∧pG w6 w6=true∧(∀ r,r∈l5→r∈l6)∧(∀ a,a∈a70.stocks.take i6→a.margin∈l6∧a.unsold∈l6)) ?_ _ ⟨0,_,_,m5,l5,_,_,[],rfl,zle.refl _,(lL rfl (lL rfl (lL rfl (lL rfl (lL rfl D3))))),rfl,Nat.zero_le _,hcl5,hlen5,by omega,hw5,fun r h=>h,fun a ha=>by simp at ha⟩ (kK (by omega))
              intro n fs hI
              obtain ⟨i6,w6,cs6,m6,l6,e,zl6,Hx,rfl,hzl6,hat,rfl,hi6,hcl6,hlen6,hmb6,hw6,hs6,hm6⟩:=hI
              refine zH hat fun e=>?_
              refine uQ (List.sublist_append_right _ _) ?_
              refine R4 20 O ?_
              refine mL (v:=.c (c70_3)) O mem0 (dN O) O ?_
              refine cX O h70_3 ?_
              refine R3 4 O ?_
              refine kJ O (fun hc124=>?_) (fun hc124=>?_)
              · skip
                have hp124:=jB.1 hc124
                refine dX ?_
                refine dE (bQ ?_)
                refine Ak ?_
                refine gP O O F ?_
                refine R0 3 O ?_
                refine gP O O F ?_
                refine R0 2 O ?_
                refine Lr (v:=.c (c70_3)) O O (.inr mem0) O (dN O) O ?_
                refine gP O O F ?_
                refine R0 3 O ?_
                obtain ⟨a131,ha131⟩:=vB (l:=a70.stocks) (i:=i6) (by omega)
                refine gP O O F ?_
                refine eA O O h70_3 i6 O a131 ha131 fun b131 p131 cs131 at131 hR131=>?_
                refine lN ?_
                obtain ⟨c131_0,c131_1,c131_2,c131_3,rfl,h131_0,h131_1,h131_2,h131_3⟩:=hR131
                refine gP O O F ?_
                refine R0 2 O ?_
                refine glA (v:=.agg [Cb a131.margin.n,c131_0,Cb a131.margin.d,c131_1]) (off:=1) O O at131 (fun _ _ h=>.inl ((hzl0.trans (hzl1.trans (hzl2.trans (hzl3.trans (hzl4.trans (hzl5.trans (hzl6))))))) _ _ h)) O (dN O) O ?_
                refine gP O O F ?_
                refine R0 2 O ?_
                refine Lr (v:=.c (c70_3)) O O (.inr mem0) O (dN O) O ?_
                refine gP O O F ?_
                refine R0 3 O ?_
                refine gP O O F ?_
                refine eA O O h70_3 i6 O a131 ha131 fun b137 p137 cs137 at137 hR137=>?_
                refine lN ?_
                obtain ⟨c137_0,c137_1,c137_2,c137_3,rfl,h137_0,h137_1,h137_2,h137_3⟩:=hR137
                refine gP O O F ?_
                refine R0 2 O ?_
                refine glA (v:=.agg [Cb a131.unsold.n,c137_2,Cb a131.unsold.d,c137_3]) (off:=5) O O at137 (fun _ _ h=>.inl ((hzl0.trans (hzl1.trans (hzl2.trans (hzl3.trans (hzl4.trans (hzl5.trans (hzl6))))))) _ _ h)) O (dN O) O ?_
                refine xM (k:=.cells 35 [Cb a131.margin.n,c131_0,Cb a131.margin.d,c131_1,Cb a131.unsold.n,c137_2,Cb a131.unsold.d,c137_3]) (w:=fun b=>.c (.sl b 0 2 4)) rfl F rfl (fun _=>rfl) (fun st hst=>?_) (fun b140 hT140=>?_)
                · simp only [eP,yB,AS.ev,hst 133 (by simp [mK.sl,Od.sls,Od.sl]),hst 139 (by simp [mK.sl,Od.sls,Od.sl])];rfl
                refine D5 (i:=⟨_,_,.app _ _ _ _ _ _⟩) O F O O O O ?_
                refine rA O O mem0 O (fun _=>P2) (by omega) (by omega) fun w141 hw141=>?_
                have cl141:CL 4 (RK z) zl6 _ (l6++[a131.margin,a131.unsold]):=CL.append hcl6 (CL.append (cs:=[Cb a131.margin.n,c131_0,Cb a131.margin.d,c131_1]) (cs':=[Cb a131.unsold.n,c137_2,Cb a131.unsold.d,c137_3]) (l:=[a131.margin]) (l':=[a131.unsold]) (CL.one rfl (C4 h131_0 h131_1)) (CL.one rfl (C4 h137_2 h137_3)))
                refine lN ?_
                refine gP O O F ?_
                refine R0 3 O ?_
                refine nQ ?_
                refine iE ?_
                refine xG ?_
                refine lM O ?_
                refine lB O O (tI (r:=((i6+1:Nat):Int)) (vR (by omega))) ?_
                refine R0 3 O ?_
                exact nN (by omega) ⟨i6+1,_,_,_,_,_,_,[_],rfl,hzl6,(lL rfl (lL rfl (lL rfl (lL rfl (lL rfl D3))))),rfl,by omega,cl141,by simp;omega,by omega,hw141,fun r h=>by simp [hs6 r h],Es ha131 (fun a h=>by have:=hm6 a h;simp [this]) (by simp)⟩
              · skip
                have hp124:=sL jB hc124
                refine eE ?_
                refine oC ?_
                refine iE ?_
                refine R5 6 O ?_
                refine bQ ?_
                refine eT (fun n fs=>∃ (i7:Nat) (w7:C) (cs7:List C) (m7:Nat) (l7:List Ax) (e:O6) (zz:fR) (Hx:List HA),fs=⟨e,zz,Hx++[.blk b7 (.cells 134 [Ci a70.number,c70_0,c70_1,c70_2,c70_3,c70_4]),.row (.c w7) 35 4 m7 cs7,.blk b1 (.cells 101 [Cs x.name,Cs x.parent,cx_0,Cb x.threshold.n,cx_1,Cb x.threshold.d,cx_2,Cb x.cap.n,cx_3,Cb x.cap.d,cx_4,Ci x.back,Ci x.forward,Cb x.interest.n,cx_5,Cb x.interest.d,cx_6,Cb x.floor.n,cx_7,Cb x.floor.d,cx_8,Ci x.keep,cx_9,cx_10,cx_11])]⟩∧zle zl6 zz∧Sr e [(1,Ap b1),(6,Ai (i2:Int)),(7,Ap b7),(3,.c w7),(12,Ai (i7:Int))]∧n=a70.solds.length - i7∧i7≤a70.solds.length∧CL 4 (RK z) zz cs7 l7∧m7=l7.length∧m7≤m6+1 * i7∧pG w7 w7=true∧(∀ r,r∈l6→r∈l7)∧(∀ a,a∈a70.solds.take i7→a.share∈l7)) ?_ _ ⟨0,_,_,m6,l6,_,_,[],rfl,zle.refl _,(lL rfl (lL rfl (lL rfl (lL rfl (lL rfl D3))))),rfl,Nat.zero_le _,hcl6,hlen6,by omega,hw6,fun r h=>h,fun a ha=>by simp at ha⟩ (kK (by omega))
                intro n fs hI
                obtain ⟨i7,w7,cs7,m7,l7,e,zl7,Hx,rfl,hzl7,hat,rfl,hi7,hcl7,hlen7,hmb7,hw7,hs7,hm7⟩:=hI
                refine zH hat fun e=>?_
                refine uQ (List.sublist_append_right _ _) ?_
                refine R4 20 O ?_
                refine mL (v:=.c (c70_4)) O mem0 (dN O) O ?_
                refine cX O h70_4 ?_
                refine R3 4 O ?_
                refine kJ O (fun hc146=>?_) (fun hc146=>?_)
                · skip
                  have hp146:=jB.1 hc146
                  refine dX ?_
                  refine dE (bQ ?_)
                  refine xG ?_
                  refine R1 5 O ?_
                  refine mL (v:=.c (c70_4)) O mem0 (dN O) O ?_
                  refine lM O ?_
                  obtain ⟨a153,ha153⟩:=vB (l:=a70.solds) (i:=i7) (by omega)
                  refine eA O O h70_4 i7 O a153 ha153 fun b153 p153 cs153 at153 hR153=>?_
                  obtain ⟨c153_0,c153_1,rfl,h153_0,h153_1⟩:=hR153
                  refine lF O ?_
                  refine tG (v:=.agg [Cb a153.share.n,c153_0,Cb a153.share.d,c153_1]) (off:=1) O (at153.mono (hzl0.trans (hzl1.trans (hzl2.trans (hzl3.trans (hzl4.trans (hzl5.trans (hzl6.trans hzl7)))))))) O (dN O) O ?_
                  refine gU O fun b156=>?_
                  refine rA O O mem0 O (fun _=>P2) (by omega) (by omega) fun w157 hw157=>?_
                  have cl157:CL 4 (RK z) zl7 _ (l7++[a153.share]):=CL.append hcl7 (CL.one rfl (C4 h153_0 h153_1))
                  refine R0 3 O ?_
                  refine iE ?_
                  refine xG ?_
                  refine lM O ?_
                  refine lB O O (tI (r:=((i7+1:Nat):Int)) (vR (by omega))) ?_
                  refine R0 3 O ?_
                  exact nN (by omega) ⟨i7+1,_,_,_,_,_,_,[_],rfl,hzl7,(lL rfl (lL rfl (lL rfl (lL rfl (lL rfl D3))))),rfl,by omega,cl157,by simp;omega,by omega,hw157,fun r h=>by simp [hs7 r h],Es ha153 (fun a h=>by have:=hm7 a h;simp [this]) (by simp)⟩
                · skip
                  have hp146:=sL jB hc146
                  refine eE ?_
                  refine oC ?_
                  refine iE ?_
                  refine xG ?_
                  refine lM O ?_
                  refine lB O O (tI (r:=((i2+1:Nat):Int)) (vR (by omega))) ?_
                  refine R0 3 O ?_
                  exact nN (by omega) ⟨i2+1,_,_,_,_,_,_,[_],rfl,hzl2.trans (hzl3.trans (hzl4.trans (hzl5.trans (hzl6.trans hzl7)))),(lL rfl (lL rfl (lL rfl D3))),rfl,by omega,hcl7,hlen7,by omega,hw7,fun r h=>hs7 r (hs6 r (hs5 r (hs4 r (hs3 r (hs2 r h))))),Es ha70 (fun a h=>(hm2 a h).mono fun r h=>hs7 r (hs6 r (hs5 r (hs4 r (hs3 r h))))) ⟨fun a h=>hs7 _ (hs6 _ (hs5 _ (hs4 _ (hm3 a (by rw [uD (by omega)];exact h))))),fun a h=>hs7 _ (hs6 _ (hs5 _ (hm4 a (by rw [uD (by omega)];exact h)))),fun a h=>hs7 _ (hs6 _ (hm5 a (by rw [uD (by omega)];exact h))),fun a h=>⟨hs7 _ (hm6 a (by rw [uD (by omega)];exact h)).1,hs7 _ (hm6 a (by rw [uD (by omega)];exact h)).2⟩,fun a h=>(hm7 a (by rw [uD (by omega)];exact h))⟩⟩
      · skip
        have hp64:=sL jB hc64
        refine eE ?_
        refine oC ?_
        refine iE ?_
        refine R5 14 O ?_
        refine aZN (z0:=z) (R:=RK z) (p:=[]) O (hzl0.trans (hzl1.trans hzl2)) hcl2 (hlen2.symm) (by omega) fun zfr _ hsfr=>?_
        refine xT ?_
        refine rI O ?_
        refine ⟨_,_,O,hsfr,⟨hs2 _ (hs1 _ (hs0 _ (by simp))),hs2 _ (hs1 _ (hs0 _ (by simp))),hs2 _ (hs1 _ (hs0 _ (by simp))),hs2 _ (hs1 _ (hs0 _ (by simp))),fun a ha=>?_,fun a ha=>?_,fun a ha=>?_⟩⟩
        · have := hm0 a (by rw [uD (by omega)]; exact ha)
          exact ⟨hs2 _ (hs1 _ this.1),hs2 _ (hs1 _ this.2)⟩
        · exact hs2 _ (hm1 a (by rw [uD (by omega)];exact ha))
        · exact hm2 a (by rw [uD (by omega)];exact ha)
theorem cAQ {k:Nat} (hk:1≤k) {z:fR} {v:AV} {x:uV} (hx:AZ Ox z v x) (hL:LnF x):FC (E k) 173 [v] z fun v z=>∃ c l,v=.c c∧CZ 4 aSY z c l∧InF x l:=
 (bS7 hk hx hL).mono fun v z' hz ⟨c,l,h1,h2,h3⟩=>⟨c,l,h1,bNV hz h2,h3⟩
open Go.CE Go.RowKit
theorem bTp {k:Nat} (hk:1≤k) {z:fR} {v:AV} {x:uV} (hx:AZ Ox z v x) (hL:LnF x):FC (E k) 175 [v] z fun v z=>∃ c l,v=.c c∧CZ 1 RS z c l:=by
 have e0:=hL.l0
 have e1:=hL.l1
 have e2:=hL.l2
 have e3:=hL.l3
 obtain ⟨_,rfl,cx_0,cx_1,cx_2,cx_3,cx_4,cx_5,cx_6,cx_7,cx_8,cx_9,cx_10,cx_11,rfl,hx_0,hx_1,hx_2,hx_3,hx_4,hx_5,hx_6,hx_7,hx_8,hx_9,hx_10,hx_11⟩:=hx
 refine iI (bBn) (by omega) (dN O) fun B j hj=>?_
 refine xR ?_
 refine aEu O O fun b1=>?_
 refine R2 9 O ?_
 refine mL (v:=.c (Cs x.name)) O mem0 (dN O) O ?_
 refine lF O ?_
 refine mL (v:=.c (Cs x.parent)) O mem0 (dN O) O ?_
 refine gU O fun b17=>?_
 refine Hw (p:=[]) (n:=2) (size:=1) O O ?_
 have cl0:CL 1 RS z [Cs x.name,Cs x.parent] [x.name,x.parent]:=(CL.append (cs:=[Cs x.name]) (cs':=[Cs x.parent]) (l:=[x.name]) (l':=[x.parent]) (CL.one rfl rfl) (CL.one rfl rfl))
 refine R2 21 O ?_
 refine mL (v:=.c (cx_10)) O Y1 (dN O) O ?_
 refine aUP O O hx_10 (fun _ _=>lR) (by omega) (by omega) fun w21 hw21 nw21 hn21=>?_
 have cl21:CL 1 RS z _ ([x.name,x.parent]++x.entities):=CL.append cl0 hn21
 refine R3 25 O ?_
 refine dE (bQ ?_)
 refine eT (fun n fs=>∃ (i0:Nat) (w0:C) (cs0:List C) (m0:Nat) (l0:List ByteArray) (e:O6) (zz:fR) (Hx:List HA),fs=⟨e,zz,Hx++[.row (.c w0) 9 1 m0 cs0,.blk b1 (.cells 101 [Cs x.name,Cs x.parent,cx_0,Cb x.threshold.n,cx_1,Cb x.threshold.d,cx_2,Cb x.cap.n,cx_3,Cb x.cap.d,cx_4,Ci x.back,Ci x.forward,Cb x.interest.n,cx_5,Cb x.interest.d,cx_6,Cb x.floor.n,cx_7,Cb x.floor.d,cx_8,Ci x.keep,cx_9,cx_10,cx_11])]⟩∧zle z zz∧Sr e [(1,Ap b1),(3,.c w0),(4,Ai (i0:Int))]∧n=x.classes.length - i0∧i0≤x.classes.length∧CL 1 RS zz cs0 l0∧m0=l0.length∧m0≤(2+x.entities.length)+1 * i0∧pG w0 w0=true) ?_ _ ⟨0,_,_,(2+x.entities.length),([x.name,x.parent]++x.entities),_,_,[],rfl,zle.refl _,(lL rfl (lL rfl (lL rfl D3))),rfl,Nat.zero_le _,cl21,by simp<;>omega,by omega,hw21⟩ (kK (by omega))
 intro n fs hI
 obtain ⟨i0,w0,cs0,m0,l0,e,zl0,Hx,rfl,hzl0,hat,rfl,hi0,hcl0,hlen0,hmb0,hw0⟩:=hI
 refine zH hat fun e=>?_
 refine uQ (List.sublist_append_right _ _) ?_
 refine R4 20 O ?_
 refine mL (v:=.c (cx_9)) O Y1 (dN O) O ?_
 refine cX O hx_9 ?_
 refine R3 4 O ?_
 refine kJ O (fun hc26=>?_) (fun hc26=>?_)
 ·have hp26:=jB.1 hc26
  refine dX ?_
  refine dE (bQ ?_)
  refine xG ?_
  refine R1 5 O ?_
  refine mL (v:=.c (cx_9)) O Y1 (dN O) O ?_
  refine lM O ?_
  obtain ⟨a33,ha33⟩:=vB (l:=x.classes) (i:=i0) (by omega)
  refine eA O O hx_9 i0 O a33 ha33 fun b33 p33 cs33 at33 hR33=>?_
  obtain ⟨c33_0,c33_1,rfl,h33_0,h33_1⟩:=hR33
  refine lF O ?_
  refine tG (v:=.c (Cs a33.name)) (off:=0) O (at33.mono (hzl0)) O (dN O) O ?_
  refine gU O fun b36=>?_
  refine rA O O mem0 O (fun _=>P1) (by omega) (by omega) fun w37 hw37=>?_
  have cl37:CL 1 RS zl0 _ (l0++[a33.name]):=CL.append hcl0 (CL.one rfl rfl)
  refine R0 3 O ?_
  refine iE ?_
  refine xG ?_
  refine lM O ?_
  refine lB O O (tI (r:=((i0+1:Nat):Int)) (vR (by omega))) ?_
  refine R0 3 O ?_
  exact nN (by omega) ⟨i0+1,_,_,_,_,_,_,[_],rfl,hzl0,(lL rfl (lL rfl (lL rfl D3))),rfl,by omega,cl37,by simp;omega,by omega,hw37⟩
 have hp26:=sL jB hc26
 refine eE ?_
 refine oC ?_
 refine iE ?_
 refine R5 12 O ?_
 refine dE (bQ ?_)
 refine eT (fun n fs=>∃ (i1:Nat) (w1:C) (cs1:List C) (m1:Nat) (l1:List ByteArray) (e:O6) (zz:fR) (Hx:List HA),fs=⟨e,zz,Hx++[.row (.c w1) 9 1 m1 cs1,.blk b1 (.cells 101 [Cs x.name,Cs x.parent,cx_0,Cb x.threshold.n,cx_1,Cb x.threshold.d,cx_2,Cb x.cap.n,cx_3,Cb x.cap.d,cx_4,Ci x.back,Ci x.forward,Cb x.interest.n,cx_5,Cb x.interest.d,cx_6,Cb x.floor.n,cx_7,Cb x.floor.d,cx_8,Ci x.keep,cx_9,cx_10,cx_11])]⟩∧zle zl0 zz∧Sr e [(1,Ap b1),(3,.c w1),(5,Ai (i1:Int))]∧n=x.years.length - i1∧i1≤x.years.length∧CL 1 RS zz cs1 l1∧m1=l1.length∧m1≤m0+400 * i1∧pG w1 w1=true) ?_ _ ⟨0,_,_,m0,l0,_,_,[],rfl,zle.refl _,(lL rfl (lL rfl (lL rfl D3))),rfl,Nat.zero_le _,hcl0,hlen0,by omega,hw0⟩ (kK (by omega))
 intro n fs hI
 obtain ⟨i1,w1,cs1,m1,l1,e,zl1,Hx,rfl,hzl1,hat,rfl,hi1,hcl1,hlen1,hmb1,hw1⟩:=hI
 refine zH hat fun e=>?_
 refine uQ (List.sublist_append_right _ _) ?_
 refine R4 20 O ?_
 refine mL (v:=.c (cx_11)) O Y1 (dN O) O ?_
 refine cX O hx_11 ?_
 refine R3 4 O ?_
 refine kJ O (fun hc42=>?_) (fun hc42=>?_)
 ·have hp42:=jB.1 hc42
  refine dX ?_
  refine dE (bQ ?_)
  refine R4 4 O ?_
  refine mL (v:=.c (cx_11)) O Y1 (dN O) O ?_
  refine lM O ?_
  obtain ⟨a48,ha48⟩:=vB (l:=x.years) (i:=i1) (by omega)
  refine eA O O hx_11 i1 O a48 ha48 fun b48 p48 cs48 at48 hR48=>?_
  obtain ⟨c48_0,c48_1,c48_2,c48_3,c48_4,rfl,h48_0,h48_1,h48_2,h48_3,h48_4⟩:=hR48
  refine tG (v:=.agg [Ci a48.number,c48_0,c48_1,c48_2,c48_3,c48_4]) (off:=0) O (at48.mono (hzl0.trans hzl1)) O (dN O) O ?_
  obtain ⟨ly0,ly1,ly2,ly3,ly4⟩:=hL.y _ (List.mem_of_getElem? ha48)
  refine uF fun b6=>?_
  refine vO (cs':=[Ci a48.number,c48_0,c48_1,c48_2,c48_3,c48_4]) O O O lR (by kernel_rfl) O (dN O) ?_
  refine lN ?_
  refine R5 12 O ?_
  refine dE (bQ ?_)
  refine eT (fun n fs=>∃ (i2:Nat) (w2:C) (cs2:List C) (m2:Nat) (l2:List ByteArray) (e:O6) (zz:fR) (Hx:List HA),fs=⟨e,zz,Hx++[.blk b6 (.cells 134 [Ci a48.number,c48_0,c48_1,c48_2,c48_3,c48_4]),.row (.c w2) 9 1 m2 cs2,.blk b1 (.cells 101 [Cs x.name,Cs x.parent,cx_0,Cb x.threshold.n,cx_1,Cb x.threshold.d,cx_2,Cb x.cap.n,cx_3,Cb x.cap.d,cx_4,Ci x.back,Ci x.forward,Cb x.interest.n,cx_5,Cb x.interest.d,cx_6,Cb x.floor.n,cx_7,Cb x.floor.d,cx_8,Ci x.keep,cx_9,cx_10,cx_11])]⟩∧zle zl1 zz∧Sr e [(1,Ap b1),(5,Ai (i1:Int)),(6,Ap b6),(3,.c w2),(7,Ai (i2:Int))]∧n=a48.holds.length - i2∧i2≤a48.holds.length∧CL 1 RS zz cs2 l2∧m2=l2.length∧m2≤m1+2 * i2∧pG w2 w2=true) ?_ _ ⟨0,_,_,m1,l1,_,_,[],rfl,zle.refl _,(lL rfl (lL rfl (lL rfl (lL rfl (lL rfl D3))))),rfl,Nat.zero_le _,hcl1,hlen1,by omega,hw1⟩ (kK (by omega))
  intro n fs hI
  obtain ⟨i2,w2,cs2,m2,l2,e,zl2,Hx,rfl,hzl2,hat,rfl,hi2,hcl2,hlen2,hmb2,hw2⟩:=hI
  refine zH hat fun e=>?_
  refine uQ (List.sublist_append_right _ _) ?_
  refine R4 20 O ?_
  refine mL (v:=.c (c48_0)) O mem0 (dN O) O ?_
  refine cX O h48_0 ?_
  refine R3 4 O ?_
  refine kJ O (fun hc54=>?_) (fun hc54=>?_)
  ·have hp54:=jB.1 hc54
   refine dX ?_
   refine dE (bQ ?_)
   refine Ak ?_
   refine gP O O F ?_
   refine R0 3 O ?_
   refine gP O O F ?_
   refine R0 2 O ?_
   refine Lr (v:=.c (c48_0)) O O (.inr mem0) O (dN O) O ?_
   refine gP O O F ?_
   refine R0 3 O ?_
   obtain ⟨a61,ha61⟩:=vB (l:=a48.holds) (i:=i2) (by omega)
   refine gP O O F ?_
   refine eA O O h48_0 i2 O a61 ha61 fun b61 p61 cs61 at61 hR61=>?_
   refine lN ?_
   obtain ⟨c61_0,c61_1,rfl,h61_0,h61_1⟩:=hR61
   refine gP O O F ?_
   refine R0 2 O ?_
   refine glA (v:=.c (Cs a61.owner)) (off:=0) O O at61 (fun _ _ h=>.inl ((hzl0.trans (hzl1.trans (hzl2))) _ _ h)) O (dN O) O ?_
   refine gP O O F ?_
   refine R0 2 O ?_
   refine Lr (v:=.c (c48_0)) O O (.inr mem0) O (dN O) O ?_
   refine gP O O F ?_
   refine R0 3 O ?_
   refine gP O O F ?_
   refine eA O O h48_0 i2 O a61 ha61 fun b67 p67 cs67 at67 hR67=>?_
   refine lN ?_
   obtain ⟨c67_0,c67_1,rfl,h67_0,h67_1⟩:=hR67
   refine gP O O F ?_
   refine R0 2 O ?_
   refine glA (v:=.c (Cs a61.owned)) (off:=1) O O at67 (fun _ _ h=>.inl ((hzl0.trans (hzl1.trans (hzl2))) _ _ h)) O (dN O) O ?_
   refine xM (k:=.cells 9 [Cs a61.owner,Cs a61.owned]) (w:=fun b=>Aw b 2) rfl F rfl (fun _=>rfl) (fun st hst=>?_) (fun b70 hT70=>?_)
   ·simp only [eP,yB,AS.ev,hst 63 (by simp [mK.sl,Od.sls,Od.sl]),hst 69 (by simp [mK.sl,Od.sls,Od.sl])];rfl
   refine D5 (i:=⟨_,_,.app _ _ _ _ _ _⟩) O F O O O O ?_
   refine rA O O mem0 O (fun _=>P2) (by omega) (by omega) fun w71 hw71=>?_
   have cl71:CL 1 RS zl2 _ (l2++[a61.owner,a61.owned]):=CL.append hcl2 (CL.append (cs:=[Cs a61.owner]) (cs':=[Cs a61.owned]) (l:=[a61.owner]) (l':=[a61.owned]) (CL.one rfl rfl) (CL.one rfl rfl))
   refine lN ?_
   refine gP O O F ?_
   refine R0 3 O ?_
   refine nQ ?_
   refine iE ?_
   refine xG ?_
   refine lM O ?_
   refine lB O O (tI (r:=((i2+1:Nat):Int)) (vR (by omega))) ?_
   refine R0 3 O ?_
   exact nN (by omega) ⟨i2+1,_,_,_,_,_,_,[_],rfl,hzl2,(lL rfl (lL rfl (lL rfl (lL rfl (lL rfl D3))))),rfl,by omega,cl71,by simp;omega,by omega,hw71⟩
  have hp54:=sL jB hc54
  refine eE ?_
  refine oC ?_
  refine iE ?_
  refine R5 12 O ?_
  refine dE (bQ ?_)
  refine eT (fun n fs=>∃ (i3:Nat) (w3:C) (cs3:List C) (m3:Nat) (l3:List ByteArray) (e:O6) (zz:fR) (Hx:List HA),fs=⟨e,zz,Hx++[.blk b6 (.cells 134 [Ci a48.number,c48_0,c48_1,c48_2,c48_3,c48_4]),.row (.c w3) 9 1 m3 cs3,.blk b1 (.cells 101 [Cs x.name,Cs x.parent,cx_0,Cb x.threshold.n,cx_1,Cb x.threshold.d,cx_2,Cb x.cap.n,cx_3,Cb x.cap.d,cx_4,Ci x.back,Ci x.forward,Cb x.interest.n,cx_5,Cb x.interest.d,cx_6,Cb x.floor.n,cx_7,Cb x.floor.d,cx_8,Ci x.keep,cx_9,cx_10,cx_11])]⟩∧zle zl2 zz∧Sr e [(1,Ap b1),(5,Ai (i1:Int)),(6,Ap b6),(3,.c w3),(8,Ai (i3:Int))]∧n=a48.books.length - i3∧i3≤a48.books.length∧CL 1 RS zz cs3 l3∧m3=l3.length∧m3≤m2+2 * i3∧pG w3 w3=true) ?_ _ ⟨0,_,_,m2,l2,_,_,[],rfl,zle.refl _,(lL rfl (lL rfl (lL rfl (lL rfl (lL rfl D3))))),rfl,Nat.zero_le _,hcl2,hlen2,by omega,hw2⟩ (kK (by omega))
  intro n fs hI
  obtain ⟨i3,w3,cs3,m3,l3,e,zl3,Hx,rfl,hzl3,hat,rfl,hi3,hcl3,hlen3,hmb3,hw3⟩:=hI
  refine zH hat fun e=>?_
  refine uQ (List.sublist_append_right _ _) ?_
  refine R4 20 O ?_
  refine mL (v:=.c (c48_1)) O mem0 (dN O) O ?_
  refine cX O h48_1 ?_
  refine R3 4 O ?_
  refine kJ O (fun hc76=>?_) (fun hc76=>?_)
  ·have hp76:=jB.1 hc76
   refine dX ?_
   refine dE (bQ ?_)
   refine Ak ?_
   refine gP O O F ?_
   refine R0 3 O ?_
   refine gP O O F ?_
   refine R0 2 O ?_
   refine Lr (v:=.c (c48_1)) O O (.inr mem0) O (dN O) O ?_
   refine gP O O F ?_
   refine R0 3 O ?_
   obtain ⟨a83,ha83⟩:=vB (l:=a48.books) (i:=i3) (by omega)
   refine gP O O F ?_
   refine eA O O h48_1 i3 O a83 ha83 fun b83 p83 cs83 at83 hR83=>?_
   refine lN ?_
   obtain ⟨c83_0,c83_1,rfl,h83_0,h83_1⟩:=hR83
   refine gP O O F ?_
   refine R0 2 O ?_
   refine glA (v:=.c (Cs a83.entity)) (off:=0) O O at83 (fun _ _ h=>.inl ((hzl0.trans (hzl1.trans (hzl2.trans (hzl3)))) _ _ h)) O (dN O) O ?_
   refine gP O O F ?_
   refine R0 2 O ?_
   refine Lr (v:=.c (c48_1)) O O (.inr mem0) O (dN O) O ?_
   refine gP O O F ?_
   refine R0 3 O ?_
   refine gP O O F ?_
   refine eA O O h48_1 i3 O a83 ha83 fun b89 p89 cs89 at89 hR89=>?_
   refine lN ?_
   obtain ⟨c89_0,c89_1,rfl,h89_0,h89_1⟩:=hR89
   refine gP O O F ?_
   refine R0 2 O ?_
   refine glA (v:=.c (Cs a83.cls)) (off:=1) O O at89 (fun _ _ h=>.inl ((hzl0.trans (hzl1.trans (hzl2.trans (hzl3)))) _ _ h)) O (dN O) O ?_
   refine xM (k:=.cells 9 [Cs a83.entity,Cs a83.cls]) (w:=fun b=>Aw b 2) rfl F rfl (fun _=>rfl) (fun st hst=>?_) (fun b92 hT92=>?_)
   ·simp only [eP,yB,AS.ev,hst 85 (by simp [mK.sl,Od.sls,Od.sl]),hst 91 (by simp [mK.sl,Od.sls,Od.sl])];rfl
   refine D5 (i:=⟨_,_,.app _ _ _ _ _ _⟩) O F O O O O ?_
   refine rA O O mem0 O (fun _=>P2) (by omega) (by omega) fun w93 hw93=>?_
   have cl93:CL 1 RS zl3 _ (l3++[a83.entity,a83.cls]):=CL.append hcl3 (CL.append (cs:=[Cs a83.entity]) (cs':=[Cs a83.cls]) (l:=[a83.entity]) (l':=[a83.cls]) (CL.one rfl rfl) (CL.one rfl rfl))
   refine lN ?_
   refine gP O O F ?_
   refine R0 3 O ?_
   refine nQ ?_
   refine iE ?_
   refine xG ?_
   refine lM O ?_
   refine lB O O (tI (r:=((i3+1:Nat):Int)) (vR (by omega))) ?_
   refine R0 3 O ?_
   exact nN (by omega) ⟨i3+1,_,_,_,_,_,_,[_],rfl,hzl3,(lL rfl (lL rfl (lL rfl (lL rfl (lL rfl D3))))),rfl,by omega,cl93,by simp;omega,by omega,hw93⟩
  have hp76:=sL jB hc76
  refine eE ?_
  refine oC ?_
  refine iE ?_
  refine R5 12 O ?_
  refine dE (bQ ?_)
  refine eT (fun n fs=>∃ (i4:Nat) (w4:C) (cs4:List C) (m4:Nat) (l4:List ByteArray) (e:O6) (zz:fR) (Hx:List HA),fs=⟨e,zz,Hx++[.blk b6 (.cells 134 [Ci a48.number,c48_0,c48_1,c48_2,c48_3,c48_4]),.row (.c w4) 9 1 m4 cs4,.blk b1 (.cells 101 [Cs x.name,Cs x.parent,cx_0,Cb x.threshold.n,cx_1,Cb x.threshold.d,cx_2,Cb x.cap.n,cx_3,Cb x.cap.d,cx_4,Ci x.back,Ci x.forward,Cb x.interest.n,cx_5,Cb x.interest.d,cx_6,Cb x.floor.n,cx_7,Cb x.floor.d,cx_8,Ci x.keep,cx_9,cx_10,cx_11])]⟩∧zle zl3 zz∧Sr e [(1,Ap b1),(5,Ai (i1:Int)),(6,Ap b6),(3,.c w4),(9,Ai (i4:Int))]∧n=a48.deals.length - i4∧i4≤a48.deals.length∧CL 1 RS zz cs4 l4∧m4=l4.length∧m4≤m3+4 * i4∧pG w4 w4=true) ?_ _ ⟨0,_,_,m3,l3,_,_,[],rfl,zle.refl _,(lL rfl (lL rfl (lL rfl (lL rfl (lL rfl D3))))),rfl,Nat.zero_le _,hcl3,hlen3,by omega,hw3⟩ (kK (by omega))
  intro n fs hI
  obtain ⟨i4,w4,cs4,m4,l4,e,zl4,Hx,rfl,hzl4,hat,rfl,hi4,hcl4,hlen4,hmb4,hw4⟩:=hI
  refine zH hat fun e=>?_
  refine uQ (List.sublist_append_right _ _) ?_
  refine R4 20 O ?_
  refine mL (v:=.c (c48_2)) O mem0 (dN O) O ?_
  refine cX O h48_2 ?_
  refine R3 4 O ?_
  refine kJ O (fun hc98=>?_) (fun hc98=>?_)
  ·have hp98:=jB.1 hc98
   refine dX ?_
   refine dE (bQ ?_)
   refine R4 4 O ?_
   refine mL (v:=.c (c48_2)) O mem0 (dN O) O ?_
   refine lM O ?_
   obtain ⟨a104,ha104⟩:=vB (l:=a48.deals) (i:=i4) (by omega)
   refine eA O O h48_2 i4 O a104 ha104 fun b104 p104 cs104 at104 hR104=>?_
   obtain ⟨c104_0,c104_1,rfl,h104_0,h104_1⟩:=hR104
   refine tG (v:=.agg [Cb a104.give,Cs a104.id,Cu a104.kind,Cs a104.payee,Cs a104.payer,Cs a104.cls,Cb a104.amount.n,c104_0,Cb a104.amount.d,c104_1]) (off:=0) O (at104.mono (hzl0.trans (hzl1.trans (hzl2.trans (hzl3.trans hzl4))))) O (dN O) O ?_
   refine uF fun b10=>?_
   refine vO (cs':=[Cb a104.give,Cs a104.id,Cu a104.kind,Cs a104.payee,Cs a104.payer,Cs a104.cls,Cb a104.amount.n,c104_0,Cb a104.amount.d,c104_1]) O O O lR (by kernel_rfl) O (dN O) ?_
   refine lN ?_
   refine xG ?_
   refine R1 5 O ?_
   refine mL (v:=.c (Cs a104.id)) O mem0 (dN O) O ?_
   refine lF O ?_
   refine mL (v:=.c (Cs a104.payee)) O mem0 (dN O) O ?_
   refine lF O ?_
   refine mL (v:=.c (Cs a104.payer)) O mem0 (dN O) O ?_
   refine lF O ?_
   refine mL (v:=.c (Cs a104.cls)) O mem0 (dN O) O ?_
   refine gU O fun b115=>?_
   refine rA O O mem0 O (fun _=>P3) (by omega) (by omega) fun w116 hw116=>?_
   have cl116:CL 1 RS zl4 _ (l4++[a104.id,a104.payee,a104.payer,a104.cls]):=CL.append hcl4 (CL.append (cs:=[Cs a104.id]) (cs':=[Cs a104.payee,Cs a104.payer,Cs a104.cls]) (l:=[a104.id]) (l':=[a104.payee,a104.payer,a104.cls]) (CL.one rfl rfl) (CL.append (cs:=[Cs a104.payee]) (cs':=[Cs a104.payer,Cs a104.cls]) (l:=[a104.payee]) (l':=[a104.payer,a104.cls]) (CL.one rfl rfl) (CL.append (cs:=[Cs a104.payer]) (cs':=[Cs a104.cls]) (l:=[a104.payer]) (l':=[a104.cls]) (CL.one rfl rfl) (CL.one rfl rfl))))
   refine R0 3 O ?_
   refine iE ?_
   refine xG ?_
   refine lM O ?_
   refine lB O O (tI (r:=((i4+1:Nat):Int)) (vR (by omega))) ?_
   refine R0 3 O ?_
   exact nN (by omega) ⟨i4+1,_,_,_,_,_,_,[_,_],rfl,hzl4,(lL rfl (lL rfl (lL rfl (lL rfl (lL rfl D3))))),rfl,by omega,cl116,by simp;omega,by omega,hw116⟩
  have hp98:=sL jB hc98
  refine eE ?_
  refine oC ?_
  refine iE ?_
  refine R5 12 O ?_
  refine dE (bQ ?_)
  refine eT (fun n fs=>∃ (i5:Nat) (w5:C) (cs5:List C) (m5:Nat) (l5:List ByteArray) (e:O6) (zz:fR) (Hx:List HA),fs=⟨e,zz,Hx++[.blk b6 (.cells 134 [Ci a48.number,c48_0,c48_1,c48_2,c48_3,c48_4]),.row (.c w5) 9 1 m5 cs5,.blk b1 (.cells 101 [Cs x.name,Cs x.parent,cx_0,Cb x.threshold.n,cx_1,Cb x.threshold.d,cx_2,Cb x.cap.n,cx_3,Cb x.cap.d,cx_4,Ci x.back,Ci x.forward,Cb x.interest.n,cx_5,Cb x.interest.d,cx_6,Cb x.floor.n,cx_7,Cb x.floor.d,cx_8,Ci x.keep,cx_9,cx_10,cx_11])]⟩∧zle zl4 zz∧Sr e [(1,Ap b1),(5,Ai (i1:Int)),(6,Ap b6),(3,.c w5),(11,Ai (i5:Int))]∧n=a48.stocks.length - i5∧i5≤a48.stocks.length∧CL 1 RS zz cs5 l5∧m5=l5.length∧m5≤m4+1 * i5∧pG w5 w5=true) ?_ _ ⟨0,_,_,m4,l4,_,_,[],rfl,zle.refl _,(lL rfl (lL rfl (lL rfl (lL rfl (lL rfl D3))))),rfl,Nat.zero_le _,hcl4,hlen4,by omega,hw4⟩ (kK (by omega))
  intro n fs hI
  obtain ⟨i5,w5,cs5,m5,l5,e,zl5,Hx,rfl,hzl5,hat,rfl,hi5,hcl5,hlen5,hmb5,hw5⟩:=hI
  refine zH hat fun e=>?_
  refine uQ (List.sublist_append_right _ _) ?_
  refine R4 20 O ?_
  refine mL (v:=.c (c48_3)) O mem0 (dN O) O ?_
  refine cX O h48_3 ?_
  refine R3 4 O ?_
  refine kJ O (fun hc121=>?_) (fun hc121=>?_)
  ·have hp121:=jB.1 hc121
   refine dX ?_
   refine dE (bQ ?_)
   refine xG ?_
   refine R1 5 O ?_
   refine mL (v:=.c (c48_3)) O mem0 (dN O) O ?_
   refine lM O ?_
   obtain ⟨a128,ha128⟩:=vB (l:=a48.stocks) (i:=i5) (by omega)
   refine eA O O h48_3 i5 O a128 ha128 fun b128 p128 cs128 at128 hR128=>?_
   obtain ⟨c128_0,c128_1,c128_2,c128_3,rfl,h128_0,h128_1,h128_2,h128_3⟩:=hR128
   refine lF O ?_
   refine tG (v:=.c (Cs a128.id)) (off:=0) O (at128.mono (hzl0.trans (hzl1.trans (hzl2.trans (hzl3.trans (hzl4.trans hzl5)))))) O (dN O) O ?_
   refine gU O fun b131=>?_
   refine rA O O mem0 O (fun _=>P2) (by omega) (by omega) fun w132 hw132=>?_
   have cl132:CL 1 RS zl5 _ (l5++[a128.id]):=CL.append hcl5 (CL.one rfl rfl)
   refine R0 3 O ?_
   refine iE ?_
   refine xG ?_
   refine lM O ?_
   refine lB O O (tI (r:=((i5+1:Nat):Int)) (vR (by omega))) ?_
   refine R0 3 O ?_
   exact nN (by omega) ⟨i5+1,_,_,_,_,_,_,[_],rfl,hzl5,(lL rfl (lL rfl (lL rfl (lL rfl (lL rfl D3))))),rfl,by omega,cl132,by simp;omega,by omega,hw132⟩
  have hp121:=sL jB hc121
  refine eE ?_
  refine oC ?_
  refine iE ?_
  refine R5 6 O ?_
  refine bQ ?_
  refine eT (fun n fs=>∃ (i6:Nat) (w6:C) (cs6:List C) (m6:Nat) (l6:List ByteArray) (e:O6) (zz:fR) (Hx:List HA),fs=⟨e,zz,Hx++[.blk b6 (.cells 134 [Ci a48.number,c48_0,c48_1,c48_2,c48_3,c48_4]),.row (.c w6) 9 1 m6 cs6,.blk b1 (.cells 101 [Cs x.name,Cs x.parent,cx_0,Cb x.threshold.n,cx_1,Cb x.threshold.d,cx_2,Cb x.cap.n,cx_3,Cb x.cap.d,cx_4,Ci x.back,Ci x.forward,Cb x.interest.n,cx_5,Cb x.interest.d,cx_6,Cb x.floor.n,cx_7,Cb x.floor.d,cx_8,Ci x.keep,cx_9,cx_10,cx_11])]⟩∧zle zl5 zz∧Sr e [(1,Ap b1),(5,Ai (i1:Int)),(6,Ap b6),(3,.c w6),(12,Ai (i6:Int))]∧n=a48.solds.length - i6∧i6≤a48.solds.length∧CL 1 RS zz cs6 l6∧m6=l6.length∧m6≤m5+1 * i6∧pG w6 w6=true) ?_ _ ⟨0,_,_,m5,l5,_,_,[],rfl,zle.refl _,(lL rfl (lL rfl (lL rfl (lL rfl (lL rfl D3))))),rfl,Nat.zero_le _,hcl5,hlen5,by omega,hw5⟩ (kK (by omega))
  intro n fs hI
  obtain ⟨i6,w6,cs6,m6,l6,e,zl6,Hx,rfl,hzl6,hat,rfl,hi6,hcl6,hlen6,hmb6,hw6⟩:=hI
  refine zH hat fun e=>?_
  refine uQ (List.sublist_append_right _ _) ?_
  refine R4 20 O ?_
  refine mL (v:=.c (c48_4)) O mem0 (dN O) O ?_
  refine cX O h48_4 ?_
  refine R3 4 O ?_
  refine kJ O (fun hc137=>?_) (fun hc137=>?_)
  ·have hp137:=jB.1 hc137
   refine dX ?_
   refine dE (bQ ?_)
   refine xG ?_
   refine R1 5 O ?_
   refine mL (v:=.c (c48_4)) O mem0 (dN O) O ?_
   refine lM O ?_
   obtain ⟨a144,ha144⟩:=vB (l:=a48.solds) (i:=i6) (by omega)
   refine eA O O h48_4 i6 O a144 ha144 fun b144 p144 cs144 at144 hR144=>?_
   obtain ⟨c144_0,c144_1,rfl,h144_0,h144_1⟩:=hR144
   refine lF O ?_
   refine tG (v:=.c (Cs a144.id)) (off:=0) O (at144.mono (hzl0.trans (hzl1.trans (hzl2.trans (hzl3.trans (hzl4.trans (hzl5.trans hzl6))))))) O (dN O) O ?_
   refine gU O fun b147=>?_
   refine rA O O mem0 O (fun _=>P2) (by omega) (by omega) fun w148 hw148=>?_
   have cl148:CL 1 RS zl6 _ (l6++[a144.id]):=CL.append hcl6 (CL.one rfl rfl)
   refine R0 3 O ?_
   refine iE ?_
   refine xG ?_
   refine lM O ?_
   refine lB O O (tI (r:=((i6+1:Nat):Int)) (vR (by omega))) ?_
   refine R0 3 O ?_
   exact nN (by omega) ⟨i6+1,_,_,_,_,_,_,[_],rfl,hzl6,(lL rfl (lL rfl (lL rfl (lL rfl (lL rfl D3))))),rfl,by omega,cl148,by simp;omega,by omega,hw148⟩
  have hp137:=sL jB hc137
  refine eE ?_
  refine oC ?_
  refine iE ?_
  refine xG ?_
  refine lM O ?_
  refine lB O O (tI (r:=((i1+1:Nat):Int)) (vR (by omega))) ?_
  refine R0 3 O ?_
  exact nN (by omega) ⟨i1+1,_,_,_,_,_,_,[_],rfl,hzl1.trans (hzl2.trans (hzl3.trans (hzl4.trans (hzl5.trans hzl6)))),(lL rfl (lL rfl (lL rfl D3))),rfl,by omega,hcl6,hlen6,by omega,hw6⟩
 have hp42:=sL jB hc42
 refine eE ?_
 refine oC ?_
 refine iE ?_
 refine R5 14 O ?_
 refine Dp (p:=[]) O hcl1 (hlen1.symm) (by omega) fun zfr3 _ hszfr3=>?_
 refine xT ?_
 exact rI O ⟨_,_,rfl,hszfr3⟩
open Go.CE Go.RowKit
theorem Few {k:Nat} (hk:2≤k) {z:fR} {v:AV} {x:uV} (hx:AZ Ox z v x):FC (E k) 91 [v] z fun v _=>∃ b:Bool,v=Ab b∧(b=true→SmF x):=by
 have e0:=0
 obtain ⟨_,rfl,cx_0,cx_1,cx_2,cx_3,cx_4,cx_5,cx_6,cx_7,cx_8,cx_9,cx_10,cx_11,rfl,hx_0,hx_1,hx_2,hx_3,hx_4,hx_5,hx_6,hx_7,hx_8,hx_9,hx_10,hx_11⟩:=hx
 refine iI (bEI) (by omega) (dN O) fun B j hj=>?_
 refine xR ?_
 refine aEu O O fun b1=>?_
 refine R2 17 O ?_
 refine mL (v:=.c (cx_0)) O mem0 (dN O) O ?_
 refine cX O hx_0 ?_
 refine R1 6 O ?_
 refine O3 5 9 (fun r=>[(1,Ap b1),(14,Ab r)]) ((20<(x.brackets.length:Int))∨(70<(x.classes.length:Int))) rfl (fun hg=>?_) (fun hg=>?_) (fun e z14 r14 hz14 hr14=>?_)
 ·refine R1 32 O ?_
  exact zK true rfl zI (lL rfl (lL rfl D3)) (O0 jB hg)
 ·refine lD O ?_
  refine lF O ?_
  refine lD O ?_
  refine mL (v:=.c (cx_9)) O mem0 (dN O) O ?_
  refine lD O ?_
  refine cX O hx_9 ?_
  refine R1 4 O ?_
  exact zK (decide (70<(x.classes.length:Int))) rfl zI (lL rfl (lL rfl D3)) (Ov jB hg jB)
 refine lM O ?_
 refine O3 5 15 (fun r=>[(1,Ap b1),(20,Ab r)]) (((20<(x.brackets.length:Int))∨(70<(x.classes.length:Int)))∨(260<(x.entities.length:Int))) rfl (fun hg=>?_) (fun hg=>?_) (fun e z20 r20 hz20 hr20=>?_)
 ·refine R1 32 O ?_
  exact zK true rfl zI (lL rfl (lL rfl D3)) (O0 hr14 hg)
 ·refine lD O ?_
  refine lF O ?_
  refine lD O ?_
  refine mL (v:=.c (cx_10)) O mem0 (dN O) O ?_
  refine lD O ?_
  refine cX O hx_10 ?_
  refine R1 4 O ?_
  exact zK (decide (260<(x.entities.length:Int))) rfl zI (lL rfl (lL rfl D3)) (Ov hr14 hg jB)
 refine lM O ?_
 refine O3 5 21 (fun r=>[(1,Ap b1),(26,Ab r)]) ((((20<(x.brackets.length:Int))∨(70<(x.classes.length:Int)))∨(260<(x.entities.length:Int)))∨(45<(x.years.length:Int))) rfl (fun hg=>?_) (fun hg=>?_) (fun e z26 r26 hz26 hr26=>?_)
 ·refine R1 32 O ?_
  exact zK true rfl zI (lL rfl (lL rfl D3)) (O0 hr20 hg)
 ·refine lD O ?_
  refine lF O ?_
  refine lD O ?_
  refine mL (v:=.c (cx_11)) O mem0 (dN O) O ?_
  refine lD O ?_
  refine cX O hx_11 ?_
  refine R1 4 O ?_
  exact zK (decide (45<(x.years.length:Int))) rfl zI (lL rfl (lL rfl D3)) (Ov hr20 hg jB)
 refine lN ?_
 refine Ez ?_
 refine kJ O (fun hc26=>?_) (fun hc26=>?_)
 ·have hp26:=hr26.1 hc26
  refine R5 12 O ?_
  refine mC ?_
  exact rI O ⟨false,rfl,fun h=>(by cases h)⟩
 have hp26:=sL hr26 hc26
 simp only [not_or,Classical.not_not] at hp26
 refine R5 24 O ?_
 refine dE (bQ ?_)
 refine eT (fun n fs=>∃ (i0:Nat) (e:O6) (zz:fR) (Hx:List HA),fs=⟨e,zz,Hx++[.blk b1 (.cells 101 [Cs x.name,Cs x.parent,cx_0,Cb x.threshold.n,cx_1,Cb x.threshold.d,cx_2,Cb x.cap.n,cx_3,Cb x.cap.d,cx_4,Ci x.back,Ci x.forward,Cb x.interest.n,cx_5,Cb x.interest.d,cx_6,Cb x.floor.n,cx_7,Cb x.floor.d,cx_8,Ci x.keep,cx_9,cx_10,cx_11])]⟩∧zle z26 zz∧Sr e [(1,Ap b1),(3,Ai (i0:Int))]∧n=x.years.length - i0∧i0≤x.years.length∧(∀ a,a∈x.years.take i0→LnY a)) ?_ _ ⟨0,_,_,[],rfl,zle.refl _,(lL rfl (lL rfl D3)),rfl,Nat.zero_le _,fun a ha=>by simp at ha⟩ (kK (by omega))
 intro n fs hI
 obtain ⟨i0,e,zl0,Hx,rfl,hzl0,hat,rfl,hi0,hm0⟩:=hI
 refine zH hat fun e=>?_
 refine uQ (List.sublist_append_right _ _) ?_
 refine R4 20 O ?_
 refine mL (v:=.c (cx_11)) O mem0 (dN O) O ?_
 refine cX O hx_11 ?_
 refine R3 4 O ?_
 refine kJ O (fun hc31=>?_) (fun hc31=>?_)
 ·have hp31:=jB.1 hc31
  refine dX ?_
  refine dE (bQ ?_)
  refine R4 4 O ?_
  refine mL (v:=.c (cx_11)) O mem0 (dN O) O ?_
  refine lM O ?_
  obtain ⟨a37,ha37⟩:=vB (l:=x.years) (i:=i0) (by omega)
  refine eA O O hx_11 i0 O a37 ha37 fun b37 p37 cs37 at37 hR37=>?_
  obtain ⟨c37_0,c37_1,c37_2,c37_3,c37_4,rfl,h37_0,h37_1,h37_2,h37_3,h37_4⟩:=hR37
  refine tG (v:=.agg [Ci a37.number,c37_0,c37_1,c37_2,c37_3,c37_4]) (off:=0) O (at37.mono (hz14.trans (hz20.trans (hz26.trans hzl0)))) O (dN O) O ?_
  refine uF fun b4=>?_
  refine vO (cs':=[Ci a37.number,c37_0,c37_1,c37_2,c37_3,c37_4]) O O O lR (by kernel_rfl) O (dN O) ?_
  refine lN ?_
  refine R4 4 O ?_
  refine mL (v:=.c (c37_0)) O mem0 (dN O) O ?_
  refine cX O h37_0 ?_
  refine R1 6 O ?_
  refine O3 5 43 (fun r=>[(1,Ap b1),(3,Ai (i0:Int)),(4,Ap b4),(48,Ab r)]) ((40<(a37.holds.length:Int))∨(40<(a37.books.length:Int))) rfl (fun hg=>?_) (fun hg=>?_) (fun e z48 r48 _ hr48=>?_)
  ·refine R1 32 O ?_
   exact zK true rfl zI (lL rfl (lL rfl (lL rfl (lL rfl D3)))) (O0 jB hg)
  ·refine lD O ?_
   refine lF O ?_
   refine lD O ?_
   refine mL (v:=.c (c37_1)) O mem0 (dN O) O ?_
   refine lD O ?_
   refine cX O h37_1 ?_
   refine R1 4 O ?_
   exact zK (decide (40<(a37.books.length:Int))) rfl zI (lL rfl (lL rfl (lL rfl (lL rfl D3)))) (Ov jB hg jB)
  refine lM O ?_
  refine O3 5 49 (fun r=>[(1,Ap b1),(3,Ai (i0:Int)),(4,Ap b4),(54,Ab r)]) (((40<(a37.holds.length:Int))∨(40<(a37.books.length:Int)))∨(40<(a37.deals.length:Int))) rfl (fun hg=>?_) (fun hg=>?_) (fun e z54 r54 _ hr54=>?_)
  ·refine R1 32 O ?_
   exact zK true rfl zI (lL rfl (lL rfl (lL rfl (lL rfl D3)))) (O0 hr48 hg)
  ·refine lD O ?_
   refine lF O ?_
   refine lD O ?_
   refine mL (v:=.c (c37_2)) O mem0 (dN O) O ?_
   refine lD O ?_
   refine cX O h37_2 ?_
   refine R1 4 O ?_
   exact zK (decide (40<(a37.deals.length:Int))) rfl zI (lL rfl (lL rfl (lL rfl (lL rfl D3)))) (Ov hr48 hg jB)
  refine lM O ?_
  refine O3 5 55 (fun r=>[(1,Ap b1),(3,Ai (i0:Int)),(4,Ap b4),(60,Ab r)]) ((((40<(a37.holds.length:Int))∨(40<(a37.books.length:Int)))∨(40<(a37.deals.length:Int)))∨(40<(a37.stocks.length:Int))) rfl (fun hg=>?_) (fun hg=>?_) (fun e z60 r60 _ hr60=>?_)
  ·refine R1 32 O ?_
   exact zK true rfl zI (lL rfl (lL rfl (lL rfl (lL rfl D3)))) (O0 hr54 hg)
  ·refine lD O ?_
   refine lF O ?_
   refine lD O ?_
   refine mL (v:=.c (c37_3)) O mem0 (dN O) O ?_
   refine lD O ?_
   refine cX O h37_3 ?_
   refine R1 4 O ?_
   exact zK (decide (40<(a37.stocks.length:Int))) rfl zI (lL rfl (lL rfl (lL rfl (lL rfl D3)))) (Ov hr54 hg jB)
  refine lM O ?_
  refine O3 5 61 (fun r=>[(1,Ap b1),(3,Ai (i0:Int)),(66,Ab r)]) (((((40<(a37.holds.length:Int))∨(40<(a37.books.length:Int)))∨(40<(a37.deals.length:Int)))∨(40<(a37.stocks.length:Int)))∨(40<(a37.solds.length:Int))) rfl (fun hg=>?_) (fun hg=>?_) (fun e z66 r66 _ hr66=>?_)
  ·refine R1 32 O ?_
   exact zK true rfl zI (lL rfl (lL rfl (lL rfl D3))) (O0 hr60 hg)
  ·refine lD O ?_
   refine lF O ?_
   refine lD O ?_
   refine mL (v:=.c (c37_4)) O mem0 (dN O) O ?_
   refine lD O ?_
   refine cX O h37_4 ?_
   refine R1 4 O ?_
   exact zK (decide (40<(a37.solds.length:Int))) rfl zI (lL rfl (lL rfl (lL rfl D3))) (Ov hr60 hg jB)
  refine lN ?_
  refine kJ O (fun hc66=>?_) (fun hc66=>?_)
  ·have hp66:=hr66.1 hc66
   refine R5 6 O ?_
   refine xT ?_
   refine oD ?_
   refine Ou ?_
   refine oD ?_
   exact rI O ⟨false,rfl,fun h=>(by cases h)⟩
  have hp66:=sL hr66 hc66
  simp only [not_or,Classical.not_not] at hp66
  refine mQ ?_
  refine iE ?_
  refine xG ?_
  refine lM O ?_
  refine lB O O (tI (r:=((i0+1:Nat):Int)) (vR (by omega))) ?_
  refine R0 3 O ?_
  exact nN (by omega) ⟨i0+1,_,_,[_],rfl,hzl0.trans zI,(lL rfl (lL rfl D3)),rfl,by omega,Es ha37 hm0 ⟨by omega,by omega,by omega,by omega,by omega⟩⟩
 have hp31:=sL jB hc31
 refine eE ?_
 refine oC ?_
 refine iE ?_
 refine xR ?_
 have hL:LnF x:=⟨by omega,by omega,by omega,by omega,fun a ha=>hm0 a (by rw [uD (by omega)];exact ha)⟩
 refine mL (v:=.agg [Cs x.name,Cs x.parent,cx_0,Cb x.threshold.n,cx_1,Cb x.threshold.d,cx_2,Cb x.cap.n,cx_3,Cb x.cap.d,cx_4,Ci x.back,Ci x.forward,Cb x.interest.n,cx_5,Cb x.interest.d,cx_6,Cb x.floor.n,cx_7,Cb x.floor.d,cx_8,Ci x.keep,cx_9,cx_10,cx_11]) O mem0 (dN O) O ?_
 refine aFv O (cAQ (by omega) ⟨_,O,L9 (hx_0.mono (hz14.trans (hz20.trans (hz26.trans hzl0)))) (hx_1.mono (hz14.trans (hz20.trans (hz26.trans hzl0)))) (hx_2.mono (hz14.trans (hz20.trans (hz26.trans hzl0)))) (hx_3.mono (hz14.trans (hz20.trans (hz26.trans hzl0)))) (hx_4.mono (hz14.trans (hz20.trans (hz26.trans hzl0)))) (hx_5.mono (hz14.trans (hz20.trans (hz26.trans hzl0)))) (hx_6.mono (hz14.trans (hz20.trans (hz26.trans hzl0)))) (hx_7.mono (hz14.trans (hz20.trans (hz26.trans hzl0)))) (hx_8.mono (hz14.trans (hz20.trans (hz26.trans hzl0)))) (hx_9.mono (hz14.trans (hz20.trans (hz26.trans hzl0)))) (hx_10.mono (hz14.trans (hz20.trans (hz26.trans hzl0)))) (hx_11.mono (hz14.trans (hz20.trans (hz26.trans hzl0))))⟩ hL) fun v68 z68 _ ⟨c68,l68,hv68,hc68,hin68⟩=>?_
 subst hv68
 refine aFv O (few (by omega) hc68) fun v69 z69 _ ⟨r69,hv69,hf69⟩=>?_
 subst hv69
 refine lM O ?_
 refine nV 70 O (fun hg70=>?_) (fun hg70=>?_)
 ·have hp70:=Iff.rfl.1 hg70
  refine lD O ?_
  refine mL (v:=.agg [Cs x.name,Cs x.parent,cx_0,Cb x.threshold.n,cx_1,Cb x.threshold.d,cx_2,Cb x.cap.n,cx_3,Cb x.cap.d,cx_4,Ci x.back,Ci x.forward,Cb x.interest.n,cx_5,Cb x.interest.d,cx_6,Cb x.floor.n,cx_7,Cb x.floor.d,cx_8,Ci x.keep,cx_9,cx_10,cx_11]) O mem0 (dN O) O ?_
  refine lD O ?_
  refine aFv O (bTp (by omega) ⟨_,O,L9 (hx_0.mono (hz14.trans (hz20.trans (hz26.trans (hzl0.trans zI))))) (hx_1.mono (hz14.trans (hz20.trans (hz26.trans (hzl0.trans zI))))) (hx_2.mono (hz14.trans (hz20.trans (hz26.trans (hzl0.trans zI))))) (hx_3.mono (hz14.trans (hz20.trans (hz26.trans (hzl0.trans zI))))) (hx_4.mono (hz14.trans (hz20.trans (hz26.trans (hzl0.trans zI))))) (hx_5.mono (hz14.trans (hz20.trans (hz26.trans (hzl0.trans zI))))) (hx_6.mono (hz14.trans (hz20.trans (hz26.trans (hzl0.trans zI))))) (hx_7.mono (hz14.trans (hz20.trans (hz26.trans (hzl0.trans zI))))) (hx_8.mono (hz14.trans (hz20.trans (hz26.trans (hzl0.trans zI))))) (hx_9.mono (hz14.trans (hz20.trans (hz26.trans (hzl0.trans zI))))) (hx_10.mono (hz14.trans (hz20.trans (hz26.trans (hzl0.trans zI))))) (hx_11.mono (hz14.trans (hz20.trans (hz26.trans (hzl0.trans zI)))))⟩ hL) fun v72 z72 _ ⟨c72,l72,hv72,hc72⟩=>?_
  subst hv72
  refine lD O ?_
  refine aFv O (bS3 (by omega) hc72) fun v73 z73 _ ⟨r73,hv73⟩=>?_
  subst hv73
  refine R0 6 O ?_
  refine xT ?_
  exact rI O ⟨_,rfl,fun h=>SmF.of hL hin68 (hf69 hp70)⟩
 have hp70:=sL Iff.rfl hg70
 refine R0 48 O ?_
 refine xT ?_
 exact rI O ⟨false,rfl,fun h=>(by cases h)⟩
end Go.Proofs.YtlceligcgelbdaaGreat

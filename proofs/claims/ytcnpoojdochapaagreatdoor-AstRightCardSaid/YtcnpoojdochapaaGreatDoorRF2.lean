/- Whether two filings of the reference are the same; what a fault may say. -/
import Derived.WalkKit
import Derived.Orders
import Derived.Test.YtcnpoojdochapaaGreatDoorRF1
set_option linter.unusedVariables false
set_option maxRecDepth 100000
set_option linter.unusedSimpArgs false
set_option maxHeartbeats 1000000
namespace Go.Proofs.YtcnpoojdochapaaGreatDoor
open Go.CE Go.RowKit
def fP (o:Option Jz):Int:=match o with | none=>0 | some f=>f.part
def fY (o:Option Jz):Int:=match o with | none=>0 | some f=>f.year
def fA (o:Option Jz):Int:=match o with | none=>0 | some f=>f.at_
def fE (o:Option Jz):Int:=match o with | none=>0 | some f=>f.e
theorem bMa (o:Option Jz):FV o=.tup [.agg [Cu (fP o),Ci (fY o),Ci (fA o)],Ai (fE o)]:=by cases o<;>rfl
open Go.CE Go.RowKit Go.Num
open Go.Eng (oH)
theorem bKP {a b:UInt32} (h:((a.toNat:Nat):Int)=(b.toNat:Nat)):a=b:=UInt32.toNat_inj.1 (Int.ofNat.inj h)
theorem aZx {a:List UInt32} {i:Nat} (h:i<a.length):mU a i=a[i].toNat:=by
 unfold mU
 rw [List.getD_eq_getElem?_getD,List.getElem?_eq_getElem h];rfl
theorem bKe {a b:List UInt32} {i:Nat} (h1:i<a.length) (h2:i<b.length) (h:((mU a i:Nat):Int)=(mU b i:Nat)):a[i]=b[i]:=bKP (by rw [← aZx h1,← aZx h2];exact h)
theorem aGQ {k:Nat} (hk:1≤k) {z:dE} {n1 n2:Bool} {c1 c2:C} {l1 l2:List UInt32} (hx:CZ 1 RW z c1 l1) (hy:CZ 1 RW z c2 l2):FC (E k) 128 [.agg [Cb n1,c1],.agg [Cb n2,c2]] z fun v _=>∃ r:Bool,v=Ab r∧(r=true↔n1=n2∧l1=l2):=by
 have bl1:=hx.le
 have bl2:=hy.le
 refine cX (bBP) (by omega) (aU O) fun B j hj=>?_
 refine xR ?_
 refine iJ O fun b2=>?_
 refine iJ O fun b3=>?_
 refine R2 16 O (bQ O Y1 O (lF O (bQ O mem0 O (I3 O O (aDY _ _) (lC O ?_)))))
 refine qZ 11 O (fun hg11=>?_) (fun hg11=>?_)
 ·refine R3 8192 O (mN ?_)
  exact rI O ⟨false,rfl,⟨fun h=>(by cases h),fun h=>absurd h.1 hg11⟩⟩
 refine lD O (lF O (lD O (bQ O Y1 O (lD O (aS O hx (lD O (lF O (lD O (bQ O mem0 O (lD O (aS O hy (R3 8 O ?_))))))))))))
 refine uG O (fun hc19=>?_) (fun hc19=>?_)
 ·refine R5 8 O (mN ?_)
  exact rI O ⟨false,rfl,⟨fun h=>(by cases h),fun h=>absurd (by rw [h.2]) hc19⟩⟩
 refine R5 16 O ?_
 refine aT (aQ ?_)
 refine eA (fun n fs=>∃ (i:Nat),LI z [.blk b3 (.cells 28 [Cb n2,c2]),.blk b2 (.cells 28 [Cb n1,c1])] [(2,Ap b2),(3,Ap b3),(5,Az i)] fs∧n=l1.length - i∧(i≤l1.length)∧(∀ q,q<i→l1[q]? = l2[q]?)) ?_ _ ⟨0,LI.m [] O,rfl,Nat.zero_le _,fun q hq=>absurd hq (Nat.not_lt_zero _)⟩ (kK (by omega))
 intro n fs ⟨i,hL0,hmz0,hi,hp⟩
 refine hL0.open fun e zl0 _=>?_
 refine R4 16 O (bQ O Y1 O (aS O hx (R3 4 O ?_)))
 refine xD O (fun hc24=>?_) (fun hc24=>?_)
 ·refine dA ?_
  refine aT (aQ ?_)
  refine gX (G1 2 O (wH O O (.inr Y1) O (G1 2 O (gP O O F ?_))))
  refine rS (zz:=zl0) O O hx.m (i) (O) (by omega) fun p30 hp30=>lN ?_
  refine glP O O hp30 ti (G1 2 O (wH O O Ht O (G1 2 O (gP O O F ?_))))
  refine rS (zz:=zl0) O O hy.m (i) (O) (by omega) fun p35 hp35=>lN ?_
  refine glP O O hp35 ti (G0 2 O ?_)
  refine uG O (fun hc37=>?_) (fun hc37=>?_)
  ·refine R5 4 O (xT (lS (B8 (lS ?_))))
   exact rI O ⟨false,rfl,⟨fun h=>(by cases h),fun h=>absurd (by rw [h.2]) hc37⟩⟩
  refine iF (dN (xG (lC O (lB O O (eP (n:=i+1) (by omega) (by omega)) (R0 2 O ?_)))))
  exact lQ (by omega) ⟨i+1,LI.m [] O,rfl,by omega,fun q hq=>bLE hp (List.getElem?_eq_getElem (by omega)) (List.getElem?_eq_getElem (by omega)) (bKe (by omega) (by omega) hc37) hq⟩
 refine dK (nQ (dN (R5 4 O (xT ?_))))
 exact rI O ⟨true,rfl,⟨fun _=>⟨hg11,bML (by omega) hp (by omega)⟩,fun _=>rfl⟩⟩
theorem qO {k:Nat} (hk:2≤k) {z:dE} {x y:yR} {c1 c2 d1 d2:C} (hx:CZ 1 RW z c1 x.nm) (hy:CZ 1 RW z c2 x.dm) (gx:CZ 1 RW z d1 y.nm) (gy:CZ 1 RW z d2 y.dm):FC (E k) 67 [.agg (kR x c1 c2),.agg (kR y d1 d2)] z fun v _=>∃ r:Bool,v=Ab r∧(r=true↔x=y):=by
 refine cX (bDW) (by omega) (aU O) fun B j hj=>?_
 refine xR ?_
 refine iJ O fun b2=>?_
 refine iJ O fun b3=>?_
 refine R2 8 O (jB O Y1 O (lF O (jB O mem0 O ?_)))
 refine lZ z (aGQ (by omega) hx gx) O O fun v9 z9 _ ⟨r9,hv9,hr9⟩=>?_
 subst hv9
 refine lM O ?_
 refine jI 10 O (fun hg10=>?_) (fun hg10=>?_)
 ·refine lD O (lF O (lD O (jB O Y1 O (lD O (lF O (lD O (jB O mem0 O (lD O ?_))))))))
  refine lZ z9 (aGQ (by omega) hy.m gy.m) O O fun v15 z15 _ ⟨r15,hv15,hr15⟩=>?_
  subst hv15
  refine R0 6 O (xT ?_)
  exact rI O ⟨_,rfl,⟨fun h=>yR.ext_iff.2 ⟨(hr9.1 hg10).1,(hr9.1 hg10).2,(hr15.1 h).1,(hr15.1 h).2⟩,fun h=>by subst h;exact hr15.2 ⟨rfl,rfl⟩⟩⟩
 refine R0 192 O (xT ?_)
 exact rI O ⟨_,rfl,⟨fun h=>(by cases h),fun h=>by subst h;rw [hr9.2 ⟨rfl,rfl⟩] at hg10;cases hg10⟩⟩
open Go.CE Go.RowKit Go.Num
open Go.Eng (oH)
theorem Ky {k:IntKind} {a:Int}:pR .neq (.int k a) (.int k a)=some (.bool false):=(bLV _ _ _).trans (by rw [decide_eq_true rfl];rfl)
theorem K4 {a:ByteArray}:pR .neq (.string a) (.string a)=some (.bool false):=(bMC _ _).trans (by rw [decide_eq_true rfl];rfl)
theorem bU2 {a:Bool}:Go.Eng.binBV .neq (.bool a) (.bool a)=some (.bool false):=(aDY _ _).trans (by rw [decide_eq_true rfl];rfl)
theorem bO5 {k:Nat} (hk:3≤k) {z:dE} {x:tI} {c0 c1 c2 c3 c4:C} (g0:CZ 6 Hh z c0 x.holds) (g1:CZ 6 Hi z c1 x.books) (g2:CZ 10 Ez z c2 x.deals) (g3:CZ 9 Bm z c3 x.stocks) (g4:CZ 5 Ik z c4 x.solds) {d0 d1 d2 d3 d4:C} (r0:CZ 6 Hh z d0 x.holds) (r1:CZ 6 Hi z d1 x.books) (r2:CZ 10 Ez z d2 x.deals) (r3:CZ 9 Bm z d3 x.stocks) (r4:CZ 5 Ik z d4 x.solds):FC (E k) 68 [.agg [Ci x.number,c0,c1,c2,c3,c4],.agg [Ci x.number,d0,d1,d2,d3,d4]] z fun v _=>v=Ab true:=by
 have hl_holds:=g0.le
 have hl_books:=g1.le
 have hl_deals:=g2.le
 have hl_stocks:=g3.le
 have hl_solds:=g4.le
 refine cX (bGz) (by omega) (aU O) fun B j hj=>?_
 refine xR ?_
 refine iJ O fun b2=>?_
 refine iJ O fun b3=>?_
 refine R2 16 O (bQ O Y1 O (lF O (bQ O mem0 O ?_)))
 refine lB O O (by first | exact Ky | exact K4) ?_
 refine R1 4 O (lD O (bQ O Y1 O (lD O (aS O g0 (lD O (lF O (lD O (bQ O mem0 O (lD O (aS O r0 (lD O ?_)))))))))))
 refine lB O O (by first | exact Ky | exact K4) ?_
 refine R1 10 O (lD O (bQ O Y1 O (lD O (aS O g1 (lD O (lF O (lD O (bQ O mem0 O (lD O (aS O r1 (lD O ?_)))))))))))
 refine lB O O (by first | exact Ky | exact K4) ?_
 refine R1 10 O (lD O (bQ O Y1 O (lD O (aS O g2 (lD O (lF O (lD O (bQ O mem0 O (lD O (aS O r2 (lD O ?_)))))))))))
 refine lB O O (by first | exact Ky | exact K4) ?_
 refine R1 10 O (lD O (bQ O Y1 O (lD O (aS O g3 (lD O (lF O (lD O (bQ O mem0 O (lD O (aS O r3 (lD O ?_)))))))))))
 refine lB O O (by first | exact Ky | exact K4) ?_
 refine R1 10 O (lD O (bQ O Y1 O (lD O (aS O g4 (lD O (lF O (lD O (bQ O mem0 O (lD O (aS O r4 (lD O ?_)))))))))))
 refine lB O O (by first | exact Ky | exact K4) ?_
 refine R3 128 O ?_
 refine aT (aQ ?_)
 refine eA (fun n fs=>∃ (i0:Nat),LI z [.blk b3 (.cells 111 [Ci x.number,d0,d1,d2,d3,d4]),.blk b2 (.cells 111 [Ci x.number,c0,c1,c2,c3,c4])] [(2,Ap b2),(3,Ap b3),(5,Az i0)] fs∧n=x.holds.length - i0∧(i0≤x.holds.length)) ?_ _ ⟨0,LI.m [] O,rfl,Nat.zero_le _⟩ (by have:=hl_holds;show _<18446744073709551616;omega)
 intro n fs ⟨i0,hL0,hmz0,hi0⟩
 refine hL0.open fun e zl0 _=>?_
 refine R4 16 O (bQ O Y1 O (aS O g0 (R3 4 O ?_)))
 refine xD O (fun hc70=>?_) (fun hc70=>?_)
 ·refine dA ?_
  refine aT (aQ ?_)
  refine gX (G1 2 O (wH O O (.inr Y1) O (G1 2 O (gP O O F ?_))))
  refine dH O O g0 i0 O _ (List.getElem?_eq_getElem (by omega)) fun b76 p76 cs at76 hR=>lN ?_
  obtain ⟨c76_0,c76_1,hcs,q76_0,q76_1⟩:=hR
  subst hcs
  refine rC (i:=⟨_,_,.load _ _ _⟩) (off:=0) (v:=.agg [Cs x.holds[i0].owner,Cs x.holds[i0].owned,Cb x.holds[i0].share.n,c76_0,Cb x.holds[i0].share.d,c76_1]) O O F O at76 ti O (by simp) O sR ?_
  refine G1 2 O (wH O O Ht O (G1 2 O (gP O O F ?_)))
  refine dH O O r0 i0 O _ (List.getElem?_eq_getElem (by omega)) fun b81 p81 cs at81 hR=>lN ?_
  obtain ⟨c81_0,c81_1,hcs,q81_0,q81_1⟩:=hR
  subst hcs
  refine rC (i:=⟨_,_,.load _ _ _⟩) (off:=0) (v:=.agg [Cs x.holds[i0].owner,Cs x.holds[i0].owned,Cb x.holds[i0].share.n,c81_0,Cb x.holds[i0].share.d,c81_1]) O O F O at81 ti O (by simp) O sR ?_
  refine gA O O (fun b6 hT6=>?_)
  refine gA O O (fun b7 hT7=>?_)
  refine gT O O O hT6 (pM O O O O P1 (lN (gS O O O (pM O O O O iP (lN (mQ (R4 4 O (bQ O Y1 O (lF O (bQ O mem0 O ?_))))))))))
  refine lB O O (by first | exact Ky | exact K4) ?_
  refine R1 4 O (lD O (bQ O Y1 O (lD O (lF O (lD O (bQ O mem0 O (lD O ?_)))))))
  refine lB O O (by first | exact Ky | exact K4) ?_
  refine R1 10 O (lD O (kJ O Y1 O (lD O (lF O (lD O (kJ O mem0 O (lD O ?_)))))))
  refine lZ zl0 (qO (x:=x.holds[i0].share) (y:=x.holds[i0].share) (by omega) q76_0.m q76_1.m q81_0.m q81_1.m) O O fun v100 z100 _ ⟨r100,hv100,hr100⟩=>?_
  subst hv100
  have hq100:=hr100.2 rfl
  subst hq100
  refine R3 8 O (iF (dN (xG (lC O (lB O O (eP (n:=i0+1) (by omega) (by omega)) (R0 2 O ?_))))))
  exact lQ (by omega) ⟨i0+1,LI.m [_,_] O,rfl,by omega⟩
 refine dK (nQ (dN (R5 8 O ?_)))
 refine aT (aQ ?_)
 refine eA (fun n fs=>∃ (i1:Nat),LI zl0 [.blk b3 (.cells 111 [Ci x.number,d0,d1,d2,d3,d4]),.blk b2 (.cells 111 [Ci x.number,c0,c1,c2,c3,c4])] [(2,Ap b2),(3,Ap b3),(8,Az i1)] fs∧n=x.books.length - i1∧(i1≤x.books.length)) ?_ _ ⟨0,LI.m [] O,rfl,Nat.zero_le _⟩ (by have:=hl_books;show _<18446744073709551616;omega)
 intro n fs ⟨i1,hL1,hmz1,hi1⟩
 refine hL1.open fun e zl1 _=>?_
 refine R4 16 O (bQ O Y1 O (aS O g1 (R3 4 O ?_)))
 refine xD O (fun hc107=>?_) (fun hc107=>?_)
 ·refine dA ?_
  refine aT (aQ ?_)
  refine gX (G1 2 O (wH O O (.inr Y1) O (G1 2 O (gP O O F ?_))))
  refine dH O O g1 i1 O _ (List.getElem?_eq_getElem (by omega)) fun b113 p113 cs at113 hR=>lN ?_
  obtain ⟨c113_0,c113_1,hcs,q113_0,q113_1⟩:=hR
  subst hcs
  refine rC (i:=⟨_,_,.load _ _ _⟩) (off:=0) (v:=.agg [Cs x.books[i1].entity,Cs x.books[i1].cls,Cb x.books[i1].amount.n,c113_0,Cb x.books[i1].amount.d,c113_1]) O O F O at113 ti O (by simp) O sR ?_
  refine G1 2 O (wH O O Ht O (G1 2 O (gP O O F ?_)))
  refine dH O O r1 i1 O _ (List.getElem?_eq_getElem (by omega)) fun b118 p118 cs at118 hR=>lN ?_
  obtain ⟨c118_0,c118_1,hcs,q118_0,q118_1⟩:=hR
  subst hcs
  refine rC (i:=⟨_,_,.load _ _ _⟩) (off:=0) (v:=.agg [Cs x.books[i1].entity,Cs x.books[i1].cls,Cb x.books[i1].amount.n,c118_0,Cb x.books[i1].amount.d,c118_1]) O O F O at118 ti O (by simp) O sR ?_
  refine gA O O (fun b9 hT9=>?_)
  refine gA O O (fun b10 hT10=>?_)
  refine gT O O O hT9 (pM O O O O P1 (lN (gS O O O (pM O O O O iP (lN (mQ (R4 4 O (bQ O Y1 O (lF O (bQ O mem0 O ?_))))))))))
  refine lB O O (by first | exact Ky | exact K4) ?_
  refine R1 4 O (lD O (bQ O Y1 O (lD O (lF O (lD O (bQ O mem0 O (lD O ?_)))))))
  refine lB O O (by first | exact Ky | exact K4) ?_
  refine R1 10 O (lD O (kJ O Y1 O (lD O (lF O (lD O (kJ O mem0 O (lD O ?_)))))))
  refine lZ zl1 (qO (x:=x.books[i1].amount) (y:=x.books[i1].amount) (by omega) q113_0.m q113_1.m q118_0.m q118_1.m) O O fun v137 z137 _ ⟨r137,hv137,hr137⟩=>?_
  subst hv137
  have hq137:=hr137.2 rfl
  subst hq137
  refine R3 8 O (iF (dN (xG (lC O (lB O O (eP (n:=i1+1) (by omega) (by omega)) (R0 2 O ?_))))))
  exact lQ (by omega) ⟨i1+1,LI.m [_,_] O,rfl,by omega⟩
 refine dK (nQ (dN (R5 8 O ?_)))
 refine aT (aQ ?_)
 refine eA (fun n fs=>∃ (i2:Nat),LI zl1 [.blk b3 (.cells 111 [Ci x.number,d0,d1,d2,d3,d4]),.blk b2 (.cells 111 [Ci x.number,c0,c1,c2,c3,c4])] [(2,Ap b2),(3,Ap b3),(11,Az i2)] fs∧n=x.deals.length - i2∧(i2≤x.deals.length)) ?_ _ ⟨0,LI.m [] O,rfl,Nat.zero_le _⟩ (by have:=hl_deals;show _<18446744073709551616;omega)
 intro n fs ⟨i2,hL2,hmz2,hi2⟩
 refine hL2.open fun e zl2 _=>?_
 refine R4 16 O (bQ O Y1 O (aS O g2 (R3 4 O ?_)))
 refine xD O (fun hc144=>?_) (fun hc144=>?_)
 ·refine dA ?_
  refine aT (aQ ?_)
  refine gX (G1 2 O (wH O O (.inr Y1) O (G1 2 O (gP O O F ?_))))
  refine dH O O g2 i2 O _ (List.getElem?_eq_getElem (by omega)) fun b150 p150 cs at150 hR=>lN ?_
  obtain ⟨c150_0,c150_1,hcs,q150_0,q150_1⟩:=hR
  subst hcs
  refine rC (i:=⟨_,_,.load _ _ _⟩) (off:=0) (v:=.agg [Cb x.deals[i2].give,Cs x.deals[i2].id,Cu x.deals[i2].kind,Cs x.deals[i2].payee,Cs x.deals[i2].payer,Cs x.deals[i2].cls,Cb x.deals[i2].amount.n,c150_0,Cb x.deals[i2].amount.d,c150_1]) O O F O at150 ti O (by simp) O sR ?_
  refine G1 2 O (wH O O Ht O (G1 2 O (gP O O F ?_)))
  refine dH O O r2 i2 O _ (List.getElem?_eq_getElem (by omega)) fun b155 p155 cs at155 hR=>lN ?_
  obtain ⟨c155_0,c155_1,hcs,q155_0,q155_1⟩:=hR
  subst hcs
  refine rC (i:=⟨_,_,.load _ _ _⟩) (off:=0) (v:=.agg [Cb x.deals[i2].give,Cs x.deals[i2].id,Cu x.deals[i2].kind,Cs x.deals[i2].payee,Cs x.deals[i2].payer,Cs x.deals[i2].cls,Cb x.deals[i2].amount.n,c155_0,Cb x.deals[i2].amount.d,c155_1]) O O F O at155 ti O (by simp) O sR ?_
  refine gA O O (fun b12 hT12=>?_)
  refine gA O O (fun b13 hT13=>?_)
  refine gT O O O hT12 (pM O O O O P1 (lN (gS O O O (pM O O O O iP (lN (mQ (R4 4 O (bQ O Y1 O (lF O (bQ O mem0 O (I3 O O bU2 (R1 4 O (lD O (bQ O Y1 O (lD O ?_)))))))))))))))
  refine lF O (lD O (bQ O mem0 O (lD O ?_)))
  refine lB O O (by first | exact Ky | exact K4) ?_
  refine R1 10 O (lD O (bQ O Y1 O (lD O (lF O (lD O (bQ O mem0 O (lD O ?_)))))))
  refine lB O O (by first | exact Ky | exact K4) ?_
  refine R1 10 O (lD O (bQ O Y1 O (lD O (lF O (lD O (bQ O mem0 O (lD O ?_)))))))
  refine lB O O (by first | exact Ky | exact K4) ?_
  refine R1 10 O (lD O (bQ O Y1 O (lD O (lF O (lD O (bQ O mem0 O (lD O ?_)))))))
  refine lB O O (by first | exact Ky | exact K4) ?_
  refine R1 10 O (lD O (bQ O Y1 O (lD O (lF O (lD O (bQ O mem0 O (lD O ?_)))))))
  refine lB O O (by first | exact Ky | exact K4) ?_
  refine R1 10 O (lD O (kJ O Y1 O (lD O (lF O (lD O (kJ O mem0 O (lD O ?_)))))))
  refine lZ zl2 (qO (x:=x.deals[i2].amount) (y:=x.deals[i2].amount) (by omega) q150_0.m q150_1.m q155_0.m q155_1.m) O O fun v202 z202 _ ⟨r202,hv202,hr202⟩=>?_
  subst hv202
  have hq202:=hr202.2 rfl
  subst hq202
  refine R3 8 O (iF (dN (xG (lC O (lB O O (eP (n:=i2+1) (by omega) (by omega)) (R0 2 O ?_))))))
  exact lQ (by omega) ⟨i2+1,LI.m [_,_] O,rfl,by omega⟩
 refine dK (nQ (dN (R5 8 O ?_)))
 refine aT (aQ ?_)
 refine eA (fun n fs=>∃ (i3:Nat),LI zl2 [.blk b3 (.cells 111 [Ci x.number,d0,d1,d2,d3,d4]),.blk b2 (.cells 111 [Ci x.number,c0,c1,c2,c3,c4])] [(2,Ap b2),(3,Ap b3),(14,Az i3)] fs∧n=x.stocks.length - i3∧(i3≤x.stocks.length)) ?_ _ ⟨0,LI.m [] O,rfl,Nat.zero_le _⟩ (by have:=hl_stocks;show _<18446744073709551616;omega)
 intro n fs ⟨i3,hL3,hmz3,hi3⟩
 refine hL3.open fun e zl3 _=>?_
 refine R4 16 O (bQ O Y1 O (aS O g3 (R3 4 O ?_)))
 refine xD O (fun hc209=>?_) (fun hc209=>?_)
 ·refine dA ?_
  refine aT (aQ ?_)
  refine gX (G1 2 O (wH O O (.inr Y1) O (G1 2 O (gP O O F ?_))))
  refine dH O O g3 i3 O _ (List.getElem?_eq_getElem (by omega)) fun b215 p215 cs at215 hR=>lN ?_
  obtain ⟨c215_0,c215_1,c215_2,c215_3,hcs,q215_0,q215_1,q215_2,q215_3⟩:=hR
  subst hcs
  refine G1 2 O ?_
  refine rC (i:=⟨_,_,.load _ _ _⟩) (off:=0) (v:=.c (Cs x.stocks[i3].id)) O O F O at215 ti O (by simp) O sR ?_
  refine G1 2 O (wH O O Ht O (G1 2 O (gP O O F ?_)))
  refine dH O O r3 i3 O _ (List.getElem?_eq_getElem (by omega)) fun b221 p221 cs at221 hR=>lN ?_
  obtain ⟨c221_0,c221_1,c221_2,c221_3,hcs,q221_0,q221_1,q221_2,q221_3⟩:=hR
  subst hcs
  refine G1 2 O ?_
  refine rC (i:=⟨_,_,.load _ _ _⟩) (off:=0) (v:=.c (Cs x.stocks[i3].id)) O O F O at221 ti O (by simp) O sR ?_
  refine gP O O F ?_
  refine lB O O (by first | exact Ky | exact K4) (lN ?_)
  refine G1 4 O (wH O O (.inr Y1) O (G1 2 O (gP O O O ?_)))
  refine dH O O g3 i3 O _ (List.getElem?_eq_getElem (by omega)) fun b229 p229 cs at229 hR=>lN ?_
  obtain ⟨c229_0,c229_1,c229_2,c229_3,hcs,q229_0,q229_1,q229_2,q229_3⟩:=hR
  subst hcs
  refine G1 2 O ?_
  refine rC (i:=⟨_,_,.load _ _ _⟩) (off:=1) (v:=.agg [Cb x.stocks[i3].margin.n,c229_0,Cb x.stocks[i3].margin.d,c229_1]) O O O O at229 ti O (by simp) O sR ?_
  refine G1 2 O (wH O O Ht O (G1 2 O (gP O O O ?_)))
  refine dH O O r3 i3 O _ (List.getElem?_eq_getElem (by omega)) fun b235 p235 cs at235 hR=>lN ?_
  obtain ⟨c235_0,c235_1,c235_2,c235_3,hcs,q235_0,q235_1,q235_2,q235_3⟩:=hR
  subst hcs
  refine G1 2 O ?_
  refine rC (i:=⟨_,_,.load _ _ _⟩) (off:=1) (v:=.agg [Cb x.stocks[i3].margin.n,c235_0,Cb x.stocks[i3].margin.d,c235_1]) O O O O at235 ti O (by simp) O sR ?_
  refine gC zl3 (qO (x:=x.stocks[i3].margin) (y:=x.stocks[i3].margin) (by omega) q229_0.m q229_1.m q235_0.m q235_1.m) O O O O fun v238 z238 _ ⟨r238,hv238,hr238⟩=>?_
  subst hv238
  have hq238:=hr238.2 rfl
  subst hq238
  refine G1 20 O (wH O O (.inr Y1) O (G1 2 O (gP O O O ?_)))
  refine dH O O g3 i3 O _ (List.getElem?_eq_getElem (by omega)) fun b245 p245 cs at245 hR=>lN ?_
  obtain ⟨c245_0,c245_1,c245_2,c245_3,hcs,q245_0,q245_1,q245_2,q245_3⟩:=hR
  subst hcs
  refine G1 2 O ?_
  refine rC (i:=⟨_,_,.load _ _ _⟩) (off:=5) (v:=.agg [Cb x.stocks[i3].unsold.n,c245_2,Cb x.stocks[i3].unsold.d,c245_3]) O O O O at245 ti O (by simp) O sR ?_
  refine G1 2 O (wH O O Ht O (G1 2 O (gP O O O ?_)))
  refine dH O O r3 i3 O _ (List.getElem?_eq_getElem (by omega)) fun b251 p251 cs at251 hR=>lN ?_
  obtain ⟨c251_0,c251_1,c251_2,c251_3,hcs,q251_0,q251_1,q251_2,q251_3⟩:=hR
  subst hcs
  refine G1 2 O ?_
  refine rC (i:=⟨_,_,.load _ _ _⟩) (off:=5) (v:=.agg [Cb x.stocks[i3].unsold.n,c251_2,Cb x.stocks[i3].unsold.d,c251_3]) O O O O at251 ti O (by simp) O sR ?_
  refine gC z238 (qO (x:=x.stocks[i3].unsold) (y:=x.stocks[i3].unsold) (by omega) q245_2.m q245_3.m q251_2.m q251_3.m) O O O O fun v254 z254 _ ⟨r254,hv254,hr254⟩=>?_
  subst hv254
  have hq254:=hr254.2 rfl
  subst hq254
  refine G0 4 O (O3 O (iF (dN (xG (lC O (lB O O (eP (n:=i3+1) (by omega) (by omega)) (R0 2 O ?_)))))))
  exact lQ (by omega) ⟨i3+1,LI.m [] O,rfl,by omega⟩
 refine dK (nQ (dN (R5 8 O ?_)))
 refine aT (aQ ?_)
 refine eA (fun n fs=>∃ (i4:Nat),LI zl3 [.blk b3 (.cells 111 [Ci x.number,d0,d1,d2,d3,d4]),.blk b2 (.cells 111 [Ci x.number,c0,c1,c2,c3,c4])] [(2,Ap b2),(3,Ap b3),(15,Az i4)] fs∧n=x.solds.length - i4∧(i4≤x.solds.length)) ?_ _ ⟨0,LI.m [] O,rfl,Nat.zero_le _⟩ (by have:=hl_solds;show _<18446744073709551616;omega)
 intro n fs ⟨i4,hL4,hmz4,hi4⟩
 refine hL4.open fun e zl4 _=>?_
 refine R4 16 O (bQ O Y1 O (aS O g4 (R3 4 O ?_)))
 refine xD O (fun hc261=>?_) (fun hc261=>?_)
 ·refine dA ?_
  refine aT (aQ ?_)
  refine gX (G1 2 O (wH O O (.inr Y1) O (G1 2 O (gP O O F ?_))))
  refine dH O O g4 i4 O _ (List.getElem?_eq_getElem (by omega)) fun b267 p267 cs at267 hR=>lN ?_
  obtain ⟨c267_0,c267_1,hcs,q267_0,q267_1⟩:=hR
  subst hcs
  refine G1 2 O ?_
  refine rC (i:=⟨_,_,.load _ _ _⟩) (off:=0) (v:=.c (Cs x.solds[i4].id)) O O F O at267 ti O (by simp) O sR ?_
  refine G1 2 O (wH O O Ht O (G1 2 O (gP O O F ?_)))
  refine dH O O r4 i4 O _ (List.getElem?_eq_getElem (by omega)) fun b273 p273 cs at273 hR=>lN ?_
  obtain ⟨c273_0,c273_1,hcs,q273_0,q273_1⟩:=hR
  subst hcs
  refine G1 2 O ?_
  refine rC (i:=⟨_,_,.load _ _ _⟩) (off:=0) (v:=.c (Cs x.solds[i4].id)) O O F O at273 ti O (by simp) O sR ?_
  refine gP O O F ?_
  refine lB O O (by first | exact Ky | exact K4) (lN ?_)
  refine G1 4 O (wH O O (.inr Y1) O (G1 2 O (gP O O O ?_)))
  refine dH O O g4 i4 O _ (List.getElem?_eq_getElem (by omega)) fun b281 p281 cs at281 hR=>lN ?_
  obtain ⟨c281_0,c281_1,hcs,q281_0,q281_1⟩:=hR
  subst hcs
  refine G1 2 O ?_
  refine rC (i:=⟨_,_,.load _ _ _⟩) (off:=1) (v:=.agg [Cb x.solds[i4].share.n,c281_0,Cb x.solds[i4].share.d,c281_1]) O O O O at281 ti O (by simp) O sR ?_
  refine G1 2 O (wH O O Ht O (G1 2 O (gP O O O ?_)))
  refine dH O O r4 i4 O _ (List.getElem?_eq_getElem (by omega)) fun b287 p287 cs at287 hR=>lN ?_
  obtain ⟨c287_0,c287_1,hcs,q287_0,q287_1⟩:=hR
  subst hcs
  refine G1 2 O ?_
  refine rC (i:=⟨_,_,.load _ _ _⟩) (off:=1) (v:=.agg [Cb x.solds[i4].share.n,c287_0,Cb x.solds[i4].share.d,c287_1]) O O O O at287 ti O (by simp) O sR ?_
  refine gC zl4 (qO (x:=x.solds[i4].share) (y:=x.solds[i4].share) (by omega) q281_0.m q281_1.m q287_0.m q287_1.m) O O O O fun v290 z290 _ ⟨r290,hv290,hr290⟩=>?_
  subst hv290
  have hq290:=hr290.2 rfl
  subst hq290
  refine G0 4 O (O3 O (iF (dN (xG (lC O (lB O O (eP (n:=i4+1) (by omega) (by omega)) (R0 2 O ?_)))))))
  exact lQ (by omega) ⟨i4+1,LI.m [] O,rfl,by omega⟩
 refine dK (nQ (dN (R5 4 O (xT (rI O ?_)))))
 rfl
open Go.CE Go.RowKit Go.Num
open Go.Eng (oH)
theorem bE2 {k:Nat} (hk:4≤k) {z:dE} {x:kM} {c0 c1 c2 c3 c4 c5 c6 c7 c8 c9 c10 c11:C} (g0:CZ 8 pS z c0 x.brackets) (g1:CZ 1 RW z c1 x.threshold.nm) (g2:CZ 1 RW z c2 x.threshold.dm) (g3:CZ 1 RW z c3 x.cap.nm) (g4:CZ 1 RW z c4 x.cap.dm) (g5:CZ 1 RW z c5 x.interest.nm) (g6:CZ 1 RW z c6 x.interest.dm) (g7:CZ 1 RW z c7 x.floor.nm) (g8:CZ 1 RW z c8 x.floor.dm) (g9:CZ 6 xP z c9 x.classes) (g10:CZ 1 RS z c10 x.entities) (g11:CZ 6 Ak z c11 x.years) {d0 d1 d2 d3 d4 d5 d6 d7 d8 d9 d10 d11:C} (r0:CZ 8 pS z d0 x.brackets) (r1:CZ 1 RW z d1 x.threshold.nm) (r2:CZ 1 RW z d2 x.threshold.dm) (r3:CZ 1 RW z d3 x.cap.nm) (r4:CZ 1 RW z d4 x.cap.dm) (r5:CZ 1 RW z d5 x.interest.nm) (r6:CZ 1 RW z d6 x.interest.dm) (r7:CZ 1 RW z d7 x.floor.nm) (r8:CZ 1 RW z d8 x.floor.dm) (r9:CZ 6 xP z d9 x.classes) (r10:CZ 1 RS z d10 x.entities) (r11:CZ 6 Ak z d11 x.years):FC (E k) 19 [.agg (kF x c0 c1 c2 c3 c4 c5 c6 c7 c8 c9 c10 c11),.agg (kF x d0 d1 d2 d3 d4 d5 d6 d7 d8 d9 d10 d11)] z fun v _=>v=Ab true:=by
 have hl_brackets:=g0.le
 have hl_classes:=g9.le
 have hl_entities:=g10.le
 have hl_years:=g11.le
 refine cX (bHH) (by omega) (aU O) fun B j hj=>?_
 refine xR ?_
 refine iJ O fun b2=>?_
 refine iJ O fun b3=>?_
 refine R2 16 O (bQ O Y1 O (lF O (bQ O mem0 O ?_)))
 refine lB O O (by first | exact Ky | exact K4) ?_
 refine R1 4 O (lD O (bQ O Y1 O (lD O (lF O (lD O (bQ O mem0 O (lD O ?_)))))))
 refine lB O O (by first | exact Ky | exact K4) ?_
 refine R1 10 O (lD O (bQ O Y1 O (lD O (aS O g0 (lD O (lF O (lD O (bQ O mem0 O (lD O (aS O r0 (lD O ?_)))))))))))
 refine lB O O (by first | exact Ky | exact K4) ?_
 refine R1 10 O (lD O (bQ O Y1 O (lD O (aS O g9 (lD O (lF O (lD O (bQ O mem0 O (lD O (aS O r9 (lD O ?_)))))))))))
 refine lB O O (by first | exact Ky | exact K4) ?_
 refine R1 10 O (lD O (bQ O Y1 O (lD O (aS O g10 (lD O (lF O (lD O (bQ O mem0 O (lD O (aS O r10 (lD O ?_)))))))))))
 refine lB O O (by first | exact Ky | exact K4) ?_
 refine R1 10 O (lD O (bQ O Y1 O (lD O (aS O g11 (lD O (lF O (lD O (bQ O mem0 O (lD O (aS O r11 (lD O ?_)))))))))))
 refine lB O O (by first | exact Ky | exact K4) ?_
 refine R2 128 O (kJ O Y1 O (lF O (kJ O mem0 O ?_)))
 refine lZ z (qO (x:=x.threshold) (y:=x.threshold) (by omega) g1 g2 r1 r2) O O fun v61 z61 _ ⟨r61,hv61,hr61⟩=>?_
 subst hv61
 have hq61:=hr61.2 rfl
 subst hq61
 refine R1 8 O (lD O (kJ O Y1 O (lD O (lF O (lD O (kJ O mem0 O (lD O ?_)))))))
 refine lZ z61 (qO (x:=x.cap) (y:=x.cap) (by omega) g3.m g4.m r3.m r4.m) O O fun v68 z68 _ ⟨r68,hv68,hr68⟩=>?_
 subst hv68
 have hq68:=hr68.2 rfl
 subst hq68
 refine R1 20 O (lD O (bQ O Y1 O (lD O (lF O (lD O (bQ O mem0 O (lD O ?_)))))))
 refine lB O O (by first | exact Ky | exact K4) ?_
 refine R1 10 O (lD O (bQ O Y1 O (lD O (lF O (lD O (bQ O mem0 O (lD O ?_)))))))
 refine lB O O (by first | exact Ky | exact K4) ?_
 refine R1 10 O (lD O (kJ O Y1 O (lD O (lF O (lD O (kJ O mem0 O (lD O ?_)))))))
 refine lZ z68 (qO (x:=x.interest) (y:=x.interest) (by omega) g5.m g6.m r5.m r6.m) O O fun v90 z90 _ ⟨r90,hv90,hr90⟩=>?_
 subst hv90
 have hq90:=hr90.2 rfl
 subst hq90
 refine R1 20 O (lD O (kJ O Y1 O (lD O (lF O (lD O (kJ O mem0 O (lD O ?_)))))))
 refine lZ z90 (qO (x:=x.floor) (y:=x.floor) (by omega) g7.m g8.m r7.m r8.m) O O fun v98 z98 _ ⟨r98,hv98,hr98⟩=>?_
 subst hv98
 have hq98:=hr98.2 rfl
 subst hq98
 refine R1 20 O (lD O (bQ O Y1 O (lD O (lF O (lD O (bQ O mem0 O (lD O ?_)))))))
 refine lB O O (by first | exact Ky | exact K4) ?_
 refine R3 128 O ?_
 refine aT (aQ ?_)
 refine eA (fun n fs=>∃ (i0:Nat),LI z98 [.blk b3 (.cells 47 (kF x d0 d1 d2 d3 d4 d5 d6 d7 d8 d9 d10 d11)),.blk b2 (.cells 47 (kF x c0 c1 c2 c3 c4 c5 c6 c7 c8 c9 c10 c11))] [(2,Ap b2),(3,Ap b3),(5,Az i0)] fs∧n=x.brackets.length - i0∧(i0≤x.brackets.length)) ?_ _ ⟨0,LI.m [] O,rfl,Nat.zero_le _⟩ (by have:=hl_brackets;show _<18446744073709551616;omega)
 intro n fs ⟨i0,hL0,hmz0,hi0⟩
 refine hL0.open fun e zl0 _=>?_
 refine R4 16 O (bQ O Y1 O (aS O g0 (R3 4 O ?_)))
 refine xD O (fun hc112=>?_) (fun hc112=>?_)
 ·refine dA ?_
  refine aT (aQ ?_)
  refine gX (G1 2 O (wH O O (.inr Y1) O (G1 2 O (gP O O F ?_))))
  refine dH O O g0 i0 O _ (List.getElem?_eq_getElem (by omega)) fun b118 p118 cs at118 hR=>lN ?_
  obtain ⟨c118_0,c118_1,c118_2,c118_3,hcs,q118_0,q118_1,q118_2,q118_3⟩:=hR
  subst hcs
  refine G1 2 O ?_
  refine rC (i:=⟨_,_,.load _ _ _⟩) (off:=0) (v:=.agg [Cb x.brackets[i0].frm.n,c118_0,Cb x.brackets[i0].frm.d,c118_1]) O O F O at118 ti O (by simp) O sR ?_
  refine G1 2 O (wH O O Ht O (G1 2 O (gP O O F ?_)))
  refine dH O O r0 i0 O _ (List.getElem?_eq_getElem (by omega)) fun b124 p124 cs at124 hR=>lN ?_
  obtain ⟨c124_0,c124_1,c124_2,c124_3,hcs,q124_0,q124_1,q124_2,q124_3⟩:=hR
  subst hcs
  refine G1 2 O ?_
  refine rC (i:=⟨_,_,.load _ _ _⟩) (off:=0) (v:=.agg [Cb x.brackets[i0].frm.n,c124_0,Cb x.brackets[i0].frm.d,c124_1]) O O F O at124 ti O (by simp) O sR ?_
  refine gC zl0 (qO (x:=x.brackets[i0].frm) (y:=x.brackets[i0].frm) (by omega) q118_0.m q118_1.m q124_0.m q124_1.m) O O O O fun v127 z127 _ ⟨r127,hv127,hr127⟩=>?_
  subst hv127
  have hq127:=hr127.2 rfl
  subst hq127
  refine G1 8 O (wH O O (.inr Y1) O (G1 2 O (gP O O O ?_)))
  refine dH O O g0 i0 O _ (List.getElem?_eq_getElem (by omega)) fun b133 p133 cs at133 hR=>lN ?_
  obtain ⟨c133_0,c133_1,c133_2,c133_3,hcs,q133_0,q133_1,q133_2,q133_3⟩:=hR
  subst hcs
  refine G1 2 O ?_
  refine rC (i:=⟨_,_,.load _ _ _⟩) (off:=4) (v:=.agg [Cb x.brackets[i0].rate.n,c133_2,Cb x.brackets[i0].rate.d,c133_3]) O O O O at133 ti O (by simp) O sR ?_
  refine G1 2 O (wH O O Ht O (G1 2 O (gP O O O ?_)))
  refine dH O O r0 i0 O _ (List.getElem?_eq_getElem (by omega)) fun b139 p139 cs at139 hR=>lN ?_
  obtain ⟨c139_0,c139_1,c139_2,c139_3,hcs,q139_0,q139_1,q139_2,q139_3⟩:=hR
  subst hcs
  refine G1 2 O ?_
  refine rC (i:=⟨_,_,.load _ _ _⟩) (off:=4) (v:=.agg [Cb x.brackets[i0].rate.n,c139_2,Cb x.brackets[i0].rate.d,c139_3]) O O O O at139 ti O (by simp) O sR ?_
  refine gC z127 (qO (x:=x.brackets[i0].rate) (y:=x.brackets[i0].rate) (by omega) q133_2.m q133_3.m q139_2.m q139_3.m) O O O O fun v142 z142 _ ⟨r142,hv142,hr142⟩=>?_
  subst hv142
  have hq142:=hr142.2 rfl
  subst hq142
  refine G0 4 O (O3 O (iF (dN (xG (lC O (lB O O (eP (n:=i0+1) (by omega) (by omega)) (R0 2 O ?_)))))))
  exact lQ (by omega) ⟨i0+1,LI.m [] O,rfl,by omega⟩
 refine dK (nQ (dN (R5 8 O ?_)))
 refine aT (aQ ?_)
 refine eA (fun n fs=>∃ (i1:Nat),LI zl0 [.blk b3 (.cells 47 (kF x d0 d1 d2 d3 d4 d5 d6 d7 d8 d9 d10 d11)),.blk b2 (.cells 47 (kF x c0 c1 c2 c3 c4 c5 c6 c7 c8 c9 c10 c11))] [(2,Ap b2),(3,Ap b3),(6,Az i1)] fs∧n=x.classes.length - i1∧(i1≤x.classes.length)) ?_ _ ⟨0,LI.m [] O,rfl,Nat.zero_le _⟩ (by have:=hl_classes;show _<18446744073709551616;omega)
 intro n fs ⟨i1,hL1,hmz1,hi1⟩
 refine hL1.open fun e zl1 _=>?_
 refine R4 16 O (bQ O Y1 O (aS O g9 (R3 4 O ?_)))
 refine xD O (fun hc149=>?_) (fun hc149=>?_)
 ·refine dA ?_
  refine aT (aQ ?_)
  refine gX (G1 2 O (wH O O (.inr Y1) O (G1 2 O (gP O O F ?_))))
  refine dH O O g9 i1 O _ (List.getElem?_eq_getElem (by omega)) fun b155 p155 cs at155 hR=>lN ?_
  obtain ⟨c155_0,c155_1,hcs,q155_0,q155_1⟩:=hR
  subst hcs
  refine G1 2 O ?_
  refine rC (i:=⟨_,_,.load _ _ _⟩) (off:=0) (v:=.c (Cs x.classes[i1].name)) O O F O at155 ti O (by simp) O sR ?_
  refine G1 2 O (wH O O Ht O (G1 2 O (gP O O F ?_)))
  refine dH O O r9 i1 O _ (List.getElem?_eq_getElem (by omega)) fun b161 p161 cs at161 hR=>lN ?_
  obtain ⟨c161_0,c161_1,hcs,q161_0,q161_1⟩:=hR
  subst hcs
  refine G1 2 O ?_
  refine rC (i:=⟨_,_,.load _ _ _⟩) (off:=0) (v:=.c (Cs x.classes[i1].name)) O O F O at161 ti O (by simp) O sR ?_
  refine gP O O F ?_
  refine lB O O (by first | exact Ky | exact K4) (lN ?_)
  refine G1 4 O (wH O O (.inr Y1) O (G1 2 O (gP O O O ?_)))
  refine dH O O g9 i1 O _ (List.getElem?_eq_getElem (by omega)) fun b169 p169 cs at169 hR=>lN ?_
  obtain ⟨c169_0,c169_1,hcs,q169_0,q169_1⟩:=hR
  subst hcs
  refine G1 2 O ?_
  refine rC (i:=⟨_,_,.load _ _ _⟩) (off:=1) (v:=.c (Cu x.classes[i1].kind)) O O O O at169 ti O (by simp) O sR ?_
  refine G1 2 O (wH O O Ht O (G1 2 O (gP O O O ?_)))
  refine dH O O r9 i1 O _ (List.getElem?_eq_getElem (by omega)) fun b175 p175 cs at175 hR=>lN ?_
  obtain ⟨c175_0,c175_1,hcs,q175_0,q175_1⟩:=hR
  subst hcs
  refine G1 2 O ?_
  refine rC (i:=⟨_,_,.load _ _ _⟩) (off:=1) (v:=.c (Cu x.classes[i1].kind)) O O O O at175 ti O (by simp) O sR ?_
  refine gP O O O ?_
  refine lB O O (by first | exact Ky | exact K4) (lN ?_)
  refine G1 10 O (wH O O (.inr Y1) O (G1 2 O (gP O O O ?_)))
  refine dH O O g9 i1 O _ (List.getElem?_eq_getElem (by omega)) fun b184 p184 cs at184 hR=>lN ?_
  obtain ⟨c184_0,c184_1,hcs,q184_0,q184_1⟩:=hR
  subst hcs
  refine G1 2 O ?_
  refine rC (i:=⟨_,_,.load _ _ _⟩) (off:=2) (v:=.agg [Cb x.classes[i1].arg.n,c184_0,Cb x.classes[i1].arg.d,c184_1]) O O O O at184 ti O (by simp) O sR ?_
  refine G1 2 O (wH O O Ht O (G1 2 O (gP O O O ?_)))
  refine dH O O r9 i1 O _ (List.getElem?_eq_getElem (by omega)) fun b190 p190 cs at190 hR=>lN ?_
  obtain ⟨c190_0,c190_1,hcs,q190_0,q190_1⟩:=hR
  subst hcs
  refine G1 2 O ?_
  refine rC (i:=⟨_,_,.load _ _ _⟩) (off:=2) (v:=.agg [Cb x.classes[i1].arg.n,c190_0,Cb x.classes[i1].arg.d,c190_1]) O O O O at190 ti O (by simp) O sR ?_
  refine gC zl1 (qO (x:=x.classes[i1].arg) (y:=x.classes[i1].arg) (by omega) q184_0.m q184_1.m q190_0.m q190_1.m) O O O O fun v193 z193 _ ⟨r193,hv193,hr193⟩=>?_
  subst hv193
  have hq193:=hr193.2 rfl
  subst hq193
  refine G0 4 O (O3 O (iF (dN (xG (lC O (lB O O (eP (n:=i1+1) (by omega) (by omega)) (R0 2 O ?_)))))))
  exact lQ (by omega) ⟨i1+1,LI.m [] O,rfl,by omega⟩
 refine dK (nQ (dN (R5 8 O ?_)))
 refine aT (aQ ?_)
 refine eA (fun n fs=>∃ (i2:Nat),LI zl1 [.blk b3 (.cells 47 (kF x d0 d1 d2 d3 d4 d5 d6 d7 d8 d9 d10 d11)),.blk b2 (.cells 47 (kF x c0 c1 c2 c3 c4 c5 c6 c7 c8 c9 c10 c11))] [(2,Ap b2),(3,Ap b3),(7,Az i2)] fs∧n=x.entities.length - i2∧(i2≤x.entities.length)) ?_ _ ⟨0,LI.m [] O,rfl,Nat.zero_le _⟩ (by have:=hl_entities;show _<18446744073709551616;omega)
 intro n fs ⟨i2,hL2,hmz2,hi2⟩
 refine hL2.open fun e zl2 _=>?_
 refine R4 16 O (bQ O Y1 O (aS O g10 (R3 4 O ?_)))
 refine xD O (fun hc200=>?_) (fun hc200=>?_)
 ·refine dA ?_
  refine aT (aQ ?_)
  refine gX (G1 2 O (wH O O (.inr Y1) O (G1 2 O (gP O O F ?_))))
  refine dH O O g10 i2 O _ (List.getElem?_eq_getElem (by omega)) fun b206 p206 cs at206 hR=>lN ?_
  obtain rfl:cs=_:=hR
  refine rC (i:=⟨_,_,.load _ _ _⟩) (off:=0) (v:=.c (Cs x.entities[i2])) O O F O at206 ti O (by simp) O sR ?_
  refine G1 2 O (wH O O Ht O (G1 2 O (gP O O F ?_)))
  refine dH O O r10 i2 O _ (List.getElem?_eq_getElem (by omega)) fun b211 p211 cs at211 hR=>lN ?_
  obtain rfl:cs=_:=hR
  refine rC (i:=⟨_,_,.load _ _ _⟩) (off:=0) (v:=.c (Cs x.entities[i2])) O O F O at211 ti O (by simp) O sR ?_
  refine gP O O F ?_
  refine lB O O (by first | exact Ky | exact K4) (lN ?_)
  refine mQ (O3 O (iF (dN (xG (lC O (lB O O (eP (n:=i2+1) (by omega) (by omega)) (R0 2 O ?_)))))))
  exact lQ (by omega) ⟨i2+1,LI.m [] O,rfl,by omega⟩
 refine dK (nQ (dN (R5 8 O ?_)))
 refine aT (aQ ?_)
 refine eA (fun n fs=>∃ (i3:Nat),LI zl2 [.blk b3 (.cells 47 (kF x d0 d1 d2 d3 d4 d5 d6 d7 d8 d9 d10 d11)),.blk b2 (.cells 47 (kF x c0 c1 c2 c3 c4 c5 c6 c7 c8 c9 c10 c11))] [(2,Ap b2),(3,Ap b3),(8,Az i3)] fs∧n=x.years.length - i3∧(i3≤x.years.length)) ?_ _ ⟨0,LI.m [] O,rfl,Nat.zero_le _⟩ (by have:=hl_years;show _<18446744073709551616;omega)
 intro n fs ⟨i3,hL3,hmz3,hi3⟩
 refine hL3.open fun e zl3 _=>?_
 refine R4 16 O (bQ O Y1 O (aS O g11 (R3 4 O ?_)))
 refine xD O (fun hc218=>?_) (fun hc218=>?_)
 ·refine dA ?_
  refine aT (aQ ?_)
  refine gX (G1 2 O (wH O O (.inr Y1) O (G1 2 O (gP O O F ?_))))
  refine dH O O g11 i3 O _ (List.getElem?_eq_getElem (by omega)) fun b224 p224 cs at224 hR=>lN ?_
  obtain ⟨c224_0,c224_1,c224_2,c224_3,c224_4,hcs,q224_0,q224_1,q224_2,q224_3,q224_4⟩:=hR
  subst hcs
  refine rC (i:=⟨_,_,.load _ _ _⟩) (off:=0) (v:=.agg [Ci x.years[i3].number,c224_0,c224_1,c224_2,c224_3,c224_4]) O O F O at224 ti O (by simp) O sR ?_
  refine G1 2 O (wH O O Ht O (G1 2 O (gP O O F ?_)))
  refine dH O O r11 i3 O _ (List.getElem?_eq_getElem (by omega)) fun b229 p229 cs at229 hR=>lN ?_
  obtain ⟨c229_0,c229_1,c229_2,c229_3,c229_4,hcs,q229_0,q229_1,q229_2,q229_3,q229_4⟩:=hR
  subst hcs
  refine rC (i:=⟨_,_,.load _ _ _⟩) (off:=0) (v:=.agg [Ci x.years[i3].number,c229_0,c229_1,c229_2,c229_3,c229_4]) O O F O at229 ti O (by simp) O sR ?_
  refine gE zl3 (bO5 (x:=x.years[i3]) (by omega) q224_0.m q224_1.m q224_2.m q224_3.m q224_4.m q229_0.m q229_1.m q229_2.m q229_3.m q229_4.m) O O O O fun z231 _=>?_
  refine G0 2 O (O3 O (iF (dN (xG (lC O (lB O O (eP (n:=i3+1) (by omega) (by omega)) (R0 2 O ?_)))))))
  exact lQ (by omega) ⟨i3+1,LI.m [] O,rfl,by omega⟩
 refine dK (nQ (dN (R5 4 O (xT (rI O ?_)))))
 rfl
end Go.Proofs.YtcnpoojdochapaaGreatDoor

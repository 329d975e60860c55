/- The reference's filing; whether pairs are the reference's, walked. -/
import Derived.WalkKit
import Derived.Orders
import Derived.Test.YtlceligcgelbdaaGreatMF4
set_option linter.unusedVariables false
set_option linter.unusedSimpArgs false
set_option maxRecDepth 100000
set_option maxHeartbeats 1000000
namespace Go.Proofs.YtlceligcgelbdaaGreat
open Go.CE Go.RowKit Go.Num
open Go.Eng (mR)
theorem bIY {a b:UInt32} (h:((a.toNat:Nat):Int)=(b.toNat:Nat)):a=b:=UInt32.toNat_inj.1 (Int.ofNat.inj h)
theorem aZu {a:List UInt32} {i:Nat} (h:i<a.length):nF a i=a[i].toNat:=by
 unfold nF
 rw [List.getD_eq_getElem?_getD,List.getElem?_eq_getElem h];rfl
theorem bJ7 {a b:List UInt32} {i:Nat} (h1:i<a.length) (h2:i<b.length) (h:((nF a i:Nat):Int)=(nF b i:Nat)):a[i]=b[i]:=bIY (by rw [← aZu h1,← aZu h2];exact h)
theorem aDY {k:Nat} (hk:1≤k) {z:fR} {n1 n2:Bool} {c1 c2:C} {l1 l2:List UInt32} (hx:CZ 1 RW z c1 l1) (hy:CZ 1 RW z c2 l2):FC (E k) 191 [.agg [Cb n1,c1],.agg [Cb n2,c2]] z fun v _=>∃ r:Bool,v=Ab r∧(r=true↔n1=n2∧l1=l2):=by
 have bl1:=hx.le
 have bl2:=hy.le
 refine iI (bCE) (by omega) (dN O) fun B j hj=>?_
 refine xR ?_
 refine kN O fun b2=>?_
 refine kN O fun b3=>?_
 refine R2 16 O (dH O Y1 O (lF O (dH O mem0 O (A8 O O (Wj _ _) (lC O ?_)))))
 refine aDb 11 O (fun hg11=>?_) (fun hg11=>?_)
 ·refine R3 8192 O (mC ?_)
  exact rI O ⟨false,rfl,⟨fun h=>(by cases h),fun h=>absurd h.1 hg11⟩⟩
 refine lD O (lF O (lD O (dH O Y1 O (lD O (cX O hx (lD O (lF O (lD O (dH O mem0 O (lD O (cX O hy (R3 8 O ?_))))))))))))
 refine Ae O (fun hc19=>?_) (fun hc19=>?_)
 ·refine R5 8 O (mC ?_)
  exact rI O ⟨false,rfl,⟨fun h=>(by cases h),fun h=>absurd (by rw [h.2]) hc19⟩⟩
 refine R5 16 O ?_
 refine dE (bQ ?_)
 refine eT (fun n fs=>∃ (i:Nat),LI z [.blk b3 (.cells 49 [Cb n2,c2]),.blk b2 (.cells 49 [Cb n1,c1])] [(2,Ap b2),(3,Ap b3),(5,Az i)] fs∧n=l1.length - i∧(i≤l1.length)∧(∀ q,q<i→l1[q]? = l2[q]?)) ?_ _ ⟨0,LI.m [] O,rfl,Nat.zero_le _,fun q hq=>absurd hq (Nat.not_lt_zero _)⟩ (kK (by omega))
 intro n fs ⟨i,hL0,hmz0,hi,hp⟩
 refine hL0.open fun e zl0 _=>?_
 refine R4 16 O (dH O Y1 O (cX O hx (R3 4 O ?_)))
 refine xD O (fun hc24=>?_) (fun hc24=>?_)
 ·refine dX ?_
  refine dE (bQ ?_)
  refine jF (G1 2 O (wM O O (.inr Y1) O (G1 2 O (gP O O F ?_))))
  refine qO (zz:=zl0) O O hx.m (i) (O) (by omega) fun p30 hp30=>lN ?_
  refine glP O O hp30 ti (G1 2 O (wM O O Ht O (G1 2 O (gP O O F ?_))))
  refine qO (zz:=zl0) O O hy.m (i) (O) (by omega) fun p35 hp35=>lN ?_
  refine glP O O hp35 ti (G0 2 O ?_)
  refine Ae O (fun hc37=>?_) (fun hc37=>?_)
  ·refine R5 4 O (xT (oD (Ou (oD ?_))))
   exact rI O ⟨false,rfl,⟨fun h=>(by cases h),fun h=>absurd (by rw [h.2]) hc37⟩⟩
  refine mQ (iE (xG (lC O (lB O O (iW (n:=i+1) (by omega) (by omega)) (R0 2 O ?_)))))
  exact nN (by omega) ⟨i+1,LI.m [] O,rfl,by omega,fun q hq=>bLr hp (List.getElem?_eq_getElem (by omega)) (List.getElem?_eq_getElem (by omega)) (bJ7 (by omega) (by omega) hc37) hq⟩
 refine eE (oC (iE (R5 4 O (xT ?_))))
 exact rI O ⟨true,rfl,⟨fun _=>⟨hg11,bON (by omega) hp (by omega)⟩,fun _=>rfl⟩⟩
theorem qB {k:Nat} (hk:2≤k) {z:fR} {x y:Ax} {c1 c2 d1 d2:C} (hx:CZ 1 RW z c1 x.nm) (hy:CZ 1 RW z c2 x.dm) (gx:CZ 1 RW z d1 y.nm) (gy:CZ 1 RW z d2 y.dm):FC (E k) 109 [.agg (kR x c1 c2),.agg (kR y d1 d2)] z fun v _=>∃ r:Bool,v=Ab r∧(r=true↔x=y):=by
 refine iI (bBi) (by omega) (dN O) fun B j hj=>?_
 refine xR ?_
 refine kN O fun b2=>?_
 refine kN O fun b3=>?_
 refine R2 8 O (jN O Y1 O (lF O (jN O mem0 O ?_)))
 refine lZ z (aDY (by omega) hx gx) O O fun v9 z9 _ ⟨r9,hv9,hr9⟩=>?_
 subst hv9
 refine lM O ?_
 refine nV 10 O (fun hg10=>?_) (fun hg10=>?_)
 ·refine lD O (lF O (lD O (jN O Y1 O (lD O (lF O (lD O (jN O mem0 O (lD O ?_))))))))
  refine lZ z9 (aDY (by omega) hy.m gy.m) O O fun v15 z15 _ ⟨r15,hv15,hr15⟩=>?_
  subst hv15
  refine R0 6 O (xT ?_)
  exact rI O ⟨_,rfl,⟨fun h=>Ax.ext_iff.2 ⟨(hr9.1 hg10).1,(hr9.1 hg10).2,(hr15.1 h).1,(hr15.1 h).2⟩,fun h=>by subst h;exact hr15.2 ⟨rfl,rfl⟩⟩⟩
 refine R0 192 O (xT ?_)
 exact rI O ⟨_,rfl,⟨fun h=>(by cases h),fun h=>by subst h;rw [hr9.2 ⟨rfl,rfl⟩] at hg10;cases hg10⟩⟩
open Go.CE Go.RowKit Go.Num
open Go.Eng (mR)
theorem D1 {k:IntKind} {a:Int}:pC .neq (.int k a) (.int k a)=some (.bool false):=(bMJ _ _ _).trans (by rw [decide_eq_true rfl];rfl)
theorem It {a:ByteArray}:pC .neq (.string a) (.string a)=some (.bool false):=(aW8 _ _).trans (by rw [decide_eq_true rfl];rfl)
theorem bV0 {a:Bool}:Go.Eng.binBV .neq (.bool a) (.bool a)=some (.bool false):=(Wj _ _).trans (by rw [decide_eq_true rfl];rfl)
theorem bOV {k:Nat} (hk:3≤k) {z:fR} {x:aGp} {c0 c1 c2 c3 c4:C} (g0:CZ 6 aDU z c0 x.holds) (g1:CZ 6 aD4 z c1 x.books) (g2:CZ 10 aA0 z c2 x.deals) (g3:CZ 9 Rz z c3 x.stocks) (g4:CZ 5 aD2 z c4 x.solds) {d0 d1 d2 d3 d4:C} (r0:CZ 6 aDU z d0 x.holds) (r1:CZ 6 aD4 z d1 x.books) (r2:CZ 10 aA0 z d2 x.deals) (r3:CZ 9 Rz z d3 x.stocks) (r4:CZ 5 aD2 z d4 x.solds):FC (E k) 110 [.agg [Ci x.number,c0,c1,c2,c3,c4],.agg [Ci x.number,d0,d1,d2,d3,d4]] z fun v _=>v=Ab true:=by
 have hl_holds:=g0.le
 have hl_books:=g1.le
 have hl_deals:=g2.le
 have hl_stocks:=g3.le
 have hl_solds:=g4.le
 refine iI (bDF) (by omega) (dN O) fun B j hj=>?_
 refine xR ?_
 refine kN O fun b2=>?_
 refine kN O fun b3=>?_
 refine R2 16 O (dH O Y1 O (lF O (dH O mem0 O ?_)))
 refine lB O O (by first | exact D1 | exact It) ?_
 refine R1 4 O (lD O (dH O Y1 O (lD O (cX O g0 (lD O (lF O (lD O (dH O mem0 O (lD O (cX O r0 (lD O ?_)))))))))))
 refine lB O O (by first | exact D1 | exact It) ?_
 refine R1 10 O (lD O (dH O Y1 O (lD O (cX O g1 (lD O (lF O (lD O (dH O mem0 O (lD O (cX O r1 (lD O ?_)))))))))))
 refine lB O O (by first | exact D1 | exact It) ?_
 refine R1 10 O (lD O (dH O Y1 O (lD O (cX O g2 (lD O (lF O (lD O (dH O mem0 O (lD O (cX O r2 (lD O ?_)))))))))))
 refine lB O O (by first | exact D1 | exact It) ?_
 refine R1 10 O (lD O (dH O Y1 O (lD O (cX O g3 (lD O (lF O (lD O (dH O mem0 O (lD O (cX O r3 (lD O ?_)))))))))))
 refine lB O O (by first | exact D1 | exact It) ?_
 refine R1 10 O (lD O (dH O Y1 O (lD O (cX O g4 (lD O (lF O (lD O (dH O mem0 O (lD O (cX O r4 (lD O ?_)))))))))))
 refine lB O O (by first | exact D1 | exact It) ?_
 refine R3 128 O ?_
 refine dE (bQ ?_)
 refine eT (fun n fs=>∃ (i0:Nat),LI z [.blk b3 (.cells 215 [Ci x.number,d0,d1,d2,d3,d4]),.blk b2 (.cells 215 [Ci x.number,c0,c1,c2,c3,c4])] [(2,Ap b2),(3,Ap b3),(5,Az i0)] fs∧n=x.holds.length - i0∧(i0≤x.holds.length)) ?_ _ ⟨0,LI.m [] O,rfl,Nat.zero_le _⟩ (by have:=hl_holds;show _<18446744073709551616;omega)
 intro n fs ⟨i0,hL0,hmz0,hi0⟩
 refine hL0.open fun e zl0 _=>?_
 refine R4 16 O (dH O Y1 O (cX O g0 (R3 4 O ?_)))
 refine xD O (fun hc70=>?_) (fun hc70=>?_)
 ·refine dX ?_
  refine dE (bQ ?_)
  refine jF (G1 2 O (wM O O (.inr Y1) O (G1 2 O (gP O O F ?_))))
  refine eA O O g0 i0 O _ (List.getElem?_eq_getElem (by omega)) fun b76 p76 cs at76 hR=>lN ?_
  obtain ⟨c76_0,c76_1,hcs,q76_0,q76_1⟩:=hR
  subst hcs
  refine mU (i:=⟨_,_,.load _ _ _⟩) (off:=0) (v:=.agg [Cs x.holds[i0].owner,Cs x.holds[i0].owned,Cb x.holds[i0].share.n,c76_0,Cb x.holds[i0].share.d,c76_1]) O O F O at76 ti O (by simp) O sR ?_
  refine G1 2 O (wM O O Ht O (G1 2 O (gP O O F ?_)))
  refine eA O O r0 i0 O _ (List.getElem?_eq_getElem (by omega)) fun b81 p81 cs at81 hR=>lN ?_
  obtain ⟨c81_0,c81_1,hcs,q81_0,q81_1⟩:=hR
  subst hcs
  refine mU (i:=⟨_,_,.load _ _ _⟩) (off:=0) (v:=.agg [Cs x.holds[i0].owner,Cs x.holds[i0].owned,Cb x.holds[i0].share.n,c81_0,Cb x.holds[i0].share.d,c81_1]) O O F O at81 ti O (by simp) O sR ?_
  refine gA O O (fun b6 hT6=>?_)
  refine gA O O (fun b7 hT7=>?_)
  refine gT O O O hT6 (Aa O O O O P1 (lN (gS O O O (Aa O O O O lR (lN (nQ (R4 4 O (dH O Y1 O (lF O (dH O mem0 O ?_))))))))))
  refine lB O O (by first | exact D1 | exact It) ?_
  refine R1 4 O (lD O (dH O Y1 O (lD O (lF O (lD O (dH O mem0 O (lD O ?_)))))))
  refine lB O O (by first | exact D1 | exact It) ?_
  refine R1 10 O (lD O (qZ O Y1 O (lD O (lF O (lD O (qZ O mem0 O (lD O ?_)))))))
  refine lZ zl0 (qB (x:=x.holds[i0].share) (y:=x.holds[i0].share) (by omega) q76_0.m q76_1.m q81_0.m q81_1.m) O O fun v100 z100 _ ⟨r100,hv100,hr100⟩=>?_
  subst hv100
  have hq100:=hr100.2 rfl
  subst hq100
  refine R3 8 O (mQ (iE (xG (lC O (lB O O (iW (n:=i0+1) (by omega) (by omega)) (R0 2 O ?_))))))
  exact nN (by omega) ⟨i0+1,LI.m [_,_] O,rfl,by omega⟩
 refine eE (oC (iE (R5 8 O ?_)))
 refine dE (bQ ?_)
 refine eT (fun n fs=>∃ (i1:Nat),LI zl0 [.blk b3 (.cells 215 [Ci x.number,d0,d1,d2,d3,d4]),.blk b2 (.cells 215 [Ci x.number,c0,c1,c2,c3,c4])] [(2,Ap b2),(3,Ap b3),(8,Az i1)] fs∧n=x.books.length - i1∧(i1≤x.books.length)) ?_ _ ⟨0,LI.m [] O,rfl,Nat.zero_le _⟩ (by have:=hl_books;show _<18446744073709551616;omega)
 intro n fs ⟨i1,hL1,hmz1,hi1⟩
 refine hL1.open fun e zl1 _=>?_
 refine R4 16 O (dH O Y1 O (cX O g1 (R3 4 O ?_)))
 refine xD O (fun hc107=>?_) (fun hc107=>?_)
 ·refine dX ?_
  refine dE (bQ ?_)
  refine jF (G1 2 O (wM O O (.inr Y1) O (G1 2 O (gP O O F ?_))))
  refine eA O O g1 i1 O _ (List.getElem?_eq_getElem (by omega)) fun b113 p113 cs at113 hR=>lN ?_
  obtain ⟨c113_0,c113_1,hcs,q113_0,q113_1⟩:=hR
  subst hcs
  refine mU (i:=⟨_,_,.load _ _ _⟩) (off:=0) (v:=.agg [Cs x.books[i1].entity,Cs x.books[i1].cls,Cb x.books[i1].amount.n,c113_0,Cb x.books[i1].amount.d,c113_1]) O O F O at113 ti O (by simp) O sR ?_
  refine G1 2 O (wM O O Ht O (G1 2 O (gP O O F ?_)))
  refine eA O O r1 i1 O _ (List.getElem?_eq_getElem (by omega)) fun b118 p118 cs at118 hR=>lN ?_
  obtain ⟨c118_0,c118_1,hcs,q118_0,q118_1⟩:=hR
  subst hcs
  refine mU (i:=⟨_,_,.load _ _ _⟩) (off:=0) (v:=.agg [Cs x.books[i1].entity,Cs x.books[i1].cls,Cb x.books[i1].amount.n,c118_0,Cb x.books[i1].amount.d,c118_1]) O O F O at118 ti O (by simp) O sR ?_
  refine gA O O (fun b9 hT9=>?_)
  refine gA O O (fun b10 hT10=>?_)
  refine gT O O O hT9 (Aa O O O O P1 (lN (gS O O O (Aa O O O O lR (lN (nQ (R4 4 O (dH O Y1 O (lF O (dH O mem0 O ?_))))))))))
  refine lB O O (by first | exact D1 | exact It) ?_
  refine R1 4 O (lD O (dH O Y1 O (lD O (lF O (lD O (dH O mem0 O (lD O ?_)))))))
  refine lB O O (by first | exact D1 | exact It) ?_
  refine R1 10 O (lD O (qZ O Y1 O (lD O (lF O (lD O (qZ O mem0 O (lD O ?_)))))))
  refine lZ zl1 (qB (x:=x.books[i1].amount) (y:=x.books[i1].amount) (by omega) q113_0.m q113_1.m q118_0.m q118_1.m) O O fun v137 z137 _ ⟨r137,hv137,hr137⟩=>?_
  subst hv137
  have hq137:=hr137.2 rfl
  subst hq137
  refine R3 8 O (mQ (iE (xG (lC O (lB O O (iW (n:=i1+1) (by omega) (by omega)) (R0 2 O ?_))))))
  exact nN (by omega) ⟨i1+1,LI.m [_,_] O,rfl,by omega⟩
 refine eE (oC (iE (R5 8 O ?_)))
 refine dE (bQ ?_)
 refine eT (fun n fs=>∃ (i2:Nat),LI zl1 [.blk b3 (.cells 215 [Ci x.number,d0,d1,d2,d3,d4]),.blk b2 (.cells 215 [Ci x.number,c0,c1,c2,c3,c4])] [(2,Ap b2),(3,Ap b3),(11,Az i2)] fs∧n=x.deals.length - i2∧(i2≤x.deals.length)) ?_ _ ⟨0,LI.m [] O,rfl,Nat.zero_le _⟩ (by have:=hl_deals;show _<18446744073709551616;omega)
 intro n fs ⟨i2,hL2,hmz2,hi2⟩
 refine hL2.open fun e zl2 _=>?_
 refine R4 16 O (dH O Y1 O (cX O g2 (R3 4 O ?_)))
 refine xD O (fun hc144=>?_) (fun hc144=>?_)
 ·refine dX ?_
  refine dE (bQ ?_)
  refine jF (G1 2 O (wM O O (.inr Y1) O (G1 2 O (gP O O F ?_))))
  refine eA O O g2 i2 O _ (List.getElem?_eq_getElem (by omega)) fun b150 p150 cs at150 hR=>lN ?_
  obtain ⟨c150_0,c150_1,hcs,q150_0,q150_1⟩:=hR
  subst hcs
  refine mU (i:=⟨_,_,.load _ _ _⟩) (off:=0) (v:=.agg [Cb x.deals[i2].give,Cs x.deals[i2].id,Cu x.deals[i2].kind,Cs x.deals[i2].payee,Cs x.deals[i2].payer,Cs x.deals[i2].cls,Cb x.deals[i2].amount.n,c150_0,Cb x.deals[i2].amount.d,c150_1]) O O F O at150 ti O (by simp) O sR ?_
  refine G1 2 O (wM O O Ht O (G1 2 O (gP O O F ?_)))
  refine eA O O r2 i2 O _ (List.getElem?_eq_getElem (by omega)) fun b155 p155 cs at155 hR=>lN ?_
  obtain ⟨c155_0,c155_1,hcs,q155_0,q155_1⟩:=hR
  subst hcs
  refine mU (i:=⟨_,_,.load _ _ _⟩) (off:=0) (v:=.agg [Cb x.deals[i2].give,Cs x.deals[i2].id,Cu x.deals[i2].kind,Cs x.deals[i2].payee,Cs x.deals[i2].payer,Cs x.deals[i2].cls,Cb x.deals[i2].amount.n,c155_0,Cb x.deals[i2].amount.d,c155_1]) O O F O at155 ti O (by simp) O sR ?_
  refine gA O O (fun b12 hT12=>?_)
  refine gA O O (fun b13 hT13=>?_)
  refine gT O O O hT12 (Aa O O O O P1 (lN (gS O O O (Aa O O O O lR (lN (nQ (R4 4 O (dH O Y1 O (lF O (dH O mem0 O (A8 O O bV0 (R1 4 O (lD O (dH O Y1 O (lD O ?_)))))))))))))))
  refine lF O (lD O (dH O mem0 O (lD O ?_)))
  refine lB O O (by first | exact D1 | exact It) ?_
  refine R1 10 O (lD O (dH O Y1 O (lD O (lF O (lD O (dH O mem0 O (lD O ?_)))))))
  refine lB O O (by first | exact D1 | exact It) ?_
  refine R1 10 O (lD O (dH O Y1 O (lD O (lF O (lD O (dH O mem0 O (lD O ?_)))))))
  refine lB O O (by first | exact D1 | exact It) ?_
  refine R1 10 O (lD O (dH O Y1 O (lD O (lF O (lD O (dH O mem0 O (lD O ?_)))))))
  refine lB O O (by first | exact D1 | exact It) ?_
  refine R1 10 O (lD O (dH O Y1 O (lD O (lF O (lD O (dH O mem0 O (lD O ?_)))))))
  refine lB O O (by first | exact D1 | exact It) ?_
  refine R1 10 O (lD O (qZ O Y1 O (lD O (lF O (lD O (qZ O mem0 O (lD O ?_)))))))
  refine lZ zl2 (qB (x:=x.deals[i2].amount) (y:=x.deals[i2].amount) (by omega) q150_0.m q150_1.m q155_0.m q155_1.m) O O fun v202 z202 _ ⟨r202,hv202,hr202⟩=>?_
  subst hv202
  have hq202:=hr202.2 rfl
  subst hq202
  refine R3 8 O (mQ (iE (xG (lC O (lB O O (iW (n:=i2+1) (by omega) (by omega)) (R0 2 O ?_))))))
  exact nN (by omega) ⟨i2+1,LI.m [_,_] O,rfl,by omega⟩
 refine eE (oC (iE (R5 8 O ?_)))
 refine dE (bQ ?_)
 refine eT (fun n fs=>∃ (i3:Nat),LI zl2 [.blk b3 (.cells 215 [Ci x.number,d0,d1,d2,d3,d4]),.blk b2 (.cells 215 [Ci x.number,c0,c1,c2,c3,c4])] [(2,Ap b2),(3,Ap b3),(14,Az i3)] fs∧n=x.stocks.length - i3∧(i3≤x.stocks.length)) ?_ _ ⟨0,LI.m [] O,rfl,Nat.zero_le _⟩ (by have:=hl_stocks;show _<18446744073709551616;omega)
 intro n fs ⟨i3,hL3,hmz3,hi3⟩
 refine hL3.open fun e zl3 _=>?_
 refine R4 16 O (dH O Y1 O (cX O g3 (R3 4 O ?_)))
 refine xD O (fun hc209=>?_) (fun hc209=>?_)
 ·refine dX ?_
  refine dE (bQ ?_)
  refine jF (G1 2 O (wM O O (.inr Y1) O (G1 2 O (gP O O F ?_))))
  refine eA O O g3 i3 O _ (List.getElem?_eq_getElem (by omega)) fun b215 p215 cs at215 hR=>lN ?_
  obtain ⟨c215_0,c215_1,c215_2,c215_3,hcs,q215_0,q215_1,q215_2,q215_3⟩:=hR
  subst hcs
  refine G1 2 O ?_
  refine mU (i:=⟨_,_,.load _ _ _⟩) (off:=0) (v:=.c (Cs x.stocks[i3].id)) O O F O at215 ti O (by simp) O sR ?_
  refine G1 2 O (wM O O Ht O (G1 2 O (gP O O F ?_)))
  refine eA O O r3 i3 O _ (List.getElem?_eq_getElem (by omega)) fun b221 p221 cs at221 hR=>lN ?_
  obtain ⟨c221_0,c221_1,c221_2,c221_3,hcs,q221_0,q221_1,q221_2,q221_3⟩:=hR
  subst hcs
  refine G1 2 O ?_
  refine mU (i:=⟨_,_,.load _ _ _⟩) (off:=0) (v:=.c (Cs x.stocks[i3].id)) O O F O at221 ti O (by simp) O sR ?_
  refine gP O O F ?_
  refine lB O O (by first | exact D1 | exact It) (lN ?_)
  refine G1 4 O (wM O O (.inr Y1) O (G1 2 O (gP O O O ?_)))
  refine eA O O g3 i3 O _ (List.getElem?_eq_getElem (by omega)) fun b229 p229 cs at229 hR=>lN ?_
  obtain ⟨c229_0,c229_1,c229_2,c229_3,hcs,q229_0,q229_1,q229_2,q229_3⟩:=hR
  subst hcs
  refine G1 2 O ?_
  refine mU (i:=⟨_,_,.load _ _ _⟩) (off:=1) (v:=.agg [Cb x.stocks[i3].margin.n,c229_0,Cb x.stocks[i3].margin.d,c229_1]) O O O O at229 ti O (by simp) O sR ?_
  refine G1 2 O (wM O O Ht O (G1 2 O (gP O O O ?_)))
  refine eA O O r3 i3 O _ (List.getElem?_eq_getElem (by omega)) fun b235 p235 cs at235 hR=>lN ?_
  obtain ⟨c235_0,c235_1,c235_2,c235_3,hcs,q235_0,q235_1,q235_2,q235_3⟩:=hR
  subst hcs
  refine G1 2 O ?_
  refine mU (i:=⟨_,_,.load _ _ _⟩) (off:=1) (v:=.agg [Cb x.stocks[i3].margin.n,c235_0,Cb x.stocks[i3].margin.d,c235_1]) O O O O at235 ti O (by simp) O sR ?_
  refine gC zl3 (qB (x:=x.stocks[i3].margin) (y:=x.stocks[i3].margin) (by omega) q229_0.m q229_1.m q235_0.m q235_1.m) O O O O fun v238 z238 _ ⟨r238,hv238,hr238⟩=>?_
  subst hv238
  have hq238:=hr238.2 rfl
  subst hq238
  refine G1 20 O (wM O O (.inr Y1) O (G1 2 O (gP O O O ?_)))
  refine eA O O g3 i3 O _ (List.getElem?_eq_getElem (by omega)) fun b245 p245 cs at245 hR=>lN ?_
  obtain ⟨c245_0,c245_1,c245_2,c245_3,hcs,q245_0,q245_1,q245_2,q245_3⟩:=hR
  subst hcs
  refine G1 2 O ?_
  refine mU (i:=⟨_,_,.load _ _ _⟩) (off:=5) (v:=.agg [Cb x.stocks[i3].unsold.n,c245_2,Cb x.stocks[i3].unsold.d,c245_3]) O O O O at245 ti O (by simp) O sR ?_
  refine G1 2 O (wM O O Ht O (G1 2 O (gP O O O ?_)))
  refine eA O O r3 i3 O _ (List.getElem?_eq_getElem (by omega)) fun b251 p251 cs at251 hR=>lN ?_
  obtain ⟨c251_0,c251_1,c251_2,c251_3,hcs,q251_0,q251_1,q251_2,q251_3⟩:=hR
  subst hcs
  refine G1 2 O ?_
  refine mU (i:=⟨_,_,.load _ _ _⟩) (off:=5) (v:=.agg [Cb x.stocks[i3].unsold.n,c251_2,Cb x.stocks[i3].unsold.d,c251_3]) O O O O at251 ti O (by simp) O sR ?_
  refine gC z238 (qB (x:=x.stocks[i3].unsold) (y:=x.stocks[i3].unsold) (by omega) q245_2.m q245_3.m q251_2.m q251_3.m) O O O O fun v254 z254 _ ⟨r254,hv254,hr254⟩=>?_
  subst hv254
  have hq254:=hr254.2 rfl
  subst hq254
  refine G0 4 O (Et O (mQ (iE (xG (lC O (lB O O (iW (n:=i3+1) (by omega) (by omega)) (R0 2 O ?_)))))))
  exact nN (by omega) ⟨i3+1,LI.m [] O,rfl,by omega⟩
 refine eE (oC (iE (R5 8 O ?_)))
 refine dE (bQ ?_)
 refine eT (fun n fs=>∃ (i4:Nat),LI zl3 [.blk b3 (.cells 215 [Ci x.number,d0,d1,d2,d3,d4]),.blk b2 (.cells 215 [Ci x.number,c0,c1,c2,c3,c4])] [(2,Ap b2),(3,Ap b3),(15,Az i4)] fs∧n=x.solds.length - i4∧(i4≤x.solds.length)) ?_ _ ⟨0,LI.m [] O,rfl,Nat.zero_le _⟩ (by have:=hl_solds;show _<18446744073709551616;omega)
 intro n fs ⟨i4,hL4,hmz4,hi4⟩
 refine hL4.open fun e zl4 _=>?_
 refine R4 16 O (dH O Y1 O (cX O g4 (R3 4 O ?_)))
 refine xD O (fun hc261=>?_) (fun hc261=>?_)
 ·refine dX ?_
  refine dE (bQ ?_)
  refine jF (G1 2 O (wM O O (.inr Y1) O (G1 2 O (gP O O F ?_))))
  refine eA O O g4 i4 O _ (List.getElem?_eq_getElem (by omega)) fun b267 p267 cs at267 hR=>lN ?_
  obtain ⟨c267_0,c267_1,hcs,q267_0,q267_1⟩:=hR
  subst hcs
  refine G1 2 O ?_
  refine mU (i:=⟨_,_,.load _ _ _⟩) (off:=0) (v:=.c (Cs x.solds[i4].id)) O O F O at267 ti O (by simp) O sR ?_
  refine G1 2 O (wM O O Ht O (G1 2 O (gP O O F ?_)))
  refine eA O O r4 i4 O _ (List.getElem?_eq_getElem (by omega)) fun b273 p273 cs at273 hR=>lN ?_
  obtain ⟨c273_0,c273_1,hcs,q273_0,q273_1⟩:=hR
  subst hcs
  refine G1 2 O ?_
  refine mU (i:=⟨_,_,.load _ _ _⟩) (off:=0) (v:=.c (Cs x.solds[i4].id)) O O F O at273 ti O (by simp) O sR ?_
  refine gP O O F ?_
  refine lB O O (by first | exact D1 | exact It) (lN ?_)
  refine G1 4 O (wM O O (.inr Y1) O (G1 2 O (gP O O O ?_)))
  refine eA O O g4 i4 O _ (List.getElem?_eq_getElem (by omega)) fun b281 p281 cs at281 hR=>lN ?_
  obtain ⟨c281_0,c281_1,hcs,q281_0,q281_1⟩:=hR
  subst hcs
  refine G1 2 O ?_
  refine mU (i:=⟨_,_,.load _ _ _⟩) (off:=1) (v:=.agg [Cb x.solds[i4].share.n,c281_0,Cb x.solds[i4].share.d,c281_1]) O O O O at281 ti O (by simp) O sR ?_
  refine G1 2 O (wM O O Ht O (G1 2 O (gP O O O ?_)))
  refine eA O O r4 i4 O _ (List.getElem?_eq_getElem (by omega)) fun b287 p287 cs at287 hR=>lN ?_
  obtain ⟨c287_0,c287_1,hcs,q287_0,q287_1⟩:=hR
  subst hcs
  refine G1 2 O ?_
  refine mU (i:=⟨_,_,.load _ _ _⟩) (off:=1) (v:=.agg [Cb x.solds[i4].share.n,c287_0,Cb x.solds[i4].share.d,c287_1]) O O O O at287 ti O (by simp) O sR ?_
  refine gC zl4 (qB (x:=x.solds[i4].share) (y:=x.solds[i4].share) (by omega) q281_0.m q281_1.m q287_0.m q287_1.m) O O O O fun v290 z290 _ ⟨r290,hv290,hr290⟩=>?_
  subst hv290
  have hq290:=hr290.2 rfl
  subst hq290
  refine G0 4 O (Et O (mQ (iE (xG (lC O (lB O O (iW (n:=i4+1) (by omega) (by omega)) (R0 2 O ?_)))))))
  exact nN (by omega) ⟨i4+1,LI.m [] O,rfl,by omega⟩
 refine eE (oC (iE (R5 4 O (xT (rI O ?_)))))
 rfl
open Go.CE Go.RowKit Go.Num
open Go.Eng (mR)
theorem bG9 {k:Nat} (hk:4≤k) {z:fR} {x:uV} {c0 c1 c2 c3 c4 c5 c6 c7 c8 c9 c10 c11:C} (g0:CZ 8 vF z c0 x.brackets) (g1:CZ 1 RW z c1 x.threshold.nm) (g2:CZ 1 RW z c2 x.threshold.dm) (g3:CZ 1 RW z c3 x.cap.nm) (g4:CZ 1 RW z c4 x.cap.dm) (g5:CZ 1 RW z c5 x.interest.nm) (g6:CZ 1 RW z c6 x.interest.dm) (g7:CZ 1 RW z c7 x.floor.nm) (g8:CZ 1 RW z c8 x.floor.dm) (g9:CZ 6 yM z c9 x.classes) (g10:CZ 1 RS z c10 x.entities) (g11:CZ 6 Ib z c11 x.years) {d0 d1 d2 d3 d4 d5 d6 d7 d8 d9 d10 d11:C} (r0:CZ 8 vF z d0 x.brackets) (r1:CZ 1 RW z d1 x.threshold.nm) (r2:CZ 1 RW z d2 x.threshold.dm) (r3:CZ 1 RW z d3 x.cap.nm) (r4:CZ 1 RW z d4 x.cap.dm) (r5:CZ 1 RW z d5 x.interest.nm) (r6:CZ 1 RW z d6 x.interest.dm) (r7:CZ 1 RW z d7 x.floor.nm) (r8:CZ 1 RW z d8 x.floor.dm) (r9:CZ 6 yM z d9 x.classes) (r10:CZ 1 RS z d10 x.entities) (r11:CZ 6 Ib z d11 x.years):FC (E k) 47 [.agg (kF x c0 c1 c2 c3 c4 c5 c6 c7 c8 c9 c10 c11),.agg (kF x d0 d1 d2 d3 d4 d5 d6 d7 d8 d9 d10 d11)] z fun v _=>v=Ab true:=by
 have hl_brackets:=g0.le
 have hl_classes:=g9.le
 have hl_entities:=g10.le
 have hl_years:=g11.le
 refine iI (bDR) (by omega) (dN O) fun B j hj=>?_
 refine xR ?_
 refine kN O fun b2=>?_
 refine kN O fun b3=>?_
 refine R2 16 O (dH O Y1 O (lF O (dH O mem0 O ?_)))
 refine lB O O (by first | exact D1 | exact It) ?_
 refine R1 4 O (lD O (dH O Y1 O (lD O (lF O (lD O (dH O mem0 O (lD O ?_)))))))
 refine lB O O (by first | exact D1 | exact It) ?_
 refine R1 10 O (lD O (dH O Y1 O (lD O (cX O g0 (lD O (lF O (lD O (dH O mem0 O (lD O (cX O r0 (lD O ?_)))))))))))
 refine lB O O (by first | exact D1 | exact It) ?_
 refine R1 10 O (lD O (dH O Y1 O (lD O (cX O g9 (lD O (lF O (lD O (dH O mem0 O (lD O (cX O r9 (lD O ?_)))))))))))
 refine lB O O (by first | exact D1 | exact It) ?_
 refine R1 10 O (lD O (dH O Y1 O (lD O (cX O g10 (lD O (lF O (lD O (dH O mem0 O (lD O (cX O r10 (lD O ?_)))))))))))
 refine lB O O (by first | exact D1 | exact It) ?_
 refine R1 10 O (lD O (dH O Y1 O (lD O (cX O g11 (lD O (lF O (lD O (dH O mem0 O (lD O (cX O r11 (lD O ?_)))))))))))
 refine lB O O (by first | exact D1 | exact It) ?_
 refine R2 128 O (qZ O Y1 O (lF O (qZ O mem0 O ?_)))
 refine lZ z (qB (x:=x.threshold) (y:=x.threshold) (by omega) g1 g2 r1 r2) O O fun v61 z61 _ ⟨r61,hv61,hr61⟩=>?_
 subst hv61
 have hq61:=hr61.2 rfl
 subst hq61
 refine R1 8 O (lD O (qZ O Y1 O (lD O (lF O (lD O (qZ O mem0 O (lD O ?_)))))))
 refine lZ z61 (qB (x:=x.cap) (y:=x.cap) (by omega) g3.m g4.m r3.m r4.m) O O fun v68 z68 _ ⟨r68,hv68,hr68⟩=>?_
 subst hv68
 have hq68:=hr68.2 rfl
 subst hq68
 refine R1 20 O (lD O (dH O Y1 O (lD O (lF O (lD O (dH O mem0 O (lD O ?_)))))))
 refine lB O O (by first | exact D1 | exact It) ?_
 refine R1 10 O (lD O (dH O Y1 O (lD O (lF O (lD O (dH O mem0 O (lD O ?_)))))))
 refine lB O O (by first | exact D1 | exact It) ?_
 refine R1 10 O (lD O (qZ O Y1 O (lD O (lF O (lD O (qZ O mem0 O (lD O ?_)))))))
 refine lZ z68 (qB (x:=x.interest) (y:=x.interest) (by omega) g5.m g6.m r5.m r6.m) O O fun v90 z90 _ ⟨r90,hv90,hr90⟩=>?_
 subst hv90
 have hq90:=hr90.2 rfl
 subst hq90
 refine R1 20 O (lD O (qZ O Y1 O (lD O (lF O (lD O (qZ O mem0 O (lD O ?_)))))))
 refine lZ z90 (qB (x:=x.floor) (y:=x.floor) (by omega) g7.m g8.m r7.m r8.m) O O fun v98 z98 _ ⟨r98,hv98,hr98⟩=>?_
 subst hv98
 have hq98:=hr98.2 rfl
 subst hq98
 refine R1 20 O (lD O (dH O Y1 O (lD O (lF O (lD O (dH O mem0 O (lD O ?_)))))))
 refine lB O O (by first | exact D1 | exact It) ?_
 refine R3 128 O ?_
 refine dE (bQ ?_)
 refine eT (fun n fs=>∃ (i0:Nat),LI z98 [.blk b3 (.cells 106 (kF x d0 d1 d2 d3 d4 d5 d6 d7 d8 d9 d10 d11)),.blk b2 (.cells 106 (kF x c0 c1 c2 c3 c4 c5 c6 c7 c8 c9 c10 c11))] [(2,Ap b2),(3,Ap b3),(5,Az i0)] fs∧n=x.brackets.length - i0∧(i0≤x.brackets.length)) ?_ _ ⟨0,LI.m [] O,rfl,Nat.zero_le _⟩ (by have:=hl_brackets;show _<18446744073709551616;omega)
 intro n fs ⟨i0,hL0,hmz0,hi0⟩
 refine hL0.open fun e zl0 _=>?_
 refine R4 16 O (dH O Y1 O (cX O g0 (R3 4 O ?_)))
 refine xD O (fun hc112=>?_) (fun hc112=>?_)
 ·refine dX ?_
  refine dE (bQ ?_)
  refine jF (G1 2 O (wM O O (.inr Y1) O (G1 2 O (gP O O F ?_))))
  refine eA O O g0 i0 O _ (List.getElem?_eq_getElem (by omega)) fun b118 p118 cs at118 hR=>lN ?_
  obtain ⟨c118_0,c118_1,c118_2,c118_3,hcs,q118_0,q118_1,q118_2,q118_3⟩:=hR
  subst hcs
  refine G1 2 O ?_
  refine mU (i:=⟨_,_,.load _ _ _⟩) (off:=0) (v:=.agg [Cb x.brackets[i0].frm.n,c118_0,Cb x.brackets[i0].frm.d,c118_1]) O O F O at118 ti O (by simp) O sR ?_
  refine G1 2 O (wM O O Ht O (G1 2 O (gP O O F ?_)))
  refine eA O O r0 i0 O _ (List.getElem?_eq_getElem (by omega)) fun b124 p124 cs at124 hR=>lN ?_
  obtain ⟨c124_0,c124_1,c124_2,c124_3,hcs,q124_0,q124_1,q124_2,q124_3⟩:=hR
  subst hcs
  refine G1 2 O ?_
  refine mU (i:=⟨_,_,.load _ _ _⟩) (off:=0) (v:=.agg [Cb x.brackets[i0].frm.n,c124_0,Cb x.brackets[i0].frm.d,c124_1]) O O F O at124 ti O (by simp) O sR ?_
  refine gC zl0 (qB (x:=x.brackets[i0].frm) (y:=x.brackets[i0].frm) (by omega) q118_0.m q118_1.m q124_0.m q124_1.m) O O O O fun v127 z127 _ ⟨r127,hv127,hr127⟩=>?_
  subst hv127
  have hq127:=hr127.2 rfl
  subst hq127
  refine G1 8 O (wM O O (.inr Y1) O (G1 2 O (gP O O O ?_)))
  refine eA O O g0 i0 O _ (List.getElem?_eq_getElem (by omega)) fun b133 p133 cs at133 hR=>lN ?_
  obtain ⟨c133_0,c133_1,c133_2,c133_3,hcs,q133_0,q133_1,q133_2,q133_3⟩:=hR
  subst hcs
  refine G1 2 O ?_
  refine mU (i:=⟨_,_,.load _ _ _⟩) (off:=4) (v:=.agg [Cb x.brackets[i0].rate.n,c133_2,Cb x.brackets[i0].rate.d,c133_3]) O O O O at133 ti O (by simp) O sR ?_
  refine G1 2 O (wM O O Ht O (G1 2 O (gP O O O ?_)))
  refine eA O O r0 i0 O _ (List.getElem?_eq_getElem (by omega)) fun b139 p139 cs at139 hR=>lN ?_
  obtain ⟨c139_0,c139_1,c139_2,c139_3,hcs,q139_0,q139_1,q139_2,q139_3⟩:=hR
  subst hcs
  refine G1 2 O ?_
  refine mU (i:=⟨_,_,.load _ _ _⟩) (off:=4) (v:=.agg [Cb x.brackets[i0].rate.n,c139_2,Cb x.brackets[i0].rate.d,c139_3]) O O O O at139 ti O (by simp) O sR ?_
  refine gC z127 (qB (x:=x.brackets[i0].rate) (y:=x.brackets[i0].rate) (by omega) q133_2.m q133_3.m q139_2.m q139_3.m) O O O O fun v142 z142 _ ⟨r142,hv142,hr142⟩=>?_
  subst hv142
  have hq142:=hr142.2 rfl
  subst hq142
  refine G0 4 O (Et O (mQ (iE (xG (lC O (lB O O (iW (n:=i0+1) (by omega) (by omega)) (R0 2 O ?_)))))))
  exact nN (by omega) ⟨i0+1,LI.m [] O,rfl,by omega⟩
 refine eE (oC (iE (R5 8 O ?_)))
 refine dE (bQ ?_)
 refine eT (fun n fs=>∃ (i1:Nat),LI zl0 [.blk b3 (.cells 106 (kF x d0 d1 d2 d3 d4 d5 d6 d7 d8 d9 d10 d11)),.blk b2 (.cells 106 (kF x c0 c1 c2 c3 c4 c5 c6 c7 c8 c9 c10 c11))] [(2,Ap b2),(3,Ap b3),(6,Az i1)] fs∧n=x.classes.length - i1∧(i1≤x.classes.length)) ?_ _ ⟨0,LI.m [] O,rfl,Nat.zero_le _⟩ (by have:=hl_classes;show _<18446744073709551616;omega)
 intro n fs ⟨i1,hL1,hmz1,hi1⟩
 refine hL1.open fun e zl1 _=>?_
 refine R4 16 O (dH O Y1 O (cX O g9 (R3 4 O ?_)))
 refine xD O (fun hc149=>?_) (fun hc149=>?_)
 ·refine dX ?_
  refine dE (bQ ?_)
  refine jF (G1 2 O (wM O O (.inr Y1) O (G1 2 O (gP O O F ?_))))
  refine eA O O g9 i1 O _ (List.getElem?_eq_getElem (by omega)) fun b155 p155 cs at155 hR=>lN ?_
  obtain ⟨c155_0,c155_1,hcs,q155_0,q155_1⟩:=hR
  subst hcs
  refine G1 2 O ?_
  refine mU (i:=⟨_,_,.load _ _ _⟩) (off:=0) (v:=.c (Cs x.classes[i1].name)) O O F O at155 ti O (by simp) O sR ?_
  refine G1 2 O (wM O O Ht O (G1 2 O (gP O O F ?_)))
  refine eA O O r9 i1 O _ (List.getElem?_eq_getElem (by omega)) fun b161 p161 cs at161 hR=>lN ?_
  obtain ⟨c161_0,c161_1,hcs,q161_0,q161_1⟩:=hR
  subst hcs
  refine G1 2 O ?_
  refine mU (i:=⟨_,_,.load _ _ _⟩) (off:=0) (v:=.c (Cs x.classes[i1].name)) O O F O at161 ti O (by simp) O sR ?_
  refine gP O O F ?_
  refine lB O O (by first | exact D1 | exact It) (lN ?_)
  refine G1 4 O (wM O O (.inr Y1) O (G1 2 O (gP O O O ?_)))
  refine eA O O g9 i1 O _ (List.getElem?_eq_getElem (by omega)) fun b169 p169 cs at169 hR=>lN ?_
  obtain ⟨c169_0,c169_1,hcs,q169_0,q169_1⟩:=hR
  subst hcs
  refine G1 2 O ?_
  refine mU (i:=⟨_,_,.load _ _ _⟩) (off:=1) (v:=.c (Cu x.classes[i1].kind)) O O O O at169 ti O (by simp) O sR ?_
  refine G1 2 O (wM O O Ht O (G1 2 O (gP O O O ?_)))
  refine eA O O r9 i1 O _ (List.getElem?_eq_getElem (by omega)) fun b175 p175 cs at175 hR=>lN ?_
  obtain ⟨c175_0,c175_1,hcs,q175_0,q175_1⟩:=hR
  subst hcs
  refine G1 2 O ?_
  refine mU (i:=⟨_,_,.load _ _ _⟩) (off:=1) (v:=.c (Cu x.classes[i1].kind)) O O O O at175 ti O (by simp) O sR ?_
  refine gP O O O ?_
  refine lB O O (by first | exact D1 | exact It) (lN ?_)
  refine G1 10 O (wM O O (.inr Y1) O (G1 2 O (gP O O O ?_)))
  refine eA O O g9 i1 O _ (List.getElem?_eq_getElem (by omega)) fun b184 p184 cs at184 hR=>lN ?_
  obtain ⟨c184_0,c184_1,hcs,q184_0,q184_1⟩:=hR
  subst hcs
  refine G1 2 O ?_
  refine mU (i:=⟨_,_,.load _ _ _⟩) (off:=2) (v:=.agg [Cb x.classes[i1].arg.n,c184_0,Cb x.classes[i1].arg.d,c184_1]) O O O O at184 ti O (by simp) O sR ?_
  refine G1 2 O (wM O O Ht O (G1 2 O (gP O O O ?_)))
  refine eA O O r9 i1 O _ (List.getElem?_eq_getElem (by omega)) fun b190 p190 cs at190 hR=>lN ?_
  obtain ⟨c190_0,c190_1,hcs,q190_0,q190_1⟩:=hR
  subst hcs
  refine G1 2 O ?_
  refine mU (i:=⟨_,_,.load _ _ _⟩) (off:=2) (v:=.agg [Cb x.classes[i1].arg.n,c190_0,Cb x.classes[i1].arg.d,c190_1]) O O O O at190 ti O (by simp) O sR ?_
  refine gC zl1 (qB (x:=x.classes[i1].arg) (y:=x.classes[i1].arg) (by omega) q184_0.m q184_1.m q190_0.m q190_1.m) O O O O fun v193 z193 _ ⟨r193,hv193,hr193⟩=>?_
  subst hv193
  have hq193:=hr193.2 rfl
  subst hq193
  refine G0 4 O (Et O (mQ (iE (xG (lC O (lB O O (iW (n:=i1+1) (by omega) (by omega)) (R0 2 O ?_)))))))
  exact nN (by omega) ⟨i1+1,LI.m [] O,rfl,by omega⟩
 refine eE (oC (iE (R5 8 O ?_)))
 refine dE (bQ ?_)
 refine eT (fun n fs=>∃ (i2:Nat),LI zl1 [.blk b3 (.cells 106 (kF x d0 d1 d2 d3 d4 d5 d6 d7 d8 d9 d10 d11)),.blk b2 (.cells 106 (kF x c0 c1 c2 c3 c4 c5 c6 c7 c8 c9 c10 c11))] [(2,Ap b2),(3,Ap b3),(7,Az i2)] fs∧n=x.entities.length - i2∧(i2≤x.entities.length)) ?_ _ ⟨0,LI.m [] O,rfl,Nat.zero_le _⟩ (by have:=hl_entities;show _<18446744073709551616;omega)
 intro n fs ⟨i2,hL2,hmz2,hi2⟩
 refine hL2.open fun e zl2 _=>?_
 refine R4 16 O (dH O Y1 O (cX O g10 (R3 4 O ?_)))
 refine xD O (fun hc200=>?_) (fun hc200=>?_)
 ·refine dX ?_
  refine dE (bQ ?_)
  refine jF (G1 2 O (wM O O (.inr Y1) O (G1 2 O (gP O O F ?_))))
  refine eA O O g10 i2 O _ (List.getElem?_eq_getElem (by omega)) fun b206 p206 cs at206 hR=>lN ?_
  obtain rfl:cs=_:=hR
  refine mU (i:=⟨_,_,.load _ _ _⟩) (off:=0) (v:=.c (Cs x.entities[i2])) O O F O at206 ti O (by simp) O sR ?_
  refine G1 2 O (wM O O Ht O (G1 2 O (gP O O F ?_)))
  refine eA O O r10 i2 O _ (List.getElem?_eq_getElem (by omega)) fun b211 p211 cs at211 hR=>lN ?_
  obtain rfl:cs=_:=hR
  refine mU (i:=⟨_,_,.load _ _ _⟩) (off:=0) (v:=.c (Cs x.entities[i2])) O O F O at211 ti O (by simp) O sR ?_
  refine gP O O F ?_
  refine lB O O (by first | exact D1 | exact It) (lN ?_)
  refine nQ (Et O (mQ (iE (xG (lC O (lB O O (iW (n:=i2+1) (by omega) (by omega)) (R0 2 O ?_)))))))
  exact nN (by omega) ⟨i2+1,LI.m [] O,rfl,by omega⟩
 refine eE (oC (iE (R5 8 O ?_)))
 refine dE (bQ ?_)
 refine eT (fun n fs=>∃ (i3:Nat),LI zl2 [.blk b3 (.cells 106 (kF x d0 d1 d2 d3 d4 d5 d6 d7 d8 d9 d10 d11)),.blk b2 (.cells 106 (kF x c0 c1 c2 c3 c4 c5 c6 c7 c8 c9 c10 c11))] [(2,Ap b2),(3,Ap b3),(8,Az i3)] fs∧n=x.years.length - i3∧(i3≤x.years.length)) ?_ _ ⟨0,LI.m [] O,rfl,Nat.zero_le _⟩ (by have:=hl_years;show _<18446744073709551616;omega)
 intro n fs ⟨i3,hL3,hmz3,hi3⟩
 refine hL3.open fun e zl3 _=>?_
 refine R4 16 O (dH O Y1 O (cX O g11 (R3 4 O ?_)))
 refine xD O (fun hc218=>?_) (fun hc218=>?_)
 ·refine dX ?_
  refine dE (bQ ?_)
  refine jF (G1 2 O (wM O O (.inr Y1) O (G1 2 O (gP O O F ?_))))
  refine eA O O g11 i3 O _ (List.getElem?_eq_getElem (by omega)) fun b224 p224 cs at224 hR=>lN ?_
  obtain ⟨c224_0,c224_1,c224_2,c224_3,c224_4,hcs,q224_0,q224_1,q224_2,q224_3,q224_4⟩:=hR
  subst hcs
  refine mU (i:=⟨_,_,.load _ _ _⟩) (off:=0) (v:=.agg [Ci x.years[i3].number,c224_0,c224_1,c224_2,c224_3,c224_4]) O O F O at224 ti O (by simp) O sR ?_
  refine G1 2 O (wM O O Ht O (G1 2 O (gP O O F ?_)))
  refine eA O O r11 i3 O _ (List.getElem?_eq_getElem (by omega)) fun b229 p229 cs at229 hR=>lN ?_
  obtain ⟨c229_0,c229_1,c229_2,c229_3,c229_4,hcs,q229_0,q229_1,q229_2,q229_3,q229_4⟩:=hR
  subst hcs
  refine mU (i:=⟨_,_,.load _ _ _⟩) (off:=0) (v:=.agg [Ci x.years[i3].number,c229_0,c229_1,c229_2,c229_3,c229_4]) O O F O at229 ti O (by simp) O sR ?_
  refine gE zl3 (bOV (x:=x.years[i3]) (by omega) q224_0.m q224_1.m q224_2.m q224_3.m q224_4.m q229_0.m q229_1.m q229_2.m q229_3.m q229_4.m) O O O O fun z231 _=>?_
  refine G0 2 O (Et O (mQ (iE (xG (lC O (lB O O (iW (n:=i3+1) (by omega) (by omega)) (R0 2 O ?_)))))))
  exact nN (by omega) ⟨i3+1,LI.m [] O,rfl,by omega⟩
 refine eE (oC (iE (R5 4 O (xT (rI O ?_)))))
 rfl
open Go.CE Go.RowKit Go.Num
open Go.Eng (mR)
theorem aHm {d:mG} (h:Sm d.amount):(toL (On d).num.natAbs).length≤7∧(toL ((On d).den:Int).natAbs).length≤7:=by
 have h1:(toL (On d).num.natAbs).length≤d.amount.nm.length:=aRm (x:=((d.amount.n,d.amount.nm),(d.amount.d,d.amount.dm)))
 have h2:(toL ((On d).den:Int).natAbs).length≤d.amount.dm.length+1:=aPp (x:=((d.amount.n,d.amount.nm),(d.amount.d,d.amount.dm)))
 have:=h.1
 have:=h.2
 exact ⟨by omega,by omega⟩
theorem bMF (a:Bool):Go.Eng.binBV .eql (.bool a) (.bool a)=some (.bool true):=by cases a<;>rfl
theorem aVU {k:Nat} (hk:3≤k) {z:fR} {s1:List UInt8} {k1 p1 q1 i1 o1:Int} {n1 m1:Bool} {c1 d1:C} {l1 r1:List UInt32} (hx1:CZ 1 RW z c1 l1) (hy1:CZ 1 RW z d1 r1) (hl1:l1.length≤1000000000) (hr1:r1.length≤1000000000):FC (E k) 50 [.agg [Cs (bs s1),Cu k1,Ci p1,Ci q1,Ci i1,Ci o1,Cb n1,c1,Cb m1,d1]] z fun u z'=>∃ c d,u=.agg [Cs (bs s1),Cu k1,Ci p1,Ci q1,Ci i1,Ci o1,Cb n1,c,Cb m1,d]∧CZ 1 RW (zd z z') c l1∧CZ 1 RW (zd z z') d r1:=by
 refine iI (bGi) (by omega) (dN O) fun B j hj=>?_
 refine xR ?_
 refine kN O fun b1=>?_
 refine uF fun b2=>?_
 refine lN ?_
 refine jF ?_
 refine G1 2 O ?_
 refine wM O O (.inr Y1) O ?_
 refine G1 2 O ?_
 refine wM O O (.inr Y1) O ?_
 refine G1 2 O ?_
 refine wM O O (.inr Y1) O ?_
 refine G1 2 O ?_
 refine wM O O (.inr Y1) O ?_
 refine G1 2 O ?_
 refine wM O O (.inr Y1) O ?_
 refine G1 2 O ?_
 refine wM O O (.inr Y1) O ?_
 refine G1 2 O ?_
 refine gl4 O O (.inr Y1) O ?_
 refine gC z (aE8 (by omega) hx1 hy1 hl1 hr1) O O O O fun v17 z17 _ hv17=>?_
 obtain ⟨c17,d17,hq,hm17,hn17⟩:=hv17
 subst hq
 refine gP O O F ?_
 refine pR (cs:=[Cs (bs s1),Cu k1,Ci p1,Ci q1,Ci i1,Ci o1,Cb n1,c17,Cb m1,d17]) (by kernel_rfl) (lN ?_)
 refine gS O O O ?_
 refine Aa O O O O lR ?_
 refine lN ?_
 refine nQ ?_
 refine xT ?_
 refine rQ (.inl O) (bMc O mem0 O rn) ?_
 exact ⟨_,_,rfl,hm17,hn17⟩
theorem aTP {k:Nat} (hk:1≤k) {z:fR} {u v:AV} {l:List UInt32} (hx:SZ 1 RW z u l) (hy:SZ 1 RW z v l):FC (E k) 65 [u,v] z fun u _=>u=oO true:=by
 have hxl:=hx.le
 refine iI (bEL) (by omega) (dN O) fun B j hj=>?_
 refine R4 48 O ?_
 refine cX O hx ?_
 refine lM O ?_
 refine cX O hy ?_
 refine lB O O D1 ?_
 refine lN ?_
 refine R5 64 O ?_
 refine dE (bQ ?_)
 refine eT (fun n fs=>∃ (i:Nat),LI z [] [(0,u),(1,v),(5,Az i)] fs∧n=l.length - i∧(i≤l.length)) ?_ _ ⟨0,LI.m [] O,rfl,Nat.zero_le _⟩ (kK (by omega))
 intro n fs ⟨i,hL0,hmz0,hi⟩
 refine hL0.open fun e zl0 _=>?_
 refine R4 24 O ?_
 refine cX O hx ?_
 refine R3 4 O ?_
 refine xD O (fun hc14=>?_) (fun hc14=>?_)
 ·refine dX ?_
  refine dE (bQ ?_)
  refine jF ?_
  refine G1 5 O ?_
  refine gP O O F ?_
  refine qO O O hx (i) (O) (by omega) fun p19 hp19=>lN ?_
  refine glP O O hp19 ti ?_
  refine G1 5 O ?_
  refine gP O O F ?_
  refine qO O O hy (i) (O) (by omega) fun p23 hp23=>lN ?_
  refine glP O O hp23 ti ?_
  refine gP O O F ?_
  refine lB O O D1 (lN ?_)
  refine nQ ?_
  refine Et O ?_
  refine mQ ?_
  refine iE ?_
  refine xG ?_
  refine lC O ?_
  refine lB O O (iW (n:=i+1) (by omega) (by omega)) ?_
  refine R0 2 O ?_
  exact nN (by omega) ⟨i+1,LI.m [] O,rfl,by omega⟩
 refine eE ?_
 refine oC ?_
 refine iE ?_
 refine R5 4 O ?_
 refine xT ?_
 refine rI O ?_
 rfl
theorem aVy {k:Nat} (hk:2≤k) {z:fR} {n1 n2:Bool} {c1 c2 d1 d2:C} {l1 l2:List UInt32} (hx:CZ 1 RW z c1 l1) (hy:CZ 1 RW z c2 l2) (gx:CZ 1 RW z d1 l1) (gy:CZ 1 RW z d2 l2):FC (E k) 20 [.agg [Cb n1,c1,Cb n2,c2],.agg [Cb n1,d1,Cb n2,d2]] z fun u _=>u=oO true:=by
 refine iI (bHJ) (by omega) (dN O) fun B j hj=>?_
 refine xR ?_
 refine kN O fun b2=>?_
 refine kN O fun b3=>?_
 refine R2 16 O ?_
 refine dH O Y1 O ?_
 refine R1 4 O ?_
 refine dH O mem0 O ?_
 refine A8 O O (bMF _) ?_
 refine R1 8 O ?_
 refine lD O ?_
 refine dH O Y1 O ?_
 refine R1 4 O ?_
 refine lD O ?_
 refine dH O mem0 O ?_
 refine lD O ?_
 refine A8 O O (bMF _) ?_
 refine R1 18 O ?_
 refine lD O ?_
 refine dH O Y1 O ?_
 refine R1 4 O ?_
 refine lD O ?_
 refine dH O mem0 O ?_
 refine lD O ?_
 refine lE z (aTP (by omega) hx gx) O O fun z28 _=>?_
 refine R1 18 O ?_
 refine lD O ?_
 refine dH O Y1 O ?_
 refine R1 4 O ?_
 refine lD O ?_
 refine dH O mem0 O ?_
 refine lD O ?_
 refine lE z28 (aTP (by omega) hy.m gy.m) O O fun z37 _=>?_
 refine R0 6 O ?_
 refine xT ?_
 refine rI O ?_
 rfl
theorem aUy {k:Nat} (hk:14≤k) {z:fR} {u v:AV} {nl:List ByteArray} {cl:List rS} {P:List (mG×mG)} (hx:SZ 10 (aSw nl cl) z u P) (hy:SZ 10 (aSw nl cl) z v P) (hP:∀ a,a∈P→Sm a.1.amount):FC (E k) 46 [u,v] z fun u _=>u=oO true:=by
 have hxl:=hx.le
 refine iI (bDT) (by omega) (dN O) fun B j hj=>?_
 refine R4 48 O ?_
 refine cX O hx ?_
 refine lM O ?_
 refine cX O hy ?_
 refine lB O O D1 ?_
 refine lN ?_
 refine R5 64 O ?_
 refine dE (bQ ?_)
 refine eT (fun n fs=>∃ (i:Nat),LI z [] [(0,u),(1,v),(5,Az i)] fs∧n=P.length - i∧(i≤P.length)) ?_ _ ⟨0,LI.m [] O,rfl,Nat.zero_le _⟩ (kK (by omega))
 intro n fs ⟨i,hL0,hmz0,hi⟩
 refine hL0.open fun e zl0 hzl0=>?_
 refine R4 24 O ?_
 refine cX O hx ?_
 refine R3 4 O ?_
 refine xD O (fun hc14=>?_) (fun hc14=>?_)
 ·refine dX ?_
  refine dE (bQ ?_)
  refine jF ?_
  obtain ⟨a,ha⟩:=vB (l:=P) (i:=i) (by omega)
  have hsm:=hP a (List.mem_of_getElem? ha)
  refine G1 5 O ?_
  refine gP O O F ?_
  refine eA O O hx i O a ha fun b19 p19 cs at19 hR=>lN ?_
  obtain ⟨s0c,s1c,hcs,s0,s1⟩:=hR
  subst hcs
  refine mU (i:=⟨_,_,.load _ _ _⟩) (off:=0) O O F O at19 ti O (by simp [Z9]) O sR ?_
  refine gC zl0 (aVU (s1:=tx a.1.id) (by omega) s0.m s1.m (Nat.le_trans (aHm hsm).1 (by decide)) (Nat.le_trans (aHm hsm).2 (by decide))) O O O O fun v21 z21 _ hv21=>?_
  obtain ⟨c21,d21,hq,hm21,hn21⟩:=hv21
  subst hq
  have hm21:=hm21.mono (vS (hzl0))
  have hn21:=hn21.mono (vS (hzl0))
  refine G1 5 O ?_
  refine gP O O F ?_
  refine eA O O hy i O a ha fun b24 p24 cs at24 hR=>lN ?_
  obtain ⟨t0c,t1c,hcs,t0,t1⟩:=hR
  subst hcs
  refine mU (i:=⟨_,_,.load _ _ _⟩) (off:=0) O O F O at24 ti O (by simp [Z9]) O sR ?_
  refine gC z21 (aTY (s1:=tx a.1.id) (s2:=tx a.1.id) (by omega) (hm21.mono kY) (hn21.mono kY) (Nat.le_trans (aHm hsm).1 (by decide)) (Nat.le_trans (aHm hsm).2 (by decide)) t0.m t1.m (Nat.le_trans (aHm hsm).1 (by decide)) (Nat.le_trans (aHm hsm).2 (by decide))) O O O O fun v26 z26 _ hv26=>?_
  replace hv26:v26=oO true:=hv26.trans (congrArg oO (by simp [aTD]))
  subst hv26
  refine G1 20 O ?_
  refine gP O O O ?_
  refine eA O O hx i O a ha fun b31 p31 cs at31 hR=>lN ?_
  obtain ⟨w0c,w1c,hcs,w0,w1⟩:=hR
  subst hcs
  refine G1 2 O ?_
  refine mU (i:=⟨_,_,.load _ _ _⟩) (off:=6) O O O O at31 ti O (by simp [Z9]) O sR ?_
  refine G1 5 O ?_
  refine gP O O O ?_
  refine eA O O hy i O a ha fun b36 p36 cs at36 hR=>lN ?_
  obtain ⟨y0c,y1c,hcs,y0,y1⟩:=hR
  subst hcs
  refine G1 2 O ?_
  refine mU (i:=⟨_,_,.load _ _ _⟩) (off:=6) O O O O at36 ti O (by simp [Z9]) O sR ?_
  refine gE z26 (aVy (by omega) w0.m w1.m y0.m y1.m) O O O O fun z39 _=>?_
  refine G0 4 O ?_
  refine Et O ?_
  refine mQ ?_
  refine iE ?_
  refine xG ?_
  refine lC O ?_
  refine lB O O (iW (n:=i+1) (by omega) (by omega)) ?_
  refine R0 2 O ?_
  exact nN (by omega) ⟨i+1,LI.m [] O,rfl,by omega⟩
 refine eE ?_
 refine oC ?_
 refine iE ?_
 refine R5 4 O ?_
 refine xT ?_
 refine rI O ?_
 rfl
open Go.CE Go.RowKit
theorem Cf {k:Nat} (hk:2≤k) {z:fR} {v:AV} {x:Ax} (hx:AZ aSY z v x) (hb:Sm x):FC (E k) 61 [v] z fun v z=>AZ aSY z v x:=by
 obtain ⟨_,rfl,c0,c1,rfl,h0,h1⟩:=hx
 refine (aE8 hk h0 h1 (by have:=hb.1;omega) (by have:=hb.2;omega)).mono fun v z' hz ⟨c,d,hv,m,n⟩=>?_
 exact ⟨_,hv,Ed (m.mono kY) (n.mono kY)⟩
theorem bEZ {k:Nat} (hk:3≤k) {z:fR} {v:AV} {x:aGp} (hx:AZ Ib z v x) (hS:SmY x):FC (E k) 93 [v] z fun v z=>AZ Ib z v x:=by
 have e0:=hS.l0
 have e1:=hS.l1
 have e2:=hS.l2
 have e3:=hS.l3
 have e4:=hS.l4
 obtain ⟨_,rfl,cx_0,cx_1,cx_2,cx_3,cx_4,rfl,hx_0,hx_1,hx_2,hx_3,hx_4⟩:=hx
 refine iI (bFs) (by omega) (dN O) fun B j hj=>?_
 refine xR ?_
 refine aEu O O fun b1=>?_
 refine uF fun b2=>?_
 refine lN (xR (uE 332 5 (uE 328 9 (uE 220 10 (uE 324 6 (uE 320 6 (lF O (mL (v:=Ai x.number) O (mX (mX Y4)) (dN O) O ?_))))))))
 refine Eh (cs:=[Ci x.number,Cz,Cz,Cz,Cz,Cz]) (by kernel_rfl) ?_
 refine uF fun b3=>?_
 refine vO (cs':=[Ci x.number,Cz,Cz,Cz,Cz,Cz]) O O O lR (by kernel_rfl) O (dN O) ?_
 refine lN (R5 12 O ?_)
 refine dE (bQ ?_)
 refine eT (fun n fs=>∃ (i0:Nat) (w0:C) (cs0:List C) (e:O6) (zz:fR) (Hx:List HA),fs=⟨e,zz,Hx++[.blk b3 (.cells 215 [Ci x.number,w0,Cz,Cz,Cz,Cz]),.row (.c w0) 320 6 i0 cs0,.row (qY) 324 6 0 [],.row (qY) 220 10 0 [],.row (qY) 328 9 0 [],.row (qY) 332 5 0 [],.blk b2 (.cells 215 [Ci 0,Cz,Cz,Cz,Cz,Cz]),.blk b1 (.cells 134 [Ci x.number,cx_0,cx_1,cx_2,cx_3,cx_4])]⟩∧zle z zz∧Sr e [(1,Ap b1),(2,Ap b2),(3,Ap b3),(4,Ai (i0:Int))]∧n=x.holds.length - i0∧i0≤x.holds.length∧CL 6 aDU zz cs0 (x.holds.take i0)∧pG w0 w0=true) ?_ _ ⟨0,_,_,_,_,[],rfl,zle.refl _,(lL rfl (lL rfl (lL rfl (lL rfl D3)))),rfl,Nat.zero_le _,CL.nil,rfl⟩ (kK (by omega))
 intro n fs hI
 obtain ⟨i0,w0,cs0,e,zl0,Hx,rfl,hzl0,hat,rfl,hi0,hcl0,hw0⟩:=hI
 refine zH hat fun e=>?_
 refine uQ (List.sublist_append_right _ _) (R4 20 O (mL (v:=.c (cx_0)) O (mX (mX (mX Y4))) (dN O) O (cX O hx_0 (R3 4 O ?_))))
 refine kJ O (fun hc20=>?_) (fun hc20=>?_)
 ·have hp20:=jB.1 hc20
  refine dX ?_
  refine dE (bQ ?_)
  refine R4 4 O (mL (v:=.c (cx_0)) O (mX (mX (mX Y4))) (dN O) O (lM O ?_))
  obtain ⟨a26,ha26⟩:=vB (l:=x.holds) (i:=i0) (by omega)
  refine eA O O hx_0 i0 O a26 ha26 fun b26 p26 cs26 at26 hR26=>?_
  obtain ⟨c26_0,c26_1,rfl,h26_0,h26_1⟩:=hR26
  refine tG (v:=.agg [Cs a26.owner,Cs a26.owned,Cb a26.share.n,c26_0,Cb a26.share.d,c26_1]) (off:=0) O (at26.mono (hzl0)) O (dN O) O ?_
  refine uF fun b5=>?_
  refine vO (cs':=[Cs a26.owner,Cs a26.owned,Cb a26.share.n,c26_0,Cb a26.share.d,c26_1]) O O O lR (by kernel_rfl) O (dN O) ?_
  refine lN (Ak (gP O O F (R0 2 O (Lr (v:=.c (w0)) O O (.inr Y1) O (dN O) O (gP O O F (R0 2 O (Lr (v:=.c (Cs a26.owner)) O O (.inr mem0) O (dN O) O (gP O O F (R0 2 O (Lr (v:=.c (Cs a26.owned)) O O (.inr mem0) O (dN O) O (gP O O F (R0 2 O (Lr (v:=.agg (kR a26.share c26_0 c26_1)) O O (.inr mem0) O (dN O) O ?_)))))))))))))
  refine A7 (i:=⟨_,_,.call _ _⟩) O O F O O O (Cf (by omega) ⟨_,O,Ed (h26_0.mono (hzl0)) (h26_1.mono (hzl0))⟩ (hS.r0 _ (List.mem_of_getElem? ha26))) fun v36 z36 _ ⟨_,hv36,c36_0,c36_1,hq36,h36_0,h36_1⟩=>?_
  subst hq36
  subst hv36
  refine gP O O F ?_
  refine Eh (cs:=[Cs a26.owner,Cs a26.owned,Cb a26.share.n,c36_0,Cb a26.share.d,c36_1]) (by kernel_rfl) ?_
  refine lN ?_
  refine xM (k:=.cells 320 [Cs a26.owner,Cs a26.owned,Cb a26.share.n,c36_0,Cb a26.share.d,c36_1]) (w:=fun b=>.c (.sl b 0 1 6)) rfl F rfl (fun _=>rfl) (fun st hst=>?_) (fun b38 hT38=>?_)
  ·simp only [eP,yB,AS.ev,hst 37 (by simp [mK.sl,Od.sls,Od.sl])];rfl
  refine D5 (i:=⟨_,_,.app _ _ _ _ _ _⟩) O F O O O O ?_
  refine rA O O mem0 O (fun _=>P3) (by omega) (by omega) fun w39 hw39=>?_
  have cl39:CL 6 aDU z36 _ ((x.holds.take i0)++[a26]):=CL.append hcl0.m (CL.one rfl (bLA h36_0 h36_1))
  refine lN (gP O O F (R0 2 O (gS O O O ?_)))
  refine vO (cs':=[Ci x.number,w39,Cz,Cz,Cz,Cz]) O O O P2 (by kernel_rfl) O (dN O) ?_
  refine lN (nQ (iE (xG (lM O (lB O O (tI (r:=((i0+1:Nat):Int)) (vR (by omega))) (R0 3 O ?_))))))
  exact nN (by omega) ⟨i0+1,_,_,_,_,[_,_],rfl,hzl0.trans zI,(lL rfl (lL rfl (lL rfl (lL rfl D3)))),rfl,by omega,(by rw [← Cm ha26];exact cl39),hw39⟩
 have hp20:=sL jB hc20
 refine eE (oC (iE (R5 12 O ?_)))
 refine dE (bQ ?_)
 refine eT (fun n fs=>∃ (i1:Nat) (w1:C) (cs1:List C) (e:O6) (zz:fR) (Hx:List HA),fs=⟨e,zz,Hx++[.blk b3 (.cells 215 [Ci x.number,w0,w1,Cz,Cz,Cz]),.row (.c w0) 320 6 i0 cs0,.row (.c w1) 324 6 i1 cs1,.row (qY) 220 10 0 [],.row (qY) 328 9 0 [],.row (qY) 332 5 0 [],.blk b2 (.cells 215 [Ci 0,Cz,Cz,Cz,Cz,Cz]),.blk b1 (.cells 134 [Ci x.number,cx_0,cx_1,cx_2,cx_3,cx_4])]⟩∧zle zl0 zz∧Sr e [(1,Ap b1),(2,Ap b2),(3,Ap b3),(6,Ai (i1:Int))]∧n=x.books.length - i1∧i1≤x.books.length∧CL 6 aD4 zz cs1 (x.books.take i1)∧pG w1 w1=true) ?_ _ ⟨0,_,_,_,_,[],rfl,zle.refl _,(lL rfl (lL rfl (lL rfl (lL rfl D3)))),rfl,Nat.zero_le _,CL.nil,rfl⟩ (kK (by omega))
 intro n fs hI
 obtain ⟨i1,w1,cs1,e,zl1,Hx,rfl,hzl1,hat,rfl,hi1,hcl1,hw1⟩:=hI
 refine zH hat fun e=>?_
 refine uQ (List.sublist_append_right _ _) (R4 20 O (mL (v:=.c (cx_1)) O (mX (mX (mX Y4))) (dN O) O (cX O hx_1 (R3 4 O ?_))))
 refine kJ O (fun hc45=>?_) (fun hc45=>?_)
 ·have hp45:=jB.1 hc45
  refine dX ?_
  refine dE (bQ ?_)
  refine R4 4 O (mL (v:=.c (cx_1)) O (mX (mX (mX Y4))) (dN O) O (lM O ?_))
  obtain ⟨a51,ha51⟩:=vB (l:=x.books) (i:=i1) (by omega)
  refine eA O O hx_1 i1 O a51 ha51 fun b51 p51 cs51 at51 hR51=>?_
  obtain ⟨c51_0,c51_1,rfl,h51_0,h51_1⟩:=hR51
  refine tG (v:=.agg [Cs a51.entity,Cs a51.cls,Cb a51.amount.n,c51_0,Cb a51.amount.d,c51_1]) (off:=0) O (at51.mono (hzl0.trans hzl1)) O (dN O) O ?_
  refine uF fun b7=>?_
  refine vO (cs':=[Cs a51.entity,Cs a51.cls,Cb a51.amount.n,c51_0,Cb a51.amount.d,c51_1]) O O O lR (by kernel_rfl) O (dN O) ?_
  refine lN (Ak (gP O O F (R0 2 O (Lr (v:=.c (w1)) O O (.inr Y1) O (dN O) O (gP O O F (R0 2 O (Lr (v:=.c (Cs a51.entity)) O O (.inr mem0) O (dN O) O (gP O O F (R0 2 O (Lr (v:=.c (Cs a51.cls)) O O (.inr mem0) O (dN O) O (gP O O F (R0 2 O (Lr (v:=.agg (kR a51.amount c51_0 c51_1)) O O (.inr mem0) O (dN O) O ?_)))))))))))))
  refine A7 (i:=⟨_,_,.call _ _⟩) O O F O O O (Cf (by omega) ⟨_,O,Ed (h51_0.mono (hzl0.trans hzl1)) (h51_1.mono (hzl0.trans hzl1))⟩ (hS.r1 _ (List.mem_of_getElem? ha51))) fun v61 z61 _ ⟨_,hv61,c61_0,c61_1,hq61,h61_0,h61_1⟩=>?_
  subst hq61
  subst hv61
  refine gP O O F ?_
  refine Eh (cs:=[Cs a51.entity,Cs a51.cls,Cb a51.amount.n,c61_0,Cb a51.amount.d,c61_1]) (by kernel_rfl) ?_
  refine lN ?_
  refine xM (k:=.cells 324 [Cs a51.entity,Cs a51.cls,Cb a51.amount.n,c61_0,Cb a51.amount.d,c61_1]) (w:=fun b=>.c (.sl b 0 1 6)) rfl F rfl (fun _=>rfl) (fun st hst=>?_) (fun b63 hT63=>?_)
  ·simp only [eP,yB,AS.ev,hst 62 (by simp [mK.sl,Od.sls,Od.sl])];rfl
  refine D5 (i:=⟨_,_,.app _ _ _ _ _ _⟩) O F O O O O ?_
  refine rA O O mem0 O (fun _=>(oH P3)) (by omega) (by omega) fun w64 hw64=>?_
  have cl64:CL 6 aD4 z61 _ ((x.books.take i1)++[a51]):=CL.append hcl1.m (CL.one rfl (bI2 h61_0 h61_1))
  refine lN (gP O O F (R0 2 O (gS O O O ?_)))
  refine vO (cs':=[Ci x.number,w0,w64,Cz,Cz,Cz]) O O O P2 (by kernel_rfl) O (dN O) ?_
  refine lN (nQ (iE (xG (lM O (lB O O (tI (r:=((i1+1:Nat):Int)) (vR (by omega))) (R0 3 O ?_))))))
  exact nN (by omega) ⟨i1+1,_,_,_,_,[_,_],rfl,hzl1.trans zI,(lL rfl (lL rfl (lL rfl (lL rfl D3)))),rfl,by omega,(by rw [← Cm ha51];exact cl64),hw64⟩
 have hp45:=sL jB hc45
 refine eE (oC (iE (R5 12 O ?_)))
 refine dE (bQ ?_)
 refine eT (fun n fs=>∃ (i2:Nat) (w2:C) (cs2:List C) (e:O6) (zz:fR) (Hx:List HA),fs=⟨e,zz,Hx++[.blk b3 (.cells 215 [Ci x.number,w0,w1,w2,Cz,Cz]),.row (.c w0) 320 6 i0 cs0,.row (.c w1) 324 6 i1 cs1,.row (.c w2) 220 10 i2 cs2,.row (qY) 328 9 0 [],.row (qY) 332 5 0 [],.blk b2 (.cells 215 [Ci 0,Cz,Cz,Cz,Cz,Cz]),.blk b1 (.cells 134 [Ci x.number,cx_0,cx_1,cx_2,cx_3,cx_4])]⟩∧zle zl1 zz∧Sr e [(1,Ap b1),(2,Ap b2),(3,Ap b3),(8,Ai (i2:Int))]∧n=x.deals.length - i2∧i2≤x.deals.length∧CL 10 aA0 zz cs2 (x.deals.take i2)∧pG w2 w2=true) ?_ _ ⟨0,_,_,_,_,[],rfl,zle.refl _,(lL rfl (lL rfl (lL rfl (lL rfl D3)))),rfl,Nat.zero_le _,CL.nil,rfl⟩ (kK (by omega))
 intro n fs hI
 obtain ⟨i2,w2,cs2,e,zl2,Hx,rfl,hzl2,hat,rfl,hi2,hcl2,hw2⟩:=hI
 refine zH hat fun e=>?_
 refine uQ (List.sublist_append_right _ _) (R4 20 O (mL (v:=.c (cx_2)) O (mX (mX (mX Y4))) (dN O) O (cX O hx_2 (R3 4 O ?_))))
 refine kJ O (fun hc70=>?_) (fun hc70=>?_)
 ·have hp70:=jB.1 hc70
  refine dX ?_
  refine dE (bQ ?_)
  refine R4 4 O (mL (v:=.c (cx_2)) O (mX (mX (mX Y4))) (dN O) O (lM O ?_))
  obtain ⟨a76,ha76⟩:=vB (l:=x.deals) (i:=i2) (by omega)
  refine eA O O hx_2 i2 O a76 ha76 fun b76 p76 cs76 at76 hR76=>?_
  obtain ⟨c76_0,c76_1,rfl,h76_0,h76_1⟩:=hR76
  refine tG (v:=.agg [Cb a76.give,Cs a76.id,Cu a76.kind,Cs a76.payee,Cs a76.payer,Cs a76.cls,Cb a76.amount.n,c76_0,Cb a76.amount.d,c76_1]) (off:=0) O (at76.mono (hzl0.trans (hzl1.trans hzl2))) O (dN O) O ?_
  refine uF fun b9=>?_
  refine vO (cs':=[Cb a76.give,Cs a76.id,Cu a76.kind,Cs a76.payee,Cs a76.payer,Cs a76.cls,Cb a76.amount.n,c76_0,Cb a76.amount.d,c76_1]) O O O lR (by kernel_rfl) O (dN O) ?_
  refine lN (Ak (gP O O F (R0 2 O (Lr (v:=.c (w2)) O O (.inr Y1) O (dN O) O (gP O O F (R0 2 O (Lr (v:=Ab a76.give) O O (.inr mem0) O (dN O) O (gP O O F (R0 2 O (Lr (v:=.c (Cs a76.id)) O O (.inr mem0) O (dN O) O (gP O O F (R0 2 O (Lr (v:=.c (Cu a76.kind)) O O (.inr mem0) O (dN O) O (gP O O F (R0 2 O ?_)))))))))))))))
  refine Lr (v:=.c (Cs a76.payee)) O O (.inr mem0) O (dN O) O (gP O O F (R0 2 O (Lr (v:=.c (Cs a76.payer)) O O (.inr mem0) O (dN O) O (gP O O F (R0 2 O (Lr (v:=.c (Cs a76.cls)) O O (.inr mem0) O (dN O) O (gP O O F (R0 2 O (Lr (v:=.agg (kR a76.amount c76_0 c76_1)) O O (.inr mem0) O (dN O) O ?_)))))))))
  refine A7 (i:=⟨_,_,.call _ _⟩) O O F O O O (Cf (by omega) ⟨_,O,Ed (h76_0.mono (hzl0.trans (hzl1.trans hzl2))) (h76_1.mono (hzl0.trans (hzl1.trans hzl2)))⟩ (hS.r2 _ (List.mem_of_getElem? ha76))) fun v94 z94 _ ⟨_,hv94,c94_0,c94_1,hq94,h94_0,h94_1⟩=>?_
  subst hq94
  subst hv94
  refine gP O O F ?_
  refine Eh (cs:=[Cb a76.give,Cs a76.id,Cu a76.kind,Cs a76.payee,Cs a76.payer,Cs a76.cls,Cb a76.amount.n,c94_0,Cb a76.amount.d,c94_1]) (by kernel_rfl) ?_
  refine lN ?_
  refine xM (k:=.cells 220 [Cb a76.give,Cs a76.id,Cu a76.kind,Cs a76.payee,Cs a76.payer,Cs a76.cls,Cb a76.amount.n,c94_0,Cb a76.amount.d,c94_1]) (w:=fun b=>.c (.sl b 0 1 10)) rfl F rfl (fun _=>rfl) (fun st hst=>?_) (fun b96 hT96=>?_)
  ·simp only [eP,yB,AS.ev,hst 95 (by simp [mK.sl,Od.sls,Od.sl])];rfl
  refine D5 (i:=⟨_,_,.app _ _ _ _ _ _⟩) O F O O O O ?_
  refine rA O O mem0 O (fun _=>(oH (oH P3))) (by omega) (by omega) fun w97 hw97=>?_
  have cl97:CL 10 aA0 z94 _ ((x.deals.take i2)++[a76]):=CL.append hcl2.m (CL.one rfl (bJI h94_0 h94_1))
  refine lN (gP O O F (R0 2 O (gS O O O ?_)))
  refine vO (cs':=[Ci x.number,w0,w1,w97,Cz,Cz]) O O O P2 (by kernel_rfl) O (dN O) ?_
  refine lN (nQ (iE (xG (lM O (lB O O (tI (r:=((i2+1:Nat):Int)) (vR (by omega))) (R0 3 O ?_))))))
  exact nN (by omega) ⟨i2+1,_,_,_,_,[_,_],rfl,hzl2.trans zI,(lL rfl (lL rfl (lL rfl (lL rfl D3)))),rfl,by omega,(by rw [← Cm ha76];exact cl97),hw97⟩
 have hp70:=sL jB hc70
 refine eE (oC (iE (R5 12 O ?_)))
 refine dE (bQ ?_)
 refine eT (fun n fs=>∃ (i3:Nat) (w3:C) (cs3:List C) (e:O6) (zz:fR) (Hx:List HA),fs=⟨e,zz,Hx++[.blk b3 (.cells 215 [Ci x.number,w0,w1,w2,w3,Cz]),.row (.c w0) 320 6 i0 cs0,.row (.c w1) 324 6 i1 cs1,.row (.c w2) 220 10 i2 cs2,.row (.c w3) 328 9 i3 cs3,.row (qY) 332 5 0 [],.blk b2 (.cells 215 [Ci 0,Cz,Cz,Cz,Cz,Cz]),.blk b1 (.cells 134 [Ci x.number,cx_0,cx_1,cx_2,cx_3,cx_4])]⟩∧zle zl2 zz∧Sr e [(1,Ap b1),(2,Ap b2),(3,Ap b3),(10,Ai (i3:Int))]∧n=x.stocks.length - i3∧i3≤x.stocks.length∧CL 9 Rz zz cs3 (x.stocks.take i3)∧pG w3 w3=true) ?_ _ ⟨0,_,_,_,_,[],rfl,zle.refl _,(lL rfl (lL rfl (lL rfl (lL rfl D3)))),rfl,Nat.zero_le _,CL.nil,rfl⟩ (kK (by omega))
 intro n fs hI
 obtain ⟨i3,w3,cs3,e,zl3,Hx,rfl,hzl3,hat,rfl,hi3,hcl3,hw3⟩:=hI
 refine zH hat fun e=>?_
 refine uQ (List.sublist_append_right _ _) (R4 20 O (mL (v:=.c (cx_3)) O (mX (mX (mX Y4))) (dN O) O (cX O hx_3 (R3 4 O ?_))))
 refine kJ O (fun hc103=>?_) (fun hc103=>?_)
 ·have hp103:=jB.1 hc103
  refine dX ?_
  refine dE (bQ ?_)
  refine R4 4 O (mL (v:=.c (cx_3)) O (mX (mX (mX Y4))) (dN O) O (lM O ?_))
  obtain ⟨a109,ha109⟩:=vB (l:=x.stocks) (i:=i3) (by omega)
  refine eA O O hx_3 i3 O a109 ha109 fun b109 p109 cs109 at109 hR109=>?_
  obtain ⟨c109_0,c109_1,c109_2,c109_3,rfl,h109_0,h109_1,h109_2,h109_3⟩:=hR109
  refine tG (v:=.agg [Cs a109.id,Cb a109.margin.n,c109_0,Cb a109.margin.d,c109_1,Cb a109.unsold.n,c109_2,Cb a109.unsold.d,c109_3]) (off:=0) O (at109.mono (hzl0.trans (hzl1.trans (hzl2.trans hzl3)))) O (dN O) O ?_
  refine uF fun b11=>?_
  refine vO (cs':=[Cs a109.id,Cb a109.margin.n,c109_0,Cb a109.margin.d,c109_1,Cb a109.unsold.n,c109_2,Cb a109.unsold.d,c109_3]) O O O lR (by kernel_rfl) O (dN O) ?_
  refine lN (Ak (gP O O F (R0 2 O (Lr (v:=.c (w3)) O O (.inr Y1) O (dN O) O (gP O O F (R0 2 O (Lr (v:=.c (Cs a109.id)) O O (.inr mem0) O (dN O) O (gP O O F (R0 2 O (Lr (v:=.agg (kR a109.margin c109_0 c109_1)) O O (.inr mem0) O (dN O) O ?_))))))))))
  refine A7 (i:=⟨_,_,.call _ _⟩) O O F O O O (Cf (by omega) ⟨_,O,Ed (h109_0.mono (hzl0.trans (hzl1.trans (hzl2.trans hzl3)))) (h109_1.mono (hzl0.trans (hzl1.trans (hzl2.trans hzl3))))⟩ (hS.r3 _ (List.mem_of_getElem? ha109))) fun v117 z117 _ ⟨_,hv117,c117_0,c117_1,hq117,h117_0,h117_1⟩=>?_
  subst hq117
  subst hv117
  refine gP O O F (R0 2 O (Lr (v:=.agg (kR a109.unsold c109_2 c109_3)) O O (.inr mem0) O (dN O) O ?_))
  refine A7 (i:=⟨_,_,.call _ _⟩) O O F O O O (Cf (by omega) ⟨_,O,Ed (h109_2.mono (hzl0.trans (hzl1.trans (hzl2.trans (hzl3.trans zI))))) (h109_3.mono (hzl0.trans (hzl1.trans (hzl2.trans (hzl3.trans zI)))))⟩ (hS.r3' _ (List.mem_of_getElem? ha109))) fun v120 z120 _ ⟨_,hv120,c120_0,c120_1,hq120,h120_0,h120_1⟩=>?_
  subst hq120
  subst hv120
  refine gP O O F ?_
  refine Eh (cs:=[Cs a109.id,Cb a109.margin.n,c117_0,Cb a109.margin.d,c117_1,Cb a109.unsold.n,c120_0,Cb a109.unsold.d,c120_1]) (by kernel_rfl) ?_
  refine lN ?_
  refine xM (k:=.cells 328 [Cs a109.id,Cb a109.margin.n,c117_0,Cb a109.margin.d,c117_1,Cb a109.unsold.n,c120_0,Cb a109.unsold.d,c120_1]) (w:=fun b=>.c (.sl b 0 1 9)) rfl F rfl (fun _=>rfl) (fun st hst=>?_) (fun b122 hT122=>?_)
  ·simp only [eP,yB,AS.ev,hst 121 (by simp [mK.sl,Od.sls,Od.sl])];rfl
  refine D5 (i:=⟨_,_,.app _ _ _ _ _ _⟩) O F O O O O ?_
  refine rA O O mem0 O (fun _=>(oH (oH (oH P3)))) (by omega) (by omega) fun w123 hw123=>?_
  have cl123:CL 9 Rz z120 _ ((x.stocks.take i3)++[a109]):=CL.append hcl3.m (CL.one rfl (bIe h117_0.m h117_1.m h120_0 h120_1))
  refine lN (gP O O F (R0 2 O (gS O O O ?_)))
  refine vO (cs':=[Ci x.number,w0,w1,w2,w123,Cz]) O O O P2 (by kernel_rfl) O (dN O) ?_
  refine lN (nQ (iE (xG (lM O (lB O O (tI (r:=((i3+1:Nat):Int)) (vR (by omega))) (R0 3 O ?_))))))
  exact nN (by omega) ⟨i3+1,_,_,_,_,[_,_],rfl,hzl3.trans zI,(lL rfl (lL rfl (lL rfl (lL rfl D3)))),rfl,by omega,(by rw [← Cm ha109];exact cl123),hw123⟩
 have hp103:=sL jB hc103
 refine eE (oC (iE (R5 12 O ?_)))
 refine dE (bQ ?_)
 refine eT (fun n fs=>∃ (i4:Nat) (w4:C) (cs4:List C) (e:O6) (zz:fR) (Hx:List HA),fs=⟨e,zz,Hx++[.blk b3 (.cells 215 [Ci x.number,w0,w1,w2,w3,w4]),.row (.c w0) 320 6 i0 cs0,.row (.c w1) 324 6 i1 cs1,.row (.c w2) 220 10 i2 cs2,.row (.c w3) 328 9 i3 cs3,.row (.c w4) 332 5 i4 cs4,.blk b2 (.cells 215 [Ci 0,Cz,Cz,Cz,Cz,Cz]),.blk b1 (.cells 134 [Ci x.number,cx_0,cx_1,cx_2,cx_3,cx_4])]⟩∧zle zl3 zz∧Sr e [(1,Ap b1),(2,Ap b2),(3,Ap b3),(12,Ai (i4:Int))]∧n=x.solds.length - i4∧i4≤x.solds.length∧CL 5 aD2 zz cs4 (x.solds.take i4)∧pG w4 w4=true) ?_ _ ⟨0,_,_,_,_,[],rfl,zle.refl _,(lL rfl (lL rfl (lL rfl (lL rfl D3)))),rfl,Nat.zero_le _,CL.nil,rfl⟩ (kK (by omega))
 intro n fs hI
 obtain ⟨i4,w4,cs4,e,zl4,Hx,rfl,hzl4,hat,rfl,hi4,hcl4,hw4⟩:=hI
 refine zH hat fun e=>?_
 refine uQ (List.sublist_append_right _ _) (R4 20 O (mL (v:=.c (cx_4)) O (mX (mX (mX Y4))) (dN O) O (cX O hx_4 (R3 4 O ?_))))
 refine kJ O (fun hc129=>?_) (fun hc129=>?_)
 ·have hp129:=jB.1 hc129
  refine dX ?_
  refine dE (bQ ?_)
  refine Ak (gP O O F (R0 2 O (Lr (v:=.c (w4)) O O (.inr mem0) O (dN O) O (gP O O F (R0 2 O (Lr (v:=.c (cx_4)) O O (.inr (mX (mX (mX Y4)))) O (dN O) O (gP O O F (R0 3 O ?_))))))))
  obtain ⟨a137,ha137⟩:=vB (l:=x.solds) (i:=i4) (by omega)
  refine gP O O F ?_
  refine eA O O hx_4 i4 O a137 ha137 fun b137 p137 cs137 at137 hR137=>?_
  refine lN ?_
  obtain ⟨c137_0,c137_1,rfl,h137_0,h137_1⟩:=hR137
  refine gP O O F (R0 2 O (glA (v:=.c (Cs a137.id)) (off:=0) O O at137 (fun _ _ h=>.inl ((hzl0.trans (hzl1.trans (hzl2.trans (hzl3.trans (hzl4))))) _ _ h)) O (dN O) O (gP rfl rfl F (R0 2 O (Lr (v:=.c (cx_4)) O O (.inr (mX (mX (mX Y4)))) O (dN O) O (gP rfl rfl F (R0 3 O (gP rfl rfl F ?_))))))))
  refine eA O O hx_4 i4 O a137 ha137 fun b143 p143 cs143 at143 hR143=>?_
  refine lN ?_
  obtain ⟨c143_0,c143_1,rfl,h143_0,h143_1⟩:=hR143
  refine gP O O F (R0 2 O (glA (v:=.agg (kR a137.share c143_0 c143_1)) (off:=1) O O at143 (fun _ _ h=>.inl ((hzl0.trans (hzl1.trans (hzl2.trans (hzl3.trans (hzl4))))) _ _ h)) O (dN O) O ?_))
  refine A7 (i:=⟨_,_,.call _ _⟩) O O F O O O (Cf (by omega) ⟨_,O,Ed (h143_0.mono (hzl0.trans (hzl1.trans (hzl2.trans (hzl3.trans hzl4))))) (h143_1.mono (hzl0.trans (hzl1.trans (hzl2.trans (hzl3.trans hzl4)))))⟩ (hS.r4 _ (List.mem_of_getElem? ha137))) fun v146 z146 _ ⟨_,hv146,c146_0,c146_1,hq146,h146_0,h146_1⟩=>?_
  subst hq146
  subst hv146
  refine gP O O F ?_
  refine Eh (cs:=[Cs a137.id,Cb a137.share.n,c146_0,Cb a137.share.d,c146_1]) (by kernel_rfl) ?_
  refine lN ?_
  refine xM (k:=.cells 332 [Cs a137.id,Cb a137.share.n,c146_0,Cb a137.share.d,c146_1]) (w:=fun b=>.c (.sl b 0 1 5)) rfl F rfl (fun _=>rfl) (fun st hst=>?_) (fun b148 hT148=>?_)
  ·simp only [eP,yB,AS.ev,hst 147 (by simp [mK.sl,Od.sls,Od.sl])];rfl
  refine D5 (i:=⟨_,_,.app _ _ _ _ _ _⟩) O F O O O O ?_
  refine rA O O mem0 O (fun _=>(oH (oH (oH P3)))) (by omega) (by omega) fun w149 hw149=>?_
  have cl149:CL 5 aD2 z146 _ ((x.solds.take i4)++[a137]):=CL.append hcl4.m (CL.one rfl (bIS h146_0 h146_1))
  refine lN (gP O O F (R0 2 O (gS O O O ?_)))
  refine vO (cs':=[Ci x.number,w0,w1,w2,w3,w149]) O O O P1 (by kernel_rfl) O (dN O) ?_
  refine lN (nQ (iE (xG (lM O (lB O O (tI (r:=((i4+1:Nat):Int)) (vR (by omega))) (R0 3 O ?_))))))
  exact nN (by omega) ⟨i4+1,_,_,_,_,[_],rfl,hzl4.trans zI,(lL rfl (lL rfl (lL rfl (lL rfl D3)))),rfl,by omega,(by rw [← Cm ha137];exact cl149),hw149⟩
 have hp129:=sL jB hc129
 refine eE (oC (iE (xR (mL (v:=.agg [Ci x.number,w0,w1,w2,w3,w4]) O mem0 (dN O) O ?_))))
 refine vO (cs':=[Ci x.number,w0,w1,w2,w3,w4]) O O O (oH (oH (oH P3))) (by kernel_rfl) O (dN O) ?_
 refine lN ?_
 refine Dp (p:=[_]) O (hcl0.mono (hzl1.trans (hzl2.trans (hzl3.trans hzl4)))) (by rw [List.length_take];omega) (by omega) fun zfr06 _ hszfr06=>?_
 rw [uD (l:=x.holds) (by omega)] at hszfr06
 refine Dp (p:=[_]) O (hcl1.mono (hzl2.trans (hzl3.trans (hzl4.trans zI)))) (by rw [List.length_take];omega) (by omega) fun zfr17 _ hszfr17=>?_
 rw [uD (l:=x.books) (by omega)] at hszfr17
 refine Dp (p:=[_]) O (hcl2.mono (hzl3.trans (hzl4.trans zI))) (by rw [List.length_take];omega) (by omega) fun zfr28 _ hszfr28=>?_
 rw [uD (l:=x.deals) (by omega)] at hszfr28
 refine Dp (p:=[_]) O (hcl3.mono (hzl4.trans zI)) (by rw [List.length_take];omega) (by omega) fun zfr39 _ hszfr39=>?_
 rw [uD (l:=x.stocks) (by omega)] at hszfr39
 refine Dp (p:=[_]) O hcl4.m (by rw [List.length_take];omega) (by omega) fun zfr410 _ hszfr410=>?_
 rw [uD (l:=x.solds) (by omega)] at hszfr410
 refine xT (rQ (.inl O) (rc O Y1 (dN O) O rn) ?_)
 exact ⟨_,rfl,aT5 hszfr06.m hszfr17.m hszfr28.m hszfr39.m hszfr410⟩
open Go.CE Go.RowKit
theorem aOU {k:Nat} (hk:4≤k) {z:fR} {v:AV} {x:uV} (hx:AZ Ox z v x) (hS:SmF x):FC (E k) 43 [v] z fun v z=>AZ Ox z v x:=by
 have e0:=hS.l0
 have e1:=hS.l1
 have e2:=hS.l2
 have e3:=hS.l3
 obtain ⟨_,rfl,cx_0,cx_1,cx_2,cx_3,cx_4,cx_5,cx_6,cx_7,cx_8,cx_9,cx_10,cx_11,rfl,hx_0,hx_1,hx_2,hx_3,hx_4,hx_5,hx_6,hx_7,hx_8,hx_9,hx_10,hx_11⟩:=hx
 refine iI (bEg) (by omega) (dN O) fun B j hj=>?_
 refine xR ?_
 refine aEu O O fun b1=>?_
 refine uF fun b2=>?_
 refine lN (jF (gP O O F (R0 2 O (Lr (v:=.c (Cs x.name)) O O (.inr Y1) O (dN O) O (gP O O F (R0 2 O (Lr (v:=.c (Cs x.parent)) O O (.inr Y1) O (dN O) O (gP O O F (R0 2 O (Lr (v:=.agg (kR x.threshold cx_1 cx_2)) O O (.inr Y1) O (dN O) O ?_))))))))))
 refine A7 (i:=⟨_,_,.call _ _⟩) O O F O O O (Cf (by omega) ⟨_,O,Ed hx_1 hx_2⟩ hS.t) fun v14 z14 hz14 ⟨_,hv14,c14_0,c14_1,hq14,h14_0,h14_1⟩=>?_
 subst hq14
 subst hv14
 refine gP O O F (R0 2 O (Lr (v:=.agg (kR x.cap cx_3 cx_4)) O O (.inr Y1) O (dN O) O ?_))
 refine A7 (i:=⟨_,_,.call _ _⟩) O O F O O O (Cf (by omega) ⟨_,O,Ed hx_3.m hx_4.m⟩ hS.c) fun v17 z17 hz17 ⟨_,hv17,c17_0,c17_1,hq17,h17_0,h17_1⟩=>?_
 subst hq17
 subst hv17
 refine gP O O F (R0 2 O (Lr (v:=Ai x.back) O O (.inr Y1) O (dN O) O (gP O O F (R0 2 O (Lr (v:=Ai x.forward) O O (.inr Y1) O (dN O) O (gP O O F (R0 2 O (Lr (v:=.agg (kR x.interest cx_5 cx_6)) O O (.inr Y1) O (dN O) O ?_))))))))
 refine A7 (i:=⟨_,_,.call _ _⟩) O O F O O O (Cf (by omega) ⟨_,O,Ed hx_5.m hx_6.m⟩ hS.i) fun v24 z24 hz24 ⟨_,hv24,c24_0,c24_1,hq24,h24_0,h24_1⟩=>?_
 subst hq24
 subst hv24
 refine gP O O F (R0 2 O (Lr (v:=.agg (kR x.floor cx_7 cx_8)) O O (.inr Y1) O (dN O) O ?_))
 refine A7 (i:=⟨_,_,.call _ _⟩) O O F O O O (Cf (by omega) ⟨_,O,Ed hx_7.m hx_8.m⟩ hS.g) fun v27 z27 hz27 ⟨_,hv27,c27_0,c27_1,hq27,h27_0,h27_1⟩=>?_
 subst hq27
 subst hv27
 refine gP O O F (R0 2 O (Lr (v:=Ai x.keep) O O (.inr Y1) O (dN O) O (gP O O F ?_)))
 refine Eh (cs:=[Cs x.name,Cs x.parent,Cz,Cb x.threshold.n,c14_0,Cb x.threshold.d,c14_1,Cb x.cap.n,c17_0,Cb x.cap.d,c17_1,Ci x.back,Ci x.forward,Cb x.interest.n,c24_0,Cb x.interest.d,c24_1,Cb x.floor.n,c27_0,Cb x.floor.d,c27_1,Ci x.keep,Cz,Cz,Cz]) (by kernel_rfl) ?_
 refine lN ?_
 refine xM (k:=.cells 106 [(Cs ⟨#[]⟩),(Cs ⟨#[]⟩),Cz,Cb false,Cz,Cb false,Cz,Cb false,Cz,Cb false,Cz,Ci 0,Ci 0,Cb false,Cz,Cb false,Cz,Cb false,Cz,Cb false,Cz,Ci 0,Cz,Cz,Cz]) (w:=fun b=>Ap b) rfl F rfl (fun _=>rfl) (fun st hst=>?_) (fun b3 hT3=>?_)
 ·simp only [eP,yB,AS.ev];rfl
 refine gS O O O ?_
 refine vO (cs':=[Cs x.name,Cs x.parent,Cz,Cb x.threshold.n,c14_0,Cb x.threshold.d,c14_1,Cb x.cap.n,c17_0,Cb x.cap.d,c17_1,Ci x.back,Ci x.forward,Cb x.interest.n,c24_0,Cb x.interest.d,c24_1,Cb x.floor.n,c27_0,Cb x.floor.d,c27_1,Ci x.keep,Cz,Cz,Cz]) O O O lR (by kernel_rfl) O (dN O) ?_
 refine lN (nQ (xR (uE 215 6 (uE 9 1 (uE 168 6 (uE 208 8 (lF O (mL (v:=.c Cz) O Y4 (dN O) O (lF O (mL (v:=.c (cx_10)) O (mX (mX Y4)) (dN O) O ?_))))))))))
 refine aUP O O hx_10.m (fun _ _=>P2) (by omega) (by omega) fun w35 hw35 nw35 hn35=>?_
 have cl35:CL 1 RS z27 _ ([]++x.entities):=CL.append CL.nil hn35
 refine lF O ?_
 refine vO (cs':=[Cs x.name,Cs x.parent,Cz,Cb x.threshold.n,c14_0,Cb x.threshold.d,c14_1,Cb x.cap.n,c17_0,Cb x.cap.d,c17_1,Ci x.back,Ci x.forward,Cb x.interest.n,c24_0,Cb x.interest.d,c24_1,Cb x.floor.n,c27_0,Cb x.floor.d,c27_1,Ci x.keep,Cz,w35,Cz]) O O O (oH P3) (by kernel_rfl) O (dN O) ?_
 refine lN (R5 12 O ?_)
 refine dE (bQ ?_)
 refine eT (fun n fs=>∃ (i0:Nat) (w0:C) (cs0:List C) (e:O6) (zz:fR) (Hx:List HA),fs=⟨e,zz,Hx++[.row (.c w0) 208 8 i0 cs0,.row (qY) 168 6 0 [],.row (.c w35) 9 1 (0+x.entities.length) ([]++nw35),.row (qY) 215 6 0 [],.blk b3 (.cells 106 [Cs x.name,Cs x.parent,w0,Cb x.threshold.n,c14_0,Cb x.threshold.d,c14_1,Cb x.cap.n,c17_0,Cb x.cap.d,c17_1,Ci x.back,Ci x.forward,Cb x.interest.n,c24_0,Cb x.interest.d,c24_1,Cb x.floor.n,c27_0,Cb x.floor.d,c27_1,Ci x.keep,Cz,w35,Cz]),.blk b2 (.cells 106 [(Cs ⟨#[]⟩),(Cs ⟨#[]⟩),Cz,Cb false,Cz,Cb false,Cz,Cb false,Cz,Cb false,Cz,Ci 0,Ci 0,Cb false,Cz,Cb false,Cz,Cb false,Cz,Cb false,Cz,Ci 0,Cz,Cz,Cz]),.blk b1 (.cells 101 (kF x cx_0 cx_1 cx_2 cx_3 cx_4 cx_5 cx_6 cx_7 cx_8 cx_9 cx_10 cx_11))]⟩∧zle z27 zz∧Sr e [(1,Ap b1),(2,Ap b2),(3,Ap b3),(4,Ai (i0:Int))]∧n=x.brackets.length - i0∧i0≤x.brackets.length∧CL 8 vF zz cs0 (x.brackets.take i0)∧pG w0 w0=true) ?_ _ ⟨0,_,_,_,_,[],rfl,zle.refl _,(lL rfl (lL rfl (lL rfl (lL rfl D3)))),rfl,Nat.zero_le _,CL.nil,rfl⟩ (kK (by omega))
 intro n fs hI
 obtain ⟨i0,w0,cs0,e,zl0,Hx,rfl,hzl0,hat,rfl,hi0,hcl0,hw0⟩:=hI
 refine zH hat fun e=>?_
 refine uQ (List.sublist_append_right _ _) (R4 20 O (mL (v:=.c (cx_0)) O (mX (mX Y4)) (dN O) O (cX O hx_0 (R3 4 O ?_))))
 refine kJ O (fun hc41=>?_) (fun hc41=>?_)
 ·have hp41:=jB.1 hc41
  refine dX ?_
  refine dE (bQ ?_)
  refine Ak (gP O O F (R0 2 O (Lr (v:=.c (w0)) O O (.inr Y4) O (dN O) O (gP O O F (R0 2 O (Lr (v:=.c (cx_0)) O O (.inr (mX (mX Y4))) O (dN O) O (gP O O F (R0 3 O ?_))))))))
  obtain ⟨a49,ha49⟩:=vB (l:=x.brackets) (i:=i0) (by omega)
  refine gP O O F ?_
  refine eA O O hx_0 i0 O a49 ha49 fun b49 p49 cs49 at49 hR49=>?_
  refine lN ?_
  obtain ⟨c49_0,c49_1,c49_2,c49_3,rfl,h49_0,h49_1,h49_2,h49_3⟩:=hR49
  refine gP O O F (R0 2 O (glA (v:=.agg (kR a49.frm c49_0 c49_1)) (off:=0) O O at49 (fun _ _ h=>.inl ((hz14.trans (hz17.trans (hz24.trans (hz27.trans (hzl0))))) _ _ h)) O (dN O) O ?_))
  refine A7 (i:=⟨_,_,.call _ _⟩) O O F O O O (Cf (by omega) ⟨_,O,Ed (h49_0.mono (hz14.trans (hz17.trans (hz24.trans (hz27.trans hzl0))))) (h49_1.mono (hz14.trans (hz17.trans (hz24.trans (hz27.trans hzl0)))))⟩ (hS.r0 _ (List.mem_of_getElem? ha49))) fun v52 z52 _ ⟨_,hv52,c52_0,c52_1,hq52,h52_0,h52_1⟩=>?_
  subst hq52
  subst hv52
  refine gP O O F (R0 2 O (Lr (v:=.c (cx_0)) O O (.inr (mX (mX Y4))) O (dN O) O (gP O O F (R0 3 O (gP O O F ?_)))))
  refine eA O O hx_0 i0 O a49 ha49 fun b56 p56 cs56 at56 hR56=>?_
  refine lN ?_
  obtain ⟨c56_0,c56_1,c56_2,c56_3,rfl,h56_0,h56_1,h56_2,h56_3⟩:=hR56
  refine gP O O F (R0 2 O (glA (v:=.agg (kR a49.rate c56_2 c56_3)) (off:=4) O O at56 (fun _ _ h=>.inl ((hz14.trans (hz17.trans (hz24.trans (hz27.trans (hzl0))))) _ _ h)) O (dN O) O ?_))
  refine A7 (i:=⟨_,_,.call _ _⟩) O O F O O O (Cf (by omega) ⟨_,O,Ed (h56_2.mono (hz14.trans (hz17.trans (hz24.trans (hz27.trans (hzl0.trans zI)))))) (h56_3.mono (hz14.trans (hz17.trans (hz24.trans (hz27.trans (hzl0.trans zI))))))⟩ (hS.r0' _ (List.mem_of_getElem? ha49))) fun v59 z59 _ ⟨_,hv59,c59_0,c59_1,hq59,h59_0,h59_1⟩=>?_
  subst hq59
  subst hv59
  refine gP O O F ?_
  refine Eh (cs:=[Cb a49.frm.n,c52_0,Cb a49.frm.d,c52_1,Cb a49.rate.n,c59_0,Cb a49.rate.d,c59_1]) (by kernel_rfl) ?_
  refine lN ?_
  refine xM (k:=.cells 208 [Cb a49.frm.n,c52_0,Cb a49.frm.d,c52_1,Cb a49.rate.n,c59_0,Cb a49.rate.d,c59_1]) (w:=fun b=>.c (.sl b 0 1 8)) rfl F rfl (fun _=>rfl) (fun st hst=>?_) (fun b61 hT61=>?_)
  ·simp only [eP,yB,AS.ev,hst 60 (by simp [mK.sl,Od.sls,Od.sl])];rfl
  refine D5 (i:=⟨_,_,.app _ _ _ _ _ _⟩) O F O O O O ?_
  refine rA O O mem0 O (fun _=>P1) (by omega) (by omega) fun w62 hw62=>?_
  have cl62:CL 8 vF z59 _ ((x.brackets.take i0)++[a49]):=CL.append hcl0.m (CL.one rfl (aXB h52_0.m h52_1.m h59_0 h59_1))
  refine lN (gP O O F (R0 2 O (gS O O O ?_)))
  refine vO (cs':=[Cs x.name,Cs x.parent,w62,Cb x.threshold.n,c14_0,Cb x.threshold.d,c14_1,Cb x.cap.n,c17_0,Cb x.cap.d,c17_1,Ci x.back,Ci x.forward,Cb x.interest.n,c24_0,Cb x.interest.d,c24_1,Cb x.floor.n,c27_0,Cb x.floor.d,c27_1,Ci x.keep,Cz,w35,Cz]) O O O (oH (oH P3)) (by kernel_rfl) O (dN O) ?_
  refine lN (nQ (iE (xG (lM O (lB O O (tI (r:=((i0+1:Nat):Int)) (vR (by omega))) (R0 3 O ?_))))))
  exact nN (by omega) ⟨i0+1,_,_,_,_,[_],rfl,hzl0.trans zI,(lL rfl (lL rfl (lL rfl (lL rfl D3)))),rfl,by omega,(by rw [← Cm ha49];exact cl62),hw62⟩
 have hp41:=sL jB hc41
 refine eE (oC (iE (R5 12 O ?_)))
 refine dE (bQ ?_)
 refine eT (fun n fs=>∃ (i1:Nat) (w1:C) (cs1:List C) (e:O6) (zz:fR) (Hx:List HA),fs=⟨e,zz,Hx++[.row (.c w0) 208 8 i0 cs0,.row (.c w1) 168 6 i1 cs1,.row (.c w35) 9 1 (0+x.entities.length) ([]++nw35),.row (qY) 215 6 0 [],.blk b3 (.cells 106 [Cs x.name,Cs x.parent,w0,Cb x.threshold.n,c14_0,Cb x.threshold.d,c14_1,Cb x.cap.n,c17_0,Cb x.cap.d,c17_1,Ci x.back,Ci x.forward,Cb x.interest.n,c24_0,Cb x.interest.d,c24_1,Cb x.floor.n,c27_0,Cb x.floor.d,c27_1,Ci x.keep,w1,w35,Cz]),.blk b2 (.cells 106 [(Cs ⟨#[]⟩),(Cs ⟨#[]⟩),Cz,Cb false,Cz,Cb false,Cz,Cb false,Cz,Cb false,Cz,Ci 0,Ci 0,Cb false,Cz,Cb false,Cz,Cb false,Cz,Cb false,Cz,Ci 0,Cz,Cz,Cz]),.blk b1 (.cells 101 (kF x cx_0 cx_1 cx_2 cx_3 cx_4 cx_5 cx_6 cx_7 cx_8 cx_9 cx_10 cx_11))]⟩∧zle zl0 zz∧Sr e [(1,Ap b1),(2,Ap b2),(3,Ap b3),(5,Ai (i1:Int))]∧n=x.classes.length - i1∧i1≤x.classes.length∧CL 6 yM zz cs1 (x.classes.take i1)∧pG w1 w1=true) ?_ _ ⟨0,_,_,_,_,[],rfl,zle.refl _,(lL rfl (lL rfl (lL rfl (lL rfl D3)))),rfl,Nat.zero_le _,CL.nil,rfl⟩ (kK (by omega))
 intro n fs hI
 obtain ⟨i1,w1,cs1,e,zl1,Hx,rfl,hzl1,hat,rfl,hi1,hcl1,hw1⟩:=hI
 refine zH hat fun e=>?_
 refine uQ (List.sublist_append_right _ _) (R4 20 O (mL (v:=.c (cx_9)) O (mX (mX Y4)) (dN O) O (cX O hx_9 (R3 4 O ?_))))
 refine kJ O (fun hc68=>?_) (fun hc68=>?_)
 ·have hp68:=jB.1 hc68
  refine dX ?_
  refine dE (bQ ?_)
  refine R4 4 O (mL (v:=.c (cx_9)) O (mX (mX Y4)) (dN O) O (lM O ?_))
  obtain ⟨a74,ha74⟩:=vB (l:=x.classes) (i:=i1) (by omega)
  refine eA O O hx_9 i1 O a74 ha74 fun b74 p74 cs74 at74 hR74=>?_
  obtain ⟨c74_0,c74_1,rfl,h74_0,h74_1⟩:=hR74
  refine tG (v:=.agg [Cs a74.name,Cu a74.kind,Cb a74.arg.n,c74_0,Cb a74.arg.d,c74_1]) (off:=0) O (at74.mono (hz14.trans (hz17.trans (hz24.trans (hz27.trans (hzl0.trans hzl1)))))) O (dN O) O ?_
  refine uF fun b6=>?_
  refine vO (cs':=[Cs a74.name,Cu a74.kind,Cb a74.arg.n,c74_0,Cb a74.arg.d,c74_1]) O O O lR (by kernel_rfl) O (dN O) ?_
  refine lN (Ak (gP O O F (R0 2 O (Lr (v:=.c (w1)) O O (.inr (mX Y4)) O (dN O) O (gP O O F (R0 2 O (Lr (v:=.c (Cs a74.name)) O O (.inr mem0) O (dN O) O (gP O O F (R0 2 O (Lr (v:=.c (Cu a74.kind)) O O (.inr mem0) O (dN O) O (gP O O F (R0 2 O (Lr (v:=.agg (kR a74.arg c74_0 c74_1)) O O (.inr mem0) O (dN O) O ?_)))))))))))))
  refine A7 (i:=⟨_,_,.call _ _⟩) O O F O O O (Cf (by omega) ⟨_,O,Ed (h74_0.mono (hz14.trans (hz17.trans (hz24.trans (hz27.trans (hzl0.trans hzl1)))))) (h74_1.mono (hz14.trans (hz17.trans (hz24.trans (hz27.trans (hzl0.trans hzl1))))))⟩ (hS.r1 _ (List.mem_of_getElem? ha74))) fun v84 z84 _ ⟨_,hv84,c84_0,c84_1,hq84,h84_0,h84_1⟩=>?_
  subst hq84
  subst hv84
  refine gP O O F ?_
  refine Eh (cs:=[Cs a74.name,Cu a74.kind,Cb a74.arg.n,c84_0,Cb a74.arg.d,c84_1]) (by kernel_rfl) ?_
  refine lN ?_
  refine xM (k:=.cells 168 [Cs a74.name,Cu a74.kind,Cb a74.arg.n,c84_0,Cb a74.arg.d,c84_1]) (w:=fun b=>.c (.sl b 0 1 6)) rfl F rfl (fun _=>rfl) (fun st hst=>?_) (fun b86 hT86=>?_)
  ·simp only [eP,yB,AS.ev,hst 85 (by simp [mK.sl,Od.sls,Od.sl])];rfl
  refine D5 (i:=⟨_,_,.app _ _ _ _ _ _⟩) O F O O O O ?_
  refine rA O O mem0 O (fun _=>P3) (by omega) (by omega) fun w87 hw87=>?_
  have cl87:CL 6 yM z84 _ ((x.classes.take i1)++[a74]):=CL.append hcl1.m (CL.one rfl (bIq h84_0 h84_1))
  refine lN (gP O O F (R0 2 O (gS O O O ?_)))
  refine vO (cs':=[Cs x.name,Cs x.parent,w0,Cb x.threshold.n,c14_0,Cb x.threshold.d,c14_1,Cb x.cap.n,c17_0,Cb x.cap.d,c17_1,Ci x.back,Ci x.forward,Cb x.interest.n,c24_0,Cb x.interest.d,c24_1,Cb x.floor.n,c27_0,Cb x.floor.d,c27_1,Ci x.keep,w87,w35,Cz]) O O O (oH (oH (oH P3))) (by kernel_rfl) O (dN O) ?_
  refine lN (nQ (iE (xG (lM O (lB O O (tI (r:=((i1+1:Nat):Int)) (vR (by omega))) (R0 3 O ?_))))))
  exact nN (by omega) ⟨i1+1,_,_,_,_,[_,_],rfl,hzl1.trans zI,(lL rfl (lL rfl (lL rfl (lL rfl D3)))),rfl,by omega,(by rw [← Cm ha74];exact cl87),hw87⟩
 have hp68:=sL jB hc68
 refine eE (oC (iE (R5 12 O ?_)))
 refine dE (bQ ?_)
 refine eT (fun n fs=>∃ (i2:Nat) (w2:C) (cs2:List C) (e:O6) (zz:fR) (Hx:List HA),fs=⟨e,zz,Hx++[.row (.c w0) 208 8 i0 cs0,.row (.c w1) 168 6 i1 cs1,.row (.c w35) 9 1 (0+x.entities.length) ([]++nw35),.row (.c w2) 215 6 i2 cs2,.blk b3 (.cells 106 [Cs x.name,Cs x.parent,w0,Cb x.threshold.n,c14_0,Cb x.threshold.d,c14_1,Cb x.cap.n,c17_0,Cb x.cap.d,c17_1,Ci x.back,Ci x.forward,Cb x.interest.n,c24_0,Cb x.interest.d,c24_1,Cb x.floor.n,c27_0,Cb x.floor.d,c27_1,Ci x.keep,w1,w35,w2]),.blk b2 (.cells 106 [(Cs ⟨#[]⟩),(Cs ⟨#[]⟩),Cz,Cb false,Cz,Cb false,Cz,Cb false,Cz,Cb false,Cz,Ci 0,Ci 0,Cb false,Cz,Cb false,Cz,Cb false,Cz,Cb false,Cz,Ci 0,Cz,Cz,Cz]),.blk b1 (.cells 101 (kF x cx_0 cx_1 cx_2 cx_3 cx_4 cx_5 cx_6 cx_7 cx_8 cx_9 cx_10 cx_11))]⟩∧zle zl1 zz∧Sr e [(1,Ap b1),(2,Ap b2),(3,Ap b3),(7,Ai (i2:Int))]∧n=x.years.length - i2∧i2≤x.years.length∧CL 6 Ib zz cs2 (x.years.take i2)∧pG w2 w2=true) ?_ _ ⟨0,_,_,_,_,[],rfl,zle.refl _,(lL rfl (lL rfl (lL rfl (lL rfl D3)))),rfl,Nat.zero_le _,CL.nil,rfl⟩ (kK (by omega))
 intro n fs hI
 obtain ⟨i2,w2,cs2,e,zl2,Hx,rfl,hzl2,hat,rfl,hi2,hcl2,hw2⟩:=hI
 refine zH hat fun e=>?_
 refine uQ (List.sublist_append_right _ _) (R4 20 O (mL (v:=.c (cx_11)) O (mX (mX Y4)) (dN O) O (cX O hx_11 (R3 4 O ?_))))
 refine kJ O (fun hc93=>?_) (fun hc93=>?_)
 ·have hp93:=jB.1 hc93
  refine dX ?_
  refine dE (bQ ?_)
  refine Ak (gP O O F (R0 2 O (Lr (v:=.c (w2)) O O (.inr Y4) O (dN O) O (gP O O F (R0 2 O (Lr (v:=.c (cx_11)) O O (.inr (mX (mX Y4))) O (dN O) O (gP O O F (R0 3 O ?_))))))))
  obtain ⟨a101,ha101⟩:=vB (l:=x.years) (i:=i2) (by omega)
  refine gP O O F ?_
  refine eA O O hx_11 i2 O a101 ha101 fun b101 p101 cs101 at101 hR101=>?_
  refine lN ?_
  obtain ⟨c101_0,c101_1,c101_2,c101_3,c101_4,rfl,h101_0,h101_1,h101_2,h101_3,h101_4⟩:=hR101
  refine glA (v:=.agg [Ci a101.number,c101_0,c101_1,c101_2,c101_3,c101_4]) (off:=0) O O at101 (fun _ _ h=>.inl ((hz14.trans (hz17.trans (hz24.trans (hz27.trans (hzl0.trans (hzl1.trans (hzl2))))))) _ _ h)) O (dN O) O ?_
  refine A7 (i:=⟨_,_,.call _ _⟩) O O F O O O (bEZ (by omega) ⟨_,O,aT5 (h101_0.mono (hz14.trans (hz17.trans (hz24.trans (hz27.trans (hzl0.trans (hzl1.trans hzl2))))))) (h101_1.mono (hz14.trans (hz17.trans (hz24.trans (hz27.trans (hzl0.trans (hzl1.trans hzl2))))))) (h101_2.mono (hz14.trans (hz17.trans (hz24.trans (hz27.trans (hzl0.trans (hzl1.trans hzl2))))))) (h101_3.mono (hz14.trans (hz17.trans (hz24.trans (hz27.trans (hzl0.trans (hzl1.trans hzl2))))))) (h101_4.mono (hz14.trans (hz17.trans (hz24.trans (hz27.trans (hzl0.trans (hzl1.trans hzl2)))))))⟩ (hS.y _ (List.mem_of_getElem? ha101))) fun v103 z103 _ ⟨_,hv103,c103_0,c103_1,c103_2,c103_3,c103_4,hq103,h103_0,h103_1,h103_2,h103_3,h103_4⟩=>?_
  subst hq103
  subst hv103
  refine xM (k:=.cells 215 [Ci a101.number,c103_0,c103_1,c103_2,c103_3,c103_4]) (w:=fun b=>.c (.sl b 0 1 6)) rfl F rfl (fun _=>rfl) (fun st hst=>?_) (fun b104 hT104=>?_)
  ·simp only [eP,yB,AS.ev,hst 103 (by simp [mK.sl,Od.sls,Od.sl])];rfl
  refine D5 (i:=⟨_,_,.app _ _ _ _ _ _⟩) O F O O O O ?_
  refine rA O O mem0 O (fun _=>(oH P3)) (by omega) (by omega) fun w105 hw105=>?_
  have cl105:CL 6 Ib z103 _ ((x.years.take i2)++[a101]):=CL.append hcl2.m (CL.one rfl (aT5 h103_0 h103_1 h103_2 h103_3 h103_4))
  refine lN (gP O O F (R0 2 O (gS O O O ?_)))
  refine vO (cs':=[Cs x.name,Cs x.parent,w0,Cb x.threshold.n,c14_0,Cb x.threshold.d,c14_1,Cb x.cap.n,c17_0,Cb x.cap.d,c17_1,Ci x.back,Ci x.forward,Cb x.interest.n,c24_0,Cb x.interest.d,c24_1,Cb x.floor.n,c27_0,Cb x.floor.d,c27_1,Ci x.keep,w1,w35,w105]) O O O (oH (oH P3)) (by kernel_rfl) O (dN O) ?_
  refine lN (nQ (iE (xG (lM O (lB O O (tI (r:=((i2+1:Nat):Int)) (vR (by omega))) (R0 3 O ?_))))))
  exact nN (by omega) ⟨i2+1,_,_,_,_,[_],rfl,hzl2.trans zI,(lL rfl (lL rfl (lL rfl (lL rfl D3)))),rfl,by omega,(by rw [← Cm ha101];exact cl105),hw105⟩
 have hp93:=sL jB hc93
 refine eE (oC (iE (xR (mL (v:=.agg [Cs x.name,Cs x.parent,w0,Cb x.threshold.n,c14_0,Cb x.threshold.d,c14_1,Cb x.cap.n,c17_0,Cb x.cap.d,c17_1,Ci x.back,Ci x.forward,Cb x.interest.n,c24_0,Cb x.interest.d,c24_1,Cb x.floor.n,c27_0,Cb x.floor.d,c27_1,Ci x.keep,w1,w35,w2]) O Y4 (dN O) O ?_))))
 refine vO (cs':=[Cs x.name,Cs x.parent,w0,Cb x.threshold.n,c14_0,Cb x.threshold.d,c14_1,Cb x.cap.n,c17_0,Cb x.cap.d,c17_1,Ci x.back,Ci x.forward,Cb x.interest.n,c24_0,Cb x.interest.d,c24_1,Cb x.floor.n,c27_0,Cb x.floor.d,c27_1,Ci x.keep,w1,w35,w2]) O O O (oH (oH P3)) (by kernel_rfl) O (dN O) ?_
 refine lN ?_
 refine Dp (p:=[]) O (hcl0.mono (hzl1.trans hzl2)) (by rw [List.length_take];omega) (by omega) fun zfr08 _ hszfr08=>?_
 rw [uD (l:=x.brackets) (by omega)] at hszfr08
 refine Dp (p:=[]) O (hcl1.mono (hzl2.trans zI)) (by rw [List.length_take];omega) (by omega) fun zfr19 _ hszfr19=>?_
 rw [uD (l:=x.classes) (by omega)] at hszfr19
 refine Dp (p:=[]) O (cl35.mono (hzl0.trans (hzl1.trans (hzl2.trans zI)))) (by simp) (by omega) fun zfr210 _ hszfr210=>?_
 refine Dp (p:=[]) O hcl2.m (by rw [List.length_take];omega) (by omega) fun zfr311 _ hszfr311=>?_
 rw [uD (l:=x.years) (by omega)] at hszfr311
 refine xT (rQ (.inl O) (rc O Y1 (dN O) O rn) ?_)
 exact ⟨_,rfl,L9 hszfr08.m (h14_0.mono (hz17.trans (hz24.trans (hz27.trans (hzl0.trans (hzl1.trans (hzl2.trans zI))))))) (h14_1.mono (hz17.trans (hz24.trans (hz27.trans (hzl0.trans (hzl1.trans (hzl2.trans zI))))))) (h17_0.mono (hz24.trans (hz27.trans (hzl0.trans (hzl1.trans (hzl2.trans zI)))))) (h17_1.mono (hz24.trans (hz27.trans (hzl0.trans (hzl1.trans (hzl2.trans zI)))))) (h24_0.mono (hz27.trans (hzl0.trans (hzl1.trans (hzl2.trans zI))))) (h24_1.mono (hz27.trans (hzl0.trans (hzl1.trans (hzl2.trans zI))))) (h27_0.mono (hzl0.trans (hzl1.trans (hzl2.trans zI)))) (h27_1.mono (hzl0.trans (hzl1.trans (hzl2.trans zI)))) hszfr19.m hszfr210.m hszfr311⟩
end Go.Proofs.YtlceligcgelbdaaGreat

/- What is made anew for the reference is the same. -/
import Derived.WalkKit
import Derived.Orders
import Derived.Test.YtcnpoojdochapaaGreatDoorRF2
set_option linter.unusedVariables false
set_option linter.unusedSimpArgs false
set_option maxRecDepth 100000
set_option maxHeartbeats 1000000
namespace Go.Proofs.YtcnpoojdochapaaGreatDoor
open Go.CE Go.RowKit
theorem Gp {k:Nat} (hk:2≤k) {z:dE} {v:AV} {x:yR} (hx:AZ aVu z v x) (hb:Sm x):FC (E k) 8 [v] z fun v z=>AZ aVu z v x:=by
 obtain ⟨_,rfl,c0,c1,rfl,h0,h1⟩:=hx
 refine (aVO hk h0 h1 (by have:=hb.1;omega) (by have:=hb.2;omega)).mono fun v z' hz ⟨c,d,hv,m,n⟩=>?_
 exact ⟨_,hv,Ji (m.mono gU) (n.mono gU)⟩
theorem bEx {k:Nat} (hk:3≤k) {z:dE} {v:AV} {x:tI} (hx:AZ Ak z v x) (hS:SmY x):FC (E k) 52 [v] z fun v z=>AZ Ak z v x:=by
 have e0:=hS.l0
 have e1:=hS.l1
 have e2:=hS.l2
 have e3:=hS.l3
 have e4:=hS.l4
 obtain ⟨_,rfl,cx_0,cx_1,cx_2,cx_3,cx_4,rfl,hx_0,hx_1,hx_2,hx_3,hx_4⟩:=hx
 refine cX (bIR) (by omega) (aU O) fun B j hj=>?_
 refine xR ?_
 refine aRp O O fun b1=>?_
 refine mR fun b2=>?_
 refine lN (xR (wM 188 5 (wM 186 9 (wM 184 10 (wM 182 6 (wM 180 6 (lF O (mK (v:=Ai x.number) O (uD (uD Y4)) (aU O) O ?_))))))))
 refine I1 (cs:=[Ci x.number,Cz,Cz,Cz,Cz,Cz]) (by kernel_rfl) ?_
 refine mR fun b3=>?_
 refine mG (cs':=[Ci x.number,Cz,Cz,Cz,Cz,Cz]) O O O iP (by kernel_rfl) O (aU O) ?_
 refine lN (R5 12 O ?_)
 refine aT (aQ ?_)
 refine eA (fun n fs=>∃ (i0:Nat) (w0:C) (cs0:List C) (e:Zv) (zz:dE) (Hx:List HA),fs=⟨e,zz,Hx++[.blk b3 (.cells 111 [Ci x.number,w0,Cz,Cz,Cz,Cz]),.row (.c w0) 180 6 i0 cs0,.row (C4) 182 6 0 [],.row (C4) 184 10 0 [],.row (C4) 186 9 0 [],.row (C4) 188 5 0 [],.blk b2 (.cells 111 [Ci 0,Cz,Cz,Cz,Cz,Cz]),.blk b1 (.cells 92 [Ci x.number,cx_0,cx_1,cx_2,cx_3,cx_4])]⟩∧zle z zz∧AtL e [(1,Ap b1),(2,Ap b2),(3,Ap b3),(4,Ai (i0:Int))]∧n=x.holds.length - i0∧i0≤x.holds.length∧CL 6 Hh zz cs0 (x.holds.take i0)∧qV w0 w0=true) ?_ _ ⟨0,_,_,_,_,[],rfl,zle.refl _,(jN rfl (jN rfl (jN rfl (jN rfl Et)))),rfl,Nat.zero_le _,CL.nil,F4⟩ (kK (by omega))
 intro n fs hI
 obtain ⟨i0,w0,cs0,e,zl0,Hx,rfl,hzl0,hat,rfl,hi0,hcl0,hw0⟩:=hI
 refine A9 hat fun e=>?_
 refine vF (List.sublist_append_right _ _) (R4 20 O (mK (v:=.c (cx_0)) O (uD (uD (uD Y4))) (aU O) O (aS O hx_0 (R3 4 O ?_))))
 refine iO O (fun hc20=>?_) (fun hc20=>?_)
 ·have hp20:=iN.1 hc20
  refine dA ?_
  refine aT (aQ ?_)
  refine R4 4 O (mK (v:=.c (cx_0)) O (uD (uD (uD Y4))) (aU O) O (lM O ?_))
  obtain ⟨a26,ha26⟩:=B2 (l:=x.holds) (i:=i0) (by omega)
  refine dH O O hx_0 i0 O a26 ha26 fun b26 p26 cs26 at26 hR26=>?_
  obtain ⟨c26_0,c26_1,rfl,h26_0,h26_1⟩:=hR26
  refine oP (v:=.agg [Cs a26.owner,Cs a26.owned,Cb a26.share.n,c26_0,Cb a26.share.d,c26_1]) (off:=0) O (at26.mono (hzl0)) O (aU O) O ?_
  refine mR fun b5=>?_
  refine mG (cs':=[Cs a26.owner,Cs a26.owned,Cb a26.share.n,c26_0,Cb a26.share.d,c26_1]) O O O iP (by kernel_rfl) O (aU O) ?_
  refine lN (Hj (gP O O F (R0 2 O (Vf (v:=.c (w0)) O O (.inr Y1) O (aU O) O (gP O O F (R0 2 O (Vf (v:=.c (Cs a26.owner)) O O (.inr mem0) O (aU O) O (gP O O F (R0 2 O (Vf (v:=.c (Cs a26.owned)) O O (.inr mem0) O (aU O) O (gP O O F (R0 2 O (Vf (v:=.agg (kR a26.share c26_0 c26_1)) O O (.inr mem0) O (aU O) O ?_)))))))))))))
  refine Cm (i:=⟨_,_,.call _ _⟩) O O F O O O (Gp (by omega) ⟨_,O,Ji (h26_0.mono (hzl0)) (h26_1.mono (hzl0))⟩ (hS.r0 _ (List.mem_of_getElem? ha26))) fun v36 z36 _ ⟨_,hv36,c36_0,c36_1,hq36,h36_0,h36_1⟩=>?_
  subst hq36
  subst hv36
  refine gP O O F ?_
  refine I1 (cs:=[Cs a26.owner,Cs a26.owned,Cb a26.share.n,c36_0,Cb a26.share.d,c36_1]) (by kernel_rfl) ?_
  refine lN ?_
  refine qT (k:=.cells 180 [Cs a26.owner,Cs a26.owned,Cb a26.share.n,c36_0,Cb a26.share.d,c36_1]) (w:=fun b=>.c (.sl b 0 1 6)) rfl F rfl (fun _=>rfl) (fun st hst=>?_) (fun b38 hT38=>?_)
  ·simp only [eE,uZ,AS.ev,hst 37 (by simp [jM.sl,Od.sls,Od.sl])];rfl
  refine K9 (i:=⟨_,_,.app _ _ _ _ _ _⟩) O F O O O O ?_
  refine uQ O O mem0 O (fun _=>P3) (by omega) (by omega) fun w39 hw39=>?_
  have cl39:CL 6 Hh z36 _ ((x.holds.take i0)++[a26]):=CL.append (hcl0.mono (zJ z36)) (CL.one rfl (Ei h36_0 h36_1))
  refine lN (gP O O F (R0 2 O (gS O O O ?_)))
  refine mG (cs':=[Ci x.number,w39,Cz,Cz,Cz,Cz]) O O O P2 (by kernel_rfl) O (aU O) ?_
  refine lN (mQ (dN (xG (lM O (lB O O (uF (r:=((i0+1:Nat):Int)) (wR (by omega))) (R0 3 O ?_))))))
  exact lQ (by omega) ⟨i0+1,_,_,_,_,[_,_],rfl,hzl0.trans zI,(jN rfl (jN rfl (jN rfl (jN rfl Et)))),rfl,by omega,(by rw [← Gf ha26];exact cl39),hw39⟩
 have hp20:=sH iN hc20
 refine dK (nQ (dN (R5 12 O ?_)))
 refine aT (aQ ?_)
 refine eA (fun n fs=>∃ (i1:Nat) (w1:C) (cs1:List C) (e:Zv) (zz:dE) (Hx:List HA),fs=⟨e,zz,Hx++[.blk b3 (.cells 111 [Ci x.number,w0,w1,Cz,Cz,Cz]),.row (.c w0) 180 6 i0 cs0,.row (.c w1) 182 6 i1 cs1,.row (C4) 184 10 0 [],.row (C4) 186 9 0 [],.row (C4) 188 5 0 [],.blk b2 (.cells 111 [Ci 0,Cz,Cz,Cz,Cz,Cz]),.blk b1 (.cells 92 [Ci x.number,cx_0,cx_1,cx_2,cx_3,cx_4])]⟩∧zle zl0 zz∧AtL e [(1,Ap b1),(2,Ap b2),(3,Ap b3),(6,Ai (i1:Int))]∧n=x.books.length - i1∧i1≤x.books.length∧CL 6 Hi zz cs1 (x.books.take i1)∧qV w1 w1=true) ?_ _ ⟨0,_,_,_,_,[],rfl,zle.refl _,(jN rfl (jN rfl (jN rfl (jN rfl Et)))),rfl,Nat.zero_le _,CL.nil,F4⟩ (kK (by omega))
 intro n fs hI
 obtain ⟨i1,w1,cs1,e,zl1,Hx,rfl,hzl1,hat,rfl,hi1,hcl1,hw1⟩:=hI
 refine A9 hat fun e=>?_
 refine vF (List.sublist_append_right _ _) (R4 20 O (mK (v:=.c (cx_1)) O (uD (uD (uD Y4))) (aU O) O (aS O hx_1 (R3 4 O ?_))))
 refine iO O (fun hc45=>?_) (fun hc45=>?_)
 ·have hp45:=iN.1 hc45
  refine dA ?_
  refine aT (aQ ?_)
  refine R4 4 O (mK (v:=.c (cx_1)) O (uD (uD (uD Y4))) (aU O) O (lM O ?_))
  obtain ⟨a51,ha51⟩:=B2 (l:=x.books) (i:=i1) (by omega)
  refine dH O O hx_1 i1 O a51 ha51 fun b51 p51 cs51 at51 hR51=>?_
  obtain ⟨c51_0,c51_1,rfl,h51_0,h51_1⟩:=hR51
  refine oP (v:=.agg [Cs a51.entity,Cs a51.cls,Cb a51.amount.n,c51_0,Cb a51.amount.d,c51_1]) (off:=0) O (at51.mono (hzl0.trans hzl1)) O (aU O) O ?_
  refine mR fun b7=>?_
  refine mG (cs':=[Cs a51.entity,Cs a51.cls,Cb a51.amount.n,c51_0,Cb a51.amount.d,c51_1]) O O O iP (by kernel_rfl) O (aU O) ?_
  refine lN (Hj (gP O O F (R0 2 O (Vf (v:=.c (w1)) O O (.inr Y1) O (aU O) O (gP O O F (R0 2 O (Vf (v:=.c (Cs a51.entity)) O O (.inr mem0) O (aU O) O (gP O O F (R0 2 O (Vf (v:=.c (Cs a51.cls)) O O (.inr mem0) O (aU O) O (gP O O F (R0 2 O (Vf (v:=.agg (kR a51.amount c51_0 c51_1)) O O (.inr mem0) O (aU O) O ?_)))))))))))))
  refine Cm (i:=⟨_,_,.call _ _⟩) O O F O O O (Gp (by omega) ⟨_,O,Ji (h51_0.mono (hzl0.trans hzl1)) (h51_1.mono (hzl0.trans hzl1))⟩ (hS.r1 _ (List.mem_of_getElem? ha51))) fun v61 z61 _ ⟨_,hv61,c61_0,c61_1,hq61,h61_0,h61_1⟩=>?_
  subst hq61
  subst hv61
  refine gP O O F ?_
  refine I1 (cs:=[Cs a51.entity,Cs a51.cls,Cb a51.amount.n,c61_0,Cb a51.amount.d,c61_1]) (by kernel_rfl) ?_
  refine lN ?_
  refine qT (k:=.cells 182 [Cs a51.entity,Cs a51.cls,Cb a51.amount.n,c61_0,Cb a51.amount.d,c61_1]) (w:=fun b=>.c (.sl b 0 1 6)) rfl F rfl (fun _=>rfl) (fun st hst=>?_) (fun b63 hT63=>?_)
  ·simp only [eE,uZ,AS.ev,hst 62 (by simp [jM.sl,Od.sls,Od.sl])];rfl
  refine K9 (i:=⟨_,_,.app _ _ _ _ _ _⟩) O F O O O O ?_
  refine uQ O O mem0 O (fun _=>(D5 P3)) (by omega) (by omega) fun w64 hw64=>?_
  have cl64:CL 6 Hi z61 _ ((x.books.take i1)++[a51]):=CL.append (hcl1.mono (zJ z61)) (CL.one rfl (pW h61_0 h61_1))
  refine lN (gP O O F (R0 2 O (gS O O O ?_)))
  refine mG (cs':=[Ci x.number,w0,w64,Cz,Cz,Cz]) O O O P2 (by kernel_rfl) O (aU O) ?_
  refine lN (mQ (dN (xG (lM O (lB O O (uF (r:=((i1+1:Nat):Int)) (wR (by omega))) (R0 3 O ?_))))))
  exact lQ (by omega) ⟨i1+1,_,_,_,_,[_,_],rfl,hzl1.trans zI,(jN rfl (jN rfl (jN rfl (jN rfl Et)))),rfl,by omega,(by rw [← Gf ha51];exact cl64),hw64⟩
 have hp45:=sH iN hc45
 refine dK (nQ (dN (R5 12 O ?_)))
 refine aT (aQ ?_)
 refine eA (fun n fs=>∃ (i2:Nat) (w2:C) (cs2:List C) (e:Zv) (zz:dE) (Hx:List HA),fs=⟨e,zz,Hx++[.blk b3 (.cells 111 [Ci x.number,w0,w1,w2,Cz,Cz]),.row (.c w0) 180 6 i0 cs0,.row (.c w1) 182 6 i1 cs1,.row (.c w2) 184 10 i2 cs2,.row (C4) 186 9 0 [],.row (C4) 188 5 0 [],.blk b2 (.cells 111 [Ci 0,Cz,Cz,Cz,Cz,Cz]),.blk b1 (.cells 92 [Ci x.number,cx_0,cx_1,cx_2,cx_3,cx_4])]⟩∧zle zl1 zz∧AtL e [(1,Ap b1),(2,Ap b2),(3,Ap b3),(8,Ai (i2:Int))]∧n=x.deals.length - i2∧i2≤x.deals.length∧CL 10 Ez zz cs2 (x.deals.take i2)∧qV w2 w2=true) ?_ _ ⟨0,_,_,_,_,[],rfl,zle.refl _,(jN rfl (jN rfl (jN rfl (jN rfl Et)))),rfl,Nat.zero_le _,CL.nil,F4⟩ (kK (by omega))
 intro n fs hI
 obtain ⟨i2,w2,cs2,e,zl2,Hx,rfl,hzl2,hat,rfl,hi2,hcl2,hw2⟩:=hI
 refine A9 hat fun e=>?_
 refine vF (List.sublist_append_right _ _) (R4 20 O (mK (v:=.c (cx_2)) O (uD (uD (uD Y4))) (aU O) O (aS O hx_2 (R3 4 O ?_))))
 refine iO O (fun hc70=>?_) (fun hc70=>?_)
 ·have hp70:=iN.1 hc70
  refine dA ?_
  refine aT (aQ ?_)
  refine R4 4 O (mK (v:=.c (cx_2)) O (uD (uD (uD Y4))) (aU O) O (lM O ?_))
  obtain ⟨a76,ha76⟩:=B2 (l:=x.deals) (i:=i2) (by omega)
  refine dH O O hx_2 i2 O a76 ha76 fun b76 p76 cs76 at76 hR76=>?_
  obtain ⟨c76_0,c76_1,rfl,h76_0,h76_1⟩:=hR76
  refine oP (v:=.agg [Cb a76.give,Cs a76.id,Cu a76.kind,Cs a76.payee,Cs a76.payer,Cs a76.cls,Cb a76.amount.n,c76_0,Cb a76.amount.d,c76_1]) (off:=0) O (at76.mono (hzl0.trans (hzl1.trans hzl2))) O (aU O) O ?_
  refine mR fun b9=>?_
  refine mG (cs':=[Cb a76.give,Cs a76.id,Cu a76.kind,Cs a76.payee,Cs a76.payer,Cs a76.cls,Cb a76.amount.n,c76_0,Cb a76.amount.d,c76_1]) O O O iP (by kernel_rfl) O (aU O) ?_
  refine lN (Hj (gP O O F (R0 2 O (Vf (v:=.c (w2)) O O (.inr Y1) O (aU O) O (gP O O F (R0 2 O (Vf (v:=Ab a76.give) O O (.inr mem0) O (aU O) O (gP O O F (R0 2 O (Vf (v:=.c (Cs a76.id)) O O (.inr mem0) O (aU O) O (gP O O F (R0 2 O (Vf (v:=.c (Cu a76.kind)) O O (.inr mem0) O (aU O) O (gP O O F (R0 2 O ?_)))))))))))))))
  refine Vf (v:=.c (Cs a76.payee)) O O (.inr mem0) O (aU O) O (gP O O F (R0 2 O (Vf (v:=.c (Cs a76.payer)) O O (.inr mem0) O (aU O) O (gP O O F (R0 2 O (Vf (v:=.c (Cs a76.cls)) O O (.inr mem0) O (aU O) O (gP O O F (R0 2 O (Vf (v:=.agg (kR a76.amount c76_0 c76_1)) O O (.inr mem0) O (aU O) O ?_)))))))))
  refine Cm (i:=⟨_,_,.call _ _⟩) O O F O O O (Gp (by omega) ⟨_,O,Ji (h76_0.mono (hzl0.trans (hzl1.trans hzl2))) (h76_1.mono (hzl0.trans (hzl1.trans hzl2)))⟩ (hS.r2 _ (List.mem_of_getElem? ha76))) fun v94 z94 _ ⟨_,hv94,c94_0,c94_1,hq94,h94_0,h94_1⟩=>?_
  subst hq94
  subst hv94
  refine gP O O F ?_
  refine I1 (cs:=[Cb a76.give,Cs a76.id,Cu a76.kind,Cs a76.payee,Cs a76.payer,Cs a76.cls,Cb a76.amount.n,c94_0,Cb a76.amount.d,c94_1]) (by kernel_rfl) ?_
  refine lN ?_
  refine qT (k:=.cells 184 [Cb a76.give,Cs a76.id,Cu a76.kind,Cs a76.payee,Cs a76.payer,Cs a76.cls,Cb a76.amount.n,c94_0,Cb a76.amount.d,c94_1]) (w:=fun b=>.c (.sl b 0 1 10)) rfl F rfl (fun _=>rfl) (fun st hst=>?_) (fun b96 hT96=>?_)
  ·simp only [eE,uZ,AS.ev,hst 95 (by simp [jM.sl,Od.sls,Od.sl])];rfl
  refine K9 (i:=⟨_,_,.app _ _ _ _ _ _⟩) O F O O O O ?_
  refine uQ O O mem0 O (fun _=>(D5 (D5 P3))) (by omega) (by omega) fun w97 hw97=>?_
  have cl97:CL 10 Ez z94 _ ((x.deals.take i2)++[a76]):=CL.append (hcl2.mono (zJ z94)) (CL.one rfl (aVl h94_0 h94_1))
  refine lN (gP O O F (R0 2 O (gS O O O ?_)))
  refine mG (cs':=[Ci x.number,w0,w1,w97,Cz,Cz]) O O O P2 (by kernel_rfl) O (aU O) ?_
  refine lN (mQ (dN (xG (lM O (lB O O (uF (r:=((i2+1:Nat):Int)) (wR (by omega))) (R0 3 O ?_))))))
  exact lQ (by omega) ⟨i2+1,_,_,_,_,[_,_],rfl,hzl2.trans zI,(jN rfl (jN rfl (jN rfl (jN rfl Et)))),rfl,by omega,(by rw [← Gf ha76];exact cl97),hw97⟩
 have hp70:=sH iN hc70
 refine dK (nQ (dN (R5 12 O ?_)))
 refine aT (aQ ?_)
 refine eA (fun n fs=>∃ (i3:Nat) (w3:C) (cs3:List C) (e:Zv) (zz:dE) (Hx:List HA),fs=⟨e,zz,Hx++[.blk b3 (.cells 111 [Ci x.number,w0,w1,w2,w3,Cz]),.row (.c w0) 180 6 i0 cs0,.row (.c w1) 182 6 i1 cs1,.row (.c w2) 184 10 i2 cs2,.row (.c w3) 186 9 i3 cs3,.row (C4) 188 5 0 [],.blk b2 (.cells 111 [Ci 0,Cz,Cz,Cz,Cz,Cz]),.blk b1 (.cells 92 [Ci x.number,cx_0,cx_1,cx_2,cx_3,cx_4])]⟩∧zle zl2 zz∧AtL e [(1,Ap b1),(2,Ap b2),(3,Ap b3),(10,Ai (i3:Int))]∧n=x.stocks.length - i3∧i3≤x.stocks.length∧CL 9 Bm zz cs3 (x.stocks.take i3)∧qV w3 w3=true) ?_ _ ⟨0,_,_,_,_,[],rfl,zle.refl _,(jN rfl (jN rfl (jN rfl (jN rfl Et)))),rfl,Nat.zero_le _,CL.nil,F4⟩ (kK (by omega))
 intro n fs hI
 obtain ⟨i3,w3,cs3,e,zl3,Hx,rfl,hzl3,hat,rfl,hi3,hcl3,hw3⟩:=hI
 refine A9 hat fun e=>?_
 refine vF (List.sublist_append_right _ _) (R4 20 O (mK (v:=.c (cx_3)) O (uD (uD (uD Y4))) (aU O) O (aS O hx_3 (R3 4 O ?_))))
 refine iO O (fun hc103=>?_) (fun hc103=>?_)
 ·have hp103:=iN.1 hc103
  refine dA ?_
  refine aT (aQ ?_)
  refine R4 4 O (mK (v:=.c (cx_3)) O (uD (uD (uD Y4))) (aU O) O (lM O ?_))
  obtain ⟨a109,ha109⟩:=B2 (l:=x.stocks) (i:=i3) (by omega)
  refine dH O O hx_3 i3 O a109 ha109 fun b109 p109 cs109 at109 hR109=>?_
  obtain ⟨c109_0,c109_1,c109_2,c109_3,rfl,h109_0,h109_1,h109_2,h109_3⟩:=hR109
  refine oP (v:=.agg [Cs a109.id,Cb a109.margin.n,c109_0,Cb a109.margin.d,c109_1,Cb a109.unsold.n,c109_2,Cb a109.unsold.d,c109_3]) (off:=0) O (at109.mono (hzl0.trans (hzl1.trans (hzl2.trans hzl3)))) O (aU O) O ?_
  refine mR fun b11=>?_
  refine mG (cs':=[Cs a109.id,Cb a109.margin.n,c109_0,Cb a109.margin.d,c109_1,Cb a109.unsold.n,c109_2,Cb a109.unsold.d,c109_3]) O O O iP (by kernel_rfl) O (aU O) ?_
  refine lN (Hj (gP O O F (R0 2 O (Vf (v:=.c (w3)) O O (.inr Y1) O (aU O) O (gP O O F (R0 2 O (Vf (v:=.c (Cs a109.id)) O O (.inr mem0) O (aU O) O (gP O O F (R0 2 O (Vf (v:=.agg (kR a109.margin c109_0 c109_1)) O O (.inr mem0) O (aU O) O ?_))))))))))
  refine Cm (i:=⟨_,_,.call _ _⟩) O O F O O O (Gp (by omega) ⟨_,O,Ji (h109_0.mono (hzl0.trans (hzl1.trans (hzl2.trans hzl3)))) (h109_1.mono (hzl0.trans (hzl1.trans (hzl2.trans hzl3))))⟩ (hS.r3 _ (List.mem_of_getElem? ha109))) fun v117 z117 _ ⟨_,hv117,c117_0,c117_1,hq117,h117_0,h117_1⟩=>?_
  subst hq117
  subst hv117
  refine gP O O F (R0 2 O (Vf (v:=.agg (kR a109.unsold c109_2 c109_3)) O O (.inr mem0) O (aU O) O ?_))
  refine Cm (i:=⟨_,_,.call _ _⟩) O O F O O O (Gp (by omega) ⟨_,O,Ji (h109_2.mono (hzl0.trans (hzl1.trans (hzl2.trans (hzl3.trans zI))))) (h109_3.mono (hzl0.trans (hzl1.trans (hzl2.trans (hzl3.trans zI)))))⟩ (hS.r3' _ (List.mem_of_getElem? ha109))) fun v120 z120 _ ⟨_,hv120,c120_0,c120_1,hq120,h120_0,h120_1⟩=>?_
  subst hq120
  subst hv120
  refine gP O O F ?_
  refine I1 (cs:=[Cs a109.id,Cb a109.margin.n,c117_0,Cb a109.margin.d,c117_1,Cb a109.unsold.n,c120_0,Cb a109.unsold.d,c120_1]) (by kernel_rfl) ?_
  refine lN ?_
  refine qT (k:=.cells 186 [Cs a109.id,Cb a109.margin.n,c117_0,Cb a109.margin.d,c117_1,Cb a109.unsold.n,c120_0,Cb a109.unsold.d,c120_1]) (w:=fun b=>.c (.sl b 0 1 9)) rfl F rfl (fun _=>rfl) (fun st hst=>?_) (fun b122 hT122=>?_)
  ·simp only [eE,uZ,AS.ev,hst 121 (by simp [jM.sl,Od.sls,Od.sl])];rfl
  refine K9 (i:=⟨_,_,.app _ _ _ _ _ _⟩) O F O O O O ?_
  refine uQ O O mem0 O (fun _=>(D5 (D5 (D5 P3)))) (by omega) (by omega) fun w123 hw123=>?_
  have cl123:CL 9 Bm z120 _ ((x.stocks.take i3)++[a109]):=CL.append (hcl3.mono (zJ z120)) (CL.one rfl (aX8 (h117_0.mono (zJ z120)) (h117_1.mono (zJ z120)) h120_0 h120_1))
  refine lN (gP O O F (R0 2 O (gS O O O ?_)))
  refine mG (cs':=[Ci x.number,w0,w1,w2,w123,Cz]) O O O P2 (by kernel_rfl) O (aU O) ?_
  refine lN (mQ (dN (xG (lM O (lB O O (uF (r:=((i3+1:Nat):Int)) (wR (by omega))) (R0 3 O ?_))))))
  exact lQ (by omega) ⟨i3+1,_,_,_,_,[_,_],rfl,hzl3.trans zI,(jN rfl (jN rfl (jN rfl (jN rfl Et)))),rfl,by omega,(by rw [← Gf ha109];exact cl123),hw123⟩
 have hp103:=sH iN hc103
 refine dK (nQ (dN (R5 12 O ?_)))
 refine aT (aQ ?_)
 refine eA (fun n fs=>∃ (i4:Nat) (w4:C) (cs4:List C) (e:Zv) (zz:dE) (Hx:List HA),fs=⟨e,zz,Hx++[.blk b3 (.cells 111 [Ci x.number,w0,w1,w2,w3,w4]),.row (.c w0) 180 6 i0 cs0,.row (.c w1) 182 6 i1 cs1,.row (.c w2) 184 10 i2 cs2,.row (.c w3) 186 9 i3 cs3,.row (.c w4) 188 5 i4 cs4,.blk b2 (.cells 111 [Ci 0,Cz,Cz,Cz,Cz,Cz]),.blk b1 (.cells 92 [Ci x.number,cx_0,cx_1,cx_2,cx_3,cx_4])]⟩∧zle zl3 zz∧AtL e [(1,Ap b1),(2,Ap b2),(3,Ap b3),(12,Ai (i4:Int))]∧n=x.solds.length - i4∧i4≤x.solds.length∧CL 5 Ik zz cs4 (x.solds.take i4)∧qV w4 w4=true) ?_ _ ⟨0,_,_,_,_,[],rfl,zle.refl _,(jN rfl (jN rfl (jN rfl (jN rfl Et)))),rfl,Nat.zero_le _,CL.nil,F4⟩ (kK (by omega))
 intro n fs hI
 obtain ⟨i4,w4,cs4,e,zl4,Hx,rfl,hzl4,hat,rfl,hi4,hcl4,hw4⟩:=hI
 refine A9 hat fun e=>?_
 refine vF (List.sublist_append_right _ _) (R4 20 O (mK (v:=.c (cx_4)) O (uD (uD (uD Y4))) (aU O) O (aS O hx_4 (R3 4 O ?_))))
 refine iO O (fun hc129=>?_) (fun hc129=>?_)
 ·have hp129:=iN.1 hc129
  refine dA ?_
  refine aT (aQ ?_)
  refine Hj (gP O O F (R0 2 O (Vf (v:=.c (w4)) O O (.inr mem0) O (aU O) O (gP O O F (R0 2 O (Vf (v:=.c (cx_4)) O O (.inr (uD (uD (uD Y4)))) O (aU O) O (gP O O F (R0 3 O ?_))))))))
  obtain ⟨a137,ha137⟩:=B2 (l:=x.solds) (i:=i4) (by omega)
  refine gP O O F ?_
  refine dH O O hx_4 i4 O a137 ha137 fun b137 p137 cs137 at137 hR137=>?_
  refine lN ?_
  obtain ⟨c137_0,c137_1,rfl,h137_0,h137_1⟩:=hR137
  refine gP O O F (R0 2 O (glA (v:=.c (Cs a137.id)) (off:=0) O O at137 (fun _ _ h=>.inl ((hzl0.trans (hzl1.trans (hzl2.trans (hzl3.trans (hzl4))))) _ _ h)) O (aU O) O (gP rfl rfl F (R0 2 O (Vf (v:=.c (cx_4)) O O (.inr (uD (uD (uD Y4)))) O (aU O) O (gP rfl rfl F (R0 3 O (gP rfl rfl F ?_))))))))
  refine dH O O hx_4 i4 O a137 ha137 fun b143 p143 cs143 at143 hR143=>?_
  refine lN ?_
  obtain ⟨c143_0,c143_1,rfl,h143_0,h143_1⟩:=hR143
  refine gP O O F (R0 2 O (glA (v:=.agg (kR a137.share c143_0 c143_1)) (off:=1) O O at143 (fun _ _ h=>.inl ((hzl0.trans (hzl1.trans (hzl2.trans (hzl3.trans (hzl4))))) _ _ h)) O (aU O) O ?_))
  refine Cm (i:=⟨_,_,.call _ _⟩) O O F O O O (Gp (by omega) ⟨_,O,Ji (h143_0.mono (hzl0.trans (hzl1.trans (hzl2.trans (hzl3.trans hzl4))))) (h143_1.mono (hzl0.trans (hzl1.trans (hzl2.trans (hzl3.trans hzl4)))))⟩ (hS.r4 _ (List.mem_of_getElem? ha137))) fun v146 z146 _ ⟨_,hv146,c146_0,c146_1,hq146,h146_0,h146_1⟩=>?_
  subst hq146
  subst hv146
  refine gP O O F ?_
  refine I1 (cs:=[Cs a137.id,Cb a137.share.n,c146_0,Cb a137.share.d,c146_1]) (by kernel_rfl) ?_
  refine lN ?_
  refine qT (k:=.cells 188 [Cs a137.id,Cb a137.share.n,c146_0,Cb a137.share.d,c146_1]) (w:=fun b=>.c (.sl b 0 1 5)) rfl F rfl (fun _=>rfl) (fun st hst=>?_) (fun b148 hT148=>?_)
  ·simp only [eE,uZ,AS.ev,hst 147 (by simp [jM.sl,Od.sls,Od.sl])];rfl
  refine K9 (i:=⟨_,_,.app _ _ _ _ _ _⟩) O F O O O O ?_
  refine uQ O O mem0 O (fun _=>(D5 (D5 (D5 P3)))) (by omega) (by omega) fun w149 hw149=>?_
  have cl149:CL 5 Ik z146 _ ((x.solds.take i4)++[a137]):=CL.append (hcl4.mono (zJ z146)) (CL.one rfl (aVm h146_0 h146_1))
  refine lN (gP O O F (R0 2 O (gS O O O ?_)))
  refine mG (cs':=[Ci x.number,w0,w1,w2,w3,w149]) O O O P1 (by kernel_rfl) O (aU O) ?_
  refine lN (mQ (dN (xG (lM O (lB O O (uF (r:=((i4+1:Nat):Int)) (wR (by omega))) (R0 3 O ?_))))))
  exact lQ (by omega) ⟨i4+1,_,_,_,_,[_],rfl,hzl4.trans zI,(jN rfl (jN rfl (jN rfl (jN rfl Et)))),rfl,by omega,(by rw [← Gf ha137];exact cl149),hw149⟩
 have hp129:=sH iN hc129
 refine dK (nQ (dN (xR (mK (v:=.agg [Ci x.number,w0,w1,w2,w3,w4]) O mem0 (aU O) O ?_))))
 refine mG (cs':=[Ci x.number,w0,w1,w2,w3,w4]) O O O (D5 (D5 (D5 P3))) (by kernel_rfl) O (aU O) ?_
 refine lN ?_
 refine N7 (p:=[_]) O (hcl0.mono (hzl1.trans (hzl2.trans (hzl3.trans hzl4)))) (by rw [List.length_take];omega) (by omega) fun zfr06 _ hszfr06=>?_
 rw [nC (l:=x.holds) (by omega)] at hszfr06
 refine N7 (p:=[_]) O (hcl1.mono (hzl2.trans (hzl3.trans (hzl4.trans zI)))) (by rw [List.length_take];omega) (by omega) fun zfr17 _ hszfr17=>?_
 rw [nC (l:=x.books) (by omega)] at hszfr17
 refine N7 (p:=[_]) O (hcl2.mono (hzl3.trans (hzl4.trans zI))) (by rw [List.length_take];omega) (by omega) fun zfr28 _ hszfr28=>?_
 rw [nC (l:=x.deals) (by omega)] at hszfr28
 refine N7 (p:=[_]) O (hcl3.mono (hzl4.trans zI)) (by rw [List.length_take];omega) (by omega) fun zfr39 _ hszfr39=>?_
 rw [nC (l:=x.stocks) (by omega)] at hszfr39
 refine N7 (p:=[_]) O (hcl4.mono (zJ zfr39)) (by rw [List.length_take];omega) (by omega) fun zfr410 _ hszfr410=>?_
 rw [nC (l:=x.solds) (by omega)] at hszfr410
 refine xT (rQ (.inl O) (rc O Y1 (aU O) O rn) ?_)
 exact ⟨_,rfl,Ou hszfr06.m hszfr17.m hszfr28.m hszfr39.m hszfr410⟩
open Go.CE Go.RowKit
theorem aTd {k:Nat} (hk:4≤k) {z:dE} {v:AV} {x:kM} (hx:AZ J8 z v x) (hS:SmF x):FC (E k) 16 [v] z fun v z=>AZ J8 z v x:=by
 have e0:=hS.l0
 have e1:=hS.l1
 have e2:=hS.l2
 have e3:=hS.l3
 obtain ⟨_,rfl,cx_0,cx_1,cx_2,cx_3,cx_4,cx_5,cx_6,cx_7,cx_8,cx_9,cx_10,cx_11,rfl,hx_0,hx_1,hx_2,hx_3,hx_4,hx_5,hx_6,hx_7,hx_8,hx_9,hx_10,hx_11⟩:=hx
 refine cX (bED) (by omega) (aU O) fun B j hj=>?_
 refine xR ?_
 refine aRp O O fun b1=>?_
 refine mR fun b2=>?_
 refine lN (gX (gP O O F (R0 2 O (Vf (v:=.c (Cs x.name)) O O (.inr Y1) O (aU O) O (gP O O F (R0 2 O (Vf (v:=.c (Cs x.parent)) O O (.inr Y1) O (aU O) O (gP O O F (R0 2 O (Vf (v:=.agg (kR x.threshold cx_1 cx_2)) O O (.inr Y1) O (aU O) O ?_))))))))))
 refine Cm (i:=⟨_,_,.call _ _⟩) O O F O O O (Gp (by omega) ⟨_,O,Ji hx_1 hx_2⟩ hS.t) fun v14 z14 hz14 ⟨_,hv14,c14_0,c14_1,hq14,h14_0,h14_1⟩=>?_
 subst hq14
 subst hv14
 refine gP O O F (R0 2 O (Vf (v:=.agg (kR x.cap cx_3 cx_4)) O O (.inr Y1) O (aU O) O ?_))
 refine Cm (i:=⟨_,_,.call _ _⟩) O O F O O O (Gp (by omega) ⟨_,O,Ji hx_3.m hx_4.m⟩ hS.c) fun v17 z17 hz17 ⟨_,hv17,c17_0,c17_1,hq17,h17_0,h17_1⟩=>?_
 subst hq17
 subst hv17
 refine gP O O F (R0 2 O (Vf (v:=Ai x.back) O O (.inr Y1) O (aU O) O (gP O O F (R0 2 O (Vf (v:=Ai x.forward) O O (.inr Y1) O (aU O) O (gP O O F (R0 2 O (Vf (v:=.agg (kR x.interest cx_5 cx_6)) O O (.inr Y1) O (aU O) O ?_))))))))
 refine Cm (i:=⟨_,_,.call _ _⟩) O O F O O O (Gp (by omega) ⟨_,O,Ji hx_5.m hx_6.m⟩ hS.i) fun v24 z24 hz24 ⟨_,hv24,c24_0,c24_1,hq24,h24_0,h24_1⟩=>?_
 subst hq24
 subst hv24
 refine gP O O F (R0 2 O (Vf (v:=.agg (kR x.floor cx_7 cx_8)) O O (.inr Y1) O (aU O) O ?_))
 refine Cm (i:=⟨_,_,.call _ _⟩) O O F O O O (Gp (by omega) ⟨_,O,Ji hx_7.m hx_8.m⟩ hS.g) fun v27 z27 hz27 ⟨_,hv27,c27_0,c27_1,hq27,h27_0,h27_1⟩=>?_
 subst hq27
 subst hv27
 refine gP O O F (R0 2 O (Vf (v:=Ai x.keep) O O (.inr Y1) O (aU O) O (gP O O F ?_)))
 refine I1 (cs:=[Cs x.name,Cs x.parent,Cz,Cb x.threshold.n,c14_0,Cb x.threshold.d,c14_1,Cb x.cap.n,c17_0,Cb x.cap.d,c17_1,Ci x.back,Ci x.forward,Cb x.interest.n,c24_0,Cb x.interest.d,c24_1,Cb x.floor.n,c27_0,Cb x.floor.d,c27_1,Ci x.keep,Cz,Cz,Cz]) (by kernel_rfl) ?_
 refine lN ?_
 refine qT (k:=.cells 47 [(Cs ⟨#[]⟩),(Cs ⟨#[]⟩),Cz,Cb false,Cz,Cb false,Cz,Cb false,Cz,Cb false,Cz,Ci 0,Ci 0,Cb false,Cz,Cb false,Cz,Cb false,Cz,Cb false,Cz,Ci 0,Cz,Cz,Cz]) (w:=fun b=>Ap b) rfl F rfl (fun _=>rfl) (fun st hst=>?_) (fun b3 hT3=>?_)
 ·simp only [eE,uZ,AS.ev];rfl
 refine gS O O O ?_
 refine mG (cs':=[Cs x.name,Cs x.parent,Cz,Cb x.threshold.n,c14_0,Cb x.threshold.d,c14_1,Cb x.cap.n,c17_0,Cb x.cap.d,c17_1,Ci x.back,Ci x.forward,Cb x.interest.n,c24_0,Cb x.interest.d,c24_1,Cb x.floor.n,c27_0,Cb x.floor.d,c27_1,Ci x.keep,Cz,Cz,Cz]) O O O iP (by kernel_rfl) O (aU O) ?_
 refine lN (mQ (xR (wM 111 6 (wM 9 1 (wM 104 6 (wM 100 8 (lF O (mK (v:=.c Cz) O Y4 (aU O) O (lF O (mK (v:=.c (cx_10)) O (uD (uD Y4)) (aU O) O ?_))))))))))
 refine aLd O O hx_10.m (fun _ _=>P2) (by omega) (by omega) fun w35 hw35 nw35 hn35=>?_
 have cl35:CL 1 RS z27 _ ([]++x.entities):=CL.append CL.nil hn35
 refine lF O ?_
 refine mG (cs':=[Cs x.name,Cs x.parent,Cz,Cb x.threshold.n,c14_0,Cb x.threshold.d,c14_1,Cb x.cap.n,c17_0,Cb x.cap.d,c17_1,Ci x.back,Ci x.forward,Cb x.interest.n,c24_0,Cb x.interest.d,c24_1,Cb x.floor.n,c27_0,Cb x.floor.d,c27_1,Ci x.keep,Cz,w35,Cz]) O O O (D5 P3) (by kernel_rfl) O (aU O) ?_
 refine lN (R5 12 O ?_)
 refine aT (aQ ?_)
 refine eA (fun n fs=>∃ (i0:Nat) (w0:C) (cs0:List C) (e:Zv) (zz:dE) (Hx:List HA),fs=⟨e,zz,Hx++[.row (.c w0) 100 8 i0 cs0,.row (C4) 104 6 0 [],.row (.c w35) 9 1 (0+x.entities.length) ([]++nw35),.row (C4) 111 6 0 [],.blk b3 (.cells 47 [Cs x.name,Cs x.parent,w0,Cb x.threshold.n,c14_0,Cb x.threshold.d,c14_1,Cb x.cap.n,c17_0,Cb x.cap.d,c17_1,Ci x.back,Ci x.forward,Cb x.interest.n,c24_0,Cb x.interest.d,c24_1,Cb x.floor.n,c27_0,Cb x.floor.d,c27_1,Ci x.keep,Cz,w35,Cz]),.blk b2 (.cells 47 [(Cs ⟨#[]⟩),(Cs ⟨#[]⟩),Cz,Cb false,Cz,Cb false,Cz,Cb false,Cz,Cb false,Cz,Ci 0,Ci 0,Cb false,Cz,Cb false,Cz,Cb false,Cz,Cb false,Cz,Ci 0,Cz,Cz,Cz]),.blk b1 (.cells 41 (kF x cx_0 cx_1 cx_2 cx_3 cx_4 cx_5 cx_6 cx_7 cx_8 cx_9 cx_10 cx_11))]⟩∧zle z27 zz∧AtL e [(1,Ap b1),(2,Ap b2),(3,Ap b3),(4,Ai (i0:Int))]∧n=x.brackets.length - i0∧i0≤x.brackets.length∧CL 8 pS zz cs0 (x.brackets.take i0)∧qV w0 w0=true) ?_ _ ⟨0,_,_,_,_,[],rfl,zle.refl _,(jN rfl (jN rfl (jN rfl (jN rfl Et)))),rfl,Nat.zero_le _,CL.nil,F4⟩ (kK (by omega))
 intro n fs hI
 obtain ⟨i0,w0,cs0,e,zl0,Hx,rfl,hzl0,hat,rfl,hi0,hcl0,hw0⟩:=hI
 refine A9 hat fun e=>?_
 refine vF (List.sublist_append_right _ _) (R4 20 O (mK (v:=.c (cx_0)) O (uD (uD Y4)) (aU O) O (aS O hx_0 (R3 4 O ?_))))
 refine iO O (fun hc41=>?_) (fun hc41=>?_)
 ·have hp41:=iN.1 hc41
  refine dA ?_
  refine aT (aQ ?_)
  refine Hj (gP O O F (R0 2 O (Vf (v:=.c (w0)) O O (.inr Y4) O (aU O) O (gP O O F (R0 2 O (Vf (v:=.c (cx_0)) O O (.inr (uD (uD Y4))) O (aU O) O (gP O O F (R0 3 O ?_))))))))
  obtain ⟨a49,ha49⟩:=B2 (l:=x.brackets) (i:=i0) (by omega)
  refine gP O O F ?_
  refine dH O O hx_0 i0 O a49 ha49 fun b49 p49 cs49 at49 hR49=>?_
  refine lN ?_
  obtain ⟨c49_0,c49_1,c49_2,c49_3,rfl,h49_0,h49_1,h49_2,h49_3⟩:=hR49
  refine gP O O F (R0 2 O (glA (v:=.agg (kR a49.frm c49_0 c49_1)) (off:=0) O O at49 (fun _ _ h=>.inl ((hz14.trans (hz17.trans (hz24.trans (hz27.trans (hzl0))))) _ _ h)) O (aU O) O ?_))
  refine Cm (i:=⟨_,_,.call _ _⟩) O O F O O O (Gp (by omega) ⟨_,O,Ji (h49_0.mono (hz14.trans (hz17.trans (hz24.trans (hz27.trans hzl0))))) (h49_1.mono (hz14.trans (hz17.trans (hz24.trans (hz27.trans hzl0)))))⟩ (hS.r0 _ (List.mem_of_getElem? ha49))) fun v52 z52 _ ⟨_,hv52,c52_0,c52_1,hq52,h52_0,h52_1⟩=>?_
  subst hq52
  subst hv52
  refine gP O O F (R0 2 O (Vf (v:=.c (cx_0)) O O (.inr (uD (uD Y4))) O (aU O) O (gP O O F (R0 3 O (gP O O F ?_)))))
  refine dH O O hx_0 i0 O a49 ha49 fun b56 p56 cs56 at56 hR56=>?_
  refine lN ?_
  obtain ⟨c56_0,c56_1,c56_2,c56_3,rfl,h56_0,h56_1,h56_2,h56_3⟩:=hR56
  refine gP O O F (R0 2 O (glA (v:=.agg (kR a49.rate c56_2 c56_3)) (off:=4) O O at56 (fun _ _ h=>.inl ((hz14.trans (hz17.trans (hz24.trans (hz27.trans (hzl0))))) _ _ h)) O (aU O) O ?_))
  refine Cm (i:=⟨_,_,.call _ _⟩) O O F O O O (Gp (by omega) ⟨_,O,Ji (h56_2.mono (hz14.trans (hz17.trans (hz24.trans (hz27.trans (hzl0.trans zI)))))) (h56_3.mono (hz14.trans (hz17.trans (hz24.trans (hz27.trans (hzl0.trans zI))))))⟩ (hS.r0' _ (List.mem_of_getElem? ha49))) fun v59 z59 _ ⟨_,hv59,c59_0,c59_1,hq59,h59_0,h59_1⟩=>?_
  subst hq59
  subst hv59
  refine gP O O F ?_
  refine I1 (cs:=[Cb a49.frm.n,c52_0,Cb a49.frm.d,c52_1,Cb a49.rate.n,c59_0,Cb a49.rate.d,c59_1]) (by kernel_rfl) ?_
  refine lN ?_
  refine qT (k:=.cells 100 [Cb a49.frm.n,c52_0,Cb a49.frm.d,c52_1,Cb a49.rate.n,c59_0,Cb a49.rate.d,c59_1]) (w:=fun b=>.c (.sl b 0 1 8)) rfl F rfl (fun _=>rfl) (fun st hst=>?_) (fun b61 hT61=>?_)
  ·simp only [eE,uZ,AS.ev,hst 60 (by simp [jM.sl,Od.sls,Od.sl])];rfl
  refine K9 (i:=⟨_,_,.app _ _ _ _ _ _⟩) O F O O O O ?_
  refine uQ O O mem0 O (fun _=>P1) (by omega) (by omega) fun w62 hw62=>?_
  have cl62:CL 8 pS z59 _ ((x.brackets.take i0)++[a49]):=CL.append (hcl0.mono (zJ z59)) (CL.one rfl (aDq (h52_0.mono (zJ z59)) (h52_1.mono (zJ z59)) h59_0 h59_1))
  refine lN (gP O O F (R0 2 O (gS O O O ?_)))
  refine mG (cs':=[Cs x.name,Cs x.parent,w62,Cb x.threshold.n,c14_0,Cb x.threshold.d,c14_1,Cb x.cap.n,c17_0,Cb x.cap.d,c17_1,Ci x.back,Ci x.forward,Cb x.interest.n,c24_0,Cb x.interest.d,c24_1,Cb x.floor.n,c27_0,Cb x.floor.d,c27_1,Ci x.keep,Cz,w35,Cz]) O O O (D5 (D5 P3)) (by kernel_rfl) O (aU O) ?_
  refine lN (mQ (dN (xG (lM O (lB O O (uF (r:=((i0+1:Nat):Int)) (wR (by omega))) (R0 3 O ?_))))))
  exact lQ (by omega) ⟨i0+1,_,_,_,_,[_],rfl,hzl0.trans zI,(jN rfl (jN rfl (jN rfl (jN rfl Et)))),rfl,by omega,(by rw [← Gf ha49];exact cl62),hw62⟩
 have hp41:=sH iN hc41
 refine dK (nQ (dN (R5 12 O ?_)))
 refine aT (aQ ?_)
 refine eA (fun n fs=>∃ (i1:Nat) (w1:C) (cs1:List C) (e:Zv) (zz:dE) (Hx:List HA),fs=⟨e,zz,Hx++[.row (.c w0) 100 8 i0 cs0,.row (.c w1) 104 6 i1 cs1,.row (.c w35) 9 1 (0+x.entities.length) ([]++nw35),.row (C4) 111 6 0 [],.blk b3 (.cells 47 [Cs x.name,Cs x.parent,w0,Cb x.threshold.n,c14_0,Cb x.threshold.d,c14_1,Cb x.cap.n,c17_0,Cb x.cap.d,c17_1,Ci x.back,Ci x.forward,Cb x.interest.n,c24_0,Cb x.interest.d,c24_1,Cb x.floor.n,c27_0,Cb x.floor.d,c27_1,Ci x.keep,w1,w35,Cz]),.blk b2 (.cells 47 [(Cs ⟨#[]⟩),(Cs ⟨#[]⟩),Cz,Cb false,Cz,Cb false,Cz,Cb false,Cz,Cb false,Cz,Ci 0,Ci 0,Cb false,Cz,Cb false,Cz,Cb false,Cz,Cb false,Cz,Ci 0,Cz,Cz,Cz]),.blk b1 (.cells 41 (kF x cx_0 cx_1 cx_2 cx_3 cx_4 cx_5 cx_6 cx_7 cx_8 cx_9 cx_10 cx_11))]⟩∧zle zl0 zz∧AtL e [(1,Ap b1),(2,Ap b2),(3,Ap b3),(5,Ai (i1:Int))]∧n=x.classes.length - i1∧i1≤x.classes.length∧CL 6 xP zz cs1 (x.classes.take i1)∧qV w1 w1=true) ?_ _ ⟨0,_,_,_,_,[],rfl,zle.refl _,(jN rfl (jN rfl (jN rfl (jN rfl Et)))),rfl,Nat.zero_le _,CL.nil,F4⟩ (kK (by omega))
 intro n fs hI
 obtain ⟨i1,w1,cs1,e,zl1,Hx,rfl,hzl1,hat,rfl,hi1,hcl1,hw1⟩:=hI
 refine A9 hat fun e=>?_
 refine vF (List.sublist_append_right _ _) (R4 20 O (mK (v:=.c (cx_9)) O (uD (uD Y4)) (aU O) O (aS O hx_9 (R3 4 O ?_))))
 refine iO O (fun hc68=>?_) (fun hc68=>?_)
 ·have hp68:=iN.1 hc68
  refine dA ?_
  refine aT (aQ ?_)
  refine R4 4 O (mK (v:=.c (cx_9)) O (uD (uD Y4)) (aU O) O (lM O ?_))
  obtain ⟨a74,ha74⟩:=B2 (l:=x.classes) (i:=i1) (by omega)
  refine dH O O hx_9 i1 O a74 ha74 fun b74 p74 cs74 at74 hR74=>?_
  obtain ⟨c74_0,c74_1,rfl,h74_0,h74_1⟩:=hR74
  refine oP (v:=.agg [Cs a74.name,Cu a74.kind,Cb a74.arg.n,c74_0,Cb a74.arg.d,c74_1]) (off:=0) O (at74.mono (hz14.trans (hz17.trans (hz24.trans (hz27.trans (hzl0.trans hzl1)))))) O (aU O) O ?_
  refine mR fun b6=>?_
  refine mG (cs':=[Cs a74.name,Cu a74.kind,Cb a74.arg.n,c74_0,Cb a74.arg.d,c74_1]) O O O iP (by kernel_rfl) O (aU O) ?_
  refine lN (Hj (gP O O F (R0 2 O (Vf (v:=.c (w1)) O O (.inr (uD Y4)) O (aU O) O (gP O O F (R0 2 O (Vf (v:=.c (Cs a74.name)) O O (.inr mem0) O (aU O) O (gP O O F (R0 2 O (Vf (v:=.c (Cu a74.kind)) O O (.inr mem0) O (aU O) O (gP O O F (R0 2 O (Vf (v:=.agg (kR a74.arg c74_0 c74_1)) O O (.inr mem0) O (aU O) O ?_)))))))))))))
  refine Cm (i:=⟨_,_,.call _ _⟩) O O F O O O (Gp (by omega) ⟨_,O,Ji (h74_0.mono (hz14.trans (hz17.trans (hz24.trans (hz27.trans (hzl0.trans hzl1)))))) (h74_1.mono (hz14.trans (hz17.trans (hz24.trans (hz27.trans (hzl0.trans hzl1))))))⟩ (hS.r1 _ (List.mem_of_getElem? ha74))) fun v84 z84 _ ⟨_,hv84,c84_0,c84_1,hq84,h84_0,h84_1⟩=>?_
  subst hq84
  subst hv84
  refine gP O O F ?_
  refine I1 (cs:=[Cs a74.name,Cu a74.kind,Cb a74.arg.n,c84_0,Cb a74.arg.d,c84_1]) (by kernel_rfl) ?_
  refine lN ?_
  refine qT (k:=.cells 104 [Cs a74.name,Cu a74.kind,Cb a74.arg.n,c84_0,Cb a74.arg.d,c84_1]) (w:=fun b=>.c (.sl b 0 1 6)) rfl F rfl (fun _=>rfl) (fun st hst=>?_) (fun b86 hT86=>?_)
  ·simp only [eE,uZ,AS.ev,hst 85 (by simp [jM.sl,Od.sls,Od.sl])];rfl
  refine K9 (i:=⟨_,_,.app _ _ _ _ _ _⟩) O F O O O O ?_
  refine uQ O O mem0 O (fun _=>P3) (by omega) (by omega) fun w87 hw87=>?_
  have cl87:CL 6 xP z84 _ ((x.classes.take i1)++[a74]):=CL.append (hcl1.mono (zJ z84)) (CL.one rfl (C9 h84_0 h84_1))
  refine lN (gP O O F (R0 2 O (gS O O O ?_)))
  refine mG (cs':=[Cs x.name,Cs x.parent,w0,Cb x.threshold.n,c14_0,Cb x.threshold.d,c14_1,Cb x.cap.n,c17_0,Cb x.cap.d,c17_1,Ci x.back,Ci x.forward,Cb x.interest.n,c24_0,Cb x.interest.d,c24_1,Cb x.floor.n,c27_0,Cb x.floor.d,c27_1,Ci x.keep,w87,w35,Cz]) O O O (D5 (D5 (D5 P3))) (by kernel_rfl) O (aU O) ?_
  refine lN (mQ (dN (xG (lM O (lB O O (uF (r:=((i1+1:Nat):Int)) (wR (by omega))) (R0 3 O ?_))))))
  exact lQ (by omega) ⟨i1+1,_,_,_,_,[_,_],rfl,hzl1.trans zI,(jN rfl (jN rfl (jN rfl (jN rfl Et)))),rfl,by omega,(by rw [← Gf ha74];exact cl87),hw87⟩
 have hp68:=sH iN hc68
 refine dK (nQ (dN (R5 12 O ?_)))
 refine aT (aQ ?_)
 refine eA (fun n fs=>∃ (i2:Nat) (w2:C) (cs2:List C) (e:Zv) (zz:dE) (Hx:List HA),fs=⟨e,zz,Hx++[.row (.c w0) 100 8 i0 cs0,.row (.c w1) 104 6 i1 cs1,.row (.c w35) 9 1 (0+x.entities.length) ([]++nw35),.row (.c w2) 111 6 i2 cs2,.blk b3 (.cells 47 [Cs x.name,Cs x.parent,w0,Cb x.threshold.n,c14_0,Cb x.threshold.d,c14_1,Cb x.cap.n,c17_0,Cb x.cap.d,c17_1,Ci x.back,Ci x.forward,Cb x.interest.n,c24_0,Cb x.interest.d,c24_1,Cb x.floor.n,c27_0,Cb x.floor.d,c27_1,Ci x.keep,w1,w35,w2]),.blk b2 (.cells 47 [(Cs ⟨#[]⟩),(Cs ⟨#[]⟩),Cz,Cb false,Cz,Cb false,Cz,Cb false,Cz,Cb false,Cz,Ci 0,Ci 0,Cb false,Cz,Cb false,Cz,Cb false,Cz,Cb false,Cz,Ci 0,Cz,Cz,Cz]),.blk b1 (.cells 41 (kF x cx_0 cx_1 cx_2 cx_3 cx_4 cx_5 cx_6 cx_7 cx_8 cx_9 cx_10 cx_11))]⟩∧zle zl1 zz∧AtL e [(1,Ap b1),(2,Ap b2),(3,Ap b3),(7,Ai (i2:Int))]∧n=x.years.length - i2∧i2≤x.years.length∧CL 6 Ak zz cs2 (x.years.take i2)∧qV w2 w2=true) ?_ _ ⟨0,_,_,_,_,[],rfl,zle.refl _,(jN rfl (jN rfl (jN rfl (jN rfl Et)))),rfl,Nat.zero_le _,CL.nil,F4⟩ (kK (by omega))
 intro n fs hI
 obtain ⟨i2,w2,cs2,e,zl2,Hx,rfl,hzl2,hat,rfl,hi2,hcl2,hw2⟩:=hI
 refine A9 hat fun e=>?_
 refine vF (List.sublist_append_right _ _) (R4 20 O (mK (v:=.c (cx_11)) O (uD (uD Y4)) (aU O) O (aS O hx_11 (R3 4 O ?_))))
 refine iO O (fun hc93=>?_) (fun hc93=>?_)
 ·have hp93:=iN.1 hc93
  refine dA ?_
  refine aT (aQ ?_)
  refine Hj (gP O O F (R0 2 O (Vf (v:=.c (w2)) O O (.inr Y4) O (aU O) O (gP O O F (R0 2 O (Vf (v:=.c (cx_11)) O O (.inr (uD (uD Y4))) O (aU O) O (gP O O F (R0 3 O ?_))))))))
  obtain ⟨a101,ha101⟩:=B2 (l:=x.years) (i:=i2) (by omega)
  refine gP O O F ?_
  refine dH O O hx_11 i2 O a101 ha101 fun b101 p101 cs101 at101 hR101=>?_
  refine lN ?_
  obtain ⟨c101_0,c101_1,c101_2,c101_3,c101_4,rfl,h101_0,h101_1,h101_2,h101_3,h101_4⟩:=hR101
  refine glA (v:=.agg [Ci a101.number,c101_0,c101_1,c101_2,c101_3,c101_4]) (off:=0) O O at101 (fun _ _ h=>.inl ((hz14.trans (hz17.trans (hz24.trans (hz27.trans (hzl0.trans (hzl1.trans (hzl2))))))) _ _ h)) O (aU O) O ?_
  refine Cm (i:=⟨_,_,.call _ _⟩) O O F O O O (bEx (by omega) ⟨_,O,Ou (h101_0.mono (hz14.trans (hz17.trans (hz24.trans (hz27.trans (hzl0.trans (hzl1.trans hzl2))))))) (h101_1.mono (hz14.trans (hz17.trans (hz24.trans (hz27.trans (hzl0.trans (hzl1.trans hzl2))))))) (h101_2.mono (hz14.trans (hz17.trans (hz24.trans (hz27.trans (hzl0.trans (hzl1.trans hzl2))))))) (h101_3.mono (hz14.trans (hz17.trans (hz24.trans (hz27.trans (hzl0.trans (hzl1.trans hzl2))))))) (h101_4.mono (hz14.trans (hz17.trans (hz24.trans (hz27.trans (hzl0.trans (hzl1.trans hzl2)))))))⟩ (hS.y _ (List.mem_of_getElem? ha101))) fun v103 z103 _ ⟨_,hv103,c103_0,c103_1,c103_2,c103_3,c103_4,hq103,h103_0,h103_1,h103_2,h103_3,h103_4⟩=>?_
  subst hq103
  subst hv103
  refine qT (k:=.cells 111 [Ci a101.number,c103_0,c103_1,c103_2,c103_3,c103_4]) (w:=fun b=>.c (.sl b 0 1 6)) rfl F rfl (fun _=>rfl) (fun st hst=>?_) (fun b104 hT104=>?_)
  ·simp only [eE,uZ,AS.ev,hst 103 (by simp [jM.sl,Od.sls,Od.sl])];rfl
  refine K9 (i:=⟨_,_,.app _ _ _ _ _ _⟩) O F O O O O ?_
  refine uQ O O mem0 O (fun _=>(D5 P3)) (by omega) (by omega) fun w105 hw105=>?_
  have cl105:CL 6 Ak z103 _ ((x.years.take i2)++[a101]):=CL.append (hcl2.mono (zJ z103)) (CL.one rfl (Ou h103_0 h103_1 h103_2 h103_3 h103_4))
  refine lN (gP O O F (R0 2 O (gS O O O ?_)))
  refine mG (cs':=[Cs x.name,Cs x.parent,w0,Cb x.threshold.n,c14_0,Cb x.threshold.d,c14_1,Cb x.cap.n,c17_0,Cb x.cap.d,c17_1,Ci x.back,Ci x.forward,Cb x.interest.n,c24_0,Cb x.interest.d,c24_1,Cb x.floor.n,c27_0,Cb x.floor.d,c27_1,Ci x.keep,w1,w35,w105]) O O O (D5 (D5 P3)) (by kernel_rfl) O (aU O) ?_
  refine lN (mQ (dN (xG (lM O (lB O O (uF (r:=((i2+1:Nat):Int)) (wR (by omega))) (R0 3 O ?_))))))
  exact lQ (by omega) ⟨i2+1,_,_,_,_,[_],rfl,hzl2.trans zI,(jN rfl (jN rfl (jN rfl (jN rfl Et)))),rfl,by omega,(by rw [← Gf ha101];exact cl105),hw105⟩
 have hp93:=sH iN hc93
 refine dK (nQ (dN (xR (mK (v:=.agg [Cs x.name,Cs x.parent,w0,Cb x.threshold.n,c14_0,Cb x.threshold.d,c14_1,Cb x.cap.n,c17_0,Cb x.cap.d,c17_1,Ci x.back,Ci x.forward,Cb x.interest.n,c24_0,Cb x.interest.d,c24_1,Cb x.floor.n,c27_0,Cb x.floor.d,c27_1,Ci x.keep,w1,w35,w2]) O Y4 (aU O) O ?_))))
 refine mG (cs':=[Cs x.name,Cs x.parent,w0,Cb x.threshold.n,c14_0,Cb x.threshold.d,c14_1,Cb x.cap.n,c17_0,Cb x.cap.d,c17_1,Ci x.back,Ci x.forward,Cb x.interest.n,c24_0,Cb x.interest.d,c24_1,Cb x.floor.n,c27_0,Cb x.floor.d,c27_1,Ci x.keep,w1,w35,w2]) O O O (D5 (D5 P3)) (by kernel_rfl) O (aU O) ?_
 refine lN ?_
 refine N7 (p:=[]) O (hcl0.mono (hzl1.trans hzl2)) (by rw [List.length_take];omega) (by omega) fun zfr08 _ hszfr08=>?_
 rw [nC (l:=x.brackets) (by omega)] at hszfr08
 refine N7 (p:=[]) O (hcl1.mono (hzl2.trans zI)) (by rw [List.length_take];omega) (by omega) fun zfr19 _ hszfr19=>?_
 rw [nC (l:=x.classes) (by omega)] at hszfr19
 refine N7 (p:=[]) O (cl35.mono (hzl0.trans (hzl1.trans (hzl2.trans zI)))) (by simp) (by omega) fun zfr210 _ hszfr210=>?_
 refine N7 (p:=[]) O (hcl2.mono (zJ zfr210)) (by rw [List.length_take];omega) (by omega) fun zfr311 _ hszfr311=>?_
 rw [nC (l:=x.years) (by omega)] at hszfr311
 refine xT (rQ (.inl O) (rc O Y1 (aU O) O rn) ?_)
 exact ⟨_,rfl,Ju hszfr08.m (h14_0.mono (hz17.trans (hz24.trans (hz27.trans (hzl0.trans (hzl1.trans (hzl2.trans zI))))))) (h14_1.mono (hz17.trans (hz24.trans (hz27.trans (hzl0.trans (hzl1.trans (hzl2.trans zI))))))) (h17_0.mono (hz24.trans (hz27.trans (hzl0.trans (hzl1.trans (hzl2.trans zI)))))) (h17_1.mono (hz24.trans (hz27.trans (hzl0.trans (hzl1.trans (hzl2.trans zI)))))) (h24_0.mono (hz27.trans (hzl0.trans (hzl1.trans (hzl2.trans zI))))) (h24_1.mono (hz27.trans (hzl0.trans (hzl1.trans (hzl2.trans zI))))) (h27_0.mono (hzl0.trans (hzl1.trans (hzl2.trans zI)))) (h27_1.mono (hzl0.trans (hzl1.trans (hzl2.trans zI)))) hszfr19.m hszfr210.m hszfr311⟩
end Go.Proofs.YtcnpoojdochapaaGreatDoor

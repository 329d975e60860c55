/- The reference's limits. -/
import Derived.WalkKit
import Derived.Orders
import Derived.Test.YtcnpoojdochapaaGreatDoorRD7
set_option linter.unusedVariables false
set_option linter.unusedSimpArgs false
set_option maxRecDepth 100000
set_option maxHeartbeats 1000000
namespace Go.Proofs.YtcnpoojdochapaaGreatDoor
open Go.CE Go.RowKit Go.Num
open Go.Eng (oH)
theorem Ko {k:Nat} (hk:1≤k) {z:dE} {s:ByteArray} (h:Sn s):FC (E k) 10 [.c (Cs s)] z fun v _=>v=Ab (sP s):=aTj (l:=s.data.toList) hk h
theorem Bg {k:Nat} (hk:12≤k) {z:dE} {a:yR} {c d:C} (hx:CZ 1 RW z c a.nm) (hy:CZ 1 RW z d a.dm) (h:Sk a):FC (E k) 12 [.agg (kR a c d)] z fun v _=>v=Ab (nP (kD a)):=aSQ hk hx hy h.1 h.2
theorem P8 {k:Nat} (hk:12≤k) {z:dE} {a:yR} {c d:C} (hx:CZ 1 RW z c a.nm) (hy:CZ 1 RW z d a.dm) (h:Sk a):FC (E k) 14 [.agg (kR a c d)] z fun v _=>v=Ab (fV (kD a)):=aST hk hx hy h.1 h.2
theorem aUj {k:Nat} (hk:13≤k) {z:dE} {a:V7} {c0 c1:C} (g0:CZ 1 RW z c0 a.arg.nm) (g1:CZ 1 RW z c1 a.arg.dm) (hS:Pv a):FC (E k) 127 [.agg [Cs a.name,Cu a.kind,Cb a.arg.n,c0,Cb a.arg.d,c1]] z fun v _=>v=Ab (oW a):=by
 refine cX (bCn) (by omega) (aU O) fun B j hj=>?_
 refine xR ?_
 refine iJ O fun b1=>?_
 refine R2 16 O (bQ O mem0 O ?_)
 refine lE z (Ko (by omega) hS.1) O O fun z5 hz5=>?_
 refine R1 4 O ?_
 refine jI 7 O (fun hg7=>?_) (fun hg7=>?_)
 ·refine R3 16400 O (mN ?_)
  exact rI O (cQ (by (try simp only [sub_le,zQ,Jr] at *);first | (simp_all [oW,zG]<;>omega) | (rw [oW,if_neg (by omega),if_neg (by omega),if_neg (by omega)];simp_all<;>omega)))
 refine lD O (lF O (lD O (bQ O mem0 O (R1 12 O ?_))))
 refine iW 12 O (fun hg12=>?_) (fun hg12=>?_)
 ·refine R3 512 O (mN ?_)
  exact rI O (cQ (by (try simp only [sub_le,zQ,Jr] at *);first | (simp_all [oW,zG]<;>omega) | (rw [oW,if_neg (by omega),if_neg (by omega),if_neg (by omega)];simp_all<;>omega)))
 refine lD O (lF O (lD O (bQ O mem0 O (R3 8 O ?_))))
 refine xD O (fun hc16=>?_) (fun hc16=>?_)
 ·refine R5 8 O (mN ?_)
  exact rI O (cQ (by (try simp only [sub_le,zQ,Jr] at *);first | (simp_all [oW,zG]<;>omega) | (rw [oW,if_neg (by omega),if_neg (by omega),if_neg (by omega)];simp_all<;>omega)))
 refine R4 16 O (bQ O mem0 O (lN ?_))
 refine aT (aQ ?_)
 refine R5 8 O ?_
 refine xD O (fun hc19=>?_) (fun hc19=>?_)
 ·refine R4 4 O (kJ O mem0 O ?_)
  refine lE z5 (P8 (a:=a.arg) (by omega) g0.m g1.m hS.2) O O fun z23 _=>?_
  refine R0 3 O (xT (lS ?_))
  exact rI O (cQ (by (try simp only [sub_le,zQ,Jr] at *);first | (simp_all [oW,zG]<;>omega) | (rw [oW,if_neg (by omega),if_neg (by omega),if_neg (by omega)];simp_all<;>omega)))
 refine R5 8 O ?_
 refine xD O (fun hc24=>?_) (fun hc24=>?_)
 ·refine R4 4 O (kJ O mem0 O ?_)
  refine lE z5 (Bg (a:=a.arg) (by omega) g0.m g1.m hS.2) O O fun z28 _=>?_
  refine R0 3 O (xT (lS ?_))
  exact rI O (cQ (by (try simp only [sub_le,zQ,Jr] at *);first | (simp_all [oW,zG]<;>omega) | (rw [oW,if_neg (by omega),if_neg (by omega),if_neg (by omega)];simp_all<;>omega)))
 refine R5 8 O ?_
 refine xD O (fun hc29=>?_) (fun hc29=>?_)
 ·refine gX (G1 2 O (Qr O O Ht O ?_))
  refine gE z5 (aAU (m:=1) (by omega) g0.m g1.m hS.2.1 hS.2.2 (by decide)) O O O O fun z33 hz33=>?_
  refine G1 3 O ?_
  refine Np 34 O (fun hg34=>?_) (fun hg34=>?_)
  ·refine G1 2 O (Qr O O Ht O ?_)
   refine gE z33 (Tz (by omega) g0.m g1.m (Nat.le_trans hS.2.1 (show 1000≤40000000 by decide)) (Nat.le_trans hS.2.2 (show 1000≤40000000 by decide))) O O O O fun z37 hz37=>?_
   refine G1 12 O ?_
   refine uW 40 O (fun hg40=>?_) (fun hg40=>?_)
   ·refine G1 2 O (Qr O O Ht O ?_)
    refine gC z37 (aAC (n:=40) (by omega) (by decide) (by decide)) O O O O fun v43 z43 _ hv43=>?_
    have hv43:=vR hv43
    obtain ⟨c43,d43,hv,hm43,hn43⟩:=hv43
    subst hv
    have hm43:=hm43.mono (zA (hz5.trans (hz33.trans hz37)))
    have hn43:=hn43.mono (zA (hz5.trans (hz33.trans hz37)))
    refine gC z43 (Z6 (by omega) g0.m g1.m (Nat.le_trans hS.2.1 (show 1000≤19000000 by decide)) (Nat.le_trans hS.2.2 (show 1000≤19000000 by decide)) (hm43.mono gU) (hn43.mono gU) (Nat.le_trans bE6 (by decide)) (Nat.le_trans bEo (by decide))) O O O O fun v44 z44 _ hv44=>?_
    rw [Jm] at hv44
    subst hv44
    refine G0 12 O (xT (lS ?_))
    exact rI O (cQ (by (try simp only [sub_le,zQ,Jr] at *);first | (simp_all [oW,zG]<;>omega) | (rw [oW,if_neg (by omega),if_neg (by omega),if_neg (by omega)];simp_all<;>omega)))
   refine G0 192 O (xT (lS ?_))
   exact rI O (cQ (by (try simp only [sub_le,zQ,Jr] at *);first | (simp_all [oW,zG]<;>omega) | (rw [oW,if_neg (by omega),if_neg (by omega),if_neg (by omega)];simp_all<;>omega)))
  refine G0 12320 O (xT (lS ?_))
  exact rI O (cQ (by (try simp only [sub_le,zQ,Jr] at *);first | (simp_all [oW,zG]<;>omega) | (rw [oW,if_neg (by omega),if_neg (by omega),if_neg (by omega)];simp_all<;>omega)))
 refine iF (dN (R4 4 O (kJ O mem0 O ?_)))
 refine lE z5 (O0 (by omega) g0.m g1.m (Nat.le_trans hS.2.1 (show 1000≤40000000 by decide)) (Nat.le_trans hS.2.2 (show 1000≤40000000 by decide))) O O fun z49 _=>?_
 refine lM O ?_
 refine jI 50 O (fun hg50=>?_) (fun hg50=>?_)
 ·refine lD O (lF O (lD O (kJ O mem0 O (lD O ?_))))
  refine lE z49 (Tz (by omega) g0.m g1.m (Nat.le_trans hS.2.1 (show 1000≤40000000 by decide)) (Nat.le_trans hS.2.2 (show 1000≤40000000 by decide))) O O fun z53 _=>?_
  refine R0 12 O (xT ?_)
  exact rI O (cQ (by (try simp only [sub_le,zQ,Jr] at *);first | (simp_all [oW,zG]<;>omega) | (rw [oW,if_neg (by omega),if_neg (by omega),if_neg (by omega)];simp_all<;>omega)))
 refine R0 96 O (xT ?_)
 exact rI O (cQ (by (try simp only [sub_le,zQ,Jr] at *);first | (simp_all [oW,zG]<;>omega) | (rw [oW,if_neg (by omega),if_neg (by omega),if_neg (by omega)];simp_all<;>omega)))
open Go.CE Go.RowKit Go.Num
open Go.Eng (oH)
theorem aWW {k:Nat} (hk:14≤k) {z:dE} {x:kM} {c0 c1 c2 c3 c4 c5 c6 c7 c8 c9 c10 c11:C} (g0:CZ 8 pS z c0 x.brackets) (g1:CZ 1 RW z c1 x.threshold.nm) (g2:CZ 1 RW z c2 x.threshold.dm) (g3:CZ 1 RW z c3 x.cap.nm) (g4:CZ 1 RW z c4 x.cap.dm) (g5:CZ 1 RW z c5 x.interest.nm) (g6:CZ 1 RW z c6 x.interest.dm) (g7:CZ 1 RW z c7 x.floor.nm) (g8:CZ 1 RW z c8 x.floor.dm) (g9:CZ 6 xP z c9 x.classes) (g10:CZ 1 RS z c10 x.entities) (g11:CZ 6 Ak z c11 x.years) (hS:SkF x) {i:Nat} (hlt:i<x.brackets.length):FC (E k) 65 [.agg (kF x c0 c1 c2 c3 c4 c5 c6 c7 c8 c9 c10 c11),Ai 2,Az i] z fun v _=>v=Ab (Ar x.brackets[i]):=by
 have hk_:=hS.brackets _ (List.getElem_mem hlt)
 refine cX (aLz) (by omega) (aU O) fun B j hj=>?_
 refine xR ?_
 refine iJ O fun b3=>?_
 refine R3 16 O ?_
 refine aT (aQ ?_)
 refine R5 8 O ?_
 refine xD O (fun hc8=>?_) (fun hc8=>?_)
 ·refine R4 4 O (bQ O mem0 O (lC O ?_))
  refine dH O O g0 i O _ (List.getElem?_eq_getElem hlt) fun b13 p13 cs at13 hR=>?_
  obtain ⟨c13_0,c13_1,c13_2,c13_3,hcs,q13_0,q13_1,q13_2,q13_3⟩:=hR
  subst hcs
  refine lF O ?_
  refine oP (off:=0) (v:=.agg [Cb x.brackets[i].frm.n,c13_0,Cb x.brackets[i].frm.d,c13_1]) O at13 O (by simp) O ?_
  refine lE z (Bg (a:=x.brackets[i].frm) (by omega) q13_0 q13_1 hk_.1) O O fun z16 _=>?_
  refine lM O ?_
  refine jI 17 O (fun hg17=>?_) (fun hg17=>?_)
  ·refine lD O (lF O (lD O (bQ O mem0 O (lD O (lC O (lD O ?_))))))
   refine dH (zz:=z16) O O g0.m i O _ (List.getElem?_eq_getElem hlt) fun b21 p21 cs at21 hR=>?_
   obtain ⟨c21_0,c21_1,c21_2,c21_3,hcs,q21_0,q21_1,q21_2,q21_3⟩:=hR
   subst hcs
   refine lD O (lF O (lD O ?_))
   refine oP (off:=4) (v:=.agg [Cb x.brackets[i].rate.n,c21_2,Cb x.brackets[i].rate.d,c21_3]) O at21 O (by simp) O ?_
   refine lD O ?_
   refine lE z16 (P8 (a:=x.brackets[i].rate) (by omega) q21_2 q21_3 hk_.2) O O fun z24 _=>?_
   refine R0 6 O (xT (lS ?_))
   exact rI O (cQ (by simp_all [Ar]<;>omega))
  refine R0 768 O (xT (lS ?_))
  exact rI O (cQ (by simp_all [Ar]<;>omega))
 exact absurd rfl hc8
theorem bAO {k:Nat} (hk:14≤k) {z:dE} {x:kM} {c0 c1 c2 c3 c4 c5 c6 c7 c8 c9 c10 c11:C} (g0:CZ 8 pS z c0 x.brackets) (g1:CZ 1 RW z c1 x.threshold.nm) (g2:CZ 1 RW z c2 x.threshold.dm) (g3:CZ 1 RW z c3 x.cap.nm) (g4:CZ 1 RW z c4 x.cap.dm) (g5:CZ 1 RW z c5 x.interest.nm) (g6:CZ 1 RW z c6 x.interest.dm) (g7:CZ 1 RW z c7 x.floor.nm) (g8:CZ 1 RW z c8 x.floor.dm) (g9:CZ 6 xP z c9 x.classes) (g10:CZ 1 RS z c10 x.entities) (g11:CZ 6 Ak z c11 x.years) (hS:SkF x) {i:Nat} (hlt:i<x.classes.length):FC (E k) 65 [.agg (kF x c0 c1 c2 c3 c4 c5 c6 c7 c8 c9 c10 c11),Ai 4,Az i] z fun v _=>v=Ab (oW x.classes[i]):=by
 have hk_:=hS.classes _ (List.getElem_mem hlt)
 refine cX (aLz) (by omega) (aU O) fun B j hj=>?_
 refine xR ?_
 refine iJ O fun b3=>?_
 refine R3 16 O ?_
 refine aT (aQ ?_)
 refine R5 8 O ?_
 refine xD O (fun hc8=>?_) (fun hc8=>?_)
 ·exact absurd hc8 (by decide)
 refine R5 8 O ?_
 refine xD O (fun hc26=>?_) (fun hc26=>?_)
 ·refine R4 4 O (bQ O mem0 O (lC O ?_))
  refine dH O O g9 i O _ (List.getElem?_eq_getElem hlt) fun b31 p31 cs at31 hR=>?_
  obtain ⟨c31_0,c31_1,hcs,q31_0,q31_1⟩:=hR
  subst hcs
  refine oP (off:=0) (v:=.agg [Cs x.classes[i].name,Cu x.classes[i].kind,Cb x.classes[i].arg.n,c31_0,Cb x.classes[i].arg.d,c31_1]) O at31 O (by simp) O ?_
  refine lE z (aUj (a:=x.classes[i]) (by omega) q31_0 q31_1 hk_) O O fun z33 _=>?_
  refine R0 3 O (xT (lS ?_))
  exact rI O (cQ (by simp_all [oW]<;>omega))
 exact absurd rfl hc26
theorem bKr {k:Nat} (hk:14≤k) {z:dE} {x:kM} {c0 c1 c2 c3 c4 c5 c6 c7 c8 c9 c10 c11:C} (g0:CZ 8 pS z c0 x.brackets) (g1:CZ 1 RW z c1 x.threshold.nm) (g2:CZ 1 RW z c2 x.threshold.dm) (g3:CZ 1 RW z c3 x.cap.nm) (g4:CZ 1 RW z c4 x.cap.dm) (g5:CZ 1 RW z c5 x.interest.nm) (g6:CZ 1 RW z c6 x.interest.dm) (g7:CZ 1 RW z c7 x.floor.nm) (g8:CZ 1 RW z c8 x.floor.dm) (g9:CZ 6 xP z c9 x.classes) (g10:CZ 1 RS z c10 x.entities) (g11:CZ 6 Ak z c11 x.years) (hS:SkF x) {i:Nat} (hlt:i<x.entities.length):FC (E k) 65 [.agg (kF x c0 c1 c2 c3 c4 c5 c6 c7 c8 c9 c10 c11),Ai 5,Az i] z fun v _=>v=Ab (sP x.entities[i]):=by
 have hk_:=hS.entities _ (List.getElem_mem hlt)
 refine cX (aLz) (by omega) (aU O) fun B j hj=>?_
 refine xR ?_
 refine iJ O fun b3=>?_
 refine R3 16 O ?_
 refine aT (aQ ?_)
 refine R5 8 O ?_
 refine xD O (fun hc8=>?_) (fun hc8=>?_)
 ·exact absurd hc8 (by decide)
 refine R5 8 O ?_
 refine xD O (fun hc26=>?_) (fun hc26=>?_)
 ·exact absurd hc26 (by decide)
 refine R5 8 O ?_
 refine xD O (fun hc34=>?_) (fun hc34=>?_)
 ·refine R4 4 O (bQ O mem0 O (lC O ?_))
  refine dH O O g10 i O _ (List.getElem?_eq_getElem hlt) fun b39 p39 cs at39 hR=>?_
  obtain rfl:=hR
  refine oP (off:=0) (v:=.c (Cs x.entities[i])) O at39 O (by simp) O ?_
  refine lE z (Ko (by omega) hk_) O O fun z41 _=>?_
  refine R0 3 O (xT (lS ?_))
  exact rI O (cQ (by simp_all [sP]<;>omega))
 exact absurd rfl hc34
theorem bHs {k:Nat} (hk:14≤k) {z:dE} {x:kM} {c0 c1 c2 c3 c4 c5 c6 c7 c8 c9 c10 c11:C} (g0:CZ 8 pS z c0 x.brackets) (g1:CZ 1 RW z c1 x.threshold.nm) (g2:CZ 1 RW z c2 x.threshold.dm) (g3:CZ 1 RW z c3 x.cap.nm) (g4:CZ 1 RW z c4 x.cap.dm) (g5:CZ 1 RW z c5 x.interest.nm) (g6:CZ 1 RW z c6 x.interest.dm) (g7:CZ 1 RW z c7 x.floor.nm) (g8:CZ 1 RW z c8 x.floor.dm) (g9:CZ 6 xP z c9 x.classes) (g10:CZ 1 RS z c10 x.entities) (g11:CZ 6 Ak z c11 x.years) (hS:SkF x) {i:Nat} (hlt:i<x.years.length):FC (E k) 65 [.agg (kF x c0 c1 c2 c3 c4 c5 c6 c7 c8 c9 c10 c11),Ai 6,Az i] z fun v _=>v=Ab (aFN x.years[i]):=by
 refine cX (aLz) (by omega) (aU O) fun B j hj=>?_
 refine xR ?_
 refine iJ O fun b3=>?_
 refine R3 16 O ?_
 refine aT (aQ ?_)
 refine R5 8 O ?_
 refine xD O (fun hc8=>?_) (fun hc8=>?_)
 ·exact absurd hc8 (by decide)
 refine R5 8 O ?_
 refine xD O (fun hc26=>?_) (fun hc26=>?_)
 ·exact absurd hc26 (by decide)
 refine R5 8 O ?_
 refine xD O (fun hc34=>?_) (fun hc34=>?_)
 ·exact absurd hc34 (by decide)
 refine iF (dN (R4 4 O (bQ O mem0 O (lC O ?_))))
 refine dH O O g11 i O _ (List.getElem?_eq_getElem hlt) fun b45 p45 cs at45 hR=>?_
 obtain ⟨c45_0,c45_1,c45_2,c45_3,c45_4,hcs,q45_0,q45_1,q45_2,q45_3,q45_4⟩:=hR
 subst hcs
 refine lF O ?_
 refine oP (off:=0) (v:=Ai x.years[i].number) O at45 O (by simp) O ?_
 refine R1 4 O ?_
 refine iW 49 O (fun hg49=>?_) (fun hg49=>?_)
 ·refine lD O (lF O (lD O (bQ O mem0 O (lD O (lC O (lD O ?_))))))
  refine dH O O g11 i O _ (List.getElem?_eq_getElem hlt) fun b53 p53 cs at53 hR=>?_
  obtain ⟨c53_0,c53_1,c53_2,c53_3,c53_4,hcs,q53_0,q53_1,q53_2,q53_3,q53_4⟩:=hR
  subst hcs
  refine lD O (lF O (lD O ?_))
  refine oP (off:=0) (v:=Ai x.years[i].number) O at53 O (by simp) O ?_
  refine R0 12 O (xT ?_)
  exact rI O (cQ (by simp_all [aFN]<;>omega))
 refine R0 768 O (xT ?_)
 exact rI O (cQ (by simp_all [aFN]<;>omega))
open Go.CE Go.RowKit Go.Num
open Go.Eng (oH)
theorem bDa {k:Nat} (hk:13≤k) {z:dE} {x:tI} {c0 c1 c2 c3 c4:C} (g0:CZ 6 Hh z c0 x.holds) (g1:CZ 6 Hi z c1 x.books) (g2:CZ 10 Ez z c2 x.deals) (g3:CZ 9 Bm z c3 x.stocks) (g4:CZ 5 Ik z c4 x.solds) (hS:SkY x) {i:Nat} (hlt:i<x.holds.length):FC (E k) 66 [.agg [Ci x.number,c0,c1,c2,c3,c4],Ai 7,Az i] z fun v _=>v=Ab (Lr x.holds[i]):=by
 have hk_:=hS.1 _ (List.getElem_mem hlt)
 refine cX (aFP) (by omega) (aU O) fun B j hj=>?_
 refine xR ?_
 refine iJ O fun b3=>?_
 refine R3 16 O ?_
 refine aT (aQ ?_)
 refine R5 8 O ?_
 refine xD O (fun hc9=>?_) (fun hc9=>?_)
 ·refine R4 4 O (bQ O mem0 O (lC O ?_))
  refine dH O O g0 i O _ (List.getElem?_eq_getElem hlt) fun b14 p14 cs at14 hR=>?_
  obtain ⟨c14_0,c14_1,hcs,q14_0,q14_1⟩:=hR
  subst hcs
  refine lF O ?_
  refine oP (off:=0) (v:=.c (Cs x.holds[i].owner)) O at14 O (by simp) O ?_
  refine lE z (Ko (by omega) hk_.1) O O fun z17 _=>?_
  refine lM O ?_
  refine jI 18 O (fun hg18=>?_) (fun hg18=>?_)
  ·refine lD O (lF O (lD O (bQ O mem0 O (lD O (lC O (lD O ?_))))))
   refine dH (zz:=z17) O O g0.m i O _ (List.getElem?_eq_getElem hlt) fun b22 p22 cs at22 hR=>?_
   obtain ⟨c22_0,c22_1,hcs,q22_0,q22_1⟩:=hR
   subst hcs
   refine lD O (lF O (lD O ?_))
   refine oP (off:=1) (v:=.c (Cs x.holds[i].owned)) O at22 O (by simp) O ?_
   refine lD O ?_
   refine lE z17 (Ko (by omega) hk_.2.1) O O fun z25 _=>?_
   refine R1 6 O ?_
   refine jI 27 O (fun hg27=>?_) (fun hg27=>?_)
   ·refine lD O (lF O (lD O (bQ O mem0 O (lD O (lC O (lD O ?_))))))
    refine dH (zz:=z25) O O g0.m i O _ (List.getElem?_eq_getElem hlt) fun b31 p31 cs at31 hR=>?_
    obtain ⟨c31_0,c31_1,hcs,q31_0,q31_1⟩:=hR
    subst hcs
    refine lD O (lF O (lD O ?_))
    refine oP (off:=2) (v:=.agg [Cb x.holds[i].share.n,c31_0,Cb x.holds[i].share.d,c31_1]) O at31 O (by simp) O ?_
    refine lD O ?_
    refine lE z25 (P8 (a:=x.holds[i].share) (by omega) q31_0 q31_1 hk_.2.2) O O fun z34 _=>?_
    refine R0 6 O (xT (lS ?_))
    exact rI O (cQ (by simp_all [Lr]<;>omega))
   refine R0 768 O (xT (lS ?_))
   exact rI O (cQ (by simp_all [Lr]<;>omega))
  refine R0 393472 O (xT (lS ?_))
  exact rI O (cQ (by simp_all [Lr]<;>omega))
 exact absurd rfl hc9
theorem bAU {k:Nat} (hk:13≤k) {z:dE} {x:tI} {c0 c1 c2 c3 c4:C} (g0:CZ 6 Hh z c0 x.holds) (g1:CZ 6 Hi z c1 x.books) (g2:CZ 10 Ez z c2 x.deals) (g3:CZ 9 Bm z c3 x.stocks) (g4:CZ 5 Ik z c4 x.solds) (hS:SkY x) {i:Nat} (hlt:i<x.books.length):FC (E k) 66 [.agg [Ci x.number,c0,c1,c2,c3,c4],Ai 8,Az i] z fun v _=>v=Ab (Lu x.books[i]):=by
 have hk_:=hS.2.1 _ (List.getElem_mem hlt)
 refine cX (aFP) (by omega) (aU O) fun B j hj=>?_
 refine xR ?_
 refine iJ O fun b3=>?_
 refine R3 16 O ?_
 refine aT (aQ ?_)
 refine R5 8 O ?_
 refine xD O (fun hc9=>?_) (fun hc9=>?_)
 ·exact absurd hc9 (by decide)
 refine R5 8 O ?_
 refine xD O (fun hc36=>?_) (fun hc36=>?_)
 ·refine R4 4 O (bQ O mem0 O (lC O ?_))
  refine dH O O g1 i O _ (List.getElem?_eq_getElem hlt) fun b41 p41 cs at41 hR=>?_
  obtain ⟨c41_0,c41_1,hcs,q41_0,q41_1⟩:=hR
  subst hcs
  refine lF O ?_
  refine oP (off:=0) (v:=.c (Cs x.books[i].entity)) O at41 O (by simp) O ?_
  refine lE z (Ko (by omega) hk_.1) O O fun z44 _=>?_
  refine lM O ?_
  refine jI 45 O (fun hg45=>?_) (fun hg45=>?_)
  ·refine lD O (lF O (lD O (bQ O mem0 O (lD O (lC O (lD O ?_))))))
   refine dH (zz:=z44) O O g1.m i O _ (List.getElem?_eq_getElem hlt) fun b49 p49 cs at49 hR=>?_
   obtain ⟨c49_0,c49_1,hcs,q49_0,q49_1⟩:=hR
   subst hcs
   refine lD O (lF O (lD O ?_))
   refine oP (off:=1) (v:=.c (Cs x.books[i].cls)) O at49 O (by simp) O ?_
   refine lD O ?_
   refine lE z44 (Ko (by omega) hk_.2.1) O O fun z52 _=>?_
   refine R1 6 O ?_
   refine jI 54 O (fun hg54=>?_) (fun hg54=>?_)
   ·refine lD O (lF O (lD O (bQ O mem0 O (lD O (lC O (lD O ?_))))))
    refine dH (zz:=z52) O O g1.m i O _ (List.getElem?_eq_getElem hlt) fun b58 p58 cs at58 hR=>?_
    obtain ⟨c58_0,c58_1,hcs,q58_0,q58_1⟩:=hR
    subst hcs
    refine lD O (lF O (lD O ?_))
    refine oP (off:=2) (v:=.agg [Cb x.books[i].amount.n,c58_0,Cb x.books[i].amount.d,c58_1]) O at58 O (by simp) O ?_
    refine lD O ?_
    refine lE z52 (Bg (a:=x.books[i].amount) (by omega) q58_0 q58_1 hk_.2.2) O O fun z61 _=>?_
    refine R0 6 O (xT (lS ?_))
    exact rI O (cQ (by simp_all [Lu]<;>omega))
   refine R0 768 O (xT (lS ?_))
   exact rI O (cQ (by simp_all [Lu]<;>omega))
  refine R0 393472 O (xT (lS ?_))
  exact rI O (cQ (by simp_all [Lu]<;>omega))
 exact absurd rfl hc36
theorem bBY {k:Nat} (hk:13≤k) {z:dE} {x:tI} {c0 c1 c2 c3 c4:C} (g0:CZ 6 Hh z c0 x.holds) (g1:CZ 6 Hi z c1 x.books) (g2:CZ 10 Ez z c2 x.deals) (g3:CZ 9 Bm z c3 x.stocks) (g4:CZ 5 Ik z c4 x.solds) (hS:SkY x) {i:Nat} (hlt:i<x.deals.length):FC (E k) 66 [.agg [Ci x.number,c0,c1,c2,c3,c4],Ai 9,Az i] z fun v _=>v=Ab (Dm x.deals[i]):=by
 have hk_:=hS.2.2.1 _ (List.getElem_mem hlt)
 refine cX (aFP) (by omega) (aU O) fun B j hj=>?_
 refine xR ?_
 refine iJ O fun b3=>?_
 refine R3 16 O ?_
 refine aT (aQ ?_)
 refine R5 8 O ?_
 refine xD O (fun hc9=>?_) (fun hc9=>?_)
 ·exact absurd hc9 (by decide)
 refine R5 8 O ?_
 refine xD O (fun hc36=>?_) (fun hc36=>?_)
 ·exact absurd hc36 (by decide)
 refine R5 8 O ?_
 refine xD O (fun hc63=>?_) (fun hc63=>?_)
 ·refine R4 4 O (bQ O mem0 O (lC O ?_))
  refine dH O O g2 i O _ (List.getElem?_eq_getElem hlt) fun b68 p68 cs at68 hR=>?_
  obtain ⟨c68_0,c68_1,hcs,q68_0,q68_1⟩:=hR
  subst hcs
  refine oP (off:=0) (v:=.agg [Cb x.deals[i].give,Cs x.deals[i].id,Cu x.deals[i].kind,Cs x.deals[i].payee,Cs x.deals[i].payer,Cs x.deals[i].cls,Cb x.deals[i].amount.n,c68_0,Cb x.deals[i].amount.d,c68_1]) O at68 O (by simp) O ?_
  refine mR fun b7=>?_
  refine pM O O O O iP (lN (R4 4 O (bQ O mem0 O ?_)))
  refine lE z (Ko (by omega) hk_.1) O O fun z72 _=>?_
  refine lM O ?_
  refine jI 73 O (fun hg73=>?_) (fun hg73=>?_)
  ·refine lD O (lF O (lD O (bQ O mem0 O (R1 12 O ?_))))
   refine iW 78 O (fun hg78=>?_) (fun hg78=>?_)
   ·refine lD O (lF O (lD O (bQ O mem0 O (R1 12 O ?_))))
    refine iW 83 O (fun hg83=>?_) (fun hg83=>?_)
    ·refine lD O (lF O (lD O (bQ O mem0 O (lD O ?_))))
     refine lE z72 (Ko (by omega) hk_.2.1) O O fun z86 _=>?_
     refine R1 6 O ?_
     refine jI 88 O (fun hg88=>?_) (fun hg88=>?_)
     ·refine lD O (lF O (lD O (bQ O mem0 O (lD O ?_))))
      refine lE z86 (Ko (by omega) hk_.2.2.1) O O fun z91 _=>?_
      refine R1 6 O ?_
      refine jI 93 O (fun hg93=>?_) (fun hg93=>?_)
      ·refine lD O (lF O (lD O (bQ O mem0 O (lD O ?_))))
       refine lE z91 (Ko (by omega) hk_.2.2.2.1) O O fun z96 _=>?_
       refine R1 6 O ?_
       refine jI 98 O (fun hg98=>?_) (fun hg98=>?_)
       ·refine lD O (lF O (lD O (kJ O mem0 O (lD O ?_))))
        refine lE z96 (Bg (a:=x.deals[i].amount) (by omega) q68_0.m q68_1.m hk_.2.2.2.2) O O fun z101 _=>?_
        refine R0 6 O (xT (lS ?_))
        exact rI O (cQ (by simp_all [Dm]<;>omega))
       refine R0 48 O (xT (lS ?_))
       exact rI O (cQ (by simp_all [Dm]<;>omega))
      refine R0 1552 O (xT (lS ?_))
      exact rI O (cQ (by simp_all [Dm]<;>omega))
     refine R0 49680 O (xT (lS ?_))
     exact rI O (cQ (by simp_all [Dm]<;>omega))
    refine R0 1589776 O (xT (lS ?_))
    exact rI O (cQ (by simp_all [Dm]<;>omega))
   refine R0 50872848 O (xT (lS ?_))
   exact rI O (cQ (by simp_all [Dm]<;>omega))
  refine R0 1627931152 O (xT (lS ?_))
  exact rI O (cQ (by simp_all [Dm]<;>omega))
 exact absurd rfl hc63
theorem aZe {k:Nat} (hk:13≤k) {z:dE} {x:tI} {c0 c1 c2 c3 c4:C} (g0:CZ 6 Hh z c0 x.holds) (g1:CZ 6 Hi z c1 x.books) (g2:CZ 10 Ez z c2 x.deals) (g3:CZ 9 Bm z c3 x.stocks) (g4:CZ 5 Ik z c4 x.solds) (hS:SkY x) {i:Nat} (hlt:i<x.stocks.length):FC (E k) 66 [.agg [Ci x.number,c0,c1,c2,c3,c4],Ai 10,Az i] z fun v _=>v=Ab (Hw x.stocks[i]):=by
 have hk_:=hS.2.2.2.1 _ (List.getElem_mem hlt)
 refine cX (aFP) (by omega) (aU O) fun B j hj=>?_
 refine xR ?_
 refine iJ O fun b3=>?_
 refine R3 16 O ?_
 refine aT (aQ ?_)
 refine R5 8 O ?_
 refine xD O (fun hc9=>?_) (fun hc9=>?_)
 ·exact absurd hc9 (by decide)
 refine R5 8 O ?_
 refine xD O (fun hc36=>?_) (fun hc36=>?_)
 ·exact absurd hc36 (by decide)
 refine R5 8 O ?_
 refine xD O (fun hc63=>?_) (fun hc63=>?_)
 ·exact absurd hc63 (by decide)
 refine R5 8 O ?_
 refine xD O (fun hc103=>?_) (fun hc103=>?_)
 ·refine R4 4 O (bQ O mem0 O (lC O ?_))
  refine dH O O g3 i O _ (List.getElem?_eq_getElem hlt) fun b108 p108 cs at108 hR=>?_
  obtain ⟨c108_0,c108_1,c108_2,c108_3,hcs,q108_0,q108_1,q108_2,q108_3⟩:=hR
  subst hcs
  refine lF O ?_
  refine oP (off:=0) (v:=.c (Cs x.stocks[i].id)) O at108 O (by simp) O ?_
  refine lE z (Ko (by omega) hk_.1) O O fun z111 _=>?_
  refine lM O ?_
  refine jI 112 O (fun hg112=>?_) (fun hg112=>?_)
  ·refine lD O (lF O (lD O (bQ O mem0 O (lD O (lC O (lD O ?_))))))
   refine dH (zz:=z111) O O g3.m i O _ (List.getElem?_eq_getElem hlt) fun b116 p116 cs at116 hR=>?_
   obtain ⟨c116_0,c116_1,c116_2,c116_3,hcs,q116_0,q116_1,q116_2,q116_3⟩:=hR
   subst hcs
   refine lD O (lF O (lD O ?_))
   refine oP (off:=1) (v:=.agg [Cb x.stocks[i].margin.n,c116_0,Cb x.stocks[i].margin.d,c116_1]) O at116 O (by simp) O ?_
   refine lD O ?_
   refine lE z111 (Bg (a:=x.stocks[i].margin) (by omega) q116_0 q116_1 hk_.2.1) O O fun z119 _=>?_
   refine R1 6 O ?_
   refine jI 121 O (fun hg121=>?_) (fun hg121=>?_)
   ·refine lD O (lF O (lD O (bQ O mem0 O (lD O (lC O (lD O ?_))))))
    refine dH (zz:=z119) O O g3.m i O _ (List.getElem?_eq_getElem hlt) fun b125 p125 cs at125 hR=>?_
    obtain ⟨c125_0,c125_1,c125_2,c125_3,hcs,q125_0,q125_1,q125_2,q125_3⟩:=hR
    subst hcs
    refine lD O (lF O (lD O ?_))
    refine oP (off:=5) (v:=.agg [Cb x.stocks[i].unsold.n,c125_2,Cb x.stocks[i].unsold.d,c125_3]) O at125 O (by simp) O ?_
    refine lD O ?_
    refine lE z119 (P8 (a:=x.stocks[i].unsold) (by omega) q125_2 q125_3 hk_.2.2) O O fun z128 _=>?_
    refine R0 6 O (xT (lS ?_))
    exact rI O (cQ (by simp_all [Hw]<;>omega))
   refine R0 768 O (xT (lS ?_))
   exact rI O (cQ (by simp_all [Hw]<;>omega))
  refine R0 393472 O (xT (lS ?_))
  exact rI O (cQ (by simp_all [Hw]<;>omega))
 exact absurd rfl hc103
theorem bAV {k:Nat} (hk:13≤k) {z:dE} {x:tI} {c0 c1 c2 c3 c4:C} (g0:CZ 6 Hh z c0 x.holds) (g1:CZ 6 Hi z c1 x.books) (g2:CZ 10 Ez z c2 x.deals) (g3:CZ 9 Bm z c3 x.stocks) (g4:CZ 5 Ik z c4 x.solds) (hS:SkY x) {i:Nat} (hlt:i<x.solds.length):FC (E k) 66 [.agg [Ci x.number,c0,c1,c2,c3,c4],Ai 11,Az i] z fun v _=>v=Ab (Wc x.solds[i]):=by
 have hk_:=hS.2.2.2.2 _ (List.getElem_mem hlt)
 refine cX (aFP) (by omega) (aU O) fun B j hj=>?_
 refine xR ?_
 refine iJ O fun b3=>?_
 refine R3 16 O ?_
 refine aT (aQ ?_)
 refine R5 8 O ?_
 refine xD O (fun hc9=>?_) (fun hc9=>?_)
 ·exact absurd hc9 (by decide)
 refine R5 8 O ?_
 refine xD O (fun hc36=>?_) (fun hc36=>?_)
 ·exact absurd hc36 (by decide)
 refine R5 8 O ?_
 refine xD O (fun hc63=>?_) (fun hc63=>?_)
 ·exact absurd hc63 (by decide)
 refine R5 8 O ?_
 refine xD O (fun hc103=>?_) (fun hc103=>?_)
 ·exact absurd hc103 (by decide)
 refine iF (dN (R4 4 O (bQ O mem0 O (lC O ?_))))
 refine dH O O g4 i O _ (List.getElem?_eq_getElem hlt) fun b133 p133 cs at133 hR=>?_
 obtain ⟨c133_0,c133_1,hcs,q133_0,q133_1⟩:=hR
 subst hcs
 refine lF O ?_
 refine oP (off:=0) (v:=.c (Cs x.solds[i].id)) O at133 O (by simp) O ?_
 refine lE z (Ko (by omega) hk_.1) O O fun z136 _=>?_
 refine lM O ?_
 refine jI 137 O (fun hg137=>?_) (fun hg137=>?_)
 ·refine lD O (lF O (lD O (bQ O mem0 O (lD O (lC O (lD O ?_))))))
  refine dH (zz:=z136) O O g4.m i O _ (List.getElem?_eq_getElem hlt) fun b141 p141 cs at141 hR=>?_
  obtain ⟨c141_0,c141_1,hcs,q141_0,q141_1⟩:=hR
  subst hcs
  refine lD O (lF O (lD O ?_))
  refine oP (off:=1) (v:=.agg [Cb x.solds[i].share.n,c141_0,Cb x.solds[i].share.d,c141_1]) O at141 O (by simp) O ?_
  refine lD O ?_
  refine lE z136 (P8 (a:=x.solds[i].share) (by omega) q141_0 q141_1 hk_.2) O O fun z144 _=>?_
  refine R0 6 O (xT ?_)
  exact rI O (cQ (by simp_all [Wc]<;>omega))
 refine R0 768 O (xT ?_)
 exact rI O (cQ (by simp_all [Wc]<;>omega))
open Go.CE Go.RowKit Go.Num
open Go.Eng (oH)
theorem nbF {b:Bool} (h:(!b)=true):b=false:=by cases b<;>simp_all
theorem nbT {b:Bool} (h:(!b)=false):b=true:=by cases b<;>simp_all
def Q1 (l:List Bool):Nat:=(l.takeWhile id).length
theorem aUU {l:List Bool} {i:Nat} (h:∀ q,q<i→l[q]? = some true) (hi:i≤l.length):Q1 l=i+Q1 (l.drop i):=by
 induction i generalizing l with
 | zero=>rw [List.drop_zero,Nat.zero_add]
 | succ i ih =>
  cases l with
  | nil=>exact absurd hi (Nat.not_succ_le_zero i)
  | cons a l =>
   have h0:=h 0 (Nat.succ_pos i)
   have ha:a=true:=by simpa using h0
   subst ha
   have:=ih (l:=l) (fun q hq=>by have:=h (q+1) (by omega);simpa using this) (by simpa using hi)
   rw [List.drop_succ_cons,show Q1 (true::l)=Q1 l+1 by simp [Q1],this]
   omega
theorem bLb {l:List Bool} {i:Nat} (h:∀ q,q<i→l[q]? = some true) (hi:i<l.length) (hb:l[i]=false):Q1 l=i:=by
 rw [aUU h (Nat.le_of_lt hi),List.drop_eq_getElem_cons hi,hb]
 simp [Q1]
theorem bEb {l:List Bool} {i:Nat} (h:∀ q,q<i→l[q]? = some true) (hi:l.length≤i):Q1 l=l.length:=by
 have:=aUU (l:=l) (i:=l.length) (fun q hq=>h q (by omega)) (Nat.le_refl _)
 rw [this,List.drop_length];rfl
theorem bBs {l:List Bool} {i q:Nat} (h:∀ q,q<i→l[q]? = some true) (hi:i<l.length) (hb:l[i]=true) (hq:q<i+1):l[q]? = some true:=by
  rcases Nat.lt_or_ge q i with h1 | h1
  · exact h q h1
  · have : q = i := by omega
    subst this
    rw [List.getElem?_eq_getElem hi,hb]
theorem aD2 {k:Nat} (hk:13≤k) {z:dE} {x:kM} {c0 c1 c2 c3 c4 c5 c6 c7 c8 c9 c10 c11:C} (g0:CZ 8 pS z c0 x.brackets) (g1:CZ 1 RW z c1 x.threshold.nm) (g2:CZ 1 RW z c2 x.threshold.dm) (g3:CZ 1 RW z c3 x.cap.nm) (g4:CZ 1 RW z c4 x.cap.dm) (g5:CZ 1 RW z c5 x.interest.nm) (g6:CZ 1 RW z c6 x.interest.dm) (g7:CZ 1 RW z c7 x.floor.nm) (g8:CZ 1 RW z c8 x.floor.dm) (g9:CZ 6 xP z c9 x.classes) (g10:CZ 1 RS z c10 x.entities) (g11:CZ 6 Ak z c11 x.years) (hS:Sk x.threshold∧Sk x.cap∧Sk x.interest∧Sk x.floor):FC (E k) 64 [.agg (kF x c0 c1 c2 c3 c4 c5 c6 c7 c8 c9 c10 c11)] z fun v _=>v=Az (Q1 (D3 x)):=by
 refine cX (bIl) (by omega) (aU O) fun B j hj=>?_
 refine xR ?_
 refine iJ O fun b1=>?_
 refine R0 2 O ?_
 refine I7 (fun fs=>∃ (b:Nat) (zi:dE),LZ z zi [.blk b1 (.cells 47 (kF x c0 c1 c2 c3 c4 c5 c6 c7 c8 c9 c10 c11))] [(1,Ap b1),(3,Aw b 7)] fs∧(SZ 1 (RE Value.bool) zi (Aw b 7) (D3 x))) ?_ fun fs hJ=>?_
 ·refine Hj (G1 2 O (Qr O O Ht O ?_))
  refine gE z (P8 (a:=x.threshold) (by omega) g1 g2 hS.1) O O O O fun z7 _=>?_
  refine G1 2 O (Qr O O Ht O ?_)
  refine gE z7 (P8 (a:=x.cap) (by omega) g3.m g4.m hS.2.1) O O O O fun z10 _=>?_
  refine G1 2 O (Qr O O Ht O ?_)
  refine gE z10 (P8 (a:=x.interest) (by omega) g5.m g6.m hS.2.2.1) O O O O fun z13 _=>?_
  refine G1 2 O (wH O O Ht O (G1 4 O ?_))
  refine uW 17 O (fun hg17=>?_) (fun hg17=>?_)
  ·refine G1 2 O (wH O O Ht O (G1 8 O (wH O O Ht O (G1 4 O ?_))))
   refine uW 25 O (fun hg25=>?_) (fun hg25=>?_)
   ·refine G1 2 O (wH O O Ht O (G1 8 O (wH O O Ht O (G1 4 O ?_))))
    refine uW 33 O (fun hg33=>?_) (fun hg33=>?_)
    ·refine G1 2 O (wH O O Ht O (G1 8 O (Qr O O Ht O ?_)))
     refine gE z13 (Bg (a:=x.floor) (by omega) g7.m g8.m hS.2.2.2) O O O O fun z40 hz40=>?_
     refine qT (k:=.cells 4 (cE Value.bool [fV (kD x.threshold),fV (kD x.cap),fV (kD x.interest),decide (x.back≤3),decide (x.forward≤40),decide (x.keep≤40),nP (kD x.floor)])) (w:=fun b=>Aw b 7) rfl F rfl (fun _=>rfl) (fun st hst=>?_) (fun b41 hT41=>?_)
     ·simp only [eE,uZ,AS.ev,hst 7 (by simp [jM.sl,Od.sls,Od.sl]),hst 10 (by simp [jM.sl,Od.sls,Od.sl]),hst 13 (by simp [jM.sl,Od.sls,Od.sl]),hst 21 (by simp [jM.sl,Od.sls,Od.sl]),hst 29 (by simp [jM.sl,Od.sls,Od.sl]),hst 37 (by simp [jM.sl,Od.sls,Od.sl]),hst 40 (by simp [jM.sl,Od.sls,Od.sl])];rfl
     refine zW z40 (p:=[]) O O O (fun _ h=>h) fun zfg41 hzfg41 g41=>?_
     refine G1 2 O ?_
     have hrow:=Ls.sz (size:=1) (R:=RE Value.bool) (l:=[fV (kD x.threshold),fV (kD x.cap),fV (kD x.interest),decide (x.back≤3),decide (x.forward≤40),decide (x.keep≤40),nP (kD x.floor)]) rfl (Nat.le_of_ble_eq_true rfl) g41
     refine mQ ?_
     have hL:D3 x=[fV (kD x.threshold),fV (kD x.cap),fV (kD x.interest),decide (x.back≤3),decide (x.forward≤40),decide (x.keep≤40),nP (kD x.floor)]:=by simp [D3,hg17,hg25,hg33]
     exact dN ⟨b41,_,LZ.m [] O,(by rw [hL];exact hrow)⟩
    refine G1 32 O (Qr O O Ht O ?_)
    refine gE z13 (Bg (a:=x.floor) (by omega) g7.m g8.m hS.2.2.2) O O O O fun z40 hz40=>?_
    refine qT (k:=.cells 4 (cE Value.bool [fV (kD x.threshold),fV (kD x.cap),fV (kD x.interest),decide (x.back≤3),decide (x.forward≤40),false,nP (kD x.floor)])) (w:=fun b=>Aw b 7) rfl F rfl (fun _=>rfl) (fun st hst=>?_) (fun b41 hT41=>?_)
    ·simp only [eE,uZ,AS.ev,hst 7 (by simp [jM.sl,Od.sls,Od.sl]),hst 10 (by simp [jM.sl,Od.sls,Od.sl]),hst 13 (by simp [jM.sl,Od.sls,Od.sl]),hst 21 (by simp [jM.sl,Od.sls,Od.sl]),hst 29 (by simp [jM.sl,Od.sls,Od.sl]),hst 37 (by simp [jM.sl,Od.sls,Od.sl]),hst 40 (by simp [jM.sl,Od.sls,Od.sl])];rfl
    refine zW z40 (p:=[]) O O O (fun _ h=>h) fun zfg41 hzfg41 g41=>?_
    refine G1 2 O ?_
    have hrow:=Ls.sz (size:=1) (R:=RE Value.bool) (l:=[fV (kD x.threshold),fV (kD x.cap),fV (kD x.interest),decide (x.back≤3),decide (x.forward≤40),false,nP (kD x.floor)]) rfl (Nat.le_of_ble_eq_true rfl) g41
    refine mQ ?_
    have hL:D3 x=[fV (kD x.threshold),fV (kD x.cap),fV (kD x.interest),decide (x.back≤3),decide (x.forward≤40),false,nP (kD x.floor)]:=by simp [D3,hg17,hg25,hg33]
    exact dN ⟨b41,_,LZ.m [] O,(by rw [hL];exact hrow)⟩
   refine G1 32 O (wH O O Ht O (G1 4 O ?_))
   refine uW 33 O (fun hg33=>?_) (fun hg33=>?_)
   ·refine G1 2 O (wH O O Ht O (G1 8 O (Qr O O Ht O ?_)))
    refine gE z13 (Bg (a:=x.floor) (by omega) g7.m g8.m hS.2.2.2) O O O O fun z40 hz40=>?_
    refine qT (k:=.cells 4 (cE Value.bool [fV (kD x.threshold),fV (kD x.cap),fV (kD x.interest),decide (x.back≤3),false,decide (x.keep≤40),nP (kD x.floor)])) (w:=fun b=>Aw b 7) rfl F rfl (fun _=>rfl) (fun st hst=>?_) (fun b41 hT41=>?_)
    ·simp only [eE,uZ,AS.ev,hst 7 (by simp [jM.sl,Od.sls,Od.sl]),hst 10 (by simp [jM.sl,Od.sls,Od.sl]),hst 13 (by simp [jM.sl,Od.sls,Od.sl]),hst 21 (by simp [jM.sl,Od.sls,Od.sl]),hst 29 (by simp [jM.sl,Od.sls,Od.sl]),hst 37 (by simp [jM.sl,Od.sls,Od.sl]),hst 40 (by simp [jM.sl,Od.sls,Od.sl])];rfl
    refine zW z40 (p:=[]) O O O (fun _ h=>h) fun zfg41 hzfg41 g41=>?_
    refine G1 2 O ?_
    have hrow:=Ls.sz (size:=1) (R:=RE Value.bool) (l:=[fV (kD x.threshold),fV (kD x.cap),fV (kD x.interest),decide (x.back≤3),false,decide (x.keep≤40),nP (kD x.floor)]) rfl (Nat.le_of_ble_eq_true rfl) g41
    refine mQ ?_
    have hL:D3 x=[fV (kD x.threshold),fV (kD x.cap),fV (kD x.interest),decide (x.back≤3),false,decide (x.keep≤40),nP (kD x.floor)]:=by simp [D3,hg17,hg25,hg33]
    exact dN ⟨b41,_,LZ.m [] O,(by rw [hL];exact hrow)⟩
   refine G1 32 O (Qr O O Ht O ?_)
   refine gE z13 (Bg (a:=x.floor) (by omega) g7.m g8.m hS.2.2.2) O O O O fun z40 hz40=>?_
   refine qT (k:=.cells 4 (cE Value.bool [fV (kD x.threshold),fV (kD x.cap),fV (kD x.interest),decide (x.back≤3),false,false,nP (kD x.floor)])) (w:=fun b=>Aw b 7) rfl F rfl (fun _=>rfl) (fun st hst=>?_) (fun b41 hT41=>?_)
   ·simp only [eE,uZ,AS.ev,hst 7 (by simp [jM.sl,Od.sls,Od.sl]),hst 10 (by simp [jM.sl,Od.sls,Od.sl]),hst 13 (by simp [jM.sl,Od.sls,Od.sl]),hst 21 (by simp [jM.sl,Od.sls,Od.sl]),hst 29 (by simp [jM.sl,Od.sls,Od.sl]),hst 37 (by simp [jM.sl,Od.sls,Od.sl]),hst 40 (by simp [jM.sl,Od.sls,Od.sl])];rfl
   refine zW z40 (p:=[]) O O O (fun _ h=>h) fun zfg41 hzfg41 g41=>?_
   refine G1 2 O ?_
   have hrow:=Ls.sz (size:=1) (R:=RE Value.bool) (l:=[fV (kD x.threshold),fV (kD x.cap),fV (kD x.interest),decide (x.back≤3),false,false,nP (kD x.floor)]) rfl (Nat.le_of_ble_eq_true rfl) g41
   refine mQ ?_
   have hL:D3 x=[fV (kD x.threshold),fV (kD x.cap),fV (kD x.interest),decide (x.back≤3),false,false,nP (kD x.floor)]:=by simp [D3,hg17,hg25,hg33]
   exact dN ⟨b41,_,LZ.m [] O,(by rw [hL];exact hrow)⟩
  refine G1 32 O (wH O O Ht O (G1 4 O ?_))
  refine uW 25 O (fun hg25=>?_) (fun hg25=>?_)
  ·refine G1 2 O (wH O O Ht O (G1 8 O (wH O O Ht O (G1 4 O ?_))))
   refine uW 33 O (fun hg33=>?_) (fun hg33=>?_)
   ·refine G1 2 O (wH O O Ht O (G1 8 O (Qr O O Ht O ?_)))
    refine gE z13 (Bg (a:=x.floor) (by omega) g7.m g8.m hS.2.2.2) O O O O fun z40 hz40=>?_
    refine qT (k:=.cells 4 (cE Value.bool [fV (kD x.threshold),fV (kD x.cap),fV (kD x.interest),false,decide (x.forward≤40),decide (x.keep≤40),nP (kD x.floor)])) (w:=fun b=>Aw b 7) rfl F rfl (fun _=>rfl) (fun st hst=>?_) (fun b41 hT41=>?_)
    ·simp only [eE,uZ,AS.ev,hst 7 (by simp [jM.sl,Od.sls,Od.sl]),hst 10 (by simp [jM.sl,Od.sls,Od.sl]),hst 13 (by simp [jM.sl,Od.sls,Od.sl]),hst 21 (by simp [jM.sl,Od.sls,Od.sl]),hst 29 (by simp [jM.sl,Od.sls,Od.sl]),hst 37 (by simp [jM.sl,Od.sls,Od.sl]),hst 40 (by simp [jM.sl,Od.sls,Od.sl])];rfl
    refine zW z40 (p:=[]) O O O (fun _ h=>h) fun zfg41 hzfg41 g41=>?_
    refine G1 2 O ?_
    have hrow:=Ls.sz (size:=1) (R:=RE Value.bool) (l:=[fV (kD x.threshold),fV (kD x.cap),fV (kD x.interest),false,decide (x.forward≤40),decide (x.keep≤40),nP (kD x.floor)]) rfl (Nat.le_of_ble_eq_true rfl) g41
    refine mQ ?_
    have hL:D3 x=[fV (kD x.threshold),fV (kD x.cap),fV (kD x.interest),false,decide (x.forward≤40),decide (x.keep≤40),nP (kD x.floor)]:=by simp [D3,hg17,hg25,hg33]
    exact dN ⟨b41,_,LZ.m [] O,(by rw [hL];exact hrow)⟩
   refine G1 32 O (Qr O O Ht O ?_)
   refine gE z13 (Bg (a:=x.floor) (by omega) g7.m g8.m hS.2.2.2) O O O O fun z40 hz40=>?_
   refine qT (k:=.cells 4 (cE Value.bool [fV (kD x.threshold),fV (kD x.cap),fV (kD x.interest),false,decide (x.forward≤40),false,nP (kD x.floor)])) (w:=fun b=>Aw b 7) rfl F rfl (fun _=>rfl) (fun st hst=>?_) (fun b41 hT41=>?_)
   ·simp only [eE,uZ,AS.ev,hst 7 (by simp [jM.sl,Od.sls,Od.sl]),hst 10 (by simp [jM.sl,Od.sls,Od.sl]),hst 13 (by simp [jM.sl,Od.sls,Od.sl]),hst 21 (by simp [jM.sl,Od.sls,Od.sl]),hst 29 (by simp [jM.sl,Od.sls,Od.sl]),hst 37 (by simp [jM.sl,Od.sls,Od.sl]),hst 40 (by simp [jM.sl,Od.sls,Od.sl])];rfl
   refine zW z40 (p:=[]) O O O (fun _ h=>h) fun zfg41 hzfg41 g41=>?_
   refine G1 2 O ?_
   have hrow:=Ls.sz (size:=1) (R:=RE Value.bool) (l:=[fV (kD x.threshold),fV (kD x.cap),fV (kD x.interest),false,decide (x.forward≤40),false,nP (kD x.floor)]) rfl (Nat.le_of_ble_eq_true rfl) g41
   refine mQ ?_
   have hL:D3 x=[fV (kD x.threshold),fV (kD x.cap),fV (kD x.interest),false,decide (x.forward≤40),false,nP (kD x.floor)]:=by simp [D3,hg17,hg25,hg33]
   exact dN ⟨b41,_,LZ.m [] O,(by rw [hL];exact hrow)⟩
  refine G1 32 O (wH O O Ht O (G1 4 O ?_))
  refine uW 33 O (fun hg33=>?_) (fun hg33=>?_)
  ·refine G1 2 O (wH O O Ht O (G1 8 O (Qr O O Ht O ?_)))
   refine gE z13 (Bg (a:=x.floor) (by omega) g7.m g8.m hS.2.2.2) O O O O fun z40 hz40=>?_
   refine qT (k:=.cells 4 (cE Value.bool [fV (kD x.threshold),fV (kD x.cap),fV (kD x.interest),false,false,decide (x.keep≤40),nP (kD x.floor)])) (w:=fun b=>Aw b 7) rfl F rfl (fun _=>rfl) (fun st hst=>?_) (fun b41 hT41=>?_)
   ·simp only [eE,uZ,AS.ev,hst 7 (by simp [jM.sl,Od.sls,Od.sl]),hst 10 (by simp [jM.sl,Od.sls,Od.sl]),hst 13 (by simp [jM.sl,Od.sls,Od.sl]),hst 21 (by simp [jM.sl,Od.sls,Od.sl]),hst 29 (by simp [jM.sl,Od.sls,Od.sl]),hst 37 (by simp [jM.sl,Od.sls,Od.sl]),hst 40 (by simp [jM.sl,Od.sls,Od.sl])];rfl
   refine zW z40 (p:=[]) O O O (fun _ h=>h) fun zfg41 hzfg41 g41=>?_
   refine G1 2 O ?_
   have hrow:=Ls.sz (size:=1) (R:=RE Value.bool) (l:=[fV (kD x.threshold),fV (kD x.cap),fV (kD x.interest),false,false,decide (x.keep≤40),nP (kD x.floor)]) rfl (Nat.le_of_ble_eq_true rfl) g41
   refine mQ ?_
   have hL:D3 x=[fV (kD x.threshold),fV (kD x.cap),fV (kD x.interest),false,false,decide (x.keep≤40),nP (kD x.floor)]:=by simp [D3,hg17,hg25,hg33]
   exact dN ⟨b41,_,LZ.m [] O,(by rw [hL];exact hrow)⟩
  refine G1 32 O (Qr O O Ht O ?_)
  refine gE z13 (Bg (a:=x.floor) (by omega) g7.m g8.m hS.2.2.2) O O O O fun z40 hz40=>?_
  refine qT (k:=.cells 4 (cE Value.bool [fV (kD x.threshold),fV (kD x.cap),fV (kD x.interest),false,false,false,nP (kD x.floor)])) (w:=fun b=>Aw b 7) rfl F rfl (fun _=>rfl) (fun st hst=>?_) (fun b41 hT41=>?_)
  ·simp only [eE,uZ,AS.ev,hst 7 (by simp [jM.sl,Od.sls,Od.sl]),hst 10 (by simp [jM.sl,Od.sls,Od.sl]),hst 13 (by simp [jM.sl,Od.sls,Od.sl]),hst 21 (by simp [jM.sl,Od.sls,Od.sl]),hst 29 (by simp [jM.sl,Od.sls,Od.sl]),hst 37 (by simp [jM.sl,Od.sls,Od.sl]),hst 40 (by simp [jM.sl,Od.sls,Od.sl])];rfl
  refine zW z40 (p:=[]) O O O (fun _ h=>h) fun zfg41 hzfg41 g41=>?_
  refine G1 2 O ?_
  have hrow:=Ls.sz (size:=1) (R:=RE Value.bool) (l:=[fV (kD x.threshold),fV (kD x.cap),fV (kD x.interest),false,false,false,nP (kD x.floor)]) rfl (Nat.le_of_ble_eq_true rfl) g41
  refine mQ ?_
  have hL:D3 x=[fV (kD x.threshold),fV (kD x.cap),fV (kD x.interest),false,false,false,nP (kD x.floor)]:=by simp [D3,hg17,hg25,hg33]
  exact dN ⟨b41,_,LZ.m [] O,(by rw [hL];exact hrow)⟩
 obtain ⟨b,zi,hJd5,hrow⟩:=hJ
 refine hJd5.open fun e _=>?_
 refine R5 8 O ?_
 refine aT (aQ ?_)
 refine eA (fun n fs=>∃ (i:Nat),LI zi [.blk b1 (.cells 47 (kF x c0 c1 c2 c3 c4 c5 c6 c7 c8 c9 c10 c11))] [(1,Ap b1),(3,Aw b 7),(4,Az i)] fs∧n=7 - i∧(i≤7)∧(∀ q,q<i→(D3 x)[q]? = some true)) ?_ _ ⟨0,LI.m [] O,rfl,Nat.zero_le _,fun q hq=>absurd hq (Nat.not_lt_zero _)⟩ (kK (by omega))
 intro n fs ⟨i,hL0,hmz0,hi,hp⟩
 refine hL0.open fun e zl0 _=>?_
 refine R5 32 O ?_
 refine xD O (fun hc43=>?_) (fun hc43=>?_)
 ·refine dA ?_
  refine aT (aQ ?_)
  refine R4 8 O ?_
  refine dH (zz:=zl0) O O hrow.m i O _ (List.getElem?_eq_getElem (show i<(D3 x).length by show i<7;omega)) fun b48 p48 cs at48 hR=>?_
  obtain rfl:cs=_:=hR
  refine Z0 O at48 (R0 2 O ?_)
  refine iO O (fun hc50=>?_) (fun hc50=>?_)
  ·refine R5 8 O (xT (lS (B8 (lS ?_))))
   exact rI O (congrArg (fun q:Nat=>AV.c (Ci (q:Int))) (bLb (l:=D3 x) hp (show i<7 by omega) (nbF hc50)).symm)
  refine iF (dN (xG (lC O (lB O O (eP (n:=i+1) (by omega) (by omega)) (R0 2 O ?_)))))
  exact lQ (by omega) ⟨i+1,LI.m [] O,rfl,by omega,fun q hq=>bBs (l:=D3 x) hp (show i<7 by omega) (nbT hc50) hq⟩
 refine dK (nQ (dN (R5 4 O (xT ?_))))
 exact rI O (congrArg (fun q:Nat=>AV.c (Ci (q:Int))) (bEb (l:=D3 x) hp (show 7≤i by omega)).symm)
end Go.Proofs.YtcnpoojdochapaaGreatDoor

/- The methods that tell whether a part is right, and what is wrong, walked. -/
import Derived.WalkKit
import Derived.Orders
import Derived.Test.YtcnpoojdochapaaGreatDoorRC0
import Derived.Test.YtcnpoojdochapaaGreatDoorRD6
set_option linter.unusedVariables false
set_option linter.unusedSimpArgs false
set_option maxRecDepth 100000
set_option maxHeartbeats 1000000
namespace Go.Proofs.YtcnpoojdochapaaGreatDoor
open Go.CE Go.RowKit Go.Num
open Go.Eng (oH)
abbrev kD (a:yR):Ni:=((a.n,a.nm),(a.d,a.dm))
abbrev sP (s:ByteArray):Bool:=Jt s.data.toList
def Sk (a:yR):Prop:=a.nm.length≤1000∧a.dm.length≤1000
def Sn (s:ByteArray):Prop:=s.data.toList.length≤1000
def Jc (a:F3):Prop:=Sk a.frm∧Sk a.rate
def Ar (a:F3):Bool:=nP (kD a.frm) && fV (kD a.rate)
def Pv (a:V7):Prop:=Sn a.name∧Sk a.arg
def Ud (a:aEb):Prop:=Sn a.owner∧Sn a.owned∧Sk a.share
def Lr (a:aEb):Bool:=sP a.owner && (sP a.owned && fV (kD a.share))
def Tq (a:aD4):Prop:=Sn a.entity∧Sn a.cls∧Sk a.amount
def Lu (a:aD4):Bool:=sP a.entity && (sP a.cls && nP (kD a.amount))
def aAb (a:aF7):Prop:=Sn a.id∧Sn a.payee∧Sn a.payer∧Sn a.cls∧Sk a.amount
def Dm (a:aF7):Bool:=sP a.id && (decide (a.kind ≥ 1) && (decide (a.kind≤4) && (sP a.payee && (sP a.payer && (sP a.cls && nP (kD a.amount))))))
def Xb (a:aA9):Prop:=Sn a.id∧Sk a.margin∧Sk a.unsold
def Hw (a:aA9):Bool:=sP a.id && (nP (kD a.margin) && fV (kD a.unsold))
def Yu (a:aF0):Prop:=Sn a.id∧Sk a.share
def Wc (a:aF0):Bool:=sP a.id && fV (kD a.share)
def zG (x:Ni):Bool:=D6 x 1 && (decide (0≤Num.valR x) && decide (Num.valR x≤40))
def oW (a:V7):Bool:=sP a.name && (if a.kind=4 then fV (kD a.arg) else if a.kind=5 then nP (kD a.arg) else if a.kind=6 then zG (kD a.arg) else decide (a.kind ≥ 1) && (decide (a.kind≤11) && (vP (kD a.arg) && decide (Num.valR (kD a.arg)=0))))
def aFN (a:tI):Bool:=decide (a.number ≥ 1) && decide (a.number≤9999)
theorem J4 {k:Nat} (hk:10≤k) {z:dE} {s:ByteArray} (h:Sn s):FC (E k) 9 [.c (Cs s)] z fun v _=>v=Ab (sP s):=aV7 (l:=s.data.toList) hk h
theorem Zm {k:Nat} (hk:14≤k) {z:dE} {a:yR} {c d:C} (hx:CZ 1 RW z c a.nm) (hy:CZ 1 RW z d a.dm) (h:Sk a):FC (E k) 11 [.agg (kR a c d)] z fun v _=>v=Ab (nP (kD a)):=aT9 hk hx hy h.1 h.2
theorem Oe {k:Nat} (hk:11≤k) {z:dE} {a:yR} {c d:C} (hx:CZ 1 RW z c a.nm) (hy:CZ 1 RW z d a.dm) (h:Sk a):FC (E k) 13 [.agg (kR a c d)] z fun v _=>v=Ab (fV (kD a)):=aUi hk hx hy h.1 h.2
theorem bE6:(toL ((40:Int):Rat).num.natAbs).length≤9000000:=Nat.le_trans (m:=2) (mV.2 (by decide)) (by decide)
theorem bEo:(toL (((40:Int):Rat).den:Int).natAbs).length≤9000000:=Nat.le_trans (m:=2) (mV.2 (by decide)) (by decide)
theorem Jr {q:Rat}:q.num.sign=0↔q=0:=by
 rw [Int.sign_eq_zero_iff_zero,Rat.num_eq_zero]
theorem aGA {k:Nat} (hk:15≤k) {z:dE} {a:F3} {c0 c1 c2 c3:C} (g0:CZ 1 RW z c0 a.frm.nm) (g1:CZ 1 RW z c1 a.frm.dm) (g2:CZ 1 RW z c2 a.rate.nm) (g3:CZ 1 RW z c3 a.rate.dm) (hS:Jc a):FC (E k) 55 [.agg [Cb a.frm.n,c0,Cb a.frm.d,c1,Cb a.rate.n,c2,Cb a.rate.d,c3]] z fun v _=>v=Ab (Ar a):=by
 refine cX (bG0) (by omega) (aU O) fun B j hj=>?_
 refine xR ?_
 refine iJ O fun b1=>?_
 refine R2 8 O (kJ O mem0 O ?_)
 refine lE z (Zm (a:=a.frm) (by omega) g0 g1 hS.1) O O fun z5 _=>?_
 refine lM O ?_
 refine jI 6 O (fun hg6=>?_) (fun hg6=>?_)
 ·refine lD O (lF O (lD O (kJ O mem0 O (lD O ?_))))
  refine lE z5 (Oe (a:=a.rate) (by omega) g2.m g3.m hS.2) O O fun z9 _=>?_
  refine R0 6 O (xT ?_)
  exact rI O (cQ (by simp_all [Ar]<;>omega))
 refine R0 48 O (xT ?_)
 exact rI O (cQ (by simp_all [Ar]<;>omega))
theorem bBl {k:Nat} (hk:15≤k) {z:dE} {cs:List C} {a:F3} (h:pS z cs a) (hS:Jc a):FC (E k) 55 [.agg cs] z fun v _=>v=Ab (Ar a):=by
 obtain ⟨c0,c1,c2,c3,rfl,g0,g1,g2,g3⟩:=h
 exact aGA hk g0 g1 g2 g3 hS
theorem aO4 {k:Nat} (hk:12≤k) {z:dE} {a:aEb} {c0 c1:C} (g0:CZ 1 RW z c0 a.share.nm) (g1:CZ 1 RW z c1 a.share.dm) (hS:Ud a):FC (E k) 118 [.agg [Cs a.owner,Cs a.owned,Cb a.share.n,c0,Cb a.share.d,c1]] z fun v _=>v=Ab (Lr a):=by
 refine cX (bBA) (by omega) (aU O) fun B j hj=>?_
 refine xR ?_
 refine iJ O fun b1=>?_
 refine R2 8 O (bQ O mem0 O ?_)
 refine lE z (J4 (by omega) hS.1) O O fun z5 _=>?_
 refine lM O ?_
 refine jI 6 O (fun hg6=>?_) (fun hg6=>?_)
 ·refine lD O (lF O (lD O (bQ O mem0 O (lD O ?_))))
  refine lE z5 (J4 (by omega) hS.2.1) O O fun z9 _=>?_
  refine R1 6 O ?_
  refine jI 11 O (fun hg11=>?_) (fun hg11=>?_)
  ·refine lD O (lF O (lD O (kJ O mem0 O (lD O ?_))))
   refine lE z9 (Oe (a:=a.share) (by omega) g0.m g1.m hS.2.2) O O fun z14 _=>?_
   refine R0 6 O (xT ?_)
   exact rI O (cQ (by simp_all [Lr]<;>omega))
  refine R0 48 O (xT ?_)
  exact rI O (cQ (by simp_all [Lr]<;>omega))
 refine R0 1552 O (xT ?_)
 exact rI O (cQ (by simp_all [Lr]<;>omega))
theorem bQb {k:Nat} (hk:12≤k) {z:dE} {cs:List C} {a:aEb} (h:Hh z cs a) (hS:Ud a):FC (E k) 118 [.agg cs] z fun v _=>v=Ab (Lr a):=by
 obtain ⟨c0,c1,rfl,g0,g1⟩:=h
 exact aO4 hk g0 g1 hS
theorem aPp {k:Nat} (hk:15≤k) {z:dE} {a:aD4} {c0 c1:C} (g0:CZ 1 RW z c0 a.amount.nm) (g1:CZ 1 RW z c1 a.amount.dm) (hS:Tq a):FC (E k) 120 [.agg [Cs a.entity,Cs a.cls,Cb a.amount.n,c0,Cb a.amount.d,c1]] z fun v _=>v=Ab (Lu a):=by
 refine cX (bCc) (by omega) (aU O) fun B j hj=>?_
 refine xR ?_
 refine iJ O fun b1=>?_
 refine R2 8 O (bQ O mem0 O ?_)
 refine lE z (J4 (by omega) hS.1) O O fun z5 _=>?_
 refine lM O ?_
 refine jI 6 O (fun hg6=>?_) (fun hg6=>?_)
 ·refine lD O (lF O (lD O (bQ O mem0 O (lD O ?_))))
  refine lE z5 (J4 (by omega) hS.2.1) O O fun z9 _=>?_
  refine R1 6 O ?_
  refine jI 11 O (fun hg11=>?_) (fun hg11=>?_)
  ·refine lD O (lF O (lD O (kJ O mem0 O (lD O ?_))))
   refine lE z9 (Zm (a:=a.amount) (by omega) g0.m g1.m hS.2.2) O O fun z14 _=>?_
   refine R0 6 O (xT ?_)
   exact rI O (cQ (by simp_all [Lu]<;>omega))
  refine R0 48 O (xT ?_)
  exact rI O (cQ (by simp_all [Lu]<;>omega))
 refine R0 1552 O (xT ?_)
 exact rI O (cQ (by simp_all [Lu]<;>omega))
theorem bOm {k:Nat} (hk:15≤k) {z:dE} {cs:List C} {a:aD4} (h:Hi z cs a) (hS:Tq a):FC (E k) 120 [.agg cs] z fun v _=>v=Ab (Lu a):=by
 obtain ⟨c0,c1,rfl,g0,g1⟩:=h
 exact aPp hk g0 g1 hS
theorem aO9 {k:Nat} (hk:15≤k) {z:dE} {a:aF7} {c0 c1:C} (g0:CZ 1 RW z c0 a.amount.nm) (g1:CZ 1 RW z c1 a.amount.dm) (hS:aAb a):FC (E k) 122 [.agg [Cb a.give,Cs a.id,Cu a.kind,Cs a.payee,Cs a.payer,Cs a.cls,Cb a.amount.n,c0,Cb a.amount.d,c1]] z fun v _=>v=Ab (Dm a):=by
 refine cX (bCw) (by omega) (aU O) fun B j hj=>?_
 refine xR ?_
 refine iJ O fun b1=>?_
 refine R2 8 O (bQ O mem0 O ?_)
 refine lE z (J4 (by omega) hS.1) O O fun z5 _=>?_
 refine lM O ?_
 refine jI 6 O (fun hg6=>?_) (fun hg6=>?_)
 ·refine lD O (lF O (lD O (bQ O mem0 O (R1 12 O ?_))))
  refine iW 11 O (fun hg11=>?_) (fun hg11=>?_)
  ·refine lD O (lF O (lD O (bQ O mem0 O (R1 12 O ?_))))
   refine iW 16 O (fun hg16=>?_) (fun hg16=>?_)
   ·refine lD O (lF O (lD O (bQ O mem0 O (lD O ?_))))
    refine lE z5 (J4 (by omega) hS.2.1) O O fun z19 _=>?_
    refine R1 6 O ?_
    refine jI 21 O (fun hg21=>?_) (fun hg21=>?_)
    ·refine lD O (lF O (lD O (bQ O mem0 O (lD O ?_))))
     refine lE z19 (J4 (by omega) hS.2.2.1) O O fun z24 _=>?_
     refine R1 6 O ?_
     refine jI 26 O (fun hg26=>?_) (fun hg26=>?_)
     ·refine lD O (lF O (lD O (bQ O mem0 O (lD O ?_))))
      refine lE z24 (J4 (by omega) hS.2.2.2.1) O O fun z29 _=>?_
      refine R1 6 O ?_
      refine jI 31 O (fun hg31=>?_) (fun hg31=>?_)
      ·refine lD O (lF O (lD O (kJ O mem0 O (lD O ?_))))
       refine lE z29 (Zm (a:=a.amount) (by omega) g0.m g1.m hS.2.2.2.2) O O fun z34 _=>?_
       refine R0 6 O (xT ?_)
       exact rI O (cQ (by simp_all [Dm]<;>omega))
      refine R0 48 O (xT ?_)
      exact rI O (cQ (by simp_all [Dm]<;>omega))
     refine R0 1552 O (xT ?_)
     exact rI O (cQ (by simp_all [Dm]<;>omega))
    refine R0 49680 O (xT ?_)
    exact rI O (cQ (by simp_all [Dm]<;>omega))
   refine R0 1589776 O (xT ?_)
   exact rI O (cQ (by simp_all [Dm]<;>omega))
  refine R0 50872848 O (xT ?_)
  exact rI O (cQ (by simp_all [Dm]<;>omega))
 refine R0 1627931152 O (xT ?_)
 exact rI O (cQ (by simp_all [Dm]<;>omega))
theorem bP6 {k:Nat} (hk:15≤k) {z:dE} {cs:List C} {a:aF7} (h:Ez z cs a) (hS:aAb a):FC (E k) 122 [.agg cs] z fun v _=>v=Ab (Dm a):=by
 obtain ⟨c0,c1,rfl,g0,g1⟩:=h
 exact aO9 hk g0 g1 hS
theorem aLN {k:Nat} (hk:15≤k) {z:dE} {a:aA9} {c0 c1 c2 c3:C} (g0:CZ 1 RW z c0 a.margin.nm) (g1:CZ 1 RW z c1 a.margin.dm) (g2:CZ 1 RW z c2 a.unsold.nm) (g3:CZ 1 RW z c3 a.unsold.dm) (hS:Xb a):FC (E k) 124 [.agg [Cs a.id,Cb a.margin.n,c0,Cb a.margin.d,c1,Cb a.unsold.n,c2,Cb a.unsold.d,c3]] z fun v _=>v=Ab (Hw a):=by
 refine cX (bCU) (by omega) (aU O) fun B j hj=>?_
 refine xR ?_
 refine iJ O fun b1=>?_
 refine R2 8 O (bQ O mem0 O ?_)
 refine lE z (J4 (by omega) hS.1) O O fun z5 _=>?_
 refine lM O ?_
 refine jI 6 O (fun hg6=>?_) (fun hg6=>?_)
 ·refine lD O (lF O (lD O (kJ O mem0 O (lD O ?_))))
  refine lE z5 (Zm (a:=a.margin) (by omega) g0.m g1.m hS.2.1) O O fun z9 _=>?_
  refine R1 6 O ?_
  refine jI 11 O (fun hg11=>?_) (fun hg11=>?_)
  ·refine lD O (lF O (lD O (kJ O mem0 O (lD O ?_))))
   refine lE z9 (Oe (a:=a.unsold) (by omega) g2.m g3.m hS.2.2) O O fun z14 _=>?_
   refine R0 6 O (xT ?_)
   exact rI O (cQ (by simp_all [Hw]<;>omega))
  refine R0 48 O (xT ?_)
  exact rI O (cQ (by simp_all [Hw]<;>omega))
 refine R0 1552 O (xT ?_)
 exact rI O (cQ (by simp_all [Hw]<;>omega))
theorem bJ7 {k:Nat} (hk:15≤k) {z:dE} {cs:List C} {a:aA9} (h:Bm z cs a) (hS:Xb a):FC (E k) 124 [.agg cs] z fun v _=>v=Ab (Hw a):=by
 obtain ⟨c0,c1,c2,c3,rfl,g0,g1,g2,g3⟩:=h
 exact aLN hk g0 g1 g2 g3 hS
theorem aPv {k:Nat} (hk:12≤k) {z:dE} {a:aF0} {c0 c1:C} (g0:CZ 1 RW z c0 a.share.nm) (g1:CZ 1 RW z c1 a.share.dm) (hS:Yu a):FC (E k) 126 [.agg [Cs a.id,Cb a.share.n,c0,Cb a.share.d,c1]] z fun v _=>v=Ab (Wc a):=by
 refine cX (bAH) (by omega) (aU O) fun B j hj=>?_
 refine xR ?_
 refine iJ O fun b1=>?_
 refine R2 8 O (bQ O mem0 O ?_)
 refine lE z (J4 (by omega) hS.1) O O fun z5 _=>?_
 refine lM O ?_
 refine jI 6 O (fun hg6=>?_) (fun hg6=>?_)
 ·refine lD O (lF O (lD O (kJ O mem0 O (lD O ?_))))
  refine lE z5 (Oe (a:=a.share) (by omega) g0.m g1.m hS.2) O O fun z9 _=>?_
  refine R0 6 O (xT ?_)
  exact rI O (cQ (by simp_all [Wc]<;>omega))
 refine R0 48 O (xT ?_)
 exact rI O (cQ (by simp_all [Wc]<;>omega))
theorem bND {k:Nat} (hk:12≤k) {z:dE} {cs:List C} {a:aF0} (h:Ik z cs a) (hS:Yu a):FC (E k) 126 [.agg cs] z fun v _=>v=Ab (Wc a):=by
 obtain ⟨c0,c1,rfl,g0,g1⟩:=h
 exact aPv hk g0 g1 hS
theorem aM5 {k:Nat} (hk:15≤k) {z:dE} {a:V7} {c0 c1:C} (g0:CZ 1 RW z c0 a.arg.nm) (g1:CZ 1 RW z c1 a.arg.dm) (hS:Pv a):FC (E k) 60 [.agg [Cs a.name,Cu a.kind,Cb a.arg.n,c0,Cb a.arg.d,c1]] z fun v _=>v=Ab (oW a):=by
 refine cX (bFU) (by omega) (aU O) fun B j hj=>?_
 refine xR ?_
 refine iJ O fun b1=>?_
 refine R2 16 O (bQ O mem0 O ?_)
 refine lE z (J4 (by omega) hS.1) O O fun z5 hz5=>?_
 refine R3 4 O ?_
 refine iO O (fun hc6=>?_) (fun hc6=>?_)
 ·refine R5 8 O (mN ?_)
  exact rI O (cQ (by (try simp only [W3,zQ,Jr] at *);simp_all [oW,zG]<;>omega))
 refine R4 16 O (bQ O mem0 O (lN ?_))
 refine aT (aQ ?_)
 refine R5 8 O ?_
 refine xD O (fun hc9=>?_) (fun hc9=>?_)
 ·refine R4 4 O (kJ O mem0 O ?_)
  refine lE z5 (Oe (a:=a.arg) (by omega) g0.m g1.m hS.2) O O fun z13 _=>?_
  refine R0 3 O (xT (lS ?_))
  exact rI O (cQ (by (try simp only [W3,zQ,Jr] at *);simp_all [oW,zG]<;>omega))
 refine R5 8 O ?_
 refine xD O (fun hc14=>?_) (fun hc14=>?_)
 ·refine R4 4 O (kJ O mem0 O ?_)
  refine lE z5 (Zm (a:=a.arg) (by omega) g0.m g1.m hS.2) O O fun z18 _=>?_
  refine R0 3 O (xT (lS ?_))
  exact rI O (cQ (by (try simp only [W3,zQ,Jr] at *);simp_all [oW,zG]<;>omega))
 refine R5 8 O ?_
 refine xD O (fun hc19=>?_) (fun hc19=>?_)
 ·refine gX (G1 2 O (Qr O O Ht O ?_))
  refine gE z5 (aET (m:=1) (by omega) g0.m g1.m hS.2.1 hS.2.2 (by decide)) O O O O fun z23 hz23=>?_
  refine G1 3 O ?_
  refine Np 24 O (fun hg24=>?_) (fun hg24=>?_)
  ·refine G1 2 O (Qr O O Ht O ?_)
   refine gE z23 (aI8 (by omega) g0.m g1.m (Nat.le_trans hS.2.1 (show 1000≤20000000 by decide)) (Nat.le_trans hS.2.2 (show 1000≤20000000 by decide))) O O O O fun z27 hz27=>?_
   refine G1 12 O ?_
   refine uW 30 O (fun hg30=>?_) (fun hg30=>?_)
   ·refine G1 2 O (Qr O O Ht O ?_)
    refine gC z27 (Pg (n:=40) (by omega) (by decide) (by decide)) O O O O fun v33 z33 _ hv33=>?_
    have hv33:=vR hv33
    obtain ⟨c33,d33,hv,hm33,hn33⟩:=hv33
    subst hv
    have hm33:=hm33.mono (zA (hz5.trans (hz23.trans hz27)))
    have hn33:=hn33.mono (zA (hz5.trans (hz23.trans hz27)))
    refine gC z33 (aGu (by omega) g0.m g1.m (Nat.le_trans hS.2.1 (show 1000≤9000000 by decide)) (Nat.le_trans hS.2.2 (show 1000≤9000000 by decide)) (hm33.mono gU) (hn33.mono gU) bE6 bEo) O O O O fun v34 z34 _ hv34=>?_
    rw [Jm] at hv34
    subst hv34
    refine G0 12 O (xT (lS ?_))
    exact rI O (cQ (by (try simp only [W3,zQ,Jr] at *);simp_all [oW,zG]<;>omega))
   refine G0 192 O (xT (lS ?_))
   exact rI O (cQ (by (try simp only [W3,zQ,Jr] at *);simp_all [oW,zG]<;>omega))
  refine G0 12320 O (xT (lS ?_))
  exact rI O (cQ (by (try simp only [W3,zQ,Jr] at *);simp_all [oW,zG]<;>omega))
 refine iF (dN (R4 4 O (bQ O mem0 O (R1 4 O ?_))))
 refine iW 40 O (fun hg40=>?_) (fun hg40=>?_)
 ·refine lD O (lF O (lD O (bQ O mem0 O (R1 12 O ?_))))
  refine iW 45 O (fun hg45=>?_) (fun hg45=>?_)
  ·refine lD O (lF O (lD O (kJ O mem0 O (lD O ?_))))
   refine lE z5 (aFS (by omega) g0.m g1.m (Nat.le_trans hS.2.1 (show 1000≤20000000 by decide)) (Nat.le_trans hS.2.2 (show 1000≤20000000 by decide))) O O fun z48 _=>?_
   refine R1 6 O ?_
   refine jI 50 O (fun hg50=>?_) (fun hg50=>?_)
   ·refine lD O (lF O (lD O (kJ O mem0 O (lD O ?_))))
    refine lE z48 (aI8 (by omega) g0.m g1.m (Nat.le_trans hS.2.1 (show 1000≤20000000 by decide)) (Nat.le_trans hS.2.2 (show 1000≤20000000 by decide))) O O fun z53 _=>?_
    refine R0 12 O (xT ?_)
    exact rI O (cQ (by (try simp only [W3,zQ,Jr] at *);simp_all [oW,zG]<;>omega))
   refine R0 96 O (xT ?_)
   exact rI O (cQ (by (try simp only [W3,zQ,Jr] at *);simp_all [oW,zG]<;>omega))
  refine R0 3088 O (xT ?_)
  exact rI O (cQ (by (try simp only [W3,zQ,Jr] at *);simp_all [oW,zG]<;>omega))
 refine R0 98832 O (xT ?_)
 exact rI O (cQ (by (try simp only [W3,zQ,Jr] at *);simp_all [oW,zG]<;>omega))
theorem bLr {k:Nat} (hk:15≤k) {z:dE} {cs:List C} {a:V7} (h:xP z cs a) (hS:Pv a):FC (E k) 60 [.agg cs] z fun v _=>v=Ab (oW a):=by
 obtain ⟨c0,c1,rfl,g0,g1⟩:=h
 exact aM5 hk g0 g1 hS
theorem aOY {k:Nat} (hk:1≤k) {z:dE} {a:tI} {c0 c1 c2 c3 c4:C}:FC (E k) 62 [.agg [Ci a.number,c0,c1,c2,c3,c4]] z fun v _=>v=Ab (aFN a):=by
 refine cX (bDS) (by omega) (aU O) fun B j hj=>?_
 refine xR ?_
 refine iJ O fun b1=>?_
 refine R2 8 O (bQ O mem0 O (R1 4 O ?_))
 refine iW 6 O (fun hg6=>?_) (fun hg6=>?_)
 ·refine lD O (lF O (lD O (bQ O mem0 O (R0 12 O (xT ?_)))))
  exact rI O (cQ (by simp_all [aFN]<;>omega))
 refine R0 48 O (xT ?_)
 exact rI O (cQ (by simp_all [aFN]<;>omega))
theorem bNJ {k:Nat} (hk:1≤k) {z:dE} {cs:List C} {a:tI} (h:Ak z cs a):FC (E k) 62 [.agg cs] z fun v _=>v=Ab (aFN a):=by
 obtain ⟨c0,c1,c2,c3,c4,rfl,_⟩:=h
 exact aOY hk
theorem aVE {k:Nat} (hk:1≤k) {z:dE} {b:Bool}:FC (E k) 58 [Ab b] z fun v _=>v=Ab b:=by
 refine cX (bEl) (by omega) (aU O) fun B j hj=>?_
 refine R5 32 O (xT (rI O ?_))
 rfl
theorem C5 {k:Nat} (hk:1≤k) {z:dE} {a m:Int}:FC (E k) 116 [Ai a,Ai m] z fun v _=>v=Ab (decide (a ≥ 0) && decide (a≤m)):=by
 refine cX (bCW) (by omega) (aU O) fun B j hj=>?_
 refine R4 64 O ?_
 refine iW 7 O (fun hg7=>?_) (fun hg7=>?_)
 ·refine R0 48 O (xT ?_)
  exact rI O (cQ (by simp_all<;>omega))
 refine R0 48 O (xT ?_)
 exact rI O (cQ (by simp_all<;>omega))
open Go.CE Go.RowKit Go.Num
open Go.Eng (oH)
theorem aUf:9223372036854775807<K0:=by show _<18446744073709551616;omega
def RPt:RT (Option Jz):=fun z cs r=>∃ c,cs=[c]∧PC 127 z c r
instance:RMono RPt:=⟨fun hz ⟨c,h,g⟩=>⟨c,h,g.mono hz⟩⟩
theorem Ey {z:dE} {c:C} {r:Option Jz} {cs:List C} {rs:List (Option Jz)} (h:PC 127 z c r) (t:CL 1 RPt z cs rs):CL 1 RPt z (c::cs) (r::rs):=(CL.one (c:=[c]) rfl ⟨c,rfl,h⟩).append t
theorem bFi {z:dE} {b ty n:Nat} {cs:List C} {rs:List (Option Jz)} (h:CL 1 RPt z cs rs) (hn:rs.length=n) (hm:n≤9223372036854775807) (hz:z b (.cells ty cs)):SZ 1 RPt z (Aw b n) rs:=h.sz hn hm hz
theorem aVS {call:jO} {B:sY} {fs:Sf} {l:List I} {Q:Sf→Prop} {d tf:Nat} {z:dE} {x y:Go.Eng.Od} {c:C} {r:Option Jz} (hx:fs.ev x=.c c) (hy:fs.ev y=.c (.v (.pointer none))) (hp:PC tf z c r) (hw:FL call B l (fs.put d (Ab r.isSome)) Q):FL call B (⟨some d,none,.cmpn .ptr true x y⟩::l) fs Q:=by
 cases r with
 | none=>exact aSX hx hy (a:=true) (b:=true) (by rw [show c=.v (.pointer none) from hp];rfl) rfl rfl rfl hw
 | some f =>
  obtain ⟨b,h1,_⟩:=hp
  exact aSX hx hy (a:=false) (b:=true) (by rw [h1];rfl) rfl rfl rfl hw
def eT {α:Type}:List (Option α)→Option α
 | []=>none
 | none::r=>eT r
 | some a::_=>some a
section
variable {α:Type} {rs:List (Option α)} {i:Nat}
theorem aVt (h:i<rs.length) (h2:rs[i].isSome=false):eT (rs.drop i)=eT (rs.drop (i+1)):=by
 rw [List.drop_eq_getElem_cons h]
 cases e:rs[i] with
 | none=>rfl
 | some a=>rw [e] at h2;cases h2
theorem aYG (h:i<rs.length) (h2:rs[i].isSome=true):eT (rs.drop i)=rs[i]:=by
 rw [List.drop_eq_getElem_cons h]
 cases e:rs[i] with
 | none=>rw [e] at h2;cases h2
 | some a=>rfl
theorem aTL (h:rs.length≤i):eT (rs.drop i)=none:=by rw [List.drop_eq_nil_of_le h];rfl
end
def D3 (x:kM):List Bool:=[fV (kD x.threshold),fV (kD x.cap),fV (kD x.interest),decide (x.back ≥ 0) && decide (x.back≤3),decide (x.forward ≥ 0) && decide (x.forward≤40),decide (x.keep ≥ 0) && decide (x.keep≤40),nP (kD x.floor)]
instance:RMono (RE Value.bool):=⟨fun _ h=>h⟩
def pE (x:kM):List (Option Jz):=[oI 1 (-1) 2 sP [x.name,x.parent],oI 2 (-1) 16 Ar x.brackets,oI 3 (-1) 7 id (D3 x),oI 4 (-1) 64 oW x.classes,oI 5 (-1) 256 sP x.entities,oI 6 (-1) 40 aFN x.years]
def Bw (at_:Int) (x:tI):List (Option Jz):=[oI 7 at_ 4096 Lr x.holds,oI 8 at_ 4096 Lu x.books,oI 9 at_ 4096 Dm x.deals,oI 10 at_ 4096 Hw x.stocks,oI 11 at_ 4096 Wc x.solds]
def A7:Nat→List tI→Option Jz
 | _,[]=>none
 | i,y::r=>match eT (Bw (i:Nat) y) with
  | some f=>some f
  | none=>A7 (i+1) r
def Bi (x:kM):Option Jz:=match eT (pE x) with
 | some f=>some f
 | none=>A7 0 x.years
theorem aZG {l:List tI} {i:Nat} (h:i<l.length) (h2:(eT (Bw (i:Nat) l[i])).isSome=false):A7 i (l.drop i)=A7 (i+1) (l.drop (i+1)):=by
 rw [List.drop_eq_getElem_cons h,A7]
 cases e:eT (Bw (i:Nat) l[i]) with
 | none=>rfl
 | some f=>rw [e] at h2;cases h2
theorem bFY {l:List tI} {i:Nat} (h:i<l.length) (h2:(eT (Bw (i:Nat) l[i])).isSome=true):A7 i (l.drop i)=eT (Bw (i:Nat) l[i]):=by
 rw [List.drop_eq_getElem_cons h,A7]
 cases e:eT (Bw (i:Nat) l[i]) with
 | none=>rw [e] at h2;cases h2
 | some f=>rfl
theorem bFZ {l:List tI} {i:Nat} (h:l.length≤i):A7 i (l.drop i)=none:=by rw [List.drop_eq_nil_of_le h,A7]
def FV:Option Jz→AV
 | none=>.tup [.agg [Cu 0,Ci 0,Ci 0],Ai 0]
 | some f=>.tup [.agg [Cu f.part,Ci f.year,Ci f.at_],Ai f.e]
theorem rc3 {fs:Sf} {i b ty:Nat} {c0 c1 c2:C} {rs:List RR} {vs:List AV} (hp:fs.e i=Ap b) (hm:HA.blk b (.cells ty [c0,c1,c2])∈fs.H) (t:Xr fs rs vs):Xr fs (.c i true 3::rs) (.agg [c0,c1,c2]::vs):=rc hp hm (by simp) rfl t
def SkY (x:tI):Prop:=(∀ a,a∈x.holds→Ud a)∧(∀ a,a∈x.books→Tq a)∧(∀ a,a∈x.deals→aAb a)∧(∀ a,a∈x.stocks→Xb a)∧(∀ a,a∈x.solds→Yu a)
structure SkF (x:kM):Prop where
 str2:∀ a,a∈[x.name,x.parent]→Sn a
 brackets:∀ a,a∈x.brackets→Jc a
 threshold:Sk x.threshold
 cap:Sk x.cap
 interest:Sk x.interest
 floor:Sk x.floor
 classes:∀ a,a∈x.classes→Pv a
 entities:∀ a,a∈x.entities→Sn a
 years:∀ a,a∈x.years→SkY a
section
variable {call:jO} {B:sY} {an:List Nat} {j:Nat} {l:List CE.D} {fs:Sf} {T:dE} {tag last:Nat} {pj lj:List Nat} {Q:Sf→Prop} {i:I} {d:Nat} {x:Go.Eng.Od} {af:List Nat} {b tf:Nat} {z:dE} {f:Jz}
theorem aZD (hi:i.o=.load true 3 x) (hd:i.d=some d) (hg:GK fs i) (hx:fs.ev x=Ap b) (hz:z b (.cells tf [Cu f.part,Ci f.year,Ci f.at_,Ci f.e])) (hT:∀ b k,z b k→T b k) (hw:FG call B an (j+1) l (fs.put d (.agg [Cu f.part,Ci f.year,Ci f.at_])) T tag last pj (j::lj) Q):FG call B an j (⟨i,af⟩::l) fs T tag last pj lj Q:=aDQ (v:=.agg [Cu f.part,Ci f.year,Ci f.at_]) hi hd hg hx (hT _ _ hz) rfl (by simp) rfl sR hw
theorem bAh (hi:i.o=.load false 1 x) (hd:i.d=some d) (hg:GK fs i) (hx:fs.ev x=.c (.ptr b 3)) (hz:z b (.cells tf [Cu f.part,Ci f.year,Ci f.at_,Ci f.e])) (hT:∀ b k,z b k→T b k) (hw:FG call B an (j+1) l (fs.put d (Ai f.e)) T tag last pj (j::lj) Q):FG call B an j (⟨i,af⟩::l) fs T tag last pj lj Q:=aDQ (v:=Ai f.e) hi hd hg hx (hT _ _ hz) rfl (by simp) rfl sR hw
end
theorem aTx {call:jO} {B:sY} {an:List Nat} {j:Nat} {l:List CE.D} {fs:Sf} {T:dE} {tag last:Nat} {pj lj:List Nat} {Q:Sf→Prop} {i:I} {d size:Nat} {x:Go.Eng.Od} {af:List Nat} {b ty:Nat} {cs:List C} (hi:i.o=.load true size x) (hd:i.d=some d) (hg:GK fs i) (hx:fs.ev x=Ap b) (hT:T b (.cells ty cs)) (h:cs.length=size) (hs:L2 (.agg cs) (.agg cs)=true) (hw:FG call B an (j+1) l (fs.put d (.agg cs)) T tag last pj (j::lj) Q):FG call B an j (⟨i,af⟩::l) fs T tag last pj lj Q:=
 aDQ (v:=.agg cs) hi hd hg hx hT rfl (by omega) (by rw [List.drop_zero,List.take_of_length_le (by omega)];rfl) hs hw
theorem bAr {k:Nat} (hk:16≤k) {z:dE} {v:AV} {l:List F3} {part year:Int} {most:Nat} (hx:SZ 8 pS z v l) (hS:∀ a,a∈l→Jc a):FC (E k) 54 [.c (Cu part),Ai year,v,Ai (most:Nat),.c (.fn 55 [] [])] z fun v' z'=>∃ c,v'=.c c∧PC 127 z' c (oI part year most Ar l):=
 Po bGL (by omega) aUf hx rfl (fun h=>by obtain ⟨_,_,_,_,rfl,_⟩:=h;rfl) (fun hj z' cs a hz ha hR=>bBl (by omega) hR (hS a ha))
theorem bKI {k:Nat} (hk:16≤k) {z:dE} {v:AV} {l:List V7} {part year:Int} {most:Nat} (hx:SZ 6 xP z v l) (hS:∀ a,a∈l→Pv a):FC (E k) 59 [.c (Cu part),Ai year,v,Ai (most:Nat),.c (.fn 60 [] [])] z fun v' z'=>∃ c,v'=.c c∧PC 127 z' c (oI part year most oW l):=
 Po bIv (by omega) aUf hx rfl (fun h=>by obtain ⟨_,_,rfl,_⟩:=h;rfl) (fun hj z' cs a hz ha hR=>bLr (by omega) hR (hS a ha))
theorem bQM {k:Nat} (hk:13≤k) {z:dE} {v:AV} {l:List aEb} {part year:Int} {most:Nat} (hx:SZ 6 Hh z v l) (hS:∀ a,a∈l→Ud a):FC (E k) 117 [.c (Cu part),Ai year,v,Ai (most:Nat),.c (.fn 118 [] [])] z fun v' z'=>∃ c,v'=.c c∧PC 127 z' c (oI part year most Lr l):=
 Po bCK (by omega) aUf hx rfl (fun h=>by obtain ⟨_,_,rfl,_⟩:=h;rfl) (fun hj z' cs a hz ha hR=>bQb (by omega) hR (hS a ha))
theorem bO0 {k:Nat} (hk:16≤k) {z:dE} {v:AV} {l:List aD4} {part year:Int} {most:Nat} (hx:SZ 6 Hi z v l) (hS:∀ a,a∈l→Tq a):FC (E k) 119 [.c (Cu part),Ai year,v,Ai (most:Nat),.c (.fn 120 [] [])] z fun v' z'=>∃ c,v'=.c c∧PC 127 z' c (oI part year most Lu l):=
 Po bAR (by omega) aUf hx rfl (fun h=>by obtain ⟨_,_,rfl,_⟩:=h;rfl) (fun hj z' cs a hz ha hR=>bOm (by omega) hR (hS a ha))
theorem bNu {k:Nat} (hk:16≤k) {z:dE} {v:AV} {l:List aF7} {part year:Int} {most:Nat} (hx:SZ 10 Ez z v l) (hS:∀ a,a∈l→aAb a):FC (E k) 121 [.c (Cu part),Ai year,v,Ai (most:Nat),.c (.fn 122 [] [])] z fun v' z'=>∃ c,v'=.c c∧PC 127 z' c (oI part year most Dm l):=
 Po bCG (by omega) aUf hx rfl (fun h=>by obtain ⟨_,_,rfl,_⟩:=h;rfl) (fun hj z' cs a hz ha hR=>bP6 (by omega) hR (hS a ha))
theorem bLi {k:Nat} (hk:16≤k) {z:dE} {v:AV} {l:List aA9} {part year:Int} {most:Nat} (hx:SZ 9 Bm z v l) (hS:∀ a,a∈l→Xb a):FC (E k) 123 [.c (Cu part),Ai year,v,Ai (most:Nat),.c (.fn 124 [] [])] z fun v' z'=>∃ c,v'=.c c∧PC 127 z' c (oI part year most Hw l):=
 Po bCu (by omega) aUf hx rfl (fun h=>by obtain ⟨_,_,_,_,rfl,_⟩:=h;rfl) (fun hj z' cs a hz ha hR=>bJ7 (by omega) hR (hS a ha))
theorem bQK {k:Nat} (hk:13≤k) {z:dE} {v:AV} {l:List aF0} {part year:Int} {most:Nat} (hx:SZ 5 Ik z v l) (hS:∀ a,a∈l→Yu a):FC (E k) 125 [.c (Cu part),Ai year,v,Ai (most:Nat),.c (.fn 126 [] [])] z fun v' z'=>∃ c,v'=.c c∧PC 127 z' c (oI part year most Wc l):=
 Po bCQ (by omega) aUf hx rfl (fun h=>by obtain ⟨_,_,rfl,_⟩:=h;rfl) (fun hj z' cs a hz ha hR=>bND (by omega) hR (hS a ha))
theorem bOL {k:Nat} (hk:2≤k) {z:dE} {v:AV} {l:List tI} {part year:Int} {most:Nat} (hx:SZ 6 Ak z v l):FC (E k) 61 [.c (Cu part),Ai year,v,Ai (most:Nat),.c (.fn 62 [] [])] z fun v' z'=>∃ c,v'=.c c∧PC 127 z' c (oI part year most aFN l):=
 Po bFb (by omega) aUf hx rfl (fun h=>by obtain ⟨_,_,_,_,_,rfl,_⟩:=h;rfl) (fun hj z' cs a hz ha hR=>bNJ (by omega) hR)
theorem bL4 {k:Nat} (hk:11≤k) {z:dE} {v:AV} {l:List ByteArray} {part year:Int} {most:Nat} (hx:SZ 1 RS z v l) (hS:∀ a,a∈l→Sn a):FC (E k) 53 [.c (Cu part),Ai year,v,Ai (most:Nat),.c (.fn 9 [] [])] z fun v' z'=>∃ c,v'=.c c∧PC 127 z' c (oI part year most sP l):=
 aU5 bIt (by omega) aUf hx (fun h=>⟨_,h⟩) (fun hj z' c a hz ha hR=>by obtain rfl:c=Cs a:=(List.cons.inj hR).1;exact J4 (by omega) (hS a ha))
theorem bP3 {k:Nat} (hk:2≤k) {z:dE} {v:AV} {l:List Bool} {part year:Int} {most:Nat} (hx:SZ 1 (RE Value.bool) z v l):FC (E k) 56 [.c (Cu part),Ai year,v,Ai (most:Nat),.c (.fn 58 [] [])] z fun v' z'=>∃ c,v'=.c c∧PC 127 z' c (oI part year most id l):=
 aU5 bFa (by omega) aUf hx (fun h=>⟨_,h⟩) (fun hj z' c a hz ha hR=>by obtain rfl:c=Cb a:=(List.cons.inj hR).1;exact aVE (by omega))
theorem aFa {k:Nat} (hk:15≤k) {z:dE} {x:kM} {c0 c1 c2 c3 c4 c5 c6 c7 c8 c9 c10 c11:C} (g0:CZ 8 pS z c0 x.brackets) (g1:CZ 1 RW z c1 x.threshold.nm) (g2:CZ 1 RW z c2 x.threshold.dm) (g3:CZ 1 RW z c3 x.cap.nm) (g4:CZ 1 RW z c4 x.cap.dm) (g5:CZ 1 RW z c5 x.interest.nm) (g6:CZ 1 RW z c6 x.interest.dm) (g7:CZ 1 RW z c7 x.floor.nm) (g8:CZ 1 RW z c8 x.floor.dm) (g9:CZ 6 xP z c9 x.classes) (g10:CZ 1 RS z c10 x.entities) (g11:CZ 6 Ak z c11 x.years) (hS:Sk x.threshold∧Sk x.cap∧Sk x.interest∧Sk x.floor):FC (E k) 57 [.agg (kF x c0 c1 c2 c3 c4 c5 c6 c7 c8 c9 c10 c11)] z fun v z'=>∃ c,v=.c c∧SZ 1 (RE Value.bool) z' (.c c) (D3 x):=by
 refine cX (bFo) (by omega) (aU O) fun B j hj=>?_
 refine xR ?_
 refine iJ O fun b1=>?_
 refine R3 12 O (gX (G1 2 O (Qr O O Ht O ?_)))
 refine gE z (Oe (a:=x.threshold) (by omega) g1 g2 hS.1) O O O O fun z6 _=>?_
 refine G1 2 O (Qr O O Ht O ?_)
 refine gE z6 (Oe (a:=x.cap) (by omega) g3.m g4.m hS.2.1) O O O O fun z9 _=>?_
 refine G1 2 O (Qr O O Ht O ?_)
 refine gE z9 (Oe (a:=x.interest) (by omega) g5.m g6.m hS.2.2.1) O O O O fun z12 _=>?_
 refine G1 5 O (wH O O Ht O ?_)
 refine aB3 z12 (i:=⟨_,_,.callv _ _⟩) O (C5 (by omega)) O O F O O O O fun v16 z16 _ hv16=>?_
 subst hv16
 refine G1 5 O (wH O O Ht O ?_)
 refine aB3 z16 (i:=⟨_,_,.callv _ _⟩) O (C5 (by omega)) O O F O O O O fun v20 z20 _ hv20=>?_
 subst hv20
 refine G1 5 O (wH O O Ht O ?_)
 refine aB3 z20 (i:=⟨_,_,.callv _ _⟩) O (C5 (by omega)) O O F O O O O fun v24 z24 _ hv24=>?_
 subst hv24
 refine G1 2 O (Qr O O Ht O ?_)
 refine gE z24 (Zm (a:=x.floor) (by omega) g7.m g8.m hS.2.2.2) O O O O fun z27 _=>?_
 refine qT (k:=.cells 4 (cE Value.bool [fV (kD x.threshold),fV (kD x.cap),fV (kD x.interest),decide (x.back ≥ 0) && decide (x.back≤3),decide (x.forward ≥ 0) && decide (x.forward≤40),decide (x.keep ≥ 0) && decide (x.keep≤40),nP (kD x.floor)])) (w:=fun b=>Aw b 7) rfl F rfl (fun _=>rfl) (fun st hst=>?_) (fun b28 hT28=>?_)
 ·simp only [eE,uZ,AS.ev,hst 6 (by simp [jM.sl,Od.sls,Od.sl]),hst 9 (by simp [jM.sl,Od.sls,Od.sl]),hst 12 (by simp [jM.sl,Od.sls,Od.sl]),hst 16 (by simp [jM.sl,Od.sls,Od.sl]),hst 20 (by simp [jM.sl,Od.sls,Od.sl]),hst 24 (by simp [jM.sl,Od.sls,Od.sl]),hst 27 (by simp [jM.sl,Od.sls,Od.sl])];rfl
 refine zW z27 (p:=[]) O O O (fun _ h=>h) fun zfg28 _ g28=>?_
 refine G0 2 O (xT ?_)
 exact rI O ⟨_,rfl,Ls.sz rfl (by decide) g28⟩
theorem aSy {k:Nat} (hk:17≤k) {z:dE} {x:tI} {c0 c1 c2 c3 c4:C} (g0:CZ 6 Hh z c0 x.holds) (g1:CZ 6 Hi z c1 x.books) (g2:CZ 10 Ez z c2 x.deals) (g3:CZ 9 Bm z c3 x.stocks) (g4:CZ 5 Ik z c4 x.solds) {at_:Int} (hS:SkY x):FC (E k) 63 [.agg [Ci x.number,c0,c1,c2,c3,c4],Ai at_] z fun v z'=>∃ c,v=.c c∧PC 127 z' c (eT (Bw at_ x)):=by
 refine cX (bDJ) (by omega) (aU O) fun B j hj=>?_
 refine xR ?_
 refine iJ O fun b2=>?_
 refine R3 4 O (gX (G1 4 O (wH O O Ht O ?_)))
 refine gC z (bQM (most:=4096) (by omega) g0 hS.1) O O O O fun v10 z10 _ ⟨c10,hv10,h10⟩=>?_
 subst hv10
 refine G1 4 O (wH O O Ht O ?_)
 refine gC z10 (bO0 (most:=4096) (by omega) g1.m hS.2.1) O O O O fun v14 z14 _ ⟨c14,hv14,h14⟩=>?_
 subst hv14
 refine G1 4 O (wH O O Ht O ?_)
 refine gC z14 (bNu (most:=4096) (by omega) g2.m hS.2.2.1) O O O O fun v18 z18 _ ⟨c18,hv18,h18⟩=>?_
 subst hv18
 refine G1 4 O (wH O O Ht O ?_)
 refine gC z18 (bLi (most:=4096) (by omega) g3.m hS.2.2.2.1) O O O O fun v22 z22 _ ⟨c22,hv22,h22⟩=>?_
 subst hv22
 refine G1 4 O (wH O O Ht O ?_)
 refine gC z22 (bQK (most:=4096) (by omega) g4.m hS.2.2.2.2) O O O O fun v26 z26 _ ⟨c26,hv26,h26⟩=>?_
 subst hv26
 refine qT (k:=.cells 113 [c10,c14,c18,c22,c26]) (w:=fun b=>Aw b 5) rfl F rfl (fun _=>rfl) (fun st hst=>?_) (fun b27 hT27=>?_)
 ·simp only [eE,uZ,AS.ev,hst 10 (by simp [jM.sl,Od.sls,Od.sl]),hst 14 (by simp [jM.sl,Od.sls,Od.sl]),hst 18 (by simp [jM.sl,Od.sls,Od.sl]),hst 22 (by simp [jM.sl,Od.sls,Od.sl]),hst 26 (by simp [jM.sl,Od.sls,Od.sl])];rfl
 refine zW z26 (p:=[]) O O O (fun _ h=>h) fun zfg27 _ g27=>?_
 have hrow:=bFi (Ey (h10.mono (zJ zfg27)) (Ey (h14.mono (zJ zfg27)) (Ey (h18.mono (zJ zfg27)) (Ey (h22.mono (zJ zfg27)) (Ey (h26.mono (zJ zfg27)) CL.nil))))) (n:=5) rfl (by decide) g27
 refine gP O O F ?_
 refine aFy O O (lN ?_)
 refine G0 2 O ?_
 refine aT (aQ ?_)
 refine eA (fun n fs=>∃ (i:Nat),LI zfg27 [.blk b2 (.cells 92 [Ci x.number,c0,c1,c2,c3,c4])] [(27,Aw b27 5),(28,Az 5),(29,Az i)] fs∧n=5 - i∧(i≤5)∧(eT (Bw at_ x)=eT ((Bw at_ x).drop i))) ?_ _ ⟨0,LI.m [] O,rfl,Nat.zero_le _,rfl⟩ (kK (by omega))
 intro n fs ⟨i,hL0,hmz0,hi,hfs⟩
 refine hL0.open fun e zl0 _=>?_
 refine R5 8 O ?_
 refine xD O (fun hc30=>?_) (fun hc30=>?_)
 ·refine dA ?_
  refine aT (aQ ?_)
  refine xR ?_
  refine dH (zz:=zl0) O O hrow.m i O _ (List.getElem?_eq_getElem (show i<(Bw at_ x).length by show i<5;omega)) fun b31 p31 cs at31 hR=>?_
  obtain ⟨cp,hcs,hp⟩:=hR
  subst hcs
  refine Z0 O at31 (R2 8 O (aVS O O hp (lN ?_)))
  refine iO O (fun hc34=>?_) (fun hc34=>?_)
  ·refine R5 8 O (xT (lS (B8 (lS ?_))))
   exact rI O ⟨_,rfl,by rw [hfs,aYG (show i<(Bw at_ x).length by show i<5;omega) hc34];exact hp⟩
  refine iF (dN (xG (lB O O (eP (n:=i+1) (by omega) (by omega)) (R0 2 O ?_))))
  exact lQ (by omega) ⟨i+1,LI.m [] O,rfl,by omega,hfs.trans (aVt (by show i<5;omega) hc34)⟩
 refine dK (nQ (dN (R5 4 O (xT ?_))))
 exact rI O ⟨_,rfl,by rw [hfs,aTL (show (Bw at_ x).length≤i by show 5≤i;omega)];rfl⟩
theorem aSG {k:Nat} (hk:18≤k) {z:dE} {x:kM} {c0 c1 c2 c3 c4 c5 c6 c7 c8 c9 c10 c11:C} (g0:CZ 8 pS z c0 x.brackets) (g1:CZ 1 RW z c1 x.threshold.nm) (g2:CZ 1 RW z c2 x.threshold.dm) (g3:CZ 1 RW z c3 x.cap.nm) (g4:CZ 1 RW z c4 x.cap.dm) (g5:CZ 1 RW z c5 x.interest.nm) (g6:CZ 1 RW z c6 x.interest.dm) (g7:CZ 1 RW z c7 x.floor.nm) (g8:CZ 1 RW z c8 x.floor.dm) (g9:CZ 6 xP z c9 x.classes) (g10:CZ 1 RS z c10 x.entities) (g11:CZ 6 Ak z c11 x.years) (hS:SkF x):FC (E k) 17 [.agg (kF x c0 c1 c2 c3 c4 c5 c6 c7 c8 c9 c10 c11)] z fun v _=>v=FV (Bi x):=by
 have hly:=g11.le
 refine cX (bG2) (by omega) (aU O) fun B j hj=>?_
 refine xR ?_
 refine iJ O fun b1=>?_
 refine mR fun b2=>?_
 refine R3 4 O (gX (G1 2 O (wH O O (.inr Y1) O (G1 2 O (wH O O (.inr Y1) O ?_)))))
 refine qT (k:=.cells 9 (cE Value.string [x.name,x.parent])) (w:=fun b=>Aw b 2) rfl F rfl (fun _=>rfl) (fun st hst=>?_) (fun b13 hT13=>?_)
 ·simp only [eE,uZ,AS.ev,hst 10 (by simp [jM.sl,Od.sls,Od.sl]),hst 12 (by simp [jM.sl,Od.sls,Od.sl])];rfl
 refine zW z (p:=[]) O O O (fun _ h=>h) fun zfg13 _ g13=>?_
 have hn2:SZ 1 RS zfg13 (Aw b13 2) [x.name,x.parent]:=Ls.sz rfl (by decide) g13
 refine gC zfg13 (bL4 (most:=2) (by omega) hn2 hS.str2) O O O O fun v14 z14 _ ⟨c14,hv14,h14⟩=>?_
 subst hv14
 refine G1 2 O (wH O O (.inr Y1) O ?_)
 refine gC z14 (bAr (most:=16) (by omega) g0.m hS.brackets) O O O O fun v17 z17 _ ⟨c17,hv17,h17⟩=>?_
 subst hv17
 refine aTx (i:=⟨_,_,.load _ _ _⟩) O O F O (.inr Y1) O sR ?_
 refine gC z17 (aFa (by omega) g0.m g1.m g2.m g3.m g4.m g5.m g6.m g7.m g8.m g9.m g10.m g11.m ⟨hS.threshold,hS.cap,hS.interest,hS.floor⟩) O O O O fun v19 z19 _ ⟨c19,hv19,h19⟩=>?_
 subst hv19
 refine gC z19 (bP3 (most:=7) (by omega) h19) O O O O fun v20 z20 _ ⟨c20,hv20,h20⟩=>?_
 subst hv20
 refine G1 2 O (wH O O (.inr Y1) O ?_)
 refine gC z20 (bKI (most:=64) (by omega) g9.m hS.classes) O O O O fun v23 z23 _ ⟨c23,hv23,h23⟩=>?_
 subst hv23
 refine G1 2 O (wH O O (.inr Y1) O ?_)
 refine gC z23 (bL4 (most:=256) (by omega) g10.m hS.entities) O O O O fun v26 z26 _ ⟨c26,hv26,h26⟩=>?_
 subst hv26
 refine G1 2 O (wH O O (.inr Y1) O ?_)
 refine gC z26 (bOL (most:=40) (by omega) g11.m) O O O O fun v29 z29 _ ⟨c29,hv29,h29⟩=>?_
 subst hv29
 refine qT (k:=.cells 113 [c14,c17,c20,c23,c26,c29]) (w:=fun b=>Aw b 6) rfl F rfl (fun _=>rfl) (fun st hst=>?_) (fun b30 hT30=>?_)
 ·simp only [eE,uZ,AS.ev,hst 14 (by simp [jM.sl,Od.sls,Od.sl]),hst 17 (by simp [jM.sl,Od.sls,Od.sl]),hst 20 (by simp [jM.sl,Od.sls,Od.sl]),hst 23 (by simp [jM.sl,Od.sls,Od.sl]),hst 26 (by simp [jM.sl,Od.sls,Od.sl]),hst 29 (by simp [jM.sl,Od.sls,Od.sl])];rfl
 refine zW z29 (p:=[]) O O O (fun _ h=>h) fun zfg30 _ g30=>?_
 have hrow:=bFi (Ey (h14.mono (zJ zfg30)) (Ey (h17.mono (zJ zfg30)) (Ey (h20.mono (zJ zfg30)) (Ey (h23.mono (zJ zfg30)) (Ey (h26.mono (zJ zfg30)) (Ey (h29.mono (zJ zfg30)) CL.nil)))))) (n:=6) rfl (by decide) g30
 refine gP O O F ?_
 refine aFy O O (lN ?_)
 refine G0 2 O ?_
 refine aT (aQ ?_)
 refine eA (fun n fs=>∃ (i0:Nat),LI zfg30 [.blk b2 (.cells 50 [Cu 0,Ci 0,Ci 0]),.blk b1 (.cells 41 (kF x c0 c1 c2 c3 c4 c5 c6 c7 c8 c9 c10 c11))] [(1,Ap b1),(2,Ap b2),(30,Aw b30 6),(31,Az 6),(32,Az i0)] fs∧n=6 - i0∧(i0≤6)∧(eT (pE x)=eT ((pE x).drop i0))) ?_ _ ⟨0,LI.m [] O,rfl,Nat.zero_le _,rfl⟩ (kK (by omega))
 intro n fs ⟨i0,hL0,hmz0,hi,hfs⟩
 refine hL0.open fun e zl0 _=>?_
 refine R5 8 O ?_
 refine xD O (fun hc33=>?_) (fun hc33=>?_)
 ·refine dA ?_
  refine aT (aQ ?_)
  refine xR ?_
  refine dH (zz:=zl0) O O hrow.m i0 O _ (List.getElem?_eq_getElem (show i0<(pE x).length by show i0<6;omega)) fun b34 p34 cs at34 hR=>?_
  obtain ⟨cp,hcs,hp⟩:=hR
  subst hcs
  refine Z0 O at34 (R2 8 O (aVS O O hp (lN ?_)))
  refine iO O (fun hc37=>?_) (fun hc37=>?_)
  ·refine gX ?_
   refine aL1 (p:=[]) O fun hT2=>?_
   have hf:=Option.isSome_iff_exists.1 hc37
   obtain ⟨f,hf⟩:=hf
   rw [hf] at hp
   have hq:=hp
   obtain ⟨bf,hbe,hbf⟩:=hq
   subst hbe
   refine G1 2 O (gP O O F ?_)
   refine aFn O (lN ?_)
   refine G1 2 O ?_
   refine aZD (i:=⟨_,_,.load _ _ _⟩) O O F O hbf ti ?_
   refine G1 2 O (gP O O F ?_)
   refine aFn O (lN ?_)
   refine G1 2 O ?_
   refine bAh (i:=⟨_,_,.load _ _ _⟩) O O F O hbf ti ?_
   refine gT O O O hT2 (pM O O O O iP (lN (G0 2 O (xT (lS (B8 (lS (rQ (.inl O) (rc3 O mem0 (rt O rn)) ?_))))))))
   rw [Bi,hfs,aYG (show i0<(pE x).length by show i0<6;omega) hc37,hf]
   rfl
  refine iF (dN (xG (lB O O (eP (n:=i0+1) (by omega) (by omega)) (R0 2 O ?_))))
  exact lQ (by omega) ⟨i0+1,LI.m [] O,rfl,by omega,hfs.trans (aVt (by show i0<6;omega) hc37)⟩
 refine dK (nQ (dN (R4 8 O (bQ O Y1 O (aS O g11 (R0 2 O ?_))))))
 refine aT (aQ ?_)
 refine eA (fun n fs=>∃ (i:Nat),LI zl0 [.blk b2 (.cells 50 [Cu 0,Ci 0,Ci 0]),.blk b1 (.cells 41 (kF x c0 c1 c2 c3 c4 c5 c6 c7 c8 c9 c10 c11))] [(1,Ap b1),(2,Ap b2),(48,.c c11),(49,Az x.years.length),(50,Az i)] fs∧n=x.years.length - i∧(i≤x.years.length)∧(A7 0 x.years=A7 i (x.years.drop i))) ?_ _ ⟨0,LI.m [] O,rfl,Nat.zero_le _,rfl⟩ (by have:=g11.le;show _<18446744073709551616;omega)
 intro n fs ⟨i,hL1,hmz1,hi,hyw⟩
 refine hL1.open fun e zl1 _=>?_
 refine R5 8 O ?_
 refine xD O (fun hc51=>?_) (fun hc51=>?_)
 ·refine dA ?_
  refine aT (aQ ?_)
  refine R4 4 O ?_
  refine dH (zz:=zl1) O O g11.m i O _ (List.getElem?_eq_getElem (by omega)) fun b53 p53 cs at53 hR=>?_
  obtain ⟨y0,y1,y2,y3,y4,hcs,q0,q1,q2,q3,q4⟩:=hR
  subst hcs
  refine aVf O at53 O ?_
  refine mR fun b7=>?_
  refine lC O (pM O O O O iP (lN (xR (Aa O mem0 O (lC O ?_)))))
  refine lZ zl1 (aSy (at_:=(i:Nat)) (by omega) q0 q1 q2 q3 q4 (hS.years _ (List.getElem_mem (show i<x.years.length by omega)))) O O fun v57 z57 _ ⟨c57,hv57,hp2⟩=>?_
  subst hv57
  refine R2 13 O (aVS O O hp2 (lN ?_))
  refine iO O (fun hc59=>?_) (fun hc59=>?_)
  ·refine gX ?_
   refine aL1 (p:=[_]) O fun hT2=>?_
   have hf:=Option.isSome_iff_exists.1 hc59
   obtain ⟨f,hf⟩:=hf
   rw [hf] at hp2
   have hq:=hp2
   obtain ⟨bf,hbe,hbf⟩:=hq
   subst hbe
   refine G1 3 O (gP O O F ?_)
   refine aFn O (lN ?_)
   refine G1 2 O ?_
   refine aZD (i:=⟨_,_,.load _ _ _⟩) O O F O hbf ti ?_
   refine G1 3 O (gP O O F ?_)
   refine aFn O (lN ?_)
   refine G1 2 O ?_
   refine bAh (i:=⟨_,_,.load _ _ _⟩) O O F O hbf ti ?_
   refine gT O O O hT2 (pM O O O O P1 (lN (G0 2 O (xT (lS (B8 (lS (rQ (.inl O) (rc3 O Y1 (rt O rn)) ?_))))))))
   rw [Bi,hfs,aTL (show (pE x).length≤i0 by show 6≤i0;omega),hyw,bFY (by omega) hc59,hf]
   rfl
  refine iF (dN (xG (lB O O (eP (n:=i+1) (by omega) (by omega)) (R0 2 O ?_))))
  exact lQ (by omega) ⟨i+1,LI.m [_] O,rfl,by omega,hyw.trans (aZG (by omega) hc59)⟩
 refine dK (nQ (dN (xR (iU (cs:=[_,_,_]) O (pM O O O O iP (R0 2 O (xT (rQ (.inl O) (rc3 O mem0 (rt O rn)) ?_))))))))
 rw [Bi,hfs,aTL (show (pE x).length≤i0 by show 6≤i0;omega),hyw,bFZ (by omega)]
 rfl
end Go.Proofs.YtcnpoojdochapaaGreatDoor

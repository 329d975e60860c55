/- The methods that tell whether a part is right, and what is wrong, walked. -/
import Derived.WalkKit
import Derived.Orders
import Derived.Test.YtcnpoojdochapaaGreatDoorLC0
import Derived.Test.YtcnpoojdochapaaGreatDoorLD6
set_option linter.unusedVariables false
set_option linter.unusedSimpArgs false
set_option maxRecDepth 100000
set_option maxHeartbeats 1000000
namespace Go.Proofs.YtcnpoojdochapaaGreatDoor
open Go.CE Go.RowKit Go.Num
open Go.Eng (setL)
abbrev rawR (a:PRat):RawR:=((a.n,a.nm),(a.d,a.dm))
abbrev nameB (s:ByteArray):Bool:=nameS s.data.toList
def Sk (a:PRat):Prop:=a.nm.length≤1000∧a.dm.length≤1000
def Sn (s:ByteArray):Prop:=s.data.toList.length≤1000
def Sk_bracket (a:PBracket):Prop:=Sk a.frm∧Sk a.rate
def bracketS (a:PBracket):Bool:=moneyS (rawR a.frm) && shareS (rawR a.rate)
def Sk_class (a:PClass):Prop:=Sn a.name∧Sk a.arg
def Sk_hold (a:PHold):Prop:=Sn a.owner∧Sn a.owned∧Sk a.share
def holdS (a:PHold):Bool:=nameB a.owner && (nameB a.owned && shareS (rawR a.share))
def Sk_book (a:PBook):Prop:=Sn a.entity∧Sn a.cls∧Sk a.amount
def bookS (a:PBook):Bool:=nameB a.entity && (nameB a.cls && moneyS (rawR a.amount))
def Sk_deal (a:PDeal):Prop:=Sn a.id∧Sn a.payee∧Sn a.payer∧Sn a.cls∧Sk a.amount
def dealS (a:PDeal):Bool:=nameB a.id && (decide (a.kind ≥ 1) && (decide (a.kind≤4) && (nameB a.payee && (nameB a.payer && (nameB a.cls && moneyS (rawR a.amount))))))
def Sk_stock (a:PStock):Prop:=Sn a.id∧Sk a.margin∧Sk a.unsold
def stockS (a:PStock):Bool:=nameB a.id && (moneyS (rawR a.margin) && shareS (rawR a.unsold))
def Sk_sold (a:PSold):Prop:=Sn a.id∧Sk a.share
def soldS (a:PSold):Bool:=nameB a.id && shareS (rawR a.share)
def deferS (x:RawR):Bool:=unitsS x 1 && (decide (0≤Num.valR x) && decide (Num.valR x≤40))
def classS (a:PClass):Bool:=nameB a.name && (if a.kind=4 then shareS (rawR a.arg) else if a.kind=5 then moneyS (rawR a.arg) else if a.kind=6 then deferS (rawR a.arg) else decide (a.kind ≥ 1) && (decide (a.kind≤11) && (rightR (rawR a.arg) && decide (Num.valR (rawR a.arg)=0))))
def yearS (a:PYear):Bool:=decide (a.number ≥ 1) && decide (a.number≤9999)
theorem c_name {k:Nat} (hk:10≤k) {z:Mem} {s:ByteArray} (h:Sn s):FC (E k) 9 [.c (.v (.string s))] z fun v _=>v=.c (.v (.bool (nameB s))):=c_ast_IsName (l:=s.data.toList) hk h
theorem c_money {k:Nat} (hk:14≤k) {z:Mem} {a:PRat} {c d:C} (hx:CZ 1 RW z c a.nm) (hy:CZ 1 RW z d a.dm) (h:Sk a):FC (E k) 11 [.agg [.v (.bool a.n),c,.v (.bool a.d),d]] z fun v _=>v=.c (.v (.bool (moneyS (rawR a)))):=c_ast_IsMoney hk hx hy h.1 h.2
theorem c_share {k:Nat} (hk:11≤k) {z:Mem} {a:PRat} {c d:C} (hx:CZ 1 RW z c a.nm) (hy:CZ 1 RW z d a.dm) (h:Sk a):FC (E k) 13 [.agg [.v (.bool a.n),c,.v (.bool a.d),d]] z fun v _=>v=.c (.v (.bool (shareS (rawR a)))):=c_ast_IsShare hk hx hy h.1 h.2
theorem len40a:(toL ((40:Int):Rat).num.natAbs).length≤9000000:=Nat.le_trans (m:=2) (toL_len.2 (by decide)) (by decide)
theorem len40b:(toL (((40:Int):Rat).den:Int).natAbs).length≤9000000:=Nat.le_trans (m:=2) (toL_len.2 (by decide)) (by decide)
theorem sgn_0 {q:Rat}:q.num.sign=0↔q=0:=by
 rw [Int.sign_eq_zero_iff_zero,Rat.num_eq_zero]
theorem c_ast_Bracket_right {k:Nat} (hk:15≤k) {z:Mem} {a:PBracket} {c0 c1 c2 c3:C} (g0:CZ 1 RW z c0 a.frm.nm) (g1:CZ 1 RW z c1 a.frm.dm) (g2:CZ 1 RW z c2 a.rate.nm) (g3:CZ 1 RW z c3 a.rate.dm) (hS:Sk_bracket a):FC (E k) 55 [.agg [.v (.bool a.frm.n),c0,.v (.bool a.frm.d),c1,.v (.bool a.rate.n),c2,.v (.bool a.rate.d),c3]] z fun v _=>v=.c (.v (.bool (bracketS a))):=by
 refine fc_of (tS_get55) (by omega) (len1 rfl) fun B j hj=>?_
 refine xR ?_
 refine fl_bx rfl fun b1=>?_
 refine lC rfl (lN (xR (lF rfl (fl_ld4 rfl mem0 rfl ?_))))
 refine lZ z (c_money (a:=a.frm) (by omega) g0 g1 hS.1) rfl rfl fun v5 z5 hz5 hv5=>?_
 subst hv5
 refine lM rfl ?_
 refine fl_splitB 6 rfl (fun hg6=>?_) (fun hg6=>?_)
 ·refine lD rfl (lF rfl (lD rfl (fl_ld4 rfl mem0 rfl (lD rfl ?_))))
  refine lZ z5 (c_share (a:=a.rate) (by omega) (g2.mono (hz5)) (g3.mono (hz5)) hS.2) rfl rfl fun v9 z9 hz9 hv9=>?_
  subst hv9
  refine lP rfl rfl (lM rfl (lN (xT (rQ (.inl rfl) (rt rfl rn) ?_))))
  exact congrArg (fun b=>AV.c (.v (.bool b))) (by simp_all [bracketS]<;>omega)
 ·refine lX rfl (lX rfl (lX rfl (lP rfl rfl (lM rfl (lN (xT (rQ (.inl rfl) (rt rfl rn) ?_)))))))
  exact congrArg (fun b=>AV.c (.v (.bool b))) (by simp_all [bracketS]<;>omega)
theorem r_bracket {k:Nat} (hk:15≤k) {z:Mem} {cs:List C} {a:PBracket} (h:RBracket z cs a) (hS:Sk_bracket a):FC (E k) 55 [.agg cs] z fun v _=>v=.c (.v (.bool (bracketS a))):=by
 obtain ⟨c0,c1,c2,c3,rfl,g0,g1,g2,g3⟩:=h
 exact c_ast_Bracket_right hk g0 g1 g2 g3 hS
theorem c_ast_Hold_right {k:Nat} (hk:12≤k) {z:Mem} {a:PHold} {c0 c1:C} (g0:CZ 1 RW z c0 a.share.nm) (g1:CZ 1 RW z c1 a.share.dm) (hS:Sk_hold a):FC (E k) 118 [.agg [.v (.string a.owner),.v (.string a.owned),.v (.bool a.share.n),c0,.v (.bool a.share.d),c1]] z fun v _=>v=.c (.v (.bool (holdS a))):=by
 refine fc_of (tS_get118) (by omega) (len1 rfl) fun B j hj=>?_
 refine xR ?_
 refine fl_bx rfl fun b1=>?_
 refine lC rfl (lN (xR (lF rfl (fl_ld1 rfl mem0 rfl ?_))))
 refine lZ z (c_name (by omega) hS.1) rfl rfl fun v5 z5 hz5 hv5=>?_
 subst hv5
 refine lM rfl ?_
 refine fl_splitB 6 rfl (fun hg6=>?_) (fun hg6=>?_)
 ·refine lD rfl (lF rfl (lD rfl (fl_ld1 rfl mem0 rfl (lD rfl ?_))))
  refine lZ z5 (c_name (by omega) hS.2.1) rfl rfl fun v9 z9 hz9 hv9=>?_
  subst hv9
  refine lP rfl rfl (lM rfl ?_)
  refine fl_splitB 11 rfl (fun hg11=>?_) (fun hg11=>?_)
  ·refine lD rfl (lF rfl (lD rfl (fl_ld4 rfl mem0 rfl (lD rfl ?_))))
   refine lZ z9 (c_share (a:=a.share) (by omega) (g0.mono (hz5.trans hz9)) (g1.mono (hz5.trans hz9)) hS.2.2) rfl rfl fun v14 z14 hz14 hv14=>?_
   subst hv14
   refine lP rfl rfl (lM rfl (lN (xT (rQ (.inl rfl) (rt rfl rn) ?_))))
   exact congrArg (fun b=>AV.c (.v (.bool b))) (by simp_all [holdS]<;>omega)
  ·refine lX rfl (lX rfl (lX rfl (lP rfl rfl (lM rfl (lN (xT (rQ (.inl rfl) (rt rfl rn) ?_)))))))
   exact congrArg (fun b=>AV.c (.v (.bool b))) (by simp_all [holdS]<;>omega)
 ·refine lX rfl (lX rfl (lX rfl (lP rfl rfl (lM rfl (lX rfl (lX rfl (lX rfl ?_)))))))
  refine lP rfl rfl (lM rfl (lN (xT (rQ (.inl rfl) (rt rfl rn) ?_))))
  exact congrArg (fun b=>AV.c (.v (.bool b))) (by simp_all [holdS]<;>omega)
theorem r_hold {k:Nat} (hk:12≤k) {z:Mem} {cs:List C} {a:PHold} (h:RHold z cs a) (hS:Sk_hold a):FC (E k) 118 [.agg cs] z fun v _=>v=.c (.v (.bool (holdS a))):=by
 obtain ⟨c0,c1,rfl,g0,g1⟩:=h
 exact c_ast_Hold_right hk g0 g1 hS
theorem c_ast_Book_right {k:Nat} (hk:15≤k) {z:Mem} {a:PBook} {c0 c1:C} (g0:CZ 1 RW z c0 a.amount.nm) (g1:CZ 1 RW z c1 a.amount.dm) (hS:Sk_book a):FC (E k) 120 [.agg [.v (.string a.entity),.v (.string a.cls),.v (.bool a.amount.n),c0,.v (.bool a.amount.d),c1]] z fun v _=>v=.c (.v (.bool (bookS a))):=by
 refine fc_of (tS_get120) (by omega) (len1 rfl) fun B j hj=>?_
 refine xR ?_
 refine fl_bx rfl fun b1=>?_
 refine lC rfl (lN (xR (lF rfl (fl_ld1 rfl mem0 rfl ?_))))
 refine lZ z (c_name (by omega) hS.1) rfl rfl fun v5 z5 hz5 hv5=>?_
 subst hv5
 refine lM rfl ?_
 refine fl_splitB 6 rfl (fun hg6=>?_) (fun hg6=>?_)
 ·refine lD rfl (lF rfl (lD rfl (fl_ld1 rfl mem0 rfl (lD rfl ?_))))
  refine lZ z5 (c_name (by omega) hS.2.1) rfl rfl fun v9 z9 hz9 hv9=>?_
  subst hv9
  refine lP rfl rfl (lM rfl ?_)
  refine fl_splitB 11 rfl (fun hg11=>?_) (fun hg11=>?_)
  ·refine lD rfl (lF rfl (lD rfl (fl_ld4 rfl mem0 rfl (lD rfl ?_))))
   refine lZ z9 (c_money (a:=a.amount) (by omega) (g0.mono (hz5.trans hz9)) (g1.mono (hz5.trans hz9)) hS.2.2) rfl rfl fun v14 z14 hz14 hv14=>?_
   subst hv14
   refine lP rfl rfl (lM rfl (lN (xT (rQ (.inl rfl) (rt rfl rn) ?_))))
   exact congrArg (fun b=>AV.c (.v (.bool b))) (by simp_all [bookS]<;>omega)
  ·refine lX rfl (lX rfl (lX rfl (lP rfl rfl (lM rfl (lN (xT (rQ (.inl rfl) (rt rfl rn) ?_)))))))
   exact congrArg (fun b=>AV.c (.v (.bool b))) (by simp_all [bookS]<;>omega)
 ·refine lX rfl (lX rfl (lX rfl (lP rfl rfl (lM rfl (lX rfl (lX rfl (lX rfl ?_)))))))
  refine lP rfl rfl (lM rfl (lN (xT (rQ (.inl rfl) (rt rfl rn) ?_))))
  exact congrArg (fun b=>AV.c (.v (.bool b))) (by simp_all [bookS]<;>omega)
theorem r_book {k:Nat} (hk:15≤k) {z:Mem} {cs:List C} {a:PBook} (h:RBook z cs a) (hS:Sk_book a):FC (E k) 120 [.agg cs] z fun v _=>v=.c (.v (.bool (bookS a))):=by
 obtain ⟨c0,c1,rfl,g0,g1⟩:=h
 exact c_ast_Book_right hk g0 g1 hS
theorem c_ast_Deal_right {k:Nat} (hk:15≤k) {z:Mem} {a:PDeal} {c0 c1:C} (g0:CZ 1 RW z c0 a.amount.nm) (g1:CZ 1 RW z c1 a.amount.dm) (hS:Sk_deal a):FC (E k) 122 [.agg [.v (.bool a.give),.v (.string a.id),.v (.int .u8 a.kind),.v (.string a.payee),.v (.string a.payer),.v (.string a.cls),.v (.bool a.amount.n),c0,.v (.bool a.amount.d),c1]] z fun v _=>v=.c (.v (.bool (dealS a))):=by
 refine fc_of (tS_get122) (by omega) (len1 rfl) fun B j hj=>?_
 refine xR ?_
 refine fl_bx rfl fun b1=>?_
 refine lC rfl (lN (xR (lF rfl (fl_ld1 rfl mem0 rfl ?_))))
 refine lZ z (c_name (by omega) hS.1) rfl rfl fun v5 z5 hz5 hv5=>?_
 subst hv5
 refine lM rfl ?_
 refine fl_splitB 6 rfl (fun hg6=>?_) (fun hg6=>?_)
 ·refine lD rfl (lF rfl (lD rfl (fl_ld1 rfl mem0 rfl (lD rfl (lB rfl rfl (b_geq _ _ _) (lP rfl rfl (lM rfl ?_)))))))
  refine fl_splitD 11 rfl (fun hg11=>?_) (fun hg11=>?_)
  ·refine lD rfl (lF rfl (lD rfl (fl_ld1 rfl mem0 rfl (lD rfl (lB rfl rfl (b_leq _ _ _) (lP rfl rfl (lM rfl ?_)))))))
   refine fl_splitD 16 rfl (fun hg16=>?_) (fun hg16=>?_)
   ·refine lD rfl (lF rfl (lD rfl (fl_ld1 rfl mem0 rfl (lD rfl ?_))))
    refine lZ z5 (c_name (by omega) hS.2.1) rfl rfl fun v19 z19 hz19 hv19=>?_
    subst hv19
    refine lP rfl rfl (lM rfl ?_)
    refine fl_splitB 21 rfl (fun hg21=>?_) (fun hg21=>?_)
    ·refine lD rfl (lF rfl (lD rfl (fl_ld1 rfl mem0 rfl (lD rfl ?_))))
     refine lZ z19 (c_name (by omega) hS.2.2.1) rfl rfl fun v24 z24 hz24 hv24=>?_
     subst hv24
     refine lP rfl rfl (lM rfl ?_)
     refine fl_splitB 26 rfl (fun hg26=>?_) (fun hg26=>?_)
     ·refine lD rfl (lF rfl (lD rfl (fl_ld1 rfl mem0 rfl (lD rfl ?_))))
      refine lZ z24 (c_name (by omega) hS.2.2.2.1) rfl rfl fun v29 z29 hz29 hv29=>?_
      subst hv29
      refine lP rfl rfl (lM rfl ?_)
      refine fl_splitB 31 rfl (fun hg31=>?_) (fun hg31=>?_)
      ·refine lD rfl (lF rfl (lD rfl (fl_ld4 rfl mem0 rfl (lD rfl ?_))))
       refine lZ z29 (c_money (a:=a.amount) (by omega) (g0.mono (hz5.trans (hz19.trans (hz24.trans hz29)))) (g1.mono (hz5.trans (hz19.trans (hz24.trans hz29)))) hS.2.2.2.2) rfl rfl fun v34 z34 hz34 hv34=>?_
       subst hv34
       refine lP rfl rfl (lM rfl (lN (xT (rQ (.inl rfl) (rt rfl rn) ?_))))
       exact congrArg (fun b=>AV.c (.v (.bool b))) (by simp_all [dealS]<;>omega)
      ·refine lX rfl (lX rfl (lX rfl (lP rfl rfl (lM rfl (lN (xT (rQ (.inl rfl) (rt rfl rn) ?_)))))))
       exact congrArg (fun b=>AV.c (.v (.bool b))) (by simp_all [dealS]<;>omega)
     ·refine lX rfl (lX rfl (lX rfl (lP rfl rfl (lM rfl (lX rfl (lX rfl (lX rfl ?_)))))))
      refine lP rfl rfl (lM rfl (lN (xT (rQ (.inl rfl) (rt rfl rn) ?_))))
      exact congrArg (fun b=>AV.c (.v (.bool b))) (by simp_all [dealS]<;>omega)
    ·refine lX rfl (lX rfl (lX rfl (lP rfl rfl (lM rfl (lX rfl (lX rfl (lX rfl ?_)))))))
     refine lP rfl rfl (lM rfl (lX rfl (lX rfl (lX rfl (lP rfl rfl (lM rfl (lN ?_)))))))
     refine xT (rQ (.inl rfl) (rt rfl rn) ?_)
     exact congrArg (fun b=>AV.c (.v (.bool b))) (by simp_all [dealS]<;>omega)
   ·refine lX rfl (lX rfl (lX rfl (lP rfl rfl (lM rfl (lX rfl (lX rfl (lX rfl ?_)))))))
    refine lP rfl rfl (lM rfl (lX rfl (lX rfl (lX rfl (lP rfl rfl (lM rfl (lX rfl ?_)))))))
    refine lX rfl (lX rfl (lP rfl rfl (lM rfl (lN (xT (rQ (.inl rfl) (rt rfl rn) ?_))))))
    exact congrArg (fun b=>AV.c (.v (.bool b))) (by simp_all [dealS]<;>omega)
  ·refine lX rfl (lX rfl (lX rfl (lP rfl rfl (lM rfl (lX rfl (lX rfl (lX rfl ?_)))))))
   refine lP rfl rfl (lM rfl (lX rfl (lX rfl (lX rfl (lP rfl rfl (lM rfl (lX rfl ?_)))))))
   refine lX rfl (lX rfl (lP rfl rfl (lM rfl (lX rfl (lX rfl (lX rfl (lP rfl rfl ?_)))))))
   refine lM rfl (lN (xT (rQ (.inl rfl) (rt rfl rn) ?_)))
   exact congrArg (fun b=>AV.c (.v (.bool b))) (by simp_all [dealS]<;>omega)
 ·refine lX rfl (lX rfl (lX rfl (lP rfl rfl (lM rfl (lX rfl (lX rfl (lX rfl ?_)))))))
  refine lP rfl rfl (lM rfl (lX rfl (lX rfl (lX rfl (lP rfl rfl (lM rfl (lX rfl ?_)))))))
  refine lX rfl (lX rfl (lP rfl rfl (lM rfl (lX rfl (lX rfl (lX rfl (lP rfl rfl ?_)))))))
  refine lM rfl (lX rfl (lX rfl (lX rfl (lP rfl rfl (lM rfl (lN (xT ?_)))))))
  refine rQ (.inl rfl) (rt rfl rn) ?_
  exact congrArg (fun b=>AV.c (.v (.bool b))) (by simp_all [dealS]<;>omega)
theorem r_deal {k:Nat} (hk:15≤k) {z:Mem} {cs:List C} {a:PDeal} (h:RDeal z cs a) (hS:Sk_deal a):FC (E k) 122 [.agg cs] z fun v _=>v=.c (.v (.bool (dealS a))):=by
 obtain ⟨c0,c1,rfl,g0,g1⟩:=h
 exact c_ast_Deal_right hk g0 g1 hS
theorem c_ast_Stock_right {k:Nat} (hk:15≤k) {z:Mem} {a:PStock} {c0 c1 c2 c3:C} (g0:CZ 1 RW z c0 a.margin.nm) (g1:CZ 1 RW z c1 a.margin.dm) (g2:CZ 1 RW z c2 a.unsold.nm) (g3:CZ 1 RW z c3 a.unsold.dm) (hS:Sk_stock a):FC (E k) 124 [.agg [.v (.string a.id),.v (.bool a.margin.n),c0,.v (.bool a.margin.d),c1,.v (.bool a.unsold.n),c2,.v (.bool a.unsold.d),c3]] z fun v _=>v=.c (.v (.bool (stockS a))):=by
 refine fc_of (tS_get124) (by omega) (len1 rfl) fun B j hj=>?_
 refine xR ?_
 refine fl_bx rfl fun b1=>?_
 refine lC rfl (lN (xR (lF rfl (fl_ld1 rfl mem0 rfl ?_))))
 refine lZ z (c_name (by omega) hS.1) rfl rfl fun v5 z5 hz5 hv5=>?_
 subst hv5
 refine lM rfl ?_
 refine fl_splitB 6 rfl (fun hg6=>?_) (fun hg6=>?_)
 ·refine lD rfl (lF rfl (lD rfl (fl_ld4 rfl mem0 rfl (lD rfl ?_))))
  refine lZ z5 (c_money (a:=a.margin) (by omega) (g0.mono (hz5)) (g1.mono (hz5)) hS.2.1) rfl rfl fun v9 z9 hz9 hv9=>?_
  subst hv9
  refine lP rfl rfl (lM rfl ?_)
  refine fl_splitB 11 rfl (fun hg11=>?_) (fun hg11=>?_)
  ·refine lD rfl (lF rfl (lD rfl (fl_ld4 rfl mem0 rfl (lD rfl ?_))))
   refine lZ z9 (c_share (a:=a.unsold) (by omega) (g2.mono (hz5.trans hz9)) (g3.mono (hz5.trans hz9)) hS.2.2) rfl rfl fun v14 z14 hz14 hv14=>?_
   subst hv14
   refine lP rfl rfl (lM rfl (lN (xT (rQ (.inl rfl) (rt rfl rn) ?_))))
   exact congrArg (fun b=>AV.c (.v (.bool b))) (by simp_all [stockS]<;>omega)
  ·refine lX rfl (lX rfl (lX rfl (lP rfl rfl (lM rfl (lN (xT (rQ (.inl rfl) (rt rfl rn) ?_)))))))
   exact congrArg (fun b=>AV.c (.v (.bool b))) (by simp_all [stockS]<;>omega)
 ·refine lX rfl (lX rfl (lX rfl (lP rfl rfl (lM rfl (lX rfl (lX rfl (lX rfl ?_)))))))
  refine lP rfl rfl (lM rfl (lN (xT (rQ (.inl rfl) (rt rfl rn) ?_))))
  exact congrArg (fun b=>AV.c (.v (.bool b))) (by simp_all [stockS]<;>omega)
theorem r_stock {k:Nat} (hk:15≤k) {z:Mem} {cs:List C} {a:PStock} (h:RStock z cs a) (hS:Sk_stock a):FC (E k) 124 [.agg cs] z fun v _=>v=.c (.v (.bool (stockS a))):=by
 obtain ⟨c0,c1,c2,c3,rfl,g0,g1,g2,g3⟩:=h
 exact c_ast_Stock_right hk g0 g1 g2 g3 hS
theorem c_ast_Sold_right {k:Nat} (hk:12≤k) {z:Mem} {a:PSold} {c0 c1:C} (g0:CZ 1 RW z c0 a.share.nm) (g1:CZ 1 RW z c1 a.share.dm) (hS:Sk_sold a):FC (E k) 126 [.agg [.v (.string a.id),.v (.bool a.share.n),c0,.v (.bool a.share.d),c1]] z fun v _=>v=.c (.v (.bool (soldS a))):=by
 refine fc_of (tS_get126) (by omega) (len1 rfl) fun B j hj=>?_
 refine xR ?_
 refine fl_bx rfl fun b1=>?_
 refine lC rfl (lN (xR (lF rfl (fl_ld1 rfl mem0 rfl ?_))))
 refine lZ z (c_name (by omega) hS.1) rfl rfl fun v5 z5 hz5 hv5=>?_
 subst hv5
 refine lM rfl ?_
 refine fl_splitB 6 rfl (fun hg6=>?_) (fun hg6=>?_)
 ·refine lD rfl (lF rfl (lD rfl (fl_ld4 rfl mem0 rfl (lD rfl ?_))))
  refine lZ z5 (c_share (a:=a.share) (by omega) (g0.mono (hz5)) (g1.mono (hz5)) hS.2) rfl rfl fun v9 z9 hz9 hv9=>?_
  subst hv9
  refine lP rfl rfl (lM rfl (lN (xT (rQ (.inl rfl) (rt rfl rn) ?_))))
  exact congrArg (fun b=>AV.c (.v (.bool b))) (by simp_all [soldS]<;>omega)
 ·refine lX rfl (lX rfl (lX rfl (lP rfl rfl (lM rfl (lN (xT (rQ (.inl rfl) (rt rfl rn) ?_)))))))
  exact congrArg (fun b=>AV.c (.v (.bool b))) (by simp_all [soldS]<;>omega)
theorem r_sold {k:Nat} (hk:12≤k) {z:Mem} {cs:List C} {a:PSold} (h:RSold z cs a) (hS:Sk_sold a):FC (E k) 126 [.agg cs] z fun v _=>v=.c (.v (.bool (soldS a))):=by
 obtain ⟨c0,c1,rfl,g0,g1⟩:=h
 exact c_ast_Sold_right hk g0 g1 hS
theorem c_ast_Class_right {k:Nat} (hk:15≤k) {z:Mem} {a:PClass} {c0 c1:C} (g0:CZ 1 RW z c0 a.arg.nm) (g1:CZ 1 RW z c1 a.arg.dm) (hS:Sk_class a):FC (E k) 60 [.agg [.v (.string a.name),.v (.int .u8 a.kind),.v (.bool a.arg.n),c0,.v (.bool a.arg.d),c1]] z fun v _=>v=.c (.v (.bool (classS a))):=by
 refine fc_of (tS_get60) (by omega) (len1 rfl) fun B j hj=>?_
 refine xR ?_
 refine fl_bx rfl fun b1=>?_
 refine lC rfl (lN (fx_ss (xR (lF rfl (fl_ld1 rfl mem0 rfl ?_)))))
 refine lZ z (c_name (by omega) hS.1) rfl rfl fun v5 z5 hz5 hv5=>?_
 subst hv5
 refine fl_un rfl (u_not _) (lN (fx_cseq ?_))
 refine fx_condB rfl (fun hc6=>?_) (fun hc6=>?_)
 ·refine fx_ss (xR (lC rfl (lN (fx_rseq (rQ (.inl rfl) (rt rfl rn) ?_)))))
  exact congrArg (fun b=>AV.c (.v (.bool b))) (by (try simp only [cmp_le,sgn_ge,sgn_0] at *);simp_all [classS,deferS]<;>omega)
 ·refine fx_kseq (fx_ss (xR (lF rfl (fl_ld1 rfl mem0 rfl (lN ?_)))))
  refine fx_seq (fx_block ?_)
  refine xR (lB rfl rfl (b_eql _ _ _) (lC rfl (lN ?_)))
  refine xD rfl (fun hc9=>?_) (fun hc9=>?_)
  ·refine xR (lF rfl (fl_ld4 rfl mem0 rfl ?_))
   refine lZ z5 (c_share (a:=a.arg) (by omega) (g0.mono (hz5)) (g1.mono (hz5)) hS.2) rfl rfl fun v13 z13 hz13 hv13=>?_
   subst hv13
   refine lM rfl (lN (xT (sq_r (rQ (.inl rfl) (rt rfl rn) ?_))))
   exact congrArg (fun b=>AV.c (.v (.bool b))) (by (try simp only [cmp_le,sgn_ge,sgn_0] at *);simp_all [classS,deferS]<;>omega)
  ·refine xR (lB rfl rfl (b_eql _ _ _) (lC rfl (lN ?_)))
   refine xD rfl (fun hc14=>?_) (fun hc14=>?_)
   ·refine xR (lF rfl (fl_ld4 rfl mem0 rfl ?_))
    refine lZ z5 (c_money (a:=a.arg) (by omega) (g0.mono (hz5)) (g1.mono (hz5)) hS.2) rfl rfl fun v18 z18 hz18 hv18=>?_
    subst hv18
    refine lM rfl (lN (xT (sq_r (rQ (.inl rfl) (rt rfl rn) ?_))))
    exact congrArg (fun b=>AV.c (.v (.bool b))) (by (try simp only [cmp_le,sgn_ge,sgn_0] at *);simp_all [classS,deferS]<;>omega)
   ·refine xR (lB rfl rfl (b_eql _ _ _) (lC rfl (lN ?_)))
    refine xD rfl (fun hc19=>?_) (fun hc19=>?_)
    ·refine fx_drwS (gP rfl rfl trivial ?_)
     refine lF rfl (lN ?_)
     refine fg_ld4 (i:=⟨_,_,.load _ _ _⟩) rfl rfl trivial rfl (.inr mem0) rfl (by simp [sameA,sameL,sI,sB,sameC_nil,g0.refl,g1.refl]) ?_
     refine gZ z5 (i:=⟨_,_,.call _ _⟩) (c_ast_units (m:=1) (by omega) (g0.mono (hz5)) (g1.mono (hz5)) hS.2.1 hS.2.2 (by decide)) rfl rfl trivial rfl rfl rfl rfl fun v23 z23 hz23 hv23=>?_
     subst hv23
     refine gP rfl rfl trivial ?_
     refine lM rfl (lN ?_)
     refine fg_splitB 24 rfl (fun hg24=>?_) (fun hg24=>?_)
     ·refine gP rfl rfl rfl ?_
      refine lF rfl (lN ?_)
      refine fg_ld4 (i:=⟨_,_,.load _ _ _⟩) rfl rfl rfl rfl (.inr mem0) rfl (by simp [sameA,sameL,sI,sB,sameC_nil,g0.refl,g1.refl]) ?_
      refine gZ z23 (i:=⟨_,_,.call _ _⟩) (c_rat_Sign (by omega) (g0.mono (hz5.trans hz23)) (g1.mono (hz5.trans hz23)) (Nat.le_trans hS.2.1 (show 1000≤20000000 by decide)) (Nat.le_trans hS.2.2 (show 1000≤20000000 by decide))) rfl rfl rfl rfl rfl rfl rfl fun v27 z27 hz27 hv27=>?_
      subst hv27
      refine gP rfl rfl rfl ?_
      refine lB rfl rfl (b_geq _ _ _) (lN ?_)
      refine gP rfl rfl trivial ?_
      refine lP rfl rfl (lN ?_)
      refine gP rfl rfl trivial ?_
      refine lM rfl (lN ?_)
      refine fg_splitD 30 rfl (fun hg30=>?_) (fun hg30=>?_)
      ·refine gP rfl rfl rfl ?_
       refine lF rfl (lN ?_)
       refine fg_ld4 (i:=⟨_,_,.load _ _ _⟩) rfl rfl rfl rfl (.inr mem0) rfl (by simp [sameA,sameL,sI,sB,sameC_nil,g0.refl,g1.refl]) ?_
       refine gZ z27 (i:=⟨_,_,.call _ _⟩) (c_rat_Whole (n:=40) (by omega) (by decide) (by decide)) rfl rfl rfl rfl rfl rfl rfl fun v33 z33 hz33 hv33=>?_
       have hv33:=qv_op hv33
       obtain ⟨c33,d33,hv,hm33,hn33⟩:=hv33
       subst hv
       have hm33:=hm33.mono (zA (hz5.trans (hz23.trans hz27)))
       have hn33:=hn33.mono (zA (hz5.trans (hz23.trans hz27)))
       refine gZ z33 (i:=⟨_,_,.call _ _⟩) (c_rat_Cmp (by omega) (g0.mono (hz5.trans (hz23.trans (hz27.trans hz33)))) (g1.mono (hz5.trans (hz23.trans (hz27.trans hz33)))) (Nat.le_trans hS.2.1 (show 1000≤9000000 by decide)) (Nat.le_trans hS.2.2 (show 1000≤9000000 by decide)) (hm33.mono zd_le) (hn33.mono zd_le) len40a len40b) rfl rfl rfl rfl rfl rfl rfl fun v34 z34 hz34 hv34=>?_
       rw [valR_c] at hv34
       subst hv34
       refine gP rfl rfl rfl ?_
       refine lB rfl rfl (b_leq _ _ _) (lN ?_)
       refine gP rfl rfl trivial ?_
       refine lP rfl rfl (lN ?_)
       refine gP rfl rfl trivial ?_
       refine lM rfl (lN ?_)
       refine fg_nil (xT (sq_r (rQ (.inl rfl) (rt rfl rn) ?_)))
       exact congrArg (fun b=>AV.c (.v (.bool b))) (by (try simp only [cmp_le,sgn_ge,sgn_0] at *);simp_all [classS,deferS]<;>omega)
      ·refine fg_off rfl rfl (.inl rfl) (fg_off rfl rfl (.inl rfl) (fg_off rfl rfl (.inl rfl) (fg_off rfl rfl (.inl rfl) (fg_off rfl rfl (.inl rfl) (gP rfl rfl trivial ?_)))))
       refine lP rfl rfl (lN ?_)
       refine gP rfl rfl trivial ?_
       refine lM rfl (lN ?_)
       refine fg_nil (xT (sq_r (rQ (.inl rfl) (rt rfl rn) ?_)))
       exact congrArg (fun b=>AV.c (.v (.bool b))) (by (try simp only [cmp_le,sgn_ge,sgn_0] at *);simp_all [classS,deferS]<;>omega)
     ·refine fg_off rfl rfl (.inl rfl) (fg_off rfl rfl (.inl rfl) (fg_off rfl rfl (.inl rfl) (fg_off rfl rfl (.inl rfl) (gP rfl rfl trivial ?_))))
      refine lP rfl rfl (lN ?_)
      refine gP rfl rfl trivial ?_
      refine lM rfl (lN ?_)
      refine fg_off rfl rfl (.inl rfl) (fg_off rfl rfl (.inl rfl) (fg_off rfl rfl (.inl rfl) (fg_off rfl rfl (.inl rfl) (fg_off rfl rfl (.inl rfl) (gP rfl rfl trivial ?_)))))
      refine lP rfl rfl (lN ?_)
      refine gP rfl rfl trivial ?_
      refine lM rfl (lN ?_)
      refine fg_nil (xT (sq_r (rQ (.inl rfl) (rt rfl rn) ?_)))
      exact congrArg (fun b=>AV.c (.v (.bool b))) (by (try simp only [cmp_le,sgn_ge,sgn_0] at *);simp_all [classS,deferS]<;>omega)
    ·refine fx_skip (sq_n (xR (lF rfl (fl_ld1 rfl mem0 rfl (lB rfl rfl (b_geq _ _ _) (lC rfl ?_))))))
     refine fl_splitD 40 rfl (fun hg40=>?_) (fun hg40=>?_)
     ·refine lD rfl (lF rfl (lD rfl (fl_ld1 rfl mem0 rfl (lD rfl (lB rfl rfl (b_leq _ _ _) (lP rfl rfl (lM rfl ?_)))))))
      refine fl_splitD 45 rfl (fun hg45=>?_) (fun hg45=>?_)
      ·refine lD rfl (lF rfl (lD rfl (fl_ld4 rfl mem0 rfl (lD rfl ?_))))
       refine lZ z5 (c_rat_Right (by omega) (g0.mono (hz5)) (g1.mono (hz5)) (Nat.le_trans hS.2.1 (show 1000≤20000000 by decide)) (Nat.le_trans hS.2.2 (show 1000≤20000000 by decide))) rfl rfl fun v48 z48 hz48 hv48=>?_
       subst hv48
       refine lP rfl rfl (lM rfl ?_)
       refine fl_splitB 50 rfl (fun hg50=>?_) (fun hg50=>?_)
       ·refine lD rfl (lF rfl (lD rfl (fl_ld4 rfl mem0 rfl (lD rfl ?_))))
        refine lZ z48 (c_rat_Sign (by omega) (g0.mono (hz5.trans hz48)) (g1.mono (hz5.trans hz48)) (Nat.le_trans hS.2.1 (show 1000≤20000000 by decide)) (Nat.le_trans hS.2.2 (show 1000≤20000000 by decide))) rfl rfl fun v53 z53 hz53 hv53=>?_
        subst hv53
        refine lD rfl (lB rfl rfl (b_eql _ _ _) (lP rfl rfl (lM rfl (lN (xT (rQ (.inl rfl) (rt rfl rn) ?_))))))
        exact congrArg (fun b=>AV.c (.v (.bool b))) (by (try simp only [cmp_le,sgn_ge,sgn_0] at *);simp_all [classS,deferS]<;>omega)
       ·refine lX rfl (lX rfl (lX rfl (lX rfl (lP rfl rfl (lM rfl (lN (xT ?_)))))))
        refine rQ (.inl rfl) (rt rfl rn) ?_
        exact congrArg (fun b=>AV.c (.v (.bool b))) (by (try simp only [cmp_le,sgn_ge,sgn_0] at *);simp_all [classS,deferS]<;>omega)
      ·refine lX rfl (lX rfl (lX rfl (lP rfl rfl (lM rfl (lX rfl (lX rfl (lX rfl ?_)))))))
       refine lX rfl (lP rfl rfl (lM rfl (lN (xT (rQ (.inl rfl) (rt rfl rn) ?_)))))
       exact congrArg (fun b=>AV.c (.v (.bool b))) (by (try simp only [cmp_le,sgn_ge,sgn_0] at *);simp_all [classS,deferS]<;>omega)
     ·refine lX rfl (lX rfl (lX rfl (lP rfl rfl (lM rfl (lX rfl (lX rfl (lX rfl ?_)))))))
      refine lP rfl rfl (lM rfl (lX rfl (lX rfl (lX rfl (lX rfl (lP rfl rfl (lM rfl ?_)))))))
      refine lN (xT (rQ (.inl rfl) (rt rfl rn) ?_))
      exact congrArg (fun b=>AV.c (.v (.bool b))) (by (try simp only [cmp_le,sgn_ge,sgn_0] at *);simp_all [classS,deferS]<;>omega)
theorem r_class {k:Nat} (hk:15≤k) {z:Mem} {cs:List C} {a:PClass} (h:RClass z cs a) (hS:Sk_class a):FC (E k) 60 [.agg cs] z fun v _=>v=.c (.v (.bool (classS a))):=by
 obtain ⟨c0,c1,rfl,g0,g1⟩:=h
 exact c_ast_Class_right hk g0 g1 hS
theorem c_ast_Year_right {k:Nat} (hk:1≤k) {z:Mem} {a:PYear} {c0 c1 c2 c3 c4:C}:FC (E k) 62 [.agg [.v (.int .i64 a.number),c0,c1,c2,c3,c4]] z fun v _=>v=.c (.v (.bool (yearS a))):=by
 refine fc_of (tS_get62) (by omega) (len1 rfl) fun B j hj=>?_
 refine xR ?_
 refine fl_bx rfl fun b1=>?_
 refine lC rfl (lN (xR (lF rfl (fl_ld1 rfl mem0 rfl (lB rfl rfl (b_geq _ _ _) (lC rfl ?_))))))
 refine fl_splitD 6 rfl (fun hg6=>?_) (fun hg6=>?_)
 ·refine lD rfl (lF rfl (lD rfl (fl_ld1 rfl mem0 rfl (lD rfl (lB rfl rfl (b_leq _ _ _) (lP rfl rfl (lM rfl ?_)))))))
  refine lN (xT (rQ (.inl rfl) (rt rfl rn) ?_))
  exact congrArg (fun b=>AV.c (.v (.bool b))) (by simp_all [yearS]<;>omega)
 ·refine lX rfl (lX rfl (lX rfl (lP rfl rfl (lM rfl (lN (xT (rQ (.inl rfl) (rt rfl rn) ?_)))))))
  exact congrArg (fun b=>AV.c (.v (.bool b))) (by simp_all [yearS]<;>omega)
theorem r_year {k:Nat} (hk:1≤k) {z:Mem} {cs:List C} {a:PYear} (h:RYear z cs a):FC (E k) 62 [.agg cs] z fun v _=>v=.c (.v (.bool (yearS a))):=by
 obtain ⟨c0,c1,c2,c3,c4,rfl,_⟩:=h
 exact c_ast_Year_right hk
theorem c_ast_itself {k:Nat} (hk:1≤k) {z:Mem} {b:Bool}:FC (E k) 58 [.c (.v (.bool b))] z fun v _=>v=.c (.v (.bool b)):=by
 refine fc_of (tS_get58) (by omega) (len1 rfl) fun B j hj=>?_
 refine xR (lC rfl (lN (xR (lC rfl (lC rfl (lN (xT ?_)))))))
 refine rQ (.inl rfl) (rt rfl rn) ?_
 rfl
theorem c_ast_Filing_numbers_1 {k:Nat} (hk:1≤k) {z:Mem} {a m:Int}:FC (E k) 116 [.c (.v (.int .i64 a)),.c (.v (.int .i64 m))] z fun v _=>v=.c (.v (.bool (decide (a ≥ 0) && decide (a≤m)))):=by
 refine fc_of (tS_get116) (by omega) (len1 rfl) fun B j hj=>?_
 refine xR (lC rfl (lN (xR (lC rfl (lB rfl rfl (b_geq _ _ _) (lC rfl ?_))))))
 refine fl_splitD 7 rfl (fun hg7=>?_) (fun hg7=>?_)
 ·refine lD rfl (lC rfl (lD rfl (lC rfl (lD rfl (lB rfl rfl (b_leq _ _ _) (lP rfl rfl (lM rfl ?_)))))))
  refine lN (xT (rQ (.inl rfl) (rt rfl rn) ?_))
  exact congrArg (fun b=>AV.c (.v (.bool b))) (by simp_all<;>omega)
 ·refine lX rfl (lX rfl (lX rfl (lP rfl rfl (lM rfl (lN (xT (rQ (.inl rfl) (rt rfl rn) ?_)))))))
  exact congrArg (fun b=>AV.c (.v (.bool b))) (by simp_all<;>omega)
open Go.CE Go.RowKit Go.Num
open Go.Eng (setL)
theorem K0lt:9223372036854775807<K0:=by show _<18446744073709551616;omega
def RPt:RT (Option Fault):=fun z cs r=>∃ c,cs=[c]∧PC 127 z c r
instance : RMono RPt := ⟨⟨fun hz ⟨c, h, g⟩ => ⟨c, h, g.mono hz⟩, fun {z cs r} ⟨c, h, g⟩ => by
  rw [h]
  cases r with
  | none=>rw [show c=.v (.pointer none) from g];rfl
  | some f=>obtain ⟨b,h1,_⟩:=g;rw [h1];simp [sameL,sameC]⟩⟩
theorem rpt_cons {z:Mem} {c:C} {r:Option Fault} {cs:List C} {rs:List (Option Fault)} (h:PC 127 z c r) (t:CL 1 RPt z cs rs):CL 1 RPt z (c::cs) (r::rs):=(CL.one (c:=[c]) rfl ⟨c,rfl,h⟩).append t
theorem rpt_sz {z:Mem} {b ty n:Nat} {cs:List C} {rs:List (Option Fault)} (h:CL 1 RPt z cs rs) (hn:rs.length=n) (hm:n≤9223372036854775807) (hz:z b (.cells ty cs)):SZ 1 RPt z (.c (.sl b 0 n 1)) rs:=h.sz hn hm hz
theorem fl_cmpP {call:Call'} {B:Base} {fs:Sf} {l:List I} {Q:Sf→Prop} {d tf:Nat} {z:Mem} {x y:Go.Eng.Od} {c:C} {r:Option Fault} (hx:fs.ev x=.c c) (hy:fs.ev y=.c (.v (.pointer none))) (hp:PC tf z c r) (hw:FL call B l (fs.put d (.c (.v (.bool r.isSome)))) Q):FL call B (⟨some d,none,.cmpn .ptr true x y⟩::l) fs Q:=by
 cases r with
 | none=>exact fl_cmpn hx hy (a:=true) (b:=true) (by rw [show c=.v (.pointer none) from hp];rfl) rfl rfl rfl hw
 | some f =>
  obtain ⟨b,h1,_⟩:=hp
  exact fl_cmpn hx hy (a:=false) (b:=true) (by rw [h1];rfl) rfl rfl rfl hw
def firstSome {α:Type}:List (Option α)→Option α
 | []=>none
 | none::r=>firstSome r
 | some a::_=>some a
section
variable {α:Type} {rs:List (Option α)} {i:Nat}
theorem fs_next (h:i<rs.length) (h2:rs[i].isSome=false):firstSome (rs.drop i)=firstSome (rs.drop (i+1)):=by
 rw [List.drop_eq_getElem_cons h]
 cases e:rs[i] with
 | none=>rfl
 | some a=>rw [e] at h2;cases h2
theorem fs_hit (h:i<rs.length) (h2:rs[i].isSome=true):firstSome (rs.drop i)=rs[i]:=by
 rw [List.drop_eq_getElem_cons h]
 cases e:rs[i] with
 | none=>rw [e] at h2;cases h2
 | some a=>rfl
theorem fs_end (h:rs.length≤i):firstSome (rs.drop i)=none:=by rw [List.drop_eq_nil_of_le h];rfl
end
def numS (x:PFiling):List Bool:=[shareS (rawR x.threshold),shareS (rawR x.cap),shareS (rawR x.interest),decide (x.back ≥ 0) && decide (x.back≤3),decide (x.forward ≥ 0) && decide (x.forward≤40),decide (x.keep ≥ 0) && decide (x.keep≤40),moneyS (rawR x.floor)]
instance:RMono (RE Value.bool):=⟨⟨fun _ h=>h,fun h=>by rw [h];simp [sameL,sameC,sameV_bool]⟩⟩
def rightL (x:PFiling):List (Option Fault):=[wrongS 1 (-1) 2 nameB [x.name,x.parent],wrongS 2 (-1) 16 bracketS x.brackets,wrongS 3 (-1) 7 id (numS x),wrongS 4 (-1) 64 classS x.classes,wrongS 5 (-1) 256 nameB x.entities,wrongS 6 (-1) 40 yearS x.years]
def yearL (at_:Int) (x:PYear):List (Option Fault):=[wrongS 7 at_ 4096 holdS x.holds,wrongS 8 at_ 4096 bookS x.books,wrongS 9 at_ 4096 dealS x.deals,wrongS 10 at_ 4096 stockS x.stocks,wrongS 11 at_ 4096 soldS x.solds]
def yearsW:Nat→List PYear→Option Fault
 | _,[]=>none
 | i,y::r=>match firstSome (yearL (i:Nat) y) with
  | some f=>some f
  | none=>yearsW (i+1) r
def rightS (x:PFiling):Option Fault:=match firstSome (rightL x) with
 | some f=>some f
 | none=>yearsW 0 x.years
theorem yw_next {l:List PYear} {i:Nat} (h:i<l.length) (h2:(firstSome (yearL (i:Nat) l[i])).isSome=false):yearsW i (l.drop i)=yearsW (i+1) (l.drop (i+1)):=by
 rw [List.drop_eq_getElem_cons h,yearsW]
 cases e:firstSome (yearL (i:Nat) l[i]) with
 | none=>rfl
 | some f=>rw [e] at h2;cases h2
theorem yw_hit {l:List PYear} {i:Nat} (h:i<l.length) (h2:(firstSome (yearL (i:Nat) l[i])).isSome=true):yearsW i (l.drop i)=firstSome (yearL (i:Nat) l[i]):=by
 rw [List.drop_eq_getElem_cons h,yearsW]
 cases e:firstSome (yearL (i:Nat) l[i]) with
 | none=>rw [e] at h2;cases h2
 | some f=>rfl
theorem yw_end {l:List PYear} {i:Nat} (h:l.length≤i):yearsW i (l.drop i)=none:=by rw [List.drop_eq_nil_of_le h,yearsW]
def FV:Option Fault→AV
 | none=>.tup [.agg [.v (.int .u8 0),.v (.int .i64 0),.v (.int .i64 0)],.c (.v (.int .i64 0))]
 | some f=>.tup [.agg [.v (.int .u8 f.part),.v (.int .i64 f.year),.v (.int .i64 f.at_)],.c (.v (.int .i64 f.e))]
theorem rc3 {fs:Sf} {i b ty:Nat} {c0 c1 c2:C} {rs:List RR} {vs:List AV} (hp:fs.e i=.c (.ptr b 0)) (hm:HA.blk b (.cells ty [c0,c1,c2])∈fs.H) (t:ResL fs rs vs):ResL fs (.c i true 3::rs) (.agg [c0,c1,c2]::vs):=rc hp hm (by simp) rfl t
def SkY (x:PYear):Prop:=(∀ a,a∈x.holds→Sk_hold a)∧(∀ a,a∈x.books→Sk_book a)∧(∀ a,a∈x.deals→Sk_deal a)∧(∀ a,a∈x.stocks→Sk_stock a)∧(∀ a,a∈x.solds→Sk_sold a)
structure SkF (x:PFiling):Prop where
 str2:∀ a,a∈[x.name,x.parent]→Sn a
 brackets:∀ a,a∈x.brackets→Sk_bracket a
 threshold:Sk x.threshold
 cap:Sk x.cap
 interest:Sk x.interest
 floor:Sk x.floor
 classes:∀ a,a∈x.classes→Sk_class a
 entities:∀ a,a∈x.entities→Sn a
 years:∀ a,a∈x.years→SkY a
section
variable {call:Call'} {B:Base} {an:List Nat} {j:Nat} {l:List CE.D} {fs:Sf} {T:Mem} {tag last:Nat} {pj lj:List Nat} {Q:Sf→Prop} {i:I} {d:Nat} {x:Go.Eng.Od} {af:List Nat} {b tf:Nat} {z:Mem} {f:Fault}
theorem fg_ldF3 (hi:i.o=.load true 3 x) (hd:i.d=some d) (hg:GK fs i) (hx:fs.ev x=.c (.ptr b 0)) (hz:z b (.cells tf [.v (.int .u8 f.part),.v (.int .i64 f.year),.v (.int .i64 f.at_),.v (.int .i64 f.e)])) (hT:∀ b k,z b k→T b k) (hw:FG call B an (j+1) l (fs.put d (.agg [.v (.int .u8 f.part),.v (.int .i64 f.year),.v (.int .i64 f.at_)])) T tag last pj (j::lj) Q):FG call B an j (⟨i,af⟩::l) fs T tag last pj lj Q:=fg_load (v:=.agg [.v (.int .u8 f.part),.v (.int .i64 f.year),.v (.int .i64 f.at_)]) hi hd hg hx (hT _ _ hz) rfl (by simp) rfl (by simp [sameA,sameL,sI]) hw
theorem fg_ldF1 (hi:i.o=.load false 1 x) (hd:i.d=some d) (hg:GK fs i) (hx:fs.ev x=.c (.ptr b 3)) (hz:z b (.cells tf [.v (.int .u8 f.part),.v (.int .i64 f.year),.v (.int .i64 f.at_),.v (.int .i64 f.e)])) (hT:∀ b k,z b k→T b k) (hw:FG call B an (j+1) l (fs.put d (.c (.v (.int .i64 f.e)))) T tag last pj (j::lj) Q):FG call B an j (⟨i,af⟩::l) fs T tag last pj lj Q:=fg_load (v:=.c (.v (.int .i64 f.e))) hi hd hg hx (hT _ _ hz) rfl (by simp) rfl (by simp [sameA,sI]) hw
end
theorem fg_ldAll {call:Call'} {B:Base} {an:List Nat} {j:Nat} {l:List CE.D} {fs:Sf} {T:Mem} {tag last:Nat} {pj lj:List Nat} {Q:Sf→Prop} {i:I} {d size:Nat} {x:Go.Eng.Od} {af:List Nat} {b ty:Nat} {cs:List C} (hi:i.o=.load true size x) (hd:i.d=some d) (hg:GK fs i) (hx:fs.ev x=.c (.ptr b 0)) (hT:T b (.cells ty cs)) (h:cs.length=size) (hs:sameA (.agg cs) (.agg cs)=true) (hw:FG call B an (j+1) l (fs.put d (.agg cs)) T tag last pj (j::lj) Q):FG call B an j (⟨i,af⟩::l) fs T tag last pj lj Q:=
 fg_load (v:=.agg cs) hi hd hg hx hT rfl (by omega) (by rw [List.drop_zero,List.take_of_length_le (by omega)];rfl) hs hw
theorem w_bracket {k:Nat} (hk:16≤k) {z:Mem} {v:AV} {l:List PBracket} {part year:Int} {most:Nat} (hx:SZ 8 RBracket z v l) (hS:∀ a,a∈l→Sk_bracket a):FC (E k) 54 [.c (.v (.int .u8 part)),.c (.v (.int .i64 year)),v,.c (.v (.int .i64 (most:Nat))),.c (.fn 55 [] [])] z fun v' z'=>∃ c,v'=.c c∧PC 127 z' c (wrongS part year most bracketS l):=
 wrong_fc tS_get54 (by omega) K0lt hx rfl (fun h=>by obtain ⟨_,_,_,_,rfl,_⟩:=h;rfl) (fun hj z' cs a hz ha hR=>r_bracket (by omega) hR (hS a ha))
theorem w_class {k:Nat} (hk:16≤k) {z:Mem} {v:AV} {l:List PClass} {part year:Int} {most:Nat} (hx:SZ 6 RClass z v l) (hS:∀ a,a∈l→Sk_class a):FC (E k) 59 [.c (.v (.int .u8 part)),.c (.v (.int .i64 year)),v,.c (.v (.int .i64 (most:Nat))),.c (.fn 60 [] [])] z fun v' z'=>∃ c,v'=.c c∧PC 127 z' c (wrongS part year most classS l):=
 wrong_fc tS_get59 (by omega) K0lt hx rfl (fun h=>by obtain ⟨_,_,rfl,_⟩:=h;rfl) (fun hj z' cs a hz ha hR=>r_class (by omega) hR (hS a ha))
theorem w_hold {k:Nat} (hk:13≤k) {z:Mem} {v:AV} {l:List PHold} {part year:Int} {most:Nat} (hx:SZ 6 RHold z v l) (hS:∀ a,a∈l→Sk_hold a):FC (E k) 117 [.c (.v (.int .u8 part)),.c (.v (.int .i64 year)),v,.c (.v (.int .i64 (most:Nat))),.c (.fn 118 [] [])] z fun v' z'=>∃ c,v'=.c c∧PC 127 z' c (wrongS part year most holdS l):=
 wrong_fc tS_get117 (by omega) K0lt hx rfl (fun h=>by obtain ⟨_,_,rfl,_⟩:=h;rfl) (fun hj z' cs a hz ha hR=>r_hold (by omega) hR (hS a ha))
theorem w_book {k:Nat} (hk:16≤k) {z:Mem} {v:AV} {l:List PBook} {part year:Int} {most:Nat} (hx:SZ 6 RBook z v l) (hS:∀ a,a∈l→Sk_book a):FC (E k) 119 [.c (.v (.int .u8 part)),.c (.v (.int .i64 year)),v,.c (.v (.int .i64 (most:Nat))),.c (.fn 120 [] [])] z fun v' z'=>∃ c,v'=.c c∧PC 127 z' c (wrongS part year most bookS l):=
 wrong_fc tS_get119 (by omega) K0lt hx rfl (fun h=>by obtain ⟨_,_,rfl,_⟩:=h;rfl) (fun hj z' cs a hz ha hR=>r_book (by omega) hR (hS a ha))
theorem w_deal {k:Nat} (hk:16≤k) {z:Mem} {v:AV} {l:List PDeal} {part year:Int} {most:Nat} (hx:SZ 10 RDeal z v l) (hS:∀ a,a∈l→Sk_deal a):FC (E k) 121 [.c (.v (.int .u8 part)),.c (.v (.int .i64 year)),v,.c (.v (.int .i64 (most:Nat))),.c (.fn 122 [] [])] z fun v' z'=>∃ c,v'=.c c∧PC 127 z' c (wrongS part year most dealS l):=
 wrong_fc tS_get121 (by omega) K0lt hx rfl (fun h=>by obtain ⟨_,_,rfl,_⟩:=h;rfl) (fun hj z' cs a hz ha hR=>r_deal (by omega) hR (hS a ha))
theorem w_stock {k:Nat} (hk:16≤k) {z:Mem} {v:AV} {l:List PStock} {part year:Int} {most:Nat} (hx:SZ 9 RStock z v l) (hS:∀ a,a∈l→Sk_stock a):FC (E k) 123 [.c (.v (.int .u8 part)),.c (.v (.int .i64 year)),v,.c (.v (.int .i64 (most:Nat))),.c (.fn 124 [] [])] z fun v' z'=>∃ c,v'=.c c∧PC 127 z' c (wrongS part year most stockS l):=
 wrong_fc tS_get123 (by omega) K0lt hx rfl (fun h=>by obtain ⟨_,_,_,_,rfl,_⟩:=h;rfl) (fun hj z' cs a hz ha hR=>r_stock (by omega) hR (hS a ha))
theorem w_sold {k:Nat} (hk:13≤k) {z:Mem} {v:AV} {l:List PSold} {part year:Int} {most:Nat} (hx:SZ 5 RSold z v l) (hS:∀ a,a∈l→Sk_sold a):FC (E k) 125 [.c (.v (.int .u8 part)),.c (.v (.int .i64 year)),v,.c (.v (.int .i64 (most:Nat))),.c (.fn 126 [] [])] z fun v' z'=>∃ c,v'=.c c∧PC 127 z' c (wrongS part year most soldS l):=
 wrong_fc tS_get125 (by omega) K0lt hx rfl (fun h=>by obtain ⟨_,_,rfl,_⟩:=h;rfl) (fun hj z' cs a hz ha hR=>r_sold (by omega) hR (hS a ha))
theorem w_year {k:Nat} (hk:2≤k) {z:Mem} {v:AV} {l:List PYear} {part year:Int} {most:Nat} (hx:SZ 6 RYear z v l):FC (E k) 61 [.c (.v (.int .u8 part)),.c (.v (.int .i64 year)),v,.c (.v (.int .i64 (most:Nat))),.c (.fn 62 [] [])] z fun v' z'=>∃ c,v'=.c c∧PC 127 z' c (wrongS part year most yearS l):=
 wrong_fc tS_get61 (by omega) K0lt hx rfl (fun h=>by obtain ⟨_,_,_,_,_,rfl,_⟩:=h;rfl) (fun hj z' cs a hz ha hR=>r_year (by omega) hR)
theorem w_str {k:Nat} (hk:11≤k) {z:Mem} {v:AV} {l:List ByteArray} {part year:Int} {most:Nat} (hx:SZ 1 RS z v l) (hS:∀ a,a∈l→Sn a):FC (E k) 53 [.c (.v (.int .u8 part)),.c (.v (.int .i64 year)),v,.c (.v (.int .i64 (most:Nat))),.c (.fn 9 [] [])] z fun v' z'=>∃ c,v'=.c c∧PC 127 z' c (wrongS part year most nameB l):=
 wrong1_fc tS_get53 (by omega) K0lt hx (fun h=>⟨_,h⟩) (fun hj z' c a hz ha hR=>by obtain rfl:c=.v (.string a):=(List.cons.inj hR).1;exact c_name (by omega) (hS a ha))
theorem w_bool {k:Nat} (hk:2≤k) {z:Mem} {v:AV} {l:List Bool} {part year:Int} {most:Nat} (hx:SZ 1 (RE Value.bool) z v l):FC (E k) 56 [.c (.v (.int .u8 part)),.c (.v (.int .i64 year)),v,.c (.v (.int .i64 (most:Nat))),.c (.fn 58 [] [])] z fun v' z'=>∃ c,v'=.c c∧PC 127 z' c (wrongS part year most id l):=
 wrong1_fc tS_get56 (by omega) K0lt hx (fun h=>⟨_,h⟩) (fun hj z' c a hz ha hR=>by obtain rfl:c=.v (.bool a):=(List.cons.inj hR).1;exact c_ast_itself (by omega))
theorem c_ast_Filing_numbers {k:Nat} (hk:15≤k) {z:Mem} {x:PFiling} {c0 c1 c2 c3 c4 c5 c6 c7 c8 c9 c10 c11:C} (g0:CZ 8 RBracket z c0 x.brackets) (g1:CZ 1 RW z c1 x.threshold.nm) (g2:CZ 1 RW z c2 x.threshold.dm) (g3:CZ 1 RW z c3 x.cap.nm) (g4:CZ 1 RW z c4 x.cap.dm) (g5:CZ 1 RW z c5 x.interest.nm) (g6:CZ 1 RW z c6 x.interest.dm) (g7:CZ 1 RW z c7 x.floor.nm) (g8:CZ 1 RW z c8 x.floor.dm) (g9:CZ 6 RClass z c9 x.classes) (g10:CZ 1 RS z c10 x.entities) (g11:CZ 6 RYear z c11 x.years) (hS:Sk x.threshold∧Sk x.cap∧Sk x.interest∧Sk x.floor):FC (E k) 57 [.agg [.v (.string x.name),.v (.string x.parent),c0,.v (.bool x.threshold.n),c1,.v (.bool x.threshold.d),c2,.v (.bool x.cap.n),c3,.v (.bool x.cap.d),c4,.v (.int .i64 x.back),.v (.int .i64 x.forward),.v (.bool x.interest.n),c5,.v (.bool x.interest.d),c6,.v (.bool x.floor.n),c7,.v (.bool x.floor.d),c8,.v (.int .i64 x.keep),c9,c10,c11]] z fun v z'=>∃ c,v=.c c∧SZ 1 (RE Value.bool) z' (.c c) (numS x):=by
 refine fc_of (tS_get57) (by omega) (len1 rfl) fun B j hj=>?_
 refine xR ?_
 refine fl_bx rfl fun b1=>?_
 refine lC rfl (lN (xR (lM rfl (lN (fx_drwS (gP rfl rfl trivial ?_))))))
 refine lF rfl (lN ?_)
 refine fg_ld4 (i:=⟨_,_,.load _ _ _⟩) rfl rfl trivial rfl (.inr mem0) rfl (by simp [sameA,sameL,sI,sB,sameC_nil,g0.refl,g1.refl,g2.refl,g3.refl,g4.refl,g5.refl,g6.refl,g7.refl,g8.refl,g9.refl,g10.refl,g11.refl]) ?_
 refine gZ z (i:=⟨_,_,.call _ _⟩) (c_share (a:=x.threshold) (by omega) g1 g2 hS.1) rfl rfl trivial rfl rfl rfl rfl fun v6 z6 hz6 hv6=>?_
 subst hv6
 refine gP rfl rfl trivial ?_
 refine lF rfl (lN ?_)
 refine fg_ld4 (i:=⟨_,_,.load _ _ _⟩) rfl rfl trivial rfl (.inr mem0) rfl (by simp [sameA,sameL,sI,sB,sameC_nil,g0.refl,g1.refl,g2.refl,g3.refl,g4.refl,g5.refl,g6.refl,g7.refl,g8.refl,g9.refl,g10.refl,g11.refl]) ?_
 refine gZ z6 (i:=⟨_,_,.call _ _⟩) (c_share (a:=x.cap) (by omega) (g3.mono (hz6)) (g4.mono (hz6)) hS.2.1) rfl rfl trivial rfl rfl rfl rfl fun v9 z9 hz9 hv9=>?_
 subst hv9
 refine gP rfl rfl trivial ?_
 refine lF rfl (lN ?_)
 refine fg_ld4 (i:=⟨_,_,.load _ _ _⟩) rfl rfl trivial rfl (.inr mem0) rfl (by simp [sameA,sameL,sI,sB,sameC_nil,g0.refl,g1.refl,g2.refl,g3.refl,g4.refl,g5.refl,g6.refl,g7.refl,g8.refl,g9.refl,g10.refl,g11.refl]) ?_
 refine gZ z9 (i:=⟨_,_,.call _ _⟩) (c_share (a:=x.interest) (by omega) (g5.mono (hz6.trans hz9)) (g6.mono (hz6.trans hz9)) hS.2.2.1) rfl rfl trivial rfl rfl rfl rfl fun v12 z12 hz12 hv12=>?_
 subst hv12
 refine gP rfl rfl trivial ?_
 refine lM rfl (lN ?_)
 refine gP rfl rfl trivial ?_
 refine lF rfl (lN ?_)
 refine fg_ld1 (i:=⟨_,_,.load _ _ _⟩) rfl rfl trivial rfl (.inr mem0) rfl (by simp [sameA,sameL,sI,sB,sameC_nil,g0.refl,g1.refl,g2.refl,g3.refl,g4.refl,g5.refl,g6.refl,g7.refl,g8.refl,g9.refl,g10.refl,g11.refl]) ?_
 refine fg_callvZ z12 (i:=⟨_,_,.callv _ _⟩) rfl (c_ast_Filing_numbers_1 (by omega)) rfl rfl trivial rfl rfl rfl rfl fun v16 z16 hz16 hv16=>?_
 subst hv16
 refine gP rfl rfl trivial ?_
 refine lM rfl (lN ?_)
 refine gP rfl rfl trivial ?_
 refine lF rfl (lN ?_)
 refine fg_ld1 (i:=⟨_,_,.load _ _ _⟩) rfl rfl trivial rfl (.inr mem0) rfl (by simp [sameA,sameL,sI,sB,sameC_nil,g0.refl,g1.refl,g2.refl,g3.refl,g4.refl,g5.refl,g6.refl,g7.refl,g8.refl,g9.refl,g10.refl,g11.refl]) ?_
 refine fg_callvZ z16 (i:=⟨_,_,.callv _ _⟩) rfl (c_ast_Filing_numbers_1 (by omega)) rfl rfl trivial rfl rfl rfl rfl fun v20 z20 hz20 hv20=>?_
 subst hv20
 refine gP rfl rfl trivial ?_
 refine lM rfl (lN ?_)
 refine gP rfl rfl trivial ?_
 refine lF rfl (lN ?_)
 refine fg_ld1 (i:=⟨_,_,.load _ _ _⟩) rfl rfl trivial rfl (.inr mem0) rfl (by simp [sameA,sameL,sI,sB,sameC_nil,g0.refl,g1.refl,g2.refl,g3.refl,g4.refl,g5.refl,g6.refl,g7.refl,g8.refl,g9.refl,g10.refl,g11.refl]) ?_
 refine fg_callvZ z20 (i:=⟨_,_,.callv _ _⟩) rfl (c_ast_Filing_numbers_1 (by omega)) rfl rfl trivial rfl rfl rfl rfl fun v24 z24 hz24 hv24=>?_
 subst hv24
 refine gP rfl rfl trivial ?_
 refine lF rfl (lN ?_)
 refine fg_ld4 (i:=⟨_,_,.load _ _ _⟩) rfl rfl trivial rfl (.inr mem0) rfl (by simp [sameA,sameL,sI,sB,sameC_nil,g0.refl,g1.refl,g2.refl,g3.refl,g4.refl,g5.refl,g6.refl,g7.refl,g8.refl,g9.refl,g10.refl,g11.refl]) ?_
 refine gZ z24 (i:=⟨_,_,.call _ _⟩) (c_money (a:=x.floor) (by omega) (g7.mono (hz6.trans (hz9.trans (hz12.trans (hz16.trans (hz20.trans hz24)))))) (g8.mono (hz6.trans (hz9.trans (hz12.trans (hz16.trans (hz20.trans hz24)))))) hS.2.2.2) rfl rfl trivial rfl rfl rfl rfl fun v27 z27 hz27 hv27=>?_
 subst hv27
 refine fg_own (k:=.cells 4 (cE Value.bool [shareS (rawR x.threshold),shareS (rawR x.cap),shareS (rawR x.interest),decide (x.back ≥ 0) && decide (x.back≤3),decide (x.forward ≥ 0) && decide (x.forward≤40),decide (x.keep ≥ 0) && decide (x.keep≤40),moneyS (rawR x.floor)])) (w:=fun b=>.c (.sl b 0 7 1)) rfl trivial rfl (fun _=>rfl) (fun st hst=>?_) (fun b28 hT28=>?_)
 ·simp only [stepE,fillS,AS.ev,hst 6 (by simp [Ins.sl,Od.sls,Od.sl]),hst 9 (by simp [Ins.sl,Od.sls,Od.sl]),hst 12 (by simp [Ins.sl,Od.sls,Od.sl]),hst 16 (by simp [Ins.sl,Od.sls,Od.sl]),hst 20 (by simp [Ins.sl,Od.sls,Od.sl]),hst 24 (by simp [Ins.sl,Od.sls,Od.sl]),hst 27 (by simp [Ins.sl,Od.sls,Od.sl])];rfl
 refine fg_frzZ z27 (p:=[]) rfl rfl rfl (fun _ h=>h) fun zfg28 hzfg28 g28=>?_
 refine gP rfl rfl trivial ?_
 refine lC rfl (lN ?_)
 refine fg_nil (xT (rQ (.inl rfl) (rt rfl rn) ?_))
 exact ⟨_,rfl,cE_cl.sz rfl (by decide) g28⟩
theorem c_ast_Year_wrong {k:Nat} (hk:17≤k) {z:Mem} {x:PYear} {c0 c1 c2 c3 c4:C} (g0:CZ 6 RHold z c0 x.holds) (g1:CZ 6 RBook z c1 x.books) (g2:CZ 10 RDeal z c2 x.deals) (g3:CZ 9 RStock z c3 x.stocks) (g4:CZ 5 RSold z c4 x.solds) {at_:Int} (hS:SkY x):FC (E k) 63 [.agg [.v (.int .i64 x.number),c0,c1,c2,c3,c4],.c (.v (.int .i64 at_))] z fun v z'=>∃ c,v=.c c∧PC 127 z' c (firstSome (yearL at_ x)):=by
 refine fc_of (tS_get63) (by omega) (len1 rfl) fun B j hj=>?_
 refine xR ?_
 refine fl_bx rfl fun b2=>?_
 refine lC rfl (lN (fx_ss (fx_drwS (gP rfl rfl trivial ?_))))
 refine lC rfl (lN ?_)
 refine gP rfl rfl trivial ?_
 refine lF rfl (lN ?_)
 refine fg_ld1 (i:=⟨_,_,.load _ _ _⟩) rfl rfl trivial rfl (.inr mem0) rfl (by simp [sameA,sameL,sI,sB,sameC_nil,g0.refl,g1.refl,g2.refl,g3.refl,g4.refl]) ?_
 refine gZ z (i:=⟨_,_,.call _ _⟩) (w_hold (most:=4096) (by omega) g0 hS.1) rfl rfl trivial rfl rfl rfl rfl fun v10 z10 hz10 ⟨c10,hv10,h10⟩=>?_
 subst hv10
 refine gP rfl rfl trivial ?_
 refine lC rfl (lN ?_)
 refine gP rfl rfl trivial ?_
 refine lF rfl (lN ?_)
 refine fg_ld1 (i:=⟨_,_,.load _ _ _⟩) rfl rfl trivial rfl (.inr mem0) rfl (by simp [sameA,sameL,sI,sB,sameC_nil,g0.refl,g1.refl,g2.refl,g3.refl,g4.refl]) ?_
 refine gZ z10 (i:=⟨_,_,.call _ _⟩) (w_book (most:=4096) (by omega) (g1.mono (hz10)) hS.2.1) rfl rfl trivial rfl rfl rfl rfl fun v14 z14 hz14 ⟨c14,hv14,h14⟩=>?_
 subst hv14
 refine gP rfl rfl trivial ?_
 refine lC rfl (lN ?_)
 refine gP rfl rfl trivial ?_
 refine lF rfl (lN ?_)
 refine fg_ld1 (i:=⟨_,_,.load _ _ _⟩) rfl rfl trivial rfl (.inr mem0) rfl (by simp [sameA,sameL,sI,sB,sameC_nil,g0.refl,g1.refl,g2.refl,g3.refl,g4.refl]) ?_
 refine gZ z14 (i:=⟨_,_,.call _ _⟩) (w_deal (most:=4096) (by omega) (g2.mono (hz10.trans hz14)) hS.2.2.1) rfl rfl trivial rfl rfl rfl rfl fun v18 z18 hz18 ⟨c18,hv18,h18⟩=>?_
 subst hv18
 refine gP rfl rfl trivial ?_
 refine lC rfl (lN ?_)
 refine gP rfl rfl trivial ?_
 refine lF rfl (lN ?_)
 refine fg_ld1 (i:=⟨_,_,.load _ _ _⟩) rfl rfl trivial rfl (.inr mem0) rfl (by simp [sameA,sameL,sI,sB,sameC_nil,g0.refl,g1.refl,g2.refl,g3.refl,g4.refl]) ?_
 refine gZ z18 (i:=⟨_,_,.call _ _⟩) (w_stock (most:=4096) (by omega) (g3.mono (hz10.trans (hz14.trans hz18))) hS.2.2.2.1) rfl rfl trivial rfl rfl rfl rfl fun v22 z22 hz22 ⟨c22,hv22,h22⟩=>?_
 subst hv22
 refine gP rfl rfl trivial ?_
 refine lC rfl (lN ?_)
 refine gP rfl rfl trivial ?_
 refine lF rfl (lN ?_)
 refine fg_ld1 (i:=⟨_,_,.load _ _ _⟩) rfl rfl trivial rfl (.inr mem0) rfl (by simp [sameA,sameL,sI,sB,sameC_nil,g0.refl,g1.refl,g2.refl,g3.refl,g4.refl]) ?_
 refine gZ z22 (i:=⟨_,_,.call _ _⟩) (w_sold (most:=4096) (by omega) (g4.mono (hz10.trans (hz14.trans (hz18.trans hz22)))) hS.2.2.2.2) rfl rfl trivial rfl rfl rfl rfl fun v26 z26 hz26 ⟨c26,hv26,h26⟩=>?_
 subst hv26
 refine fg_own (k:=.cells 113 [c10,c14,c18,c22,c26]) (w:=fun b=>.c (.sl b 0 5 1)) rfl trivial rfl (fun _=>rfl) (fun st hst=>?_) (fun b27 hT27=>?_)
 ·simp only [stepE,fillS,AS.ev,hst 10 (by simp [Ins.sl,Od.sls,Od.sl]),hst 14 (by simp [Ins.sl,Od.sls,Od.sl]),hst 18 (by simp [Ins.sl,Od.sls,Od.sl]),hst 22 (by simp [Ins.sl,Od.sls,Od.sl]),hst 26 (by simp [Ins.sl,Od.sls,Od.sl])];rfl
 refine fg_frzZ z26 (p:=[]) rfl rfl rfl (fun _ h=>h) fun zfg27 hzfg27 g27=>?_
 have hrow:=rpt_sz (rpt_cons (h10.mono (hz14.trans (hz18.trans (hz22.trans (hz26.trans hzfg27))))) (rpt_cons (h14.mono (hz18.trans (hz22.trans (hz26.trans hzfg27)))) (rpt_cons (h18.mono (hz22.trans (hz26.trans hzfg27))) (rpt_cons (h22.mono (hz26.trans hzfg27)) (rpt_cons (h26.mono (hzfg27)) CL.nil))))) (n:=5) rfl (by decide) g27
 refine gP rfl rfl trivial ?_
 refine fl_len rfl rfl (lN ?_)
 refine gP rfl rfl trivial ?_
 refine lC rfl (lN ?_)
 refine fg_nil ?_
 refine fx_seq (fx_block ?_)
 refine fx_loop (fun n fs=>∃ (i:Nat),LI zfg27 [.blk b2 (.cells 92 [.v (.int .i64 x.number),c0,c1,c2,c3,c4])] [(27,.c (.sl b27 0 5 1)),(28,.c (.v (.int .i64 ((5:Nat):Int)))),(29,.c (.v (.int .i64 ((i:Nat):Int))))] fs∧n=5 - i∧(i≤5)∧(firstSome (yearL at_ x)=firstSome ((yearL at_ x).drop i))) ?_ _ ⟨0,LI.mk [] (zle.refl _) (atc rfl (atc rfl (atc rfl atn))),rfl,Nat.zero_le _,rfl⟩ (by show _<18446744073709551616;omega)
 intro n fs hI
 obtain ⟨i,hL0,hmz0,hi,hfs⟩:=hI
 refine hL0.open fun e zl0 hzl0=>?_
 refine xR (lB rfl rfl (b_lss _ _ _) (lN (fx_cseq ?_)))
 refine xD rfl (fun hc30=>?_) (fun hc30=>?_)
 ·refine fx_kseq ?_
  refine fx_seq (fx_block ?_)
  refine xR ?_
  refine fl_iadS rfl rfl (hrow.mono (hzl0)) i rfl _ (List.getElem?_eq_getElem (show i<(yearL at_ x).length by show i<5;omega)) fun b31 p31 cs at31 hR=>?_
  obtain ⟨cp,hcs,hp⟩:=hR
  subst hcs
  refine fl_ldA1 rfl at31 (lC rfl (lN (xR (lC rfl (fl_cmpP rfl rfl hp (lN ?_))))))
  refine fx_condB rfl (fun hc34=>?_) (fun hc34=>?_)
  ·refine xR (lC rfl (lC rfl (lN (xT (sq_r (lq_r (sq_r ?_)))))))
   refine rQ (.inl rfl) (rt rfl rn) ?_
   exact ⟨_,rfl,by rw [hfs,fs_hit (show i<(yearL at_ x).length by show i<5;omega) hc34];exact hp⟩
  ·refine fx_skip (sq_n (xG (lB rfl rfl (bI_add (n:=i+1) (by omega) (by omega)) (lC rfl (lN ?_)))))
   exact lq_n (by omega) ⟨i+1,LI.mk [] (hzl0) (atc rfl (atc rfl (atc rfl atn))),rfl,by omega,hfs.trans (fs_next (by show i<5;omega) hc34)⟩
 ·refine fx_eseq (lq_e (sq_n (xR (lC rfl (lN (xT (rQ (.inl rfl) (rt rfl rn) ?_)))))))
  exact ⟨_,rfl,by rw [hfs,fs_end (show (yearL at_ x).length≤i by show 5≤i;omega)];rfl⟩
theorem c_ast_Right {k:Nat} (hk:18≤k) {z:Mem} {x:PFiling} {c0 c1 c2 c3 c4 c5 c6 c7 c8 c9 c10 c11:C} (g0:CZ 8 RBracket z c0 x.brackets) (g1:CZ 1 RW z c1 x.threshold.nm) (g2:CZ 1 RW z c2 x.threshold.dm) (g3:CZ 1 RW z c3 x.cap.nm) (g4:CZ 1 RW z c4 x.cap.dm) (g5:CZ 1 RW z c5 x.interest.nm) (g6:CZ 1 RW z c6 x.interest.dm) (g7:CZ 1 RW z c7 x.floor.nm) (g8:CZ 1 RW z c8 x.floor.dm) (g9:CZ 6 RClass z c9 x.classes) (g10:CZ 1 RS z c10 x.entities) (g11:CZ 6 RYear z c11 x.years) (hS:SkF x):FC (E k) 17 [.agg [.v (.string x.name),.v (.string x.parent),c0,.v (.bool x.threshold.n),c1,.v (.bool x.threshold.d),c2,.v (.bool x.cap.n),c3,.v (.bool x.cap.d),c4,.v (.int .i64 x.back),.v (.int .i64 x.forward),.v (.bool x.interest.n),c5,.v (.bool x.interest.d),c6,.v (.bool x.floor.n),c7,.v (.bool x.floor.d),c8,.v (.int .i64 x.keep),c9,c10,c11]] z fun v _=>v=FV (rightS x):=by
 have hly:=g11.le
 refine fc_of (tS_get17) (by omega) (len1 rfl) fun B j hj=>?_
 refine xR ?_
 refine fl_bx rfl fun b1=>?_
 refine fl_alloc fun b2=>?_
 refine lC rfl (lN (fx_ss (fx_drwS (gP rfl rfl trivial ?_))))
 refine lF rfl (lN ?_)
 refine fg_ld1 (i:=⟨_,_,.load _ _ _⟩) rfl rfl trivial rfl (.inr (memS mem0)) rfl (by simp [sameA,sameL,sI,sB,sameC_nil,sameC_s,g0.refl,g1.refl,g2.refl,g3.refl,g4.refl,g5.refl,g6.refl,g7.refl,g8.refl,g9.refl,g10.refl,g11.refl]) ?_
 refine gP rfl rfl trivial ?_
 refine lF rfl (lN ?_)
 refine fg_ld1 (i:=⟨_,_,.load _ _ _⟩) rfl rfl trivial rfl (.inr (memS mem0)) rfl (by simp [sameA,sameL,sI,sB,sameC_nil,sameC_s,g0.refl,g1.refl,g2.refl,g3.refl,g4.refl,g5.refl,g6.refl,g7.refl,g8.refl,g9.refl,g10.refl,g11.refl]) ?_
 refine fg_own (k:=.cells 9 (cE Value.string [x.name,x.parent])) (w:=fun b=>.c (.sl b 0 2 1)) rfl trivial rfl (fun _=>rfl) (fun st hst=>?_) (fun b13 hT13=>?_)
 ·simp only [stepE,fillS,AS.ev,hst 10 (by simp [Ins.sl,Od.sls,Od.sl]),hst 12 (by simp [Ins.sl,Od.sls,Od.sl])];rfl
 refine fg_frzZ z (p:=[]) rfl rfl rfl (fun _ h=>h) fun zfg13 hzfg13 g13=>?_
 have hn2:SZ 1 RS zfg13 (.c (.sl b13 0 2 1)) [x.name,x.parent]:=cE_cl.sz rfl (by decide) g13
 refine gZ zfg13 (i:=⟨_,_,.call _ _⟩) (w_str (most:=2) (by omega) hn2 hS.str2) rfl rfl trivial rfl rfl rfl rfl fun v14 z14 hz14 ⟨c14,hv14,h14⟩=>?_
 subst hv14
 refine gP rfl rfl trivial ?_
 refine lF rfl (lN ?_)
 refine fg_ld1 (i:=⟨_,_,.load _ _ _⟩) rfl rfl trivial rfl (.inr (memS mem0)) rfl (by simp [sameA,sameL,sI,sB,sameC_nil,sameC_s,g0.refl,g1.refl,g2.refl,g3.refl,g4.refl,g5.refl,g6.refl,g7.refl,g8.refl,g9.refl,g10.refl,g11.refl]) ?_
 refine gZ z14 (i:=⟨_,_,.call _ _⟩) (w_bracket (most:=16) (by omega) (g0.mono (hzfg13.trans hz14)) hS.brackets) rfl rfl trivial rfl rfl rfl rfl fun v17 z17 hz17 ⟨c17,hv17,h17⟩=>?_
 subst hv17
 refine fg_ldAll (i:=⟨_,_,.load _ _ _⟩) rfl rfl trivial rfl (.inr (memS mem0)) rfl (by simp [sameA,sameL,sI,sB,sameC_nil,sameC_s,g0.refl,g1.refl,g2.refl,g3.refl,g4.refl,g5.refl,g6.refl,g7.refl,g8.refl,g9.refl,g10.refl,g11.refl]) ?_
 refine gZ z17 (i:=⟨_,_,.call _ _⟩) (c_ast_Filing_numbers (by omega) (g0.mono (hzfg13.trans (hz14.trans hz17))) (g1.mono (hzfg13.trans (hz14.trans hz17))) (g2.mono (hzfg13.trans (hz14.trans hz17))) (g3.mono (hzfg13.trans (hz14.trans hz17))) (g4.mono (hzfg13.trans (hz14.trans hz17))) (g5.mono (hzfg13.trans (hz14.trans hz17))) (g6.mono (hzfg13.trans (hz14.trans hz17))) (g7.mono (hzfg13.trans (hz14.trans hz17))) (g8.mono (hzfg13.trans (hz14.trans hz17))) (g9.mono (hzfg13.trans (hz14.trans hz17))) (g10.mono (hzfg13.trans (hz14.trans hz17))) (g11.mono (hzfg13.trans (hz14.trans hz17))) ⟨hS.threshold,hS.cap,hS.interest,hS.floor⟩) rfl rfl trivial rfl rfl rfl rfl fun v19 z19 hz19 ⟨c19,hv19,h19⟩=>?_
 subst hv19
 refine gZ z19 (i:=⟨_,_,.call _ _⟩) (w_bool (most:=7) (by omega) h19) rfl rfl trivial rfl rfl rfl rfl fun v20 z20 hz20 ⟨c20,hv20,h20⟩=>?_
 subst hv20
 refine gP rfl rfl trivial ?_
 refine lF rfl (lN ?_)
 refine fg_ld1 (i:=⟨_,_,.load _ _ _⟩) rfl rfl trivial rfl (.inr (memS mem0)) rfl (by simp [sameA,sameL,sI,sB,sameC_nil,sameC_s,g0.refl,g1.refl,g2.refl,g3.refl,g4.refl,g5.refl,g6.refl,g7.refl,g8.refl,g9.refl,g10.refl,g11.refl]) ?_
 refine gZ z20 (i:=⟨_,_,.call _ _⟩) (w_class (most:=64) (by omega) (g9.mono (hzfg13.trans (hz14.trans (hz17.trans (hz19.trans hz20))))) hS.classes) rfl rfl trivial rfl rfl rfl rfl fun v23 z23 hz23 ⟨c23,hv23,h23⟩=>?_
 subst hv23
 refine gP rfl rfl trivial ?_
 refine lF rfl (lN ?_)
 refine fg_ld1 (i:=⟨_,_,.load _ _ _⟩) rfl rfl trivial rfl (.inr (memS mem0)) rfl (by simp [sameA,sameL,sI,sB,sameC_nil,sameC_s,g0.refl,g1.refl,g2.refl,g3.refl,g4.refl,g5.refl,g6.refl,g7.refl,g8.refl,g9.refl,g10.refl,g11.refl]) ?_
 refine gZ z23 (i:=⟨_,_,.call _ _⟩) (w_str (most:=256) (by omega) (g10.mono (hzfg13.trans (hz14.trans (hz17.trans (hz19.trans (hz20.trans hz23)))))) hS.entities) rfl rfl trivial rfl rfl rfl rfl fun v26 z26 hz26 ⟨c26,hv26,h26⟩=>?_
 subst hv26
 refine gP rfl rfl trivial ?_
 refine lF rfl (lN ?_)
 refine fg_ld1 (i:=⟨_,_,.load _ _ _⟩) rfl rfl trivial rfl (.inr (memS mem0)) rfl (by simp [sameA,sameL,sI,sB,sameC_nil,sameC_s,g0.refl,g1.refl,g2.refl,g3.refl,g4.refl,g5.refl,g6.refl,g7.refl,g8.refl,g9.refl,g10.refl,g11.refl]) ?_
 refine gZ z26 (i:=⟨_,_,.call _ _⟩) (w_year (most:=40) (by omega) (g11.mono (hzfg13.trans (hz14.trans (hz17.trans (hz19.trans (hz20.trans (hz23.trans hz26)))))))) rfl rfl trivial rfl rfl rfl rfl fun v29 z29 hz29 ⟨c29,hv29,h29⟩=>?_
 subst hv29
 refine fg_own (k:=.cells 113 [c14,c17,c20,c23,c26,c29]) (w:=fun b=>.c (.sl b 0 6 1)) rfl trivial rfl (fun _=>rfl) (fun st hst=>?_) (fun b30 hT30=>?_)
 ·simp only [stepE,fillS,AS.ev,hst 14 (by simp [Ins.sl,Od.sls,Od.sl]),hst 17 (by simp [Ins.sl,Od.sls,Od.sl]),hst 20 (by simp [Ins.sl,Od.sls,Od.sl]),hst 23 (by simp [Ins.sl,Od.sls,Od.sl]),hst 26 (by simp [Ins.sl,Od.sls,Od.sl]),hst 29 (by simp [Ins.sl,Od.sls,Od.sl])];rfl
 refine fg_frzZ z29 (p:=[]) rfl rfl rfl (fun _ h=>h) fun zfg30 hzfg30 g30=>?_
 have hrow:=rpt_sz (rpt_cons (h14.mono (hz17.trans (hz19.trans (hz20.trans (hz23.trans (hz26.trans (hz29.trans hzfg30))))))) (rpt_cons (h17.mono (hz19.trans (hz20.trans (hz23.trans (hz26.trans (hz29.trans hzfg30)))))) (rpt_cons (h20.mono (hz23.trans (hz26.trans (hz29.trans hzfg30)))) (rpt_cons (h23.mono (hz26.trans (hz29.trans hzfg30))) (rpt_cons (h26.mono (hz29.trans hzfg30)) (rpt_cons (h29.mono (hzfg30)) CL.nil)))))) (n:=6) rfl (by decide) g30
 refine gP rfl rfl trivial ?_
 refine fl_len rfl rfl (lN ?_)
 refine gP rfl rfl trivial ?_
 refine lC rfl (lN ?_)
 refine fg_nil ?_
 refine fx_seq (fx_block ?_)
 refine fx_loop (fun n fs=>∃ (i0:Nat),LI zfg30 [.blk b2 (.cells 50 [.v (.int .u8 0),.v (.int .i64 0),.v (.int .i64 0)]),.blk b1 (.cells 41 [.v (.string x.name),.v (.string x.parent),c0,.v (.bool x.threshold.n),c1,.v (.bool x.threshold.d),c2,.v (.bool x.cap.n),c3,.v (.bool x.cap.d),c4,.v (.int .i64 x.back),.v (.int .i64 x.forward),.v (.bool x.interest.n),c5,.v (.bool x.interest.d),c6,.v (.bool x.floor.n),c7,.v (.bool x.floor.d),c8,.v (.int .i64 x.keep),c9,c10,c11])] [(1,.c (.ptr b1 0)),(2,.c (.ptr b2 0)),(30,.c (.sl b30 0 6 1)),(31,.c (.v (.int .i64 ((6:Nat):Int)))),(32,.c (.v (.int .i64 ((i0:Nat):Int))))] fs∧n=6 - i0∧(i0≤6)∧(firstSome (rightL x)=firstSome ((rightL x).drop i0))) ?_ _ ⟨0,LI.mk [] (zle.refl _) (atc rfl (atc rfl (atc rfl (atc rfl (atc rfl atn))))),rfl,Nat.zero_le _,rfl⟩ (by show _<18446744073709551616;omega)
 intro n fs hI
 obtain ⟨i0,hL0,hmz0,hi,hfs⟩:=hI
 refine hL0.open fun e zl0 hzl0=>?_
 refine xR (lB rfl rfl (b_lss _ _ _) (lN (fx_cseq ?_)))
 refine xD rfl (fun hc33=>?_) (fun hc33=>?_)
 ·refine fx_kseq ?_
  refine fx_seq (fx_block ?_)
  refine xR ?_
  refine fl_iadS rfl rfl (hrow.mono (hzl0)) i0 rfl _ (List.getElem?_eq_getElem (show i0<(rightL x).length by show i0<6;omega)) fun b34 p34 cs at34 hR=>?_
  obtain ⟨cp,hcs,hp⟩:=hR
  subst hcs
  refine fl_ldA1 rfl at34 (lC rfl (lN (xR (lC rfl (fl_cmpP rfl rfl hp (lN ?_))))))
  refine fx_condB rfl (fun hc37=>?_) (fun hc37=>?_)
  ·refine fx_drwS ?_
   refine fg_part (p:=[]) rfl fun hT2=>?_
   have hf:=Option.isSome_iff_exists.1 hc37
   obtain ⟨f,hf⟩:=hf
   rw [hf] at hp
   have hq:=hp
   obtain ⟨bf,hbe,hbf⟩:=hq
   subst hbe
   refine gP rfl rfl trivial ?_
   refine lC rfl (lN ?_)
   refine gP rfl rfl trivial ?_
   refine fl_nilck rfl (lN ?_)
   refine gP rfl rfl trivial ?_
   refine lF rfl (lN ?_)
   refine fg_ldF3 (i:=⟨_,_,.load _ _ _⟩) rfl rfl trivial rfl hbf (fun _ _ h=>.inl h) ?_
   refine gP rfl rfl trivial ?_
   refine lC rfl (lN ?_)
   refine gP rfl rfl trivial ?_
   refine fl_nilck rfl (lN ?_)
   refine gP rfl rfl trivial ?_
   refine lF rfl (lN ?_)
   refine fg_ldF1 (i:=⟨_,_,.load _ _ _⟩) rfl rfl trivial rfl hbf (fun _ _ h=>.inl h) ?_
   refine fg_storeT (i:=⟨_,_,.store _ _ _⟩) rfl trivial rfl rfl rfl hT2 ?_
   refine fl_stAll rfl rfl rfl rfl rep0 (lN (gP rfl rfl trivial ?_))
   refine lC rfl (lN ?_)
   refine fg_nil (xT (sq_r (lq_r (sq_r (rQ (.inl rfl) (rc3 rfl mem0 (rt rfl rn)) ?_)))))
   rw [rightS,hfs,fs_hit (show i0<(rightL x).length by show i0<6;omega) hc37,hf]
   rfl
  ·refine fx_skip (sq_n (xG (lB rfl rfl (bI_add (n:=i0+1) (by omega) (by omega)) (lC rfl (lN ?_)))))
   exact lq_n (by omega) ⟨i0+1,LI.mk [] (hzl0) (atc rfl (atc rfl (atc rfl (atc rfl (atc rfl atn))))),rfl,by omega,hfs.trans (fs_next (by show i0<6;omega) hc37)⟩
 ·refine fx_eseq (lq_e (sq_n (fx_ss (xR (lF rfl (fl_ld1 rfl (memS mem0) rfl (fl_lenS rfl (g11.mono (hzfg13.trans (hz14.trans (hz17.trans (hz19.trans (hz20.trans (hz23.trans (hz26.trans (hz29.trans (hzfg30.trans hzl0)))))))))) ?_)))))))
  refine lC rfl (lN ?_)
  refine fx_seq (fx_block ?_)
  refine fx_loop (fun n fs=>∃ (i:Nat),LI zl0 [.blk b2 (.cells 50 [.v (.int .u8 0),.v (.int .i64 0),.v (.int .i64 0)]),.blk b1 (.cells 41 [.v (.string x.name),.v (.string x.parent),c0,.v (.bool x.threshold.n),c1,.v (.bool x.threshold.d),c2,.v (.bool x.cap.n),c3,.v (.bool x.cap.d),c4,.v (.int .i64 x.back),.v (.int .i64 x.forward),.v (.bool x.interest.n),c5,.v (.bool x.interest.d),c6,.v (.bool x.floor.n),c7,.v (.bool x.floor.d),c8,.v (.int .i64 x.keep),c9,c10,c11])] [(1,.c (.ptr b1 0)),(2,.c (.ptr b2 0)),(48,.c c11),(49,.c (.v (.int .i64 ((x.years.length:Nat):Int)))),(50,.c (.v (.int .i64 ((i:Nat):Int))))] fs∧n=x.years.length - i∧(i≤x.years.length)∧(yearsW 0 x.years=yearsW i (x.years.drop i))) ?_ _ ⟨0,LI.mk [] (zle.refl _) (atc rfl (atc rfl (atc rfl (atc rfl (atc rfl atn))))),rfl,Nat.zero_le _,rfl⟩ (by have:=g11.le;show _<18446744073709551616;omega)
  intro n fs hI
  obtain ⟨i,hL1,hmz1,hi,hyw⟩:=hI
  refine hL1.open fun e zl1 hzl1=>?_
  refine xR (lB rfl rfl (b_lss _ _ _) (lN (fx_cseq ?_)))
  refine xD rfl (fun hc51=>?_) (fun hc51=>?_)
  ·refine fx_kseq ?_
   refine fx_seq (fx_block ?_)
   refine xR (lC rfl ?_)
   refine fl_iadS rfl rfl (g11.mono (hzfg13.trans (hz14.trans (hz17.trans (hz19.trans (hz20.trans (hz23.trans (hz26.trans (hz29.trans (hzfg30.trans (hzl0.trans hzl1))))))))))) i rfl _ (List.getElem?_eq_getElem (by omega)) fun b53 p53 cs at53 hR=>?_
   obtain ⟨y0,y1,y2,y3,y4,hcs,q0,q1,q2,q3,q4⟩:=hR
   subst hcs
   refine fl_ldAs rfl at53 rfl ?_
   refine fl_alloc fun b7=>?_
   refine lC rfl (fl_stAll rfl rfl rfl rfl rep0 (lN (xR (fl_ldAll rfl mem0 rfl (lC rfl ?_)))))
   refine lZ zl1 (c_ast_Year_wrong (at_:=(i:Nat)) (by omega) q0 q1 q2 q3 q4 (hS.years _ (List.getElem_mem (show i<x.years.length by omega)))) rfl rfl fun v57 z57 hz57 ⟨c57,hv57,hp2⟩=>?_
   subst hv57
   refine lM rfl (lN (xR (lM rfl (fl_cmpP rfl rfl hp2 (lN ?_)))))
   refine fx_condB rfl (fun hc59=>?_) (fun hc59=>?_)
   ·refine fx_drwS ?_
    refine fg_part (p:=[_]) rfl fun hT2=>?_
    have hf:=Option.isSome_iff_exists.1 hc59
    obtain ⟨f,hf⟩:=hf
    rw [hf] at hp2
    have hq:=hp2
    obtain ⟨bf,hbe,hbf⟩:=hq
    subst hbe
    refine gP rfl rfl trivial ?_
    refine lM rfl (lN ?_)
    refine gP rfl rfl trivial ?_
    refine fl_nilck rfl (lN ?_)
    refine gP rfl rfl trivial ?_
    refine lF rfl (lN ?_)
    refine fg_ldF3 (i:=⟨_,_,.load _ _ _⟩) rfl rfl trivial rfl hbf (fun _ _ h=>.inl h) ?_
    refine gP rfl rfl trivial ?_
    refine lM rfl (lN ?_)
    refine gP rfl rfl trivial ?_
    refine fl_nilck rfl (lN ?_)
    refine gP rfl rfl trivial ?_
    refine lF rfl (lN ?_)
    refine fg_ldF1 (i:=⟨_,_,.load _ _ _⟩) rfl rfl trivial rfl hbf (fun _ _ h=>.inl h) ?_
    refine fg_storeT (i:=⟨_,_,.store _ _ _⟩) rfl trivial rfl rfl rfl hT2 ?_
    refine fl_stAll rfl rfl rfl rfl (repS rep0) (lN (gP rfl rfl trivial ?_))
    refine lC rfl (lN ?_)
    refine fg_nil (xT (sq_r (lq_r (sq_r (rQ (.inl rfl) (rc3 rfl (memS mem0) (rt rfl rn)) ?_)))))
    rw [rightS,hfs,fs_end (show (rightL x).length≤i0 by show 6≤i0;omega),hyw,yw_hit (by omega) hc59,hf]
    rfl
   ·refine fx_skip (sq_n (xG (lB rfl rfl (bI_add (n:=i+1) (by omega) (by omega)) (lC rfl (lN ?_)))))
    exact lq_n (by omega) ⟨i+1,LI.mk [_] (hzl1.trans hz57) (atc rfl (atc rfl (atc rfl (atc rfl (atc rfl atn))))),rfl,by omega,hyw.trans (yw_next (by omega) hc59)⟩
  ·refine fx_eseq (lq_e (sq_n (xR (fl_bd (cs:=[_,_,_]) rfl (fl_stAll rfl rfl rfl rfl rep0 (lC rfl (lN ?_)))))))
   refine xT (rQ (.inl rfl) (rc3 rfl mem0 (rt rfl rn)) ?_)
   rw [rightS,hfs,fs_end (show (rightL x).length≤i0 by show 6≤i0;omega),hyw,yw_end (by omega)]
   rfl
end Go.Proofs.YtcnpoojdochapaaGreatDoor

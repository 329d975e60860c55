/- The references' naturals and rationals, walked (2). -/
import Derived.WalkKit
import Derived.Orders
import Derived.Test.YtlceligcgelbdaaGreatKD3
set_option linter.unusedVariables false
set_option linter.unusedSimpArgs false
set_option maxRecDepth 100000
set_option maxHeartbeats 1000000
namespace Go.Proofs.YtlceligcgelbdaaGreat
open Go.CE Go.RowKit Go.Num
open Go.Eng (kN)
theorem aXo {call:eE} {B:pK} {an:List Nat} {j:Nat} {l:List CE.D} {fs:Sf} {tag last:Nat} {pj:List Nat} {Q:Sf→Prop} {b:Nat} {k0:mU} {p q:List HA} (e:fs.H=p++.blk b k0::q) (h:(∀ k,¬ tz fs.z (p++q) b k)→FG call B an j l fs (tz fs.z (p++q)) tag last pj [] Q):FG call B an j l fs (tz fs.z fs.H) tag last pj [] Q:=fun a r=>by
  have hsub:∀ b k,tz fs.z (p++q) b k→tz fs.z fs.H b k:=fun b k ht=>ht.imp id fun hm=>by
    rw [e]
    rcases List.mem_append.1 hm with hm | hm
    · exact List.mem_append.2 (.inl hm)
    · exact List.mem_append.2 (.inr (List.mem_cons_of_mem _ hm))
  refine h ?_ a ⟨r.rf,r.hd,fun x hx b k ht=>r.t0 x hx b k (hsub b k ht),fun b k ht=>r.tlt b k (hsub b k ht),fun x hx k ht=>r.np x hx k (hsub _ k ht),fun x hx=>absurd (r.fl x hx).1 List.not_mem_nil,r.last,r.pj,r.plt⟩
  intro k ht
  have hnd:=r.rf.hold.nd
  rcases ht with ht | ht
  · exact (r.rf.hold.z b k ht).2.2 (by show b∈pR fs.H;rw [e,jM,iJ];simp [HA.fp])
  · have hm : b ∈ pR (p ++ q) := List.mem_flatMap.2 ⟨_, ht, by simp [HA.fp]⟩
    replace hnd:(pR fs.H).Nodup:=hnd
    rw [e,jM,iJ] at hnd
    rw [jM] at hm
    have h2:=List.nodup_append.1 hnd
    rcases List.mem_append.1 hm with hm | hm
    · exact h2.2.2 b hm b (by simp [HA.fp]) rfl
    · have h3:=List.nodup_append.1 h2.2.1
      exact h3.2.2 b (by simp [HA.fp]) b hm rfl
theorem bCU {A B:Int} (hB:B≠0):Qo (decide (A<0)) (A.natAbs % B.natAbs)+B * Qo (!decide (decide (A<0)=decide (B<0))) (A.natAbs / B.natAbs)=A∧(Qo (decide (A<0)) (A.natAbs % B.natAbs)).natAbs<B.natAbs:=by
  refine ⟨?_,by rw [Zj];exact Nat.mod_lt _ (by omega)⟩
  have h:=Nat.div_add_mod A.natAbs B.natAbs
  have e:((B.natAbs * (A.natAbs / B.natAbs):Nat):Int)=(B.natAbs:Int) * ((A.natAbs / B.natAbs:Nat):Int):=Int.natCast_mul _ _
  generalize A.natAbs / B.natAbs=q at *
  generalize A.natAbs % B.natAbs=r at *
  generalize hp:B.natAbs * q=pq at *
  unfold Qo
  rcases Int.lt_or_le A 0 with ha | ha<;>rcases Int.lt_or_le B 0 with hb | hb
  · rw [decide_eq_true ha,decide_eq_true hb]
    have:(B.natAbs:Int) = -B:=by omega
    rw [this,Int.neg_mul] at e
    simp only [decide_true,Bool.not_true,if_true,Bool.false_eq_true,if_false]
    omega
  · rw [decide_eq_true ha, decide_eq_false (show ¬ B < 0 by omega)]
    have:(B.natAbs:Int)=B:=by omega
    rw [this] at e
    simp only [Bool.true_eq_false,decide_false,Bool.not_false,if_true,Int.mul_neg]
    omega
  · rw [decide_eq_false (show ¬ A < 0 by omega), decide_eq_true hb]
    have:(B.natAbs:Int) = -B:=by omega
    rw [this,Int.neg_mul] at e
    simp only [Bool.false_eq_true,decide_false,Bool.not_false,if_true,if_false,Int.mul_neg]
    omega
  · rw [decide_eq_false (show ¬ A < 0 by omega), decide_eq_false (show ¬ B < 0 by omega)]
    have:(B.natAbs:Int)=B:=by omega
    rw [this] at e
    simp only [decide_true,Bool.not_true,Bool.false_eq_true,if_false]
    omega
theorem aEb {z:dA} {v:AV} {c:C} {x y:Int} (e:x=y) (h:v=.agg [Cb (decide (x<0)),c]) (hq:CZ 1 RW z c (toL x.natAbs)):IV z v y:=by
 subst e
 exact ⟨c,h,hq⟩
theorem aAN (a:Int):(a<0∧a.sign = -1)∨(a=0∧a.sign=0)∨(0<a∧a.sign=1):=by
 rcases Int.lt_trichotomy a 0 with h | h | h
 ·exact .inl ⟨h,Int.sign_eq_neg_one_of_neg h⟩
 ·exact .inr (.inl ⟨h,by rw [h];rfl⟩)
 exact .inr (.inr ⟨h,Int.sign_eq_one_of_pos h⟩)
theorem bQH {A B q r:Int} (hb:B≠0) (h:r+B * q=A∧r.natAbs<B.natAbs) (h1:¬ r.sign=0) (h2:¬ r.sign=B.sign):q - 1=A.fdiv B∧r+B=A.fmod B:=by
 refine aG3 hb ?_ ?_
 ·rw [Int.mul_sub,Int.mul_one,← h.1];omega
 have:=h.2
 rcases aAN r with ⟨h3,h4⟩ | ⟨h3,h4⟩ | ⟨h3,h4⟩<;>rcases aAN B with ⟨h5,h6⟩ | ⟨h5,h6⟩ | ⟨h5,h6⟩<;>constructor<;>intro<;>omega
theorem aX8 {A B q r:Int} (hb:B≠0) (h:r+B * q=A∧r.natAbs<B.natAbs) (h1:r.sign=0∨r.sign=B.sign):q=A.fdiv B∧r=A.fmod B:=by
 refine aG3 hb h.1 ?_
 have:=h.2
 rcases aAN r with ⟨h3,h4⟩ | ⟨h3,h4⟩ | ⟨h3,h4⟩<;>rcases aAN B with ⟨h5,h6⟩ | ⟨h5,h6⟩ | ⟨h5,h6⟩<;>constructor<;>intro<;>omega
theorem bLM:(toL (1:Int).natAbs).length≤100000000:=Nat.le_trans (m:=1) (pG.2 (by decide)) (by decide)
theorem aLt {n:Nat} (h:0<(qB n).length):0<n:=by
 rcases Nat.eq_zero_or_pos n with rfl | h0
 ·rw [Yf] at h;simp at h
 exact h0
theorem bSK {n:Nat} (h:(qB n).length=0):n=0:=by
 rcases Nat.eq_zero_or_pos n with h0 | h0
 ·exact h0
 rw [aHG h0] at h;simp at h
theorem I3 {k:Nat} (hk:7≤k) {z:dA} {n1:Bool} {c1:C} {l1:List UInt32} (hx:CZ 1 RW z c1 l1) {n2:Bool} {c2:C} {l2:List UInt32} (hy:CZ 1 RW z c2 l2) (h1:l1.length≤100000000) (h2:l2.length≤100000000) (hb:lQ (n2,l2)≠0):FC (E k) 214 [.agg [Cb n1,c1],.agg [Cb n2,c2]] z fun v z'=>∃ v1 v2,v=.tup [v1,v2,Ai 0]∧IV (zd z z') v1 ((lQ (n1,l1)).fdiv (lQ (n2,l2)))∧IV (zd z z') v2 ((lQ (n1,l1)).fmod (lQ (n2,l2))):=by
 have e1:=Nat.le_trans (C5 (n:=n1) (l:=l1)) h1
 have e2:=Nat.le_trans (C5 (n:=n2) (l:=l2)) h2
 have f1:=aFW e1
 have f2:=aFW e2
 have hbp:0<(lQ (n2,l2)).natAbs:=by omega
 have hml:=aGp (Nat.le_of_lt (Nat.mod_lt (lQ (n1,l1)).natAbs hbp))
 have hdl:=aGp (Nat.div_le_self (lQ (n1,l1)).natAbs (lQ (n2,l2)).natAbs)
 have gml:=zH (Nat.le_of_lt (Nat.mod_lt (lQ (n1,l1)).natAbs hbp))
 have gdl:=zH (Nat.div_le_self (lQ (n1,l1)).natAbs (lQ (n2,l2)).natAbs)
 have hql:(toL (Qo (!decide (decide (lQ (n1,l1)<0)=decide (lQ (n2,l2)<0))) ((lQ (n1,l1)).natAbs / (lQ (n2,l2)).natAbs)).natAbs).length≤100000000:=by rw [Zj];exact Nat.le_trans gdl e1
 have hrl:(toL (Qo (decide (lQ (n1,l1)<0)) ((lQ (n1,l1)).natAbs % (lQ (n2,l2)).natAbs)).natAbs).length≤100000000:=by rw [Zj];exact Nat.le_trans gml e2
 have htk:=bCU (A:=lQ (n1,l1)) (B:=lQ (n2,l2)) hb
 refine eA (bCE) (by omega) (aU O) fun B j hj=>?_
 refine xR ?_
 refine iU O fun b2=>?_
 refine iU O fun b3=>?_
 refine oH fun b4=>?_
 refine oH fun b5=>?_
 refine R2 4 O (iP O Y3 O ?_)
 refine lZ z (qG (by omega) hx) O O fun v12 z12 hz12 hv12=>?_
 obtain ⟨c12,rfl,hq12⟩:=hv12
 have h12:=hq12 _ (hx.mono (zJ z12))
 refine iI O O P3 (lN (xR (iP O Y2 O ?_)))
 refine lZ z12 (qG (by omega) hy.m) O O fun v14 z14 hz14 hv14=>?_
 obtain ⟨c14,rfl,hq14⟩:=hv14
 have h14:=hq14 _ (hy.mono (zJ z14))
 refine iI O O P2 (lN (R4 8 O (dK O Y2 O (aS O h14 (R3 4 O ?_)))))
 refine xD O (fun hc18=>?_) (fun hc18=>?_)
 ·exact absurd (Qd (n:=(lQ (n2,l2)).natAbs) (by omega)) (by omega)
 refine cP (iN (G1 2 O (zG O O (.inr Y3) O ?_)))
 refine gC z14 (A8 (by omega) h12.m (by omega)) O O O O fun v24 z24 hz24 h24=>?_
 have h24:=h24.mono (qY (hz12.trans hz14))
 rw [gX] at h24
 refine G1 2 O (zG O O (.inr Y2) O ?_)
 refine gC z24 (A8 (by omega) h14.m (by omega)) O O O O fun v27 z27 hz27 h27=>?_
 have h27:=h27.mono (qY (hz12.trans (hz14.trans hz24)))
 rw [gX] at h27
 refine gC z27 (aEN (by omega) (wR _) h24.m (h27.mono jF) hbp (by omega) (by omega)) O O O O fun v28 z28 hz28 hv28=>?_
 obtain ⟨q28,r28,hv,hq28,hr28⟩:=hv28
 subst hv
 rw [wM] at hq28 hr28
 refine G0 57 O (iN (G1 2 O (zG O O (.inr Y3) O (G1 2 O (zG O O (.inr Y2) O (gP O O F ?_))))))
 refine Ej O O (aE6 _ _) (lN ?_)
 refine G1 3 O ?_
 refine gC z28 (Ju (by omega) (wR _) hq28 (by omega)) O O O O fun v37 z37 hz37 h37=>?_
 rw [Jc] at h37
 obtain ⟨c37,rfl,_⟩:=h37.one
 have h37:=h37.mono (qY (hz12.trans (hz14.trans (hz24.trans (hz27.trans hz28)))))
 refine gC z37 (vW (by omega) (h37.mono jF) (by omega)) O O O O fun v38 z38 hz38 hv38=>?_
 rw [gX] at hv38
 obtain ⟨c38,rfl,h38⟩:=hv38
 have h38:=h38.mono (qY (hz12.trans (hz14.trans (hz24.trans (hz27.trans (hz28.trans hz37))))))
 refine G1 2 O (zG O O (.inr Y3) O (G1 3 O ?_))
 refine gC z38 (Ju (by omega) (wR _) hr28.m (by omega)) O O O O fun v42 z42 hz42 h42=>?_
 rw [Jc] at h42
 obtain ⟨c42,rfl,_⟩:=h42.one
 have h42:=h42.mono (qY (hz12.trans (hz14.trans (hz24.trans (hz27.trans (hz28.trans (hz37.trans hz38)))))))
 refine gC z42 (vW (by omega) (h42.mono jF) (by omega)) O O O O fun v43 z43 hz43 hv43=>?_
 rw [gX] at hv43
 obtain ⟨c43,rfl,h43⟩:=hv43
 have h43:=h43.mono (qY (hz12.trans (hz14.trans (hz24.trans (hz27.trans (hz28.trans (hz37.trans (hz38.trans hz42))))))))
 refine gA O O (fun b9 hT9=>?_)
 refine gA O O (fun b10 hT10=>?_)
 refine gS O O O (iI O O P1 (lN (gS O O O (iI O O iW (lN (mL (Xb (iN (Ou O O Ht O ?_)))))))))
 refine gC z43 (Bh (by omega) (h43.mono jF) hrl) O O O O fun v45 z45 hz45 hv45=>?_
 rw [jI] at hv45
 subst hv45
 refine G1 4 O ?_
 refine aLH 47 O (fun hg47=>?_) (fun hg47=>?_)
 ·refine Ou O O Ht O ?_
  refine gC z45 (Bh (by omega) h43.m hrl) O O O O fun v49 z49 hz49 hv49=>?_
  rw [jI] at hv49
  subst hv49
  refine Ou O O (.inr Y4) O ?_
  refine gC z49 (Bh (by omega) h14.m e2) O O O O fun v51 z51 hz51 hv51=>?_
  rw [jI] at hv51
  subst hv51
  refine G0 4 O (Ew ?_)
  refine wO O (fun hc53=>?_) (fun hc53=>?_)
  ·refine Xb (iN (Ou O O (.inr Y1) O ?_))
   refine gC z51 (Ce (n:=1) (by omega) (by decide) (by decide)) O O O O fun v55 z55 hz55 hv55=>?_
   obtain ⟨c55,hv,h55⟩:=hv55
   subst hv
   have h55:=h55.mono (qY (hz12.trans (hz14.trans (hz24.trans (hz27.trans (hz28.trans (hz37.trans (hz38.trans (hz42.trans (hz43.trans (hz45.trans (hz49.trans hz51))))))))))))
   refine gC z55 (aYp (by omega) h38.m (h55.mono jF) hql bLM) O O O O fun v56 z56 hz56 hv56=>?_
   rw [jI,jI] at hv56
   obtain ⟨c56,hv,h56⟩:=hv56
   subst hv
   have h56:=h56.mono (qY (hz12.trans (hz14.trans (hz24.trans (hz27.trans (hz28.trans (hz37.trans (hz38.trans (hz42.trans (hz43.trans (hz45.trans (hz49.trans (hz51.trans hz55)))))))))))))
   refine gS O O O (iI O O P1 (lN (mL (xR (iP O mem0 O (iP O Y4 O ?_))))))
   refine lZ z56 (aBY (by omega) h43.m h14.m hrl e2) O O fun v59 z59 _ hv59=>?_
   rw [jI,jI] at hv59
   obtain ⟨c59,hv,h59⟩:=hv59
   subst hv
   have h59:=h59.mono (qY (hz12.trans (hz14.trans (hz24.trans (hz27.trans (hz28.trans (hz37.trans (hz38.trans (hz42.trans (hz43.trans (hz45.trans (hz49.trans (hz51.trans (hz55.trans hz56))))))))))))))
   refine iI O O iW (lN (iN ?_))
   refine aXo (p:=[_,_,_]) O fun hT4=>?_
   refine Ou O O (.inr Y1) O (Ou O O Ht O (gT O O O hT4 (iI O O P3 (lN (gS O O O (iI O O P2 (lN (G0 2 O (xT (rQ (.inl O) (Za O Y3 (Za O Y2 (rt O rn))) ?_))))))))))
   have he:=bQH hb htk hg47 hc53
   exact ⟨_,_,rfl,aEb he.1 rfl (h56.mono (jO zI)),aEb he.2 rfl h59⟩
  refine cP (iN ?_)
  refine aXo (p:=[_,_,_]) O fun hT4=>?_
  refine Ou O O (.inr Y1) O (Ou O O Ht O (gT O O O hT4 (iI O O P3 (lN (gS O O O (iI O O P2 (lN (G0 2 O (xT (rQ (.inl O) (Za O Y3 (Za O Y2 (rt O rn))) ?_))))))))))
  have he:=aX8 hb htk (.inr hc53)
  exact ⟨_,_,rfl,aEb he.1 rfl (h38.mono (jO zI)),aEb he.2 rfl (h43.mono (jO zI))⟩
 refine G0 64 O (R5 8 O (iN ?_))
 refine aXo (p:=[_,_,_]) O fun hT4=>?_
 refine Ou O O (.inr Y1) O (Ou O O Ht O (gT O O O hT4 (iI O O P3 (lN (gS O O O (iI O O P2 (lN (G0 2 O (xT (rQ (.inl O) (Za O Y3 (Za O Y2 (rt O rn))) ?_))))))))))
 have he:=aX8 hb htk (.inl hg47)
 exact ⟨_,_,rfl,aEb he.1 rfl (h38.mono (jO zI)),aEb he.2 rfl (h43.mono (jO zI))⟩
theorem aDv {k:Nat} (hk:5≤k) {z:dA} {n1:Bool} {c1:C} {l1:List UInt32} (hx:CZ 1 RW z c1 l1) {n2:Bool} {c2:C} {l2:List UInt32} (hy:CZ 1 RW z c2 l2) (h1:l1.length≤100000000) (h2:l2.length≤100000000):FC (E k) 213 [.agg [Cb n1,c1],.agg [Cb n2,c2]] z fun v z'=>IV (zd z z') v (Int.gcd (lQ (n1,l1)) (lQ (n2,l2))):=by
 have e1:=Nat.le_trans (C5 (n:=n1) (l:=l1)) h1
 have e2:=Nat.le_trans (C5 (n:=n2) (l:=l2)) h2
 have f1:=aFW e1
 have f2:=aFW e2
 refine eA (bDh) (by omega) (aU O) fun B j hj=>?_
 refine xR ?_
 refine iU O fun b2=>?_
 refine iU O fun b3=>?_
 refine oH fun b4=>?_
 refine lN (iN (Ou O O (.inr Y2) O ?_))
 refine gC z (qG (by omega) hx) O O O O fun v10 z10 hz10 hv10=>?_
 obtain ⟨c10,rfl,hq10⟩:=hv10
 have h10:=hq10 _ (hx.mono (zJ z10))
 refine gP O O F ?_
 refine aAV O O (lN ?_)
 refine gC z10 (A8 (by omega) h10 (by omega)) O O O O fun v12 z12 hz12 h12=>?_
 have h12:=h12.mono (qY (hz10))
 rw [gX] at h12
 refine Ou O O (.inr Y1) O ?_
 refine gC z12 (qG (by omega) hy.m) O O O O fun v14 z14 hz14 hv14=>?_
 obtain ⟨c14,rfl,hq14⟩:=hv14
 have h14:=hq14 _ (hy.mono (zJ z14))
 refine gP O O F ?_
 refine aAV O O (lN ?_)
 refine gC z14 (A8 (by omega) h14 (by omega)) O O O O fun v16 z16 hz16 h16=>?_
 have h16:=h16.mono (qY (hz10.trans (hz12.trans hz14)))
 rw [gX] at h16
 refine G0 7 O ?_
 refine aT (aQ ?_)
 refine dX (fun n fs=>∃ (x:Nat) (y:Nat) (vx:AV) (vy:AV) (zi:dA),LZ z16 zi [.blk b4 (.cells 49 [Cb false,Cz]),.blk b3 (.cells 49 [Cb n2,c2]),.blk b2 (.cells 49 [Cb n1,c1])] [(4,Ap b4),(5,vx),(6,vy)] fs∧n=gm x y∧(SZ 1 RN zi vx (qB x))∧(SZ 1 RN zi vy (qB y))∧(Nat.gcd x y=Nat.gcd (lQ (n1,l1)).natAbs (lQ (n2,l2)).natAbs)∧((toL x).length≤100000000)∧((toL y).length≤100000000)) ?_ _ ⟨(lQ (n1,l1)).natAbs,(lQ (n2,l2)).natAbs,_,_,_,LZ.m [] O,rfl,h12.m,(h16.mono jF),rfl,e1,e2⟩ (by have:=bLN e1 e2;show _<18446744073709551616;omega)
 intro n fs ⟨x,y,vx,vy,zi,hL0,hmz0,hvx,hvy,hg,hxl,hyl⟩
 refine hL0.open fun e hzi=>?_
 refine R4 12 O (aS O hvy (R3 4 O ?_))
 refine xD O (fun hc19=>?_) (fun hc19=>?_)
 ·refine cP (aQ (xR ?_))
  have f3:=aFW hxl
  have f4:=aFW hyl
  have hy0:0<y:=aLt (by omega)
  refine R1 7 O ?_
  refine lZ zi (aEN (by omega) (wR _) hvx hvy hy0 (by omega) (by omega)) O O fun v23 z23 _ hv23=>?_
  obtain ⟨q23,r23,hv,_,hr23⟩:=hv23
  subst hv
  rw [wM] at hr23
  refine R3 473 O (xG (R0 7 O ?_))
  exact mK (by rw [hmz0];exact bLU (hy0)) ⟨y,x % y,_,_,_,LZ.m [] O,rfl,hvy.m,hr23,by rw [Nat.gcd_comm y,← Nat.gcd_rec,Nat.gcd_comm];exact hg,hyl,Nat.le_trans (zH (Nat.le_of_lt (Nat.mod_lt _ hy0))) hyl⟩
 refine dH (nF (eT (xR ?_)))
 have f3:=aFW hxl
 have hy0:y=0:=bSK (by omega)
 rw [hy0,Nat.gcd_zero_right] at hg
 refine lM O ?_
 refine lZ zi (Ju (by omega) (wR _) hvx (by omega)) O O fun v29 z29 hz29 h29=>?_
 rw [Jc] at h29
 obtain ⟨c29,rfl,_⟩:=h29.one
 have h29:=h29.mono (qY (hz10.trans (hz12.trans (hz14.trans (hz16.trans hzi)))))
 refine lZ z29 (vW (by omega) (h29.mono jF) (by omega)) O O fun v30 z30 _ hv30=>?_
 rw [gX] at hv30
 obtain ⟨c30,rfl,h30⟩:=hv30
 have h30:=h30.mono (qY (hz10.trans (hz12.trans (hz14.trans (hz16.trans (hzi.trans hz29))))))
 refine iI O O iW (lN (xT (rQ (.inl O) (Za O mem0 rn) ?_)))
 rw [show ((Int.gcd (lQ (n1,l1)) (lQ (n2,l2)):Nat):Int)=Qo false x by rw [hg];rfl]
 exact ⟨_,rfl,h30⟩
open Go.CE Go.RowKit Go.Num
open Go.Eng (kN)
theorem bMv {z:dA} {c d:C} {x y:C} {q:Rat} (h:QV z (.agg [x,c,y,d]) q):CZ 1 RW z d (toL (q.den:Int).natAbs):=by
 obtain ⟨c',d',e,_,h2⟩:=yI h
 injection e with e
 simp only [List.cons.injEq,and_true] at e
 rw [e.2.2.2]
 exact h2
theorem aId (q:Rat):Num.valR ((decide (q.num<0),toL q.num.natAbs),(decide ((q.den:Int)<0),toL (q.den:Int).natAbs))=q:=bRi q
theorem Xs {a b:Int} (hb:b≠0):(Rat.divInt a b).num.natAbs≤a.natAbs∧(Rat.divInt a b).den≤b.natAbs:=by
 have h:=bAV (a:=a) hb rfl
 generalize hg:(if b<0 then -((Int.gcd a b:Nat):Int) else ((Int.gcd a b:Nat):Int))=g at h
 have d1:g ∣ a:=by rw [← hg];split;exact Int.neg_dvd.2 (Int.gcd_dvd_left a b);exact Int.gcd_dvd_left a b
 have d2:g ∣ b:=by rw [← hg];split;exact Int.neg_dvd.2 (Int.gcd_dvd_right a b);exact Int.gcd_dvd_right a b
 rw [Int.fdiv_eq_ediv_of_dvd d1,Int.fdiv_eq_ediv_of_dvd d2] at h
 refine ⟨by rw [← h.1];exact Int.natAbs_ediv_le_natAbs a g,?_⟩
 have h3:=Int.natAbs_ediv_le_natAbs b g
 rw [h.2] at h3
 simpa using h3
theorem bKx {p q:Rat} {k j:Nat} (h1:(toL p.num.natAbs).length≤k) (h2:(toL (p.den:Int).natAbs).length≤j) (h3:(toL q.num.natAbs).length≤k) (h4:(toL (q.den:Int).natAbs).length≤j):(toL (p+q).num.natAbs).length≤k+j+1∧(toL ((p+q).den:Int).natAbs).length≤j+j:=by
 have e:=Xs (a:=p.num * (q.den:Int)+q.num * (p.den:Int)) (bKS p q)
 rw [bH2] at e
 refine ⟨Nat.le_trans (zH e.1) (aTe (J7 h1 h4) (J7 h3 h2)),Nat.le_trans (zH (b:=((p.den:Int) * (q.den:Int)).natAbs) (by simpa using e.2)) (J7 h2 h4)⟩
theorem bJc {p q:Rat} {k j:Nat} (h1:(toL p.num.natAbs).length≤k) (h2:(toL (p.den:Int).natAbs).length≤j) (h3:(toL q.num.natAbs).length≤k) (h4:(toL (q.den:Int).natAbs).length≤j):(toL (p - q).num.natAbs).length≤k+j+1∧(toL ((p - q).den:Int).natAbs).length≤j+j:=by
 rw [Rat.sub_eq_add_neg]
 exact bKx h1 h2 (by rw [Rat.neg_num,Int.natAbs_neg];exact h3) (by rw [Rat.neg_den];exact h4)
theorem bI5 {x:aWw} (h:zK x=false):Num.valR x=0:=by simp [Num.valR,h]
theorem bLE {z:dA} {v:AV} {c d:C} {x q:Rat} (e:x=q) (h:v=.agg [Cb (decide (x.num<0)),c,Cb (decide ((x.den:Int)<0)),d]) (h1:CZ 1 RW z c (toL x.num.natAbs)) (h2:CZ 1 RW z d (toL (x.den:Int).natAbs)):QV z v q:=by
 subst e
 exact ⟨c,d,h,h1,h2⟩
theorem aWQ {z:dA} {v:AV} {c d:C} {x y:Int} {q:Rat} (e1:x=q.num) (e2:y=(q.den:Int)) (h:v=.agg [Cb (decide (x<0)),c,Cb (decide (y<0)),d]) (h1:CZ 1 RW z c (toL x.natAbs)) (h2:CZ 1 RW z d (toL y.natAbs)):QV z v q:=by
 subst e1
 subst e2
 exact ⟨c,d,h,h1,h2⟩
theorem bLO {a b:Int} (hb:b≠0) (h:¬ b<0):a.fdiv ((Int.gcd a b:Nat):Int)=(Rat.divInt a b).num∧b.fdiv ((Int.gcd a b:Nat):Int)=((Rat.divInt a b).den:Int):=bAV hb (if_neg h).symm
theorem bUt {a b:Int} (h:b<0):(-a).fdiv ((Int.gcd a b:Nat):Int)=(Rat.divInt a b).num∧(-b).fdiv ((Int.gcd a b:Nat):Int)=((Rat.divInt a b).den:Int):=by
 have h2 := bLO (a := -a) (b := -b) (by omega) (by omega)
 rwa [Int.gcd_neg,Int.neg_gcd,Rat.neg_divInt_neg] at h2
theorem bAb {n:Int} (h1 : -9223372036854775808≤n) (h2:n<9223372036854775808):(toL n.natAbs).length≤100000000:=Nat.le_trans (m:=2) (pG.2 (by show _<4294967296 ^ 2;omega)) (by decide)
theorem aWK {k:Nat} (hk:5≤k) {z:dA} {a b:Int} {c1 c2:C} (hx:CZ 1 RW z c1 (toL a.natAbs)) (hy:CZ 1 RW z c2 (toL b.natAbs)) (h1:(toL a.natAbs).length≤100000000) (h2:(toL b.natAbs).length≤100000000):FC (E k) 234 [.agg [Cb (decide (a<0)),c1],.agg [Cb (decide (b<0)),c2]] z fun v _=>v=Ab (decide ((a - b).sign=0)):=by
 refine eA (bEx) (by omega) (aU O) fun B j hj=>?_
 refine xR ?_
 refine iU O fun b2=>?_
 refine iU O fun b3=>?_
 refine R2 4 O (iP O Y1 O (iP O mem0 O ?_))
 refine lZ z (aLW (by omega) hx hy h1 h2) O O fun v7 z7 _ hv7=>?_
 rw [jI,jI] at hv7
 subst hv7
 refine R0 4 O (xT (rI O ?_))
 rfl
theorem aTu {k:Nat} (hk:6≤k) {z:dA} {n1 n2:Bool} {c1 c2:C} {l1 l2:List UInt32} (hx:CZ 1 RW z c1 l1) (hy:CZ 1 RW z c2 l2) (h1:l1.length≤40000000) (h2:l2.length≤40000000):FC (E k) 145 [.agg [Cb n1,c1,Cb n2,c2]] z fun v _=>v=Ab (zK ((n1,l1),(n2,l2))):=by
 have k1:=Nat.le_trans h1 (show 40000000≤100000000 by decide)
 have k2:=Nat.le_trans h2 (show 40000000≤100000000 by decide)
 have hla:=C5 (n:=n1) (l:=l1)
 have hlb:=C5 (n:=n2) (l:=l2)
 have hlg:=bJy (Nat.le_trans hla k1) (Nat.le_trans hlb k2)
 refine eA (bEq) (by omega) (aU O) fun B j hj=>?_
 refine xR ?_
 refine iU O fun b1=>?_
 refine R2 8 O (iP O mem0 O ?_)
 refine lE z (Tz (by omega) hx) O O fun z5 hz5=>?_
 refine lM O ?_
 refine nC 6 O (fun hg6=>?_) (fun hg6=>?_)
 ·refine lD O (lF O (lD O (iP O mem0 O (lD O ?_))))
  refine lE z5 (Tz (by omega) hy.m) O O fun z9 hz9=>?_
  refine R1 6 O ?_
  refine nC 11 O (fun hg11=>?_) (fun hg11=>?_)
  ·refine lD O (lF O (lD O (iP O mem0 O (lD O ?_))))
   refine lE z9 (Bh (by omega) hy.m k2) O O fun z14 hz14=>?_
   refine R1 12 O ?_
   refine fR 17 O (fun hg17=>?_) (fun hg17=>?_)
   ·refine lD O (lF O (lD O (iP O mem0 O (lD O (lF O (lD O (iP O mem0 O (lD O ?_))))))))
    refine lZ z14 (aDv (by omega) hx.m hy.m k1 k2) O O fun v22 z22 hz22 hv22=>?_
    obtain ⟨c22,hv,h22⟩:=hv22
    subst hv
    have h22:=h22.mono (qY (hz5.trans (hz9.trans hz14)))
    refine lD O ?_
    refine lZ z22 (Ce (n:=1) (by omega) (by decide) (by decide)) O O fun v23 z23 _ hv23=>?_
    obtain ⟨c23,hv,h23⟩:=hv23
    subst hv
    have h23:=h23.mono (qY (hz5.trans (hz9.trans (hz14.trans hz22))))
    refine lD O ?_
    refine lE z23 (aWK (by omega) h22.m (h23.mono jF) hlg bLM) O O fun z24 _=>?_
    refine R0 6 O (xT ?_)
    exact rI O (cQ (bT9 hg6 hg11 hg17))
   refine R0 768 O (xT ?_)
   exact rI O (cQ (bUv hg17))
  refine R0 49184 O (xT ?_)
  exact rI O (cQ (bTH hg11))
 refine R0 1573904 O (xT ?_)
 exact rI O (cQ (bUz hg6))
theorem aGC {k:Nat} (hk:6≤k) {z:dA}  : FC (E k) 73 [] z fun v z'=>QV (zd z z') v 0:=by
 refine eA (bHc) (by omega) (aU O) fun B j hj=>?_
 refine xR ?_
 refine uM fun b0=>?_
 refine lN (xR ?_)
 refine lZ z (Ce (n:=0) (by omega) (by decide) (by decide)) O O fun v1 z1 hz1 hv1=>?_
 obtain ⟨c1,hv,h1⟩:=hv1
 subst hv
 refine lZ z1 (Ce (n:=1) (by omega) (by decide) (by decide)) O O fun v2 z2 _ hv2=>?_
 obtain ⟨c2,hv,h2⟩:=hv2
 subst hv
 have h2:=h2.mono (qY (hz1))
 refine mN (cs:=[_,_,_,_]) O (pA O O iW (lN (xT (rQ (.inl O) (rc4 O mem0 rn) ?_))))
 exact aBJ (x:=0) (y:=1) (q:=0) rfl rfl (h1.mono (jO zI)) h2
theorem Bq {k:Nat} (hk:7≤k) {z:dA} {n1 n2:Bool} {c1 c2:C} {l1 l2:List UInt32} (hx:CZ 1 RW z c1 l1) (hy:CZ 1 RW z c2 l2) (h1:l1.length≤40000000) (h2:l2.length≤40000000):FC (E k) 100 [.agg [Cb n1,c1,Cb n2,c2]] z fun v z'=>∀ zz,CZ 1 RW zz c1 l1→CZ 1 RW zz c2 l2→zle (zd z z') zz→QV zz v (valR ((n1,l1),(n2,l2))):=by
 refine eA (bBp) (by omega) (aU O) fun B j hj=>?_
 refine xR ?_
 refine iU O fun b1=>?_
 refine uM fun b2=>?_
 refine lN (R4 4 O (sL O Y1 O ?_))
 refine lE z (aTu (by omega) hx hy h1 h2) O O fun z4 hz4=>?_
 refine R3 4 O ?_
 refine jB O (fun hc5=>?_) (fun hc5=>?_)
 ·refine R4 4 O ?_
  refine lZ z4 (aGC (by omega)) O O fun v6 z6 _ hv6=>?_
  have hv6:=yI hv6
  obtain ⟨c6,d6,hv,hm6,hn6⟩:=hv6
  subst hv
  have hm6:=hm6.mono (qY (hz4))
  have hn6:=hn6.mono (qY (hz4))
  refine pA O O iW (lN (jX (rQ (.inl O) (rc4 O mem0 rn) ?_)))
  intro zz g1 g2 g3
  have hz:=bI5 (by simpa using hc5)
  exact bLE hz.symm rfl (hm6.mono g3) (hn6.mono g3)
 refine R4 4 O (sL O Y1 O (pA O O iW (lN (xT (rQ (.inl O) (rc4 O mem0 rn) ?_)))))
 exact fun zz g1 g2 g3=>aX1 (by simpa using hc5) g1 g2
theorem aLP {k:Nat} (hk:8≤k) {z:dA} {a b:Int} {c1 c2:C} (hx:CZ 1 RW z c1 (toL a.natAbs)) (hy:CZ 1 RW z c2 (toL b.natAbs)) (h1:(toL a.natAbs).length≤100000000) (h2:(toL b.natAbs).length≤100000000) (hb:b≠0):FC (E k) 132 [.agg [Cb (decide (a<0)),c1],.agg [Cb (decide (b<0)),c2]] z fun v z'=>∃ w,v=.tup [w,Ai 0]∧QV (zd z z') w (Rat.divInt a b):=by
 have hlg:=bJy h1 h2
 have hgn:((Int.gcd a b:Nat):Int)≠0:=by have:=Int.gcd_pos_of_ne_zero_right a hb;omega
 have g1:(toL (-a).natAbs).length≤100000000:=by rw [Int.natAbs_neg];exact h1
 have g2:(toL (-b).natAbs).length≤100000000:=by rw [Int.natAbs_neg];exact h2
 refine eA (bDB) (by omega) (aU O) fun B j hj=>?_
 refine xR ?_
 refine iU O fun b2=>?_
 refine iU O fun b3=>?_
 refine uM fun b4=>?_
 refine R2 8 O (iP O Y1 O ?_)
 refine lZ z (Bh (by omega) hy h2) O O fun v14 z14 hz14 hv14=>?_
 rw [jI] at hv14
 subst hv14
 refine R3 4 O ?_
 refine xD O (fun hc15=>?_) (fun hc15=>?_)
 ·exact absurd (Int.sign_eq_zero_iff_zero.1 hc15) hb
 refine R4 8 O (iP O Y1 O ?_)
 refine lZ z14 (Bh (by omega) hy.m h2) O O fun v18 z18 hz18 hv18=>?_
 rw [jI] at hv18
 subst hv18
 refine R3 4 O ?_
 refine xD O (fun hc19=>?_) (fun hc19=>?_)
 ·refine R4 4 O (iP O Y2 O ?_)
  refine lZ z18 (Pz (by omega) hx.m h1) O O fun v21 z21 hz21 hv21=>?_
  rw [jI] at hv21
  obtain ⟨c21,hv,h21⟩:=hv21
  subst hv
  have h21:=h21.mono (qY (hz14.trans hz18))
  refine iI O O P2 (lN (xR (iP O Y1 O ?_)))
  refine lZ z21 (Pz (by omega) hy.m h2) O O fun v23 z23 hz23 hv23=>?_
  rw [jI] at hv23
  obtain ⟨c23,hv,h23⟩:=hv23
  subst hv
  have h23:=h23.mono (qY (hz14.trans (hz18.trans hz21)))
  refine iI O O P1 (lN (xR (iP O Y2 O (iP O Y1 O ?_))))
  refine lZ z23 (aDv (by omega) h21.m (h23.mono jF) g1 g2) O O fun v26 z26 hz26 hv26=>?_
  rw [jI,jI,Int.gcd_neg,Int.neg_gcd] at hv26
  obtain ⟨c26,hv,h26⟩:=hv26
  subst hv
  have h26:=h26.mono (qY (hz14.trans (hz18.trans (hz21.trans hz23))))
  refine oH fun b6=>?_
  refine iI O O iW (lN (xR (iP O Y3 O (iP O mem0 O ?_))))
  refine lZ z26 (I3 (by omega) h21.m (h26.mono jF) g1 hlg (by rw [jI];omega)) O O fun v30 z30 hz30 hv30=>?_
  rw [jI,jI] at hv30
  obtain ⟨v1,v2,hv,hp30,hr30⟩:=hv30
  subst hv
  obtain ⟨c30,hv,h30⟩:=hp30
  subst hv
  obtain ⟨d30,hv,_⟩:=hr30
  subst hv
  have h30:=h30.mono (qY (hz14.trans (hz18.trans (hz21.trans (hz23.trans hz26)))))
  refine R1 17 O ?_
  refine oH fun b7=>?_
  refine oH fun b8=>?_
  refine iI O O P1 (iI O O iW (R2 5 O (iP O Y4 O (iP O Y2 O ?_))))
  refine lZ z30 (I3 (by omega) h23.m h26.m g2 hlg (by rw [jI];omega)) O O fun v37 z37 hz37 hv37=>?_
  rw [jI,jI] at hv37
  obtain ⟨v1,v2,hv,hp37,hr37⟩:=hv37
  subst hv
  obtain ⟨c37,hv,h37⟩:=hp37
  subst hv
  obtain ⟨d37,hv,_⟩:=hr37
  subst hv
  have h37:=h37.mono (qY (hz14.trans (hz18.trans (hz21.trans (hz23.trans (hz26.trans hz30))))))
  refine R1 17 O ?_
  refine oH fun b10=>?_
  refine oH fun b11=>?_
  refine iI O O P1 (iI O O iW (R2 5 O (iP O Y3 O (iP O Y1 O (mN (cs:=[_,_,_,_]) O (pA O O (mR (mR P3)) (R0 2 O (xT (rQ (.inl O) (rc4 O (mC Y4) (rt O rn)) ?_)))))))))
  have he:=bUt (a:=a) (aYm hc19)
  exact ⟨_,rfl,aWQ he.1 he.2 rfl (h30.mono (jO zI)) h37⟩
 refine R4 4 O (iP O Y2 O (iP O Y1 O ?_))
 refine lZ z18 (aDv (by omega) hx.m hy.m h1 h2) O O fun v26 z26 hz26 hv26=>?_
 rw [jI,jI] at hv26
 obtain ⟨c26,hv,h26⟩:=hv26
 subst hv
 have h26:=h26.mono (qY (hz14.trans hz18))
 refine oH fun b6=>?_
 refine iI O O iW (lN (xR (iP O Y3 O (iP O mem0 O ?_))))
 refine lZ z26 (I3 (by omega) hx.m (h26.mono jF) h1 hlg (by rw [jI];omega)) O O fun v30 z30 hz30 hv30=>?_
 rw [jI,jI] at hv30
 obtain ⟨v1,v2,hv,hp30,hr30⟩:=hv30
 subst hv
 obtain ⟨c30,hv,h30⟩:=hp30
 subst hv
 obtain ⟨d30,hv,_⟩:=hr30
 subst hv
 have h30:=h30.mono (qY (hz14.trans (hz18.trans hz26)))
 refine R1 17 O ?_
 refine oH fun b7=>?_
 refine oH fun b8=>?_
 refine iI O O P1 (iI O O iW (R2 5 O (iP O Y4 O (iP O Y2 O ?_))))
 refine lZ z30 (I3 (by omega) hy.m h26.m h2 hlg (by rw [jI];omega)) O O fun v37 z37 hz37 hv37=>?_
 rw [jI,jI] at hv37
 obtain ⟨v1,v2,hv,hp37,hr37⟩:=hv37
 subst hv
 obtain ⟨c37,hv,h37⟩:=hp37
 subst hv
 obtain ⟨d37,hv,_⟩:=hr37
 subst hv
 have h37:=h37.mono (qY (hz14.trans (hz18.trans (hz26.trans hz30))))
 refine R1 17 O ?_
 refine oH fun b10=>?_
 refine oH fun b11=>?_
 refine iI O O P1 (iI O O iW (R2 5 O (iP O Y3 O (iP O Y1 O (mN (cs:=[_,_,_,_]) O (pA O O (mR (mR P3)) (R0 2 O (xT (rQ (.inl O) (rc4 O (mC Y4) (rt O rn)) ?_)))))))))
 have he:=bLO (a:=a) hb (aV4 hc19)
 exact ⟨_,rfl,aWQ he.1 he.2 rfl (h30.mono (jO zI)) h37⟩
theorem aZU {k:Nat} (hk:9≤k) {z:dA} {n d:Int} (h1 : -9223372036854775808≤n) (h2:n<9223372036854775808) (h3 : -9223372036854775808≤d) (h4:d<9223372036854775808) (hd:d≠0):FC (E k) 124 [Ai n,Ai d] z fun v z'=>∃ w,v=.tup [w,Ai 0]∧QV (zd z z') w (Rat.divInt n d):=by
 refine eA (bC4) (by omega) (aU O) fun B j hj=>?_
 refine xR ?_
 refine uM fun b4=>?_
 refine R2 8 O ?_
 refine lZ z (Ce (n:=n) (by omega) h1 h2) O O fun v7 z7 hz7 hv7=>?_
 obtain ⟨c7,hv,h7⟩:=hv7
 subst hv
 refine lC O ?_
 refine lZ z7 (Ce (n:=d) (by omega) h3 h4) O O fun v9 z9 hz9 hv9=>?_
 obtain ⟨c9,hv,h9⟩:=hv9
 subst hv
 have h9:=h9.mono (qY (hz7))
 refine lZ z9 (aLP (by omega) h7.m (h9.mono jF) (bAb h1 h2) (bAb h3 h4) hd) O O fun v10 z10 _ hv10=>?_
 obtain ⟨w10,hv,hq10⟩:=hv10
 subst hv
 obtain ⟨c10,d10,hv,hm10,hn10⟩:=hq10
 subst hv
 have hm10:=hm10.mono (qY (hz7.trans hz9))
 have hn10:=hn10.mono (qY (hz7.trans hz9))
 refine R1 4 O (pA O O iW (R0 3 O (xT (rQ (.inl O) (rc4 O mem0 (rt O rn)) ?_))))
 exact ⟨_,rfl,_,_,rfl,hm10,hn10⟩
theorem aTq {k:Nat} (hk:6≤k) {z:dA} {n:Int} (h1 : -9223372036854775808≤n) (h2:n<9223372036854775808):FC (E k) 59 [Ai n] z fun v z'=>QV (zd z z') v (n:Rat):=by
 refine eA (bHi) (by omega) (aU O) fun B j hj=>?_
 refine xR ?_
 refine uM fun b2=>?_
 refine lN (R4 4 O ?_)
 refine lZ z (Ce (n:=n) (by omega) h1 h2) O O fun v4 z4 hz4 hv4=>?_
 obtain ⟨c4,hv,h4⟩:=hv4
 subst hv
 refine lZ z4 (Ce (n:=1) (by omega) (by decide) (by decide)) O O fun v5 z5 _ hv5=>?_
 obtain ⟨c5,hv,h5⟩:=hv5
 subst hv
 have h5:=h5.mono (qY (hz4))
 refine mN (cs:=[_,_,_,_]) O (pA O O iW (lN (xT (rQ (.inl O) (rc4 O mem0 rn) ?_))))
 exact aBJ (Rat.num_intCast n).symm rfl (h4.mono (jO zI)) h5
theorem aB8 {k:Nat} (hk:9≤k) {z:dA} {n1 n2:Bool} {c1 c2:C} {l1 l2:List UInt32} (hx:CZ 1 RW z c1 l1) (hy:CZ 1 RW z c2 l2) (h1:l1.length≤40000000) (h2:l2.length≤40000000) {n3 n4:Bool} {c3 c4:C} {l3 l4:List UInt32} (hu:CZ 1 RW z c3 l3) (hw:CZ 1 RW z c4 l4) (h3:l3.length≤40000000) (h4:l4.length≤40000000):FC (E k) 64 [.agg [Cb n1,c1,Cb n2,c2],.agg [Cb n3,c3,Cb n4,c4]] z fun v z'=>QV (zd z z') v ((valR ((n1,l1),(n2,l2)))+(valR ((n3,l3),(n4,l4)))):=by
 have em1:=Nat.le_trans (Ov (x:=((n1,l1),(n2,l2)))) h1
 have en1:=Nat.le_trans (Ox (x:=((n1,l1),(n2,l2)))) (Nat.succ_le_succ h2)
 have em2:=Nat.le_trans (Ov (x:=((n3,l3),(n4,l4)))) h3
 have en2:=Nat.le_trans (Ox (x:=((n3,l3),(n4,l4)))) (Nat.succ_le_succ h4)
 have om1:=Nat.le_trans em1 (show 40000000≤100000000 by decide)
 have on1:=Nat.le_trans en1 (show 40000000+1≤100000000 by decide)
 have om2:=Nat.le_trans em2 (show 40000000≤100000000 by decide)
 have on2:=Nat.le_trans en2 (show 40000000+1≤100000000 by decide)
 have m1:=J7 em1 en2
 have m2:=J7 em2 en1
 have m3:=Nat.le_trans (J7 en1 en2) (show 40000000+1+(40000000+1)≤100000000 by decide)
 have m4:=Nat.le_trans (aTe m1 m2) (show 40000000+(40000000+1)+1≤100000000 by decide)
 have m1:=Nat.le_trans m1 (show 40000000+(40000000+1)≤100000000 by decide)
 have m2:=Nat.le_trans m2 (show 40000000+(40000000+1)≤100000000 by decide)
 have d0:=bKS (valR ((n1,l1),(n2,l2))) (valR ((n3,l3),(n4,l4)))
 refine eA (bGt) (by omega) (aU O) fun B j hj=>?_
 refine xR ?_
 refine iU O fun b2=>?_
 refine iU O fun b3=>?_
 refine uM fun b4=>?_
 refine lN (xR (sL O Y2 O ?_))
 refine lZ z (Bq (by omega) hx hy h1 h2) O O fun v8 z8 hz8 hv8=>?_
 have hw8:=yI (hv8 _ hx.m hy.m jF)
 obtain ⟨c8,d8,hv,hm8,hn8⟩:=hw8
 subst hv
 refine pA O O P2 (lN (xR (sL O Y1 O ?_)))
 refine lZ z8 (Bq (by omega) hu.m hw.m h3 h4) O O fun v10 z10 hz10 hv10=>?_
 have hw10:=yI (hv10 _ hu.m hw.m jF)
 obtain ⟨c10,d10,hv,hm10,hn10⟩:=hw10
 subst hv
 refine pA O O P1 (lN (iN (G1 2 O (Ou O O (.inr Y2) O (G1 2 O (Ou O O (.inr Y1) O ?_))))))
 refine gC z10 (aDb (by omega) hm8.m hn10 om1 on2) O O O O fun v16 z16 hz16 hv16=>?_
 rw [jI,jI] at hv16
 obtain ⟨c16,hv,h16⟩:=hv16
 subst hv
 have h16:=h16.mono (qY (hz8.trans hz10))
 refine G1 2 O (Ou O O (.inr Y1) O (G1 2 O (Ou O O (.inr Y2) O ?_)))
 refine gC z16 (aDb (by omega) hm10.m hn8.m om2 on1) O O O O fun v21 z21 hz21 hv21=>?_
 rw [jI,jI] at hv21
 obtain ⟨c21,hv,h21⟩:=hv21
 subst hv
 have h21:=h21.mono (qY (hz8.trans (hz10.trans hz16)))
 refine gC z21 (aBY (by omega) h16.m (h21.mono jF) m1 m2) O O O O fun v22 z22 hz22 hv22=>?_
 rw [jI,jI] at hv22
 obtain ⟨c22,hv,h22⟩:=hv22
 subst hv
 have h22:=h22.mono (qY (hz8.trans (hz10.trans (hz16.trans hz21))))
 refine G1 2 O (Ou O O (.inr Y2) O (G1 2 O (Ou O O (.inr Y1) O ?_)))
 refine gC z22 (aDb (by omega) hn8.m hn10.m on1 on2) O O O O fun v27 z27 hz27 hv27=>?_
 rw [jI,jI] at hv27
 obtain ⟨c27,hv,h27⟩:=hv27
 subst hv
 have h27:=h27.mono (qY (hz8.trans (hz10.trans (hz16.trans (hz21.trans hz22)))))
 refine gC z27 (aLP (by omega) h22.m (h27.mono jF) m4 m3 d0) O O O O fun v28 z28 _ hv28=>?_
 rw [bH2] at hv28
 obtain ⟨w28,hv,hq28⟩:=hv28
 subst hv
 obtain ⟨c28,d28,hv,hm28,hn28⟩:=hq28
 subst hv
 have hm28:=hm28.mono (qY (hz8.trans (hz10.trans (hz16.trans (hz21.trans (hz22.trans hz27))))))
 have hn28:=hn28.mono (qY (hz8.trans (hz10.trans (hz16.trans (hz21.trans (hz22.trans hz27))))))
 refine G1 9 O ?_
 refine gA O O (fun b5 hT5=>?_)
 refine gS O O O (pA O O iW (lN (G0 3 O (xR (sL O mem0 O (pA O O P1 (lN (xT (rQ (.inl O) (rc4 O Y1 rn) ?_)))))))))
 exact ⟨_,_,rfl,hm28,hn28⟩
theorem aMu {k:Nat} (hk:8≤k) {z:dA} {n1 n2:Bool} {c1 c2:C} {l1 l2:List UInt32} (hx:CZ 1 RW z c1 l1) (hy:CZ 1 RW z c2 l2) (h1:l1.length≤40000000) (h2:l2.length≤40000000):FC (E k) 149 [.agg [Cb n1,c1,Cb n2,c2]] z fun v z'=>∀ zz,CZ 1 RW zz c1 l1→CZ 1 RW zz c2 l2→zle (zd z z') zz→QV zz v (-(valR ((n1,l1),(n2,l2)))):=by
 have em1:=Nat.le_trans (Ov (x:=((n1,l1),(n2,l2)))) h1
 have en1:=Nat.le_trans (Ox (x:=((n1,l1),(n2,l2)))) (Nat.succ_le_succ h2)
 have om1:=Nat.le_trans em1 (show 40000000≤100000000 by decide)
 have on1:=Nat.le_trans en1 (show 40000000+1≤100000000 by decide)
 refine eA (bEu) (by omega) (aU O) fun B j hj=>?_
 refine xR ?_
 refine iU O fun b1=>?_
 refine uM fun b2=>?_
 refine lN (xR (sL O Y1 O ?_))
 refine lZ z (Bq (by omega) hx hy h1 h2) O O fun v4 z4 hz4 hv4=>?_
 have hw4:=yI (hv4 _ hx.m hy.m jF)
 obtain ⟨c4,d4,hv,hm4,hn4⟩:=hw4
 subst hv
 refine pA O O P1 (lN (iN (G1 2 O (Ou O O (.inr Y1) O ?_))))
 refine gC z4 (Pz (by omega) hm4 om1) O O O O fun v7 z7 _ hv7=>?_
 rw [jI] at hv7
 obtain ⟨c7,hv,h7⟩:=hv7
 subst hv
 have h7:=h7.mono (qY (hz4))
 refine G1 2 O (Ou O O (.inr Y1) O (gP O O F ?_))
 refine mN (cs:=[_,_,_,_]) O (lN ?_)
 refine gS O O O (pA O O iW (lN (mL (xT (rQ (.inl O) (rc4 O mem0 rn) ?_)))))
 intro zz g1 g2 g3
 exact aWQ (Rat.neg_num _).symm (by rw [Rat.neg_den]) rfl (h7.mono g3) (bMv (hv4 zz g1 g2 ((jO zI).trans g3)))
theorem aGt {k:Nat} (hk:8≤k) {z:dA} {n1 n2:Bool} {c1 c2:C} {l1 l2:List UInt32} (hx:CZ 1 RW z c1 l1) (hy:CZ 1 RW z c2 l2) (h1:l1.length≤40000000) (h2:l2.length≤40000000):FC (E k) 146 [.agg [Cb n1,c1,Cb n2,c2]] z fun v _=>v=.c (.v (.int .i64 ((valR ((n1,l1),(n2,l2)))).num.sign)):=by
 have em1:=Nat.le_trans (Ov (x:=((n1,l1),(n2,l2)))) h1
 have en1:=Nat.le_trans (Ox (x:=((n1,l1),(n2,l2)))) (Nat.succ_le_succ h2)
 have om1:=Nat.le_trans em1 (show 40000000≤100000000 by decide)
 have on1:=Nat.le_trans en1 (show 40000000+1≤100000000 by decide)
 refine eA (bDF) (by omega) (aU O) fun B j hj=>?_
 refine xR ?_
 refine iU O fun b1=>?_
 refine R2 4 O (sL O mem0 O ?_)
 refine lZ z (Bq (by omega) hx hy h1 h2) O O fun v4 z4 _ hv4=>?_
 have hw4:=yI (hv4 _ hx.m hy.m jF)
 obtain ⟨c4,d4,hv,hm4,hn4⟩:=hw4
 subst hv
 refine aGw O O ?_
 refine lZ z4 (Bh (by omega) hm4 om1) O O fun v6 z6 _ hv6=>?_
 rw [jI] at hv6
 refine R0 3 O (xT ?_)
 exact rI O hv6
theorem aYP {k:Nat} (hk:10≤k) {z:dA} {n1 n2:Bool} {c1 c2:C} {l1 l2:List UInt32} (hx:CZ 1 RW z c1 l1) (hy:CZ 1 RW z c2 l2) (h1:l1.length≤19000000) (h2:l2.length≤19000000) {n3 n4:Bool} {c3 c4:C} {l3 l4:List UInt32} (hu:CZ 1 RW z c3 l3) (hw:CZ 1 RW z c4 l4) (h3:l3.length≤19000000) (h4:l4.length≤19000000):FC (E k) 76 [.agg [Cb n1,c1,Cb n2,c2],.agg [Cb n3,c3,Cb n4,c4]] z fun v z'=>QV (zd z z') v ((valR ((n1,l1),(n2,l2))) - (valR ((n3,l3),(n4,l4)))):=by
 have k1:=Nat.le_trans h1 (show 19000000≤40000000 by decide)
 have k2:=Nat.le_trans h2 (show 19000000≤40000000 by decide)
 have k3:=Nat.le_trans h3 (show 19000000≤40000000 by decide)
 have k4:=Nat.le_trans h4 (show 19000000≤40000000 by decide)
 have em2:(toL (-(valR ((n3,l3),(n4,l4)))).num.natAbs).length≤40000000:=by rw [Rat.neg_num,Int.natAbs_neg];exact Nat.le_trans Ov k3
 have en2:(toL ((-(valR ((n3,l3),(n4,l4)))).den:Int).natAbs).length≤40000000:=by rw [Rat.neg_den];exact Nat.le_trans Ox (Nat.le_trans (Nat.succ_le_succ h4) (by decide))
 refine eA (bFA) (by omega) (aU O) fun B j hj=>?_
 refine xR ?_
 refine iU O fun b2=>?_
 refine iU O fun b3=>?_
 refine uM fun b4=>?_
 refine lN (iN (gl4 O O (.inr Y2) O (gl4 O O (.inr Y1) O ?_)))
 refine gC z (aMu (by omega) hu hw k3 k4) O O O O fun v7 z7 hz7 hv7=>?_
 have hw7:=yI (hv7 _ hu.m hw.m jF)
 obtain ⟨c7,d7,hv,hm7,hn7⟩:=hw7
 subst hv
 refine gC z7 (aB8 (by omega) hx.m hy.m k1 k2 hm7 hn7 em2 en2) O O O O fun v8 z8 _ hv8=>?_
 rw [aId,← Rat.sub_eq_add_neg] at hv8
 have hv8:=yI hv8
 obtain ⟨c8,d8,hv,hm8,hn8⟩:=hv8
 subst hv
 have hm8:=hm8.mono (qY (hz7))
 have hn8:=hn8.mono (qY (hz7))
 refine gS O O O (pA O O iW (lN (mL (xT (rQ (.inl O) (rc4 O mem0 rn) ?_)))))
 exact ⟨_,_,rfl,hm8,hn8⟩
theorem aYR {k:Nat} (hk:11≤k) {z:dA} {n1 n2:Bool} {c1 c2:C} {l1 l2:List UInt32} (hx:CZ 1 RW z c1 l1) (hy:CZ 1 RW z c2 l2) (h1:l1.length≤19000000) (h2:l2.length≤19000000) {n3 n4:Bool} {c3 c4:C} {l3 l4:List UInt32} (hu:CZ 1 RW z c3 l3) (hw:CZ 1 RW z c4 l4) (h3:l3.length≤19000000) (h4:l4.length≤19000000):FC (E k) 148 [.agg [Cb n1,c1,Cb n2,c2],.agg [Cb n3,c3,Cb n4,c4]] z fun v _=>v=.c (.v (.int .i64 ((valR ((n1,l1),(n2,l2))) - (valR ((n3,l3),(n4,l4)))).num.sign)):=by
 have s1:=bJc (Nat.le_trans (Ov (x:=((n1,l1),(n2,l2)))) h1) (Nat.le_trans (Ox (x:=((n1,l1),(n2,l2)))) (Nat.succ_le_succ h2)) (Nat.le_trans (Ov (x:=((n3,l3),(n4,l4)))) h3) (Nat.le_trans (Ox (x:=((n3,l3),(n4,l4)))) (Nat.succ_le_succ h4))
 have s2:=Nat.le_trans s1.2 (show 19000000+1+(19000000+1)≤40000000 by decide)
 have s1:=Nat.le_trans s1.1 (show 19000000+(19000000+1)+1≤40000000 by decide)
 refine eA (bEi) (by omega) (aU O) fun B j hj=>?_
 refine xR ?_
 refine iU O fun b2=>?_
 refine iU O fun b3=>?_
 refine R2 4 O (sL O Y1 O (sL O mem0 O ?_))
 refine lZ z (aYP (by omega) hx hy h1 h2 hu hw h3 h4) O O fun v7 z7 _ hv7=>?_
 have hv7:=yI hv7
 obtain ⟨c7,d7,hv,hm7,hn7⟩:=hv7
 subst hv
 refine lZ z7 (aGt (by omega) (hm7.mono jF) (hn7.mono jF) s1 s2) O O fun v8 z8 _ hv8=>?_
 rw [aId] at hv8
 refine R0 3 O (xT ?_)
 exact rI O hv8
open Go.CE Go.RowKit Go.Num
open Go.Eng (kN)
theorem bVg {n d:Int} (hd:d≠0) (h1 : -9223372036854775808≤n) (h2:n<9223372036854775808):(toL (Rat.divInt n d).num.natAbs).length≤1000000000:=Nat.le_trans (zH (Xs hd).1) (Nat.le_trans (bAb h1 h2) (by decide))
theorem bVX {n d:Int} (hd:d≠0) (h1 : -9223372036854775808≤d) (h2:d<9223372036854775808):(toL ((Rat.divInt n d).den:Int).natAbs).length≤1000000000:=Nat.le_trans (zH (b:=d.natAbs) (by rw [Int.natAbs_natCast];exact (Xs hd).2)) (Nat.le_trans (bAb h1 h2) (by decide))
theorem Q3 {k:Nat} (hk:1≤k) {z:dA} {v:AV} {l:List UInt32} (hx:SZ 1 RW z v l) (hl:l.length≤1000000000):FC (E k) 128 [v] z fun v' z'=>SZ 1 RW (zd z z') v' l:=by
 refine eA (bCf) (by omega) (aU O) fun B j hj=>?_
 refine R4 32 O (oW 117 1 (R1 6 O ?_))
 refine aWG (r:=[]) O O hx (fun _=>iW) (by simp only [List.length_nil];omega) (by simp only [List.length_nil];omega) fun c6 hc6=>?_
 refine Dx z z (p:=[]) O O zI (by simp only [List.length_append,List.length_nil];omega) fun zf6 _ hf6=>?_
 refine R0 2 O (xT ?_)
 exact rI O hf6
theorem aWk {k:Nat} (hk:2≤k) {z:dA} {n1 n2:Bool} {c1 c2:C} {l1 l2:List UInt32} (hx:CZ 1 RW z c1 l1) (hy:CZ 1 RW z c2 l2) (h1:l1.length≤1000000000) (h2:l2.length≤1000000000):FC (E k) 61 [.agg [Cb n1,c1,Cb n2,c2]] z fun v z'=>∃ c d,v=.agg [Cb n1,c,Cb n2,d]∧CZ 1 RW (zd z z') c l1∧CZ 1 RW (zd z z') d l2:=by
 refine eA (bHe) (by omega) (aU O) fun B j hj=>?_
 refine xR ?_
 refine iU O fun b1=>?_
 refine uM fun b2=>?_
 refine lN (iN (G1 4 O (zG O O (.inr Y1) O (G1 4 O (zG O O (.inr Y1) O ?_)))))
 refine gC z (Q3 (by omega) hx h1) O O O O fun v9 z9 hz9 h9=>?_
 obtain ⟨c9,rfl,_⟩:=h9.one
 have h9:CZ 1 RW _ c9 _:=h9
 refine gP O O F ?_
 refine mN (cs:=[_,_]) O (lN ?_)
 refine G1 4 O (zG O O (.inr Y1) O (G1 4 O (zG O O (.inr Y1) O ?_)))
 refine gC z9 (Q3 (by omega) hy.m h2) O O O O fun v17 z17 _ h17=>?_
 obtain ⟨c17,rfl,_⟩:=h17.one
 have h17:=h17.mono (qY (hz9))
 have h17:CZ 1 RW _ c17 _:=h17
 refine gP O O F ?_
 refine mN (cs:=[_,_]) O (lN ?_)
 refine gP O O F ?_
 refine mN (cs:=[_,_,_,_]) O (lN ?_)
 refine gS O O O (pA O O iW (lN (mL (xT (rQ (.inl O) (rc4 O mem0 rn) ?_)))))
 exact ⟨_,_,rfl,(h9.mono (jO zI)),h17⟩
theorem aX5 {k:Nat} (hk:2≤k) {z:dA} {n1 n2:Bool} {c1 c2:C} {l1 l2:List UInt32} (hx:CZ 1 RW z c1 l1) (hy:CZ 1 RW z c2 l2) (h1:l1.length≤1000000000) (h2:l2.length≤1000000000):FC (E k) 125 [.agg [Cb n1,c1,Cb n2,c2]] z fun v z'=>∃ c d,v=.agg [Cb n1,c,Cb n2,d]∧CZ 1 RW (zd z z') c l1∧CZ 1 RW (zd z z') d l2:=by
 refine eA (bCG) (by omega) (aU O) fun B j hj=>?_
 refine xR ?_
 refine iU O fun b1=>?_
 refine uM fun b2=>?_
 refine lN (iN (G1 4 O (zG O O (.inr Y1) O (G1 4 O (zG O O (.inr Y1) O ?_)))))
 refine gC z (Q3 (by omega) hx h1) O O O O fun v9 z9 hz9 h9=>?_
 obtain ⟨c9,rfl,_⟩:=h9.one
 have h9:CZ 1 RW _ c9 _:=h9
 refine gP O O F ?_
 refine mN (cs:=[_,_]) O (lN ?_)
 refine G1 4 O (zG O O (.inr Y1) O (G1 4 O (zG O O (.inr Y1) O ?_)))
 refine gC z9 (Q3 (by omega) hy.m h2) O O O O fun v17 z17 _ h17=>?_
 obtain ⟨c17,rfl,_⟩:=h17.one
 have h17:=h17.mono (qY (hz9))
 have h17:CZ 1 RW _ c17 _:=h17
 refine gP O O F ?_
 refine mN (cs:=[_,_]) O (lN ?_)
 refine gP O O F ?_
 refine mN (cs:=[_,_,_,_]) O (lN ?_)
 refine gS O O O (pA O O iW (lN (mL (xT (rQ (.inl O) (rc4 O mem0 rn) ?_)))))
 exact ⟨_,_,rfl,(h9.mono (jO zI)),h17⟩
theorem bGW {k:Nat} (hk:10≤k) {z:dA} {n d:Int} (h1 : -9223372036854775808≤n) (h2:n<9223372036854775808) (h3 : -9223372036854775808≤d) (h4:d<9223372036854775808) (hd:d≠0):FC (E k) 57 [Ai n,Ai d] z fun v z'=>QV (zd z z') v (Rat.divInt n d):=by
 refine eA (bIp) (by omega) (aU O) fun B j hj=>?_
 refine xR ?_
 refine uM fun b4=>?_
 refine lN (R4 8 O ?_)
 refine lZ z (aZU (by omega) h1 h2 h3 h4 hd) O O fun v10 z10 hz10 hv10=>?_
 obtain ⟨w10,hv,hq10⟩:=hv10
 subst hv
 have hq10:=yI hq10
 obtain ⟨c10,d10,hv,hm10,hn10⟩:=hq10
 subst hv
 refine R1 9 O ?_
 refine uM fun b5=>?_
 refine pA O O iW (R2 5 O (sL O mem0 O ?_))
 refine lZ z10 (aX5 (by omega) (hm10.mono jF) (hn10.mono jF) (bVg hd h1 h2) (bVX hd h3 h4)) O O fun v14 z14 _ hv14=>?_
 obtain ⟨c14,d14,hv,hm14,hn14⟩:=hv14
 subst hv
 have hm14:=hm14.mono (qY (hz10))
 have hn14:=hn14.mono (qY (hz10))
 refine pA O O P1 (lN (xT (rQ (.inl O) (rc4 O Y1 rn) ?_)))
 exact bLE rfl rfl hm14 hn14
end Go.Proofs.YtlceligcgelbdaaGreat

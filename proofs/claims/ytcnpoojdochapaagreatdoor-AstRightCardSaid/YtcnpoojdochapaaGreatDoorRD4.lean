/- The references' naturals and rationals, walked (2). -/
import Derived.WalkKit
import Derived.Orders
import Derived.Test.YtcnpoojdochapaaGreatDoorRD3
set_option linter.unusedVariables false
set_option linter.unusedSimpArgs false
set_option maxRecDepth 100000
set_option maxHeartbeats 1000000
namespace Go.Proofs.YtcnpoojdochapaaGreatDoor
open Go.CE Go.RowKit Go.Num
open Go.Eng (oH)
theorem aL1 {call:jO} {B:sY} {an:List Nat} {j:Nat} {l:List CE.D} {fs:Sf} {tag last:Nat} {pj:List Nat} {Q:Sf→Prop} {b:Nat} {k0:pA} {p q:List HA} (e:fs.H=p++.blk b k0::q) (h:(∀ k,¬ tz fs.z (p++q) b k)→FG call B an j l fs (tz fs.z (p++q)) tag last pj [] Q):FG call B an j l fs (tz fs.z fs.H) tag last pj [] Q:=fun a r=>by
  have hsub:∀ b k,tz fs.z (p++q) b k→tz fs.z fs.H b k:=fun b k ht=>ht.imp id fun hm=>by
    rw [e]
    rcases List.mem_append.1 hm with hm | hm
    · exact List.mem_append.2 (.inl hm)
    · exact List.mem_append.2 (.inr (List.mem_cons_of_mem _ hm))
  refine h ?_ a ⟨r.rf,r.hd,fun x hx b k ht=>r.t0 x hx b k (hsub b k ht),fun b k ht=>r.tlt b k (hsub b k ht),fun x hx k ht=>r.np x hx k (hsub _ k ht),fun x hx=>absurd (r.fl x hx).1 List.not_mem_nil,r.last,r.pj,r.plt⟩
  intro k ht
  have hnd:=r.rf.hold.nd
  rcases ht with ht | ht
  · exact (r.rf.hold.z b k ht).2.2 (by show b∈yI fs.H;rw [e,nF,kY];simp [HA.fp])
  · have hm : b ∈ yI (p ++ q) := List.mem_flatMap.2 ⟨_, ht, by simp [HA.fp]⟩
    replace hnd:(yI fs.H).Nodup:=hnd
    rw [e,nF,kY] at hnd
    rw [nF] at hm
    have h2:=List.nodup_append.1 hnd
    rcases List.mem_append.1 hm with hm | hm
    · exact h2.2.2 b hm b (by simp [HA.fp]) rfl
    · have h3:=List.nodup_append.1 h2.2.1
      exact h3.2.2 b (by simp [HA.fp]) b hm rfl
theorem bC6 {A B:Int} (hB:B≠0):sgn (decide (A<0)) (A.natAbs % B.natAbs)+B * sgn (!decide (decide (A<0)=decide (B<0))) (A.natAbs / B.natAbs)=A∧(sgn (decide (A<0)) (A.natAbs % B.natAbs)).natAbs<B.natAbs:=by
  refine ⟨?_,by rw [aC0];exact Nat.mod_lt _ (by omega)⟩
  have h:=Nat.div_add_mod A.natAbs B.natAbs
  have e:((B.natAbs * (A.natAbs / B.natAbs):Nat):Int)=(B.natAbs:Int) * ((A.natAbs / B.natAbs:Nat):Int):=Int.natCast_mul _ _
  generalize A.natAbs / B.natAbs=q at *
  generalize A.natAbs % B.natAbs=r at *
  generalize hp:B.natAbs * q=pq at *
  unfold sgn
  rcases Int.lt_or_le A 0 with ha | ha<;>rcases Int.lt_or_le B 0 with hb | hb
  · rw [decide_eq_true ha,decide_eq_true hb]
    have:(B.natAbs:Int) = -B:=by omega
    rw [this,Int.neg_mul] at e
    simp only [decide_true,Bool.not_true,if_true,Bool.false_eq_true,if_false]
    omega
  · rw [decide_eq_true ha, decide_eq_false (show ¬ B < 0 by omega)]
    have:(B.natAbs:Int)=B:=by omega
    rw [this] at e
    simp only [Bool.true_eq_false,decide_false,Bool.not_false,if_true,Int.mul_neg]
    omega
  · rw [decide_eq_false (show ¬ A < 0 by omega), decide_eq_true hb]
    have:(B.natAbs:Int) = -B:=by omega
    rw [this,Int.neg_mul] at e
    simp only [Bool.false_eq_true,decide_false,Bool.not_false,if_true,if_false,Int.mul_neg]
    omega
  · rw [decide_eq_false (show ¬ A < 0 by omega), decide_eq_false (show ¬ B < 0 by omega)]
    have:(B.natAbs:Int)=B:=by omega
    rw [this] at e
    simp only [decide_true,Bool.not_true,Bool.false_eq_true,if_false]
    omega
theorem aGs {z:dE} {v:AV} {c:C} {x y:Int} (e:x=y) (h:v=.agg [Cb (decide (x<0)),c]) (hq:CZ 1 RW z c (toL x.natAbs)):IV z v y:=by
 subst e
 exact ⟨c,h,hq⟩
theorem aDK (a:Int):(a<0∧a.sign = -1)∨(a=0∧a.sign=0)∨(0<a∧a.sign=1):=by
 rcases Int.lt_trichotomy a 0 with h | h | h
 ·exact .inl ⟨h,Int.sign_eq_neg_one_of_neg h⟩
 ·exact .inr (.inl ⟨h,by rw [h];rfl⟩)
 exact .inr (.inr ⟨h,Int.sign_eq_one_of_pos h⟩)
theorem bPF {A B q r:Int} (hb:B≠0) (h:r+B * q=A∧r.natAbs<B.natAbs) (h1:¬ r.sign=0) (h2:¬ r.sign=B.sign):q - 1=A.fdiv B∧r+B=A.fmod B:=by
 refine aMr hb ?_ ?_
 ·rw [Int.mul_sub,Int.mul_one,← h.1];omega
 have:=h.2
 rcases aDK r with ⟨h3,h4⟩ | ⟨h3,h4⟩ | ⟨h3,h4⟩<;>rcases aDK B with ⟨h5,h6⟩ | ⟨h5,h6⟩ | ⟨h5,h6⟩<;>constructor<;>intro<;>omega
theorem aW1 {A B q r:Int} (hb:B≠0) (h:r+B * q=A∧r.natAbs<B.natAbs) (h1:r.sign=0∨r.sign=B.sign):q=A.fdiv B∧r=A.fmod B:=by
 refine aMr hb h.1 ?_
 have:=h.2
 rcases aDK r with ⟨h3,h4⟩ | ⟨h3,h4⟩ | ⟨h3,h4⟩<;>rcases aDK B with ⟨h5,h6⟩ | ⟨h5,h6⟩ | ⟨h5,h6⟩<;>constructor<;>intro<;>omega
theorem bLP:(toL (1:Int).natAbs).length≤100000000:=Nat.le_trans (m:=1) (mV.2 (by decide)) (by decide)
theorem aQC {n:Nat} (h:0<(qB n).length):0<n:=by
 rcases Nat.eq_zero_or_pos n with rfl | h0
 ·rw [aBx] at h;simp at h
 exact h0
theorem bR8 {n:Nat} (h:(qB n).length=0):n=0:=by
 rcases Nat.eq_zero_or_pos n with h0 | h0
 ·exact h0
 rw [aLM h0] at h;simp at h
theorem Ew {k:Nat} (hk:7≤k) {z:dE} {n1:Bool} {c1:C} {l1:List UInt32} (hx:CZ 1 RW z c1 l1) {n2:Bool} {c2:C} {l2:List UInt32} (hy:CZ 1 RW z c2 l2) (h1:l1.length≤100000000) (h2:l2.length≤100000000) (hb:kN (n2,l2)≠0):FC (E k) 111 [.agg [Cb n1,c1],.agg [Cb n2,c2]] z fun v z'=>∃ v1 v2,v=.tup [v1,v2,Ai 0]∧IV (zd z z') v1 ((kN (n1,l1)).fdiv (kN (n2,l2)))∧IV (zd z z') v2 ((kN (n1,l1)).fmod (kN (n2,l2))):=by
 have e1:=Nat.le_trans (Es (n:=n1) (l:=l1)) h1
 have e2:=Nat.le_trans (Es (n:=n2) (l:=l2)) h2
 have f1:=aLt e1
 have f2:=aLt e2
 have hbp:0<(kN (n2,l2)).natAbs:=by omega
 have hml:=aLW (Nat.le_of_lt (Nat.mod_lt (kN (n1,l1)).natAbs hbp))
 have hdl:=aLW (Nat.div_le_self (kN (n1,l1)).natAbs (kN (n2,l2)).natAbs)
 have gml:=D1 (Nat.le_of_lt (Nat.mod_lt (kN (n1,l1)).natAbs hbp))
 have gdl:=D1 (Nat.div_le_self (kN (n1,l1)).natAbs (kN (n2,l2)).natAbs)
 have hql:(toL (sgn (!decide (decide (kN (n1,l1)<0)=decide (kN (n2,l2)<0))) ((kN (n1,l1)).natAbs / (kN (n2,l2)).natAbs)).natAbs).length≤100000000:=by rw [aC0];exact Nat.le_trans gdl e1
 have hrl:(toL (sgn (decide (kN (n1,l1)<0)) ((kN (n1,l1)).natAbs % (kN (n2,l2)).natAbs)).natAbs).length≤100000000:=by rw [aC0];exact Nat.le_trans gml e2
 have htk:=bC6 (A:=kN (n1,l1)) (B:=kN (n2,l2)) hb
 refine cX (aU9) (by omega) (aU O) fun B j hj=>?_
 refine xR ?_
 refine iJ O fun b2=>?_
 refine iJ O fun b3=>?_
 refine nJ fun b4=>?_
 refine nJ fun b5=>?_
 refine R2 4 O (jB O Y3 O ?_)
 refine lZ z (pC (by omega) hx) O O fun v12 z12 hz12 hv12=>?_
 obtain ⟨c12,rfl,hq12⟩:=hv12
 have h12:=hq12 _ (hx.mono (zJ z12))
 refine iE O O P3 (lN (xR (jB O Y2 O ?_)))
 refine lZ z12 (pC (by omega) hy.m) O O fun v14 z14 hz14 hv14=>?_
 obtain ⟨c14,rfl,hq14⟩:=hv14
 have h14:=hq14 _ (hy.mono (zJ z14))
 refine iE O O P2 (lN (R4 8 O (bQ O Y2 O (aS O h14 (R3 4 O ?_)))))
 refine xD O (fun hc18=>?_) (fun hc18=>?_)
 ·exact absurd (aAd (n:=(kN (n2,l2)).natAbs) (by omega)) (by omega)
 refine dA (gX (G1 2 O (wH O O (.inr Y3) O ?_)))
 refine gC z14 (Bt (by omega) h12.m (by omega)) O O O O fun v24 z24 hz24 h24=>?_
 have h24:=h24.mono (zA (hz12.trans hz14))
 rw [gI] at h24
 refine G1 2 O (wH O O (.inr Y2) O ?_)
 refine gC z24 (Bt (by omega) h14.m (by omega)) O O O O fun v27 z27 hz27 h27=>?_
 have h27:=h27.mono (zA (hz12.trans (hz14.trans hz24)))
 rw [gI] at h27
 refine gC z27 (aG4 (by omega) (yU _) h24.m (h27.mono gU) hbp (by omega) (by omega)) O O O O fun v28 z28 hz28 hv28=>?_
 obtain ⟨q28,r28,hv,hq28,hr28⟩:=hv28
 subst hv
 rw [yP] at hq28 hr28
 refine G0 57 O (gX (G1 2 O (wH O O (.inr Y3) O (G1 2 O (wH O O (.inr Y2) O (gP O O F ?_))))))
 refine I3 O O (aDY _ _) (lN ?_)
 refine G1 3 O ?_
 refine gC z28 (Ov (by omega) (yU _) hq28 (by omega)) O O O O fun v37 z37 hz37 h37=>?_
 rw [Nw] at h37
 obtain ⟨c37,rfl,_⟩:=h37.one
 have h37:=h37.mono (zA (hz12.trans (hz14.trans (hz24.trans (hz27.trans hz28)))))
 refine gC z37 (xB (by omega) (h37.mono gU) (by omega)) O O O O fun v38 z38 hz38 hv38=>?_
 rw [gI] at hv38
 obtain ⟨c38,rfl,h38⟩:=hv38
 have h38:=h38.mono (zA (hz12.trans (hz14.trans (hz24.trans (hz27.trans (hz28.trans hz37))))))
 refine G1 2 O (wH O O (.inr Y3) O (G1 3 O ?_))
 refine gC z38 (Ov (by omega) (yU _) hr28.m (by omega)) O O O O fun v42 z42 hz42 h42=>?_
 rw [Nw] at h42
 obtain ⟨c42,rfl,_⟩:=h42.one
 have h42:=h42.mono (zA (hz12.trans (hz14.trans (hz24.trans (hz27.trans (hz28.trans (hz37.trans hz38)))))))
 refine gC z42 (xB (by omega) (h42.mono gU) (by omega)) O O O O fun v43 z43 hz43 hv43=>?_
 rw [gI] at hv43
 obtain ⟨c43,rfl,h43⟩:=hv43
 have h43:=h43.mono (zA (hz12.trans (hz14.trans (hz24.trans (hz27.trans (hz28.trans (hz37.trans (hz38.trans hz42))))))))
 refine gA O O (fun b9 hT9=>?_)
 refine gA O O (fun b10 hT10=>?_)
 refine gS O O O (iE O O P1 (lN (gS O O O (iE O O iP (lN (mQ (aGM (gX (J3 O O Ht O ?_)))))))))
 refine gC z43 (Ae (by omega) (h43.mono gU) hrl) O O O O fun v45 z45 hz45 hv45=>?_
 rw [hZ] at hv45
 subst hv45
 refine G1 4 O ?_
 refine bB0 47 O (fun hg47=>?_) (fun hg47=>?_)
 ·refine J3 O O Ht O ?_
  refine gC z45 (Ae (by omega) h43.m hrl) O O O O fun v49 z49 hz49 hv49=>?_
  rw [hZ] at hv49
  subst hv49
  refine J3 O O (.inr Y4) O ?_
  refine gC z49 (Ae (by omega) h14.m e2) O O O O fun v51 z51 hz51 hv51=>?_
  rw [hZ] at hv51
  subst hv51
  refine G0 4 O (Uw ?_)
  refine uG O (fun hc53=>?_) (fun hc53=>?_)
  ·refine aGM (gX (J3 O O (.inr Y1) O ?_))
   refine gC z51 (A8 (n:=1) (by omega) (by decide) (by decide)) O O O O fun v55 z55 hz55 hv55=>?_
   obtain ⟨c55,hv,h55⟩:=hv55
   subst hv
   have h55:=h55.mono (zA (hz12.trans (hz14.trans (hz24.trans (hz27.trans (hz28.trans (hz37.trans (hz38.trans (hz42.trans (hz43.trans (hz45.trans (hz49.trans hz51))))))))))))
   refine gC z55 (aWs (by omega) h38.m (h55.mono gU) hql bLP) O O O O fun v56 z56 hz56 hv56=>?_
   rw [hZ,hZ] at hv56
   obtain ⟨c56,hv,h56⟩:=hv56
   subst hv
   have h56:=h56.mono (zA (hz12.trans (hz14.trans (hz24.trans (hz27.trans (hz28.trans (hz37.trans (hz38.trans (hz42.trans (hz43.trans (hz45.trans (hz49.trans (hz51.trans hz55)))))))))))))
   refine gS O O O (iE O O P1 (lN (mQ (xR (jB O mem0 O (jB O Y4 O ?_))))))
   refine lZ z56 (aFY (by omega) h43.m h14.m hrl e2) O O fun v59 z59 _ hv59=>?_
   rw [hZ,hZ] at hv59
   obtain ⟨c59,hv,h59⟩:=hv59
   subst hv
   have h59:=h59.mono (zA (hz12.trans (hz14.trans (hz24.trans (hz27.trans (hz28.trans (hz37.trans (hz38.trans (hz42.trans (hz43.trans (hz45.trans (hz49.trans (hz51.trans (hz55.trans hz56))))))))))))))
   refine iE O O iP (lN (gX ?_))
   refine aL1 (p:=[_,_,_]) O fun hT4=>?_
   refine J3 O O (.inr Y1) O (J3 O O Ht O (gT O O O hT4 (iE O O P3 (lN (gS O O O (iE O O P2 (lN (G0 2 O (xT (rQ (.inl O) (rc2 O Y3 (rc2 O Y2 (rt O rn))) ?_))))))))))
   have he:=bPF hb htk hg47 hc53
   exact ⟨_,_,rfl,aGs he.1 rfl (h56.mono (mX zI)),aGs he.2 rfl h59⟩
  refine dA (gX ?_)
  refine aL1 (p:=[_,_,_]) O fun hT4=>?_
  refine J3 O O (.inr Y1) O (J3 O O Ht O (gT O O O hT4 (iE O O P3 (lN (gS O O O (iE O O P2 (lN (G0 2 O (xT (rQ (.inl O) (rc2 O Y3 (rc2 O Y2 (rt O rn))) ?_))))))))))
  have he:=aW1 hb htk (.inr hc53)
  exact ⟨_,_,rfl,aGs he.1 rfl (h38.mono (mX zI)),aGs he.2 rfl (h43.mono (mX zI))⟩
 refine G0 64 O (R5 8 O (gX ?_))
 refine aL1 (p:=[_,_,_]) O fun hT4=>?_
 refine J3 O O (.inr Y1) O (J3 O O Ht O (gT O O O hT4 (iE O O P3 (lN (gS O O O (iE O O P2 (lN (G0 2 O (xT (rQ (.inl O) (rc2 O Y3 (rc2 O Y2 (rt O rn))) ?_))))))))))
 have he:=aW1 hb htk (.inl hg47)
 exact ⟨_,_,rfl,aGs he.1 rfl (h38.mono (mX zI)),aGs he.2 rfl (h43.mono (mX zI))⟩
theorem aSR {k:Nat} (hk:7≤k) {z:dE} {n1:Bool} {c1:C} {l1:List UInt32} (hx:CZ 1 RW z c1 l1) {n2:Bool} {c2:C} {l2:List UInt32} (hy:CZ 1 RW z c2 l2) (h1:l1.length≤100000000) (h2:l2.length≤100000000) (hb:kN (n2,l2)=0):FC (E k) 111 [.agg [Cb n1,c1],.agg [Cb n2,c2]] z fun v _=>v=.tup [.agg [Cb false,Cz],.agg [Cb false,Cz],Ai 20]:=by
 refine cX (aU9) (by omega) (aU O) fun B j hj=>?_
 refine xR ?_
 refine iJ O fun b2=>?_
 refine iJ O fun b3=>?_
 refine nJ fun b4=>?_
 refine nJ fun b5=>?_
 refine R2 4 O (jB O Y3 O ?_)
 refine lZ z (pC (by omega) hx) O O fun v12 z12 _ hv12=>?_
 obtain ⟨c12,rfl,hq12⟩:=hv12
 have h12:=hq12 _ (hx.mono (zJ z12))
 refine iE O O P3 (lN (xR (jB O Y2 O ?_)))
 refine lZ z12 (pC (by omega) hy.m) O O fun v14 z14 _ hv14=>?_
 obtain ⟨c14,rfl,hq14⟩:=hv14
 have h14:=hq14 _ (hy.mono (zJ z14))
 refine iE O O P2 (lN (R4 8 O (bQ O Y2 O (aS O h14 (R3 4 O ?_)))))
 refine xD O (fun hc18=>?_) (fun hc18=>?_)
 ·refine R4 4 O (iU (cs:=[_,_]) O (iU (cs:=[_,_]) O (iE O O P1 (iE O O iP (R0 2 O (mN (rQ (.inl O) (rc2 O Y1 (rc2 O mem0 (rt O rn))) ?_)))))))
  rfl
 exact absurd (by rw [hb,show toL (0:Int).natAbs=[] from uO];rfl) hc18
theorem aEG {k:Nat} (hk:5≤k) {z:dE} {n1:Bool} {c1:C} {l1:List UInt32} (hx:CZ 1 RW z c1 l1) {n2:Bool} {c2:C} {l2:List UInt32} (hy:CZ 1 RW z c2 l2) (h1:l1.length≤100000000) (h2:l2.length≤100000000):FC (E k) 147 [.agg [Cb n1,c1],.agg [Cb n2,c2]] z fun v z'=>IV (zd z z') v (Int.gcd (kN (n1,l1)) (kN (n2,l2))):=by
 have e1:=Nat.le_trans (Es (n:=n1) (l:=l1)) h1
 have e2:=Nat.le_trans (Es (n:=n2) (l:=l2)) h2
 have f1:=aLt e1
 have f2:=aLt e2
 refine cX (bBc) (by omega) (aU O) fun B j hj=>?_
 refine xR ?_
 refine iJ O fun b2=>?_
 refine iJ O fun b3=>?_
 refine nJ fun b4=>?_
 refine lN (gX (J3 O O (.inr Y2) O ?_))
 refine gC z (pC (by omega) hx) O O O O fun v10 z10 hz10 hv10=>?_
 obtain ⟨c10,rfl,hq10⟩:=hv10
 have h10:=hq10 _ (hx.mono (zJ z10))
 refine gP O O F ?_
 refine aDI O O (lN ?_)
 refine gC z10 (Bt (by omega) h10 (by omega)) O O O O fun v12 z12 hz12 h12=>?_
 have h12:=h12.mono (zA (hz10))
 rw [gI] at h12
 refine J3 O O (.inr Y1) O ?_
 refine gC z12 (pC (by omega) hy.m) O O O O fun v14 z14 hz14 hv14=>?_
 obtain ⟨c14,rfl,hq14⟩:=hv14
 have h14:=hq14 _ (hy.mono (zJ z14))
 refine gP O O F ?_
 refine aDI O O (lN ?_)
 refine gC z14 (Bt (by omega) h14 (by omega)) O O O O fun v16 z16 hz16 h16=>?_
 have h16:=h16.mono (zA (hz10.trans (hz12.trans hz14)))
 rw [gI] at h16
 refine G0 7 O ?_
 refine aT (aQ ?_)
 refine eA (fun n fs=>∃ (x:Nat) (y:Nat) (vx:AV) (vy:AV) (zi:dE),LZ z16 zi [.blk b4 (.cells 28 [Cb false,Cz]),.blk b3 (.cells 28 [Cb n2,c2]),.blk b2 (.cells 28 [Cb n1,c1])] [(4,Ap b4),(5,vx),(6,vy)] fs∧n=gm x y∧(SZ 1 RN zi vx (qB x))∧(SZ 1 RN zi vy (qB y))∧(Nat.gcd x y=Nat.gcd (kN (n1,l1)).natAbs (kN (n2,l2)).natAbs)∧((toL x).length≤100000000)∧((toL y).length≤100000000)) ?_ _ ⟨(kN (n1,l1)).natAbs,(kN (n2,l2)).natAbs,_,_,_,LZ.m [] O,rfl,h12.m,(h16.mono gU),rfl,e1,e2⟩ (by have:=bMe e1 e2;show _<18446744073709551616;omega)
 intro n fs ⟨x,y,vx,vy,zi,hL0,hmz0,hvx,hvy,hg,hxl,hyl⟩
 refine hL0.open fun e hzi=>?_
 refine R4 12 O (aS O hvy (R3 4 O ?_))
 refine xD O (fun hc19=>?_) (fun hc19=>?_)
 ·refine dA (aQ (xR ?_))
  have f3:=aLt hxl
  have f4:=aLt hyl
  have hy0:0<y:=aQC (by omega)
  refine R1 7 O ?_
  refine lZ zi (aG4 (by omega) (yU _) hvx hvy hy0 (by omega) (by omega)) O O fun v23 z23 _ hv23=>?_
  obtain ⟨q23,r23,hv,_,hr23⟩:=hv23
  subst hv
  rw [yP] at hr23
  refine R3 473 O (xG (R0 7 O ?_))
  exact lQ (by rw [hmz0];exact bL0 (hy0)) ⟨y,x % y,_,_,_,LZ.m [] O,rfl,hvy.m,hr23,by rw [Nat.gcd_comm y,← Nat.gcd_rec,Nat.gcd_comm];exact hg,hyl,Nat.le_trans (D1 (Nat.le_of_lt (Nat.mod_lt _ hy0))) hyl⟩
 refine dK (nQ (dN (xR ?_)))
 have f3:=aLt hxl
 have hy0:y=0:=bR8 (by omega)
 rw [hy0,Nat.gcd_zero_right] at hg
 refine lM O ?_
 refine lZ zi (Ov (by omega) (yU _) hvx (by omega)) O O fun v29 z29 hz29 h29=>?_
 rw [Nw] at h29
 obtain ⟨c29,rfl,_⟩:=h29.one
 have h29:=h29.mono (zA (hz10.trans (hz12.trans (hz14.trans (hz16.trans hzi)))))
 refine lZ z29 (xB (by omega) (h29.mono gU) (by omega)) O O fun v30 z30 _ hv30=>?_
 rw [gI] at hv30
 obtain ⟨c30,rfl,h30⟩:=hv30
 have h30:=h30.mono (zA (hz10.trans (hz12.trans (hz14.trans (hz16.trans (hzi.trans hz29))))))
 refine iE O O iP (lN (xT (rQ (.inl O) (rc2 O mem0 rn) ?_)))
 rw [show ((Int.gcd (kN (n1,l1)) (kN (n2,l2)):Nat):Int)=sgn false x by rw [hg];rfl]
 exact ⟨_,rfl,h30⟩
open Go.CE Go.RowKit Go.Num
open Go.Eng (oH)
theorem bQf {z:dE} {c d:C} {x y:C} {q:Rat} (h:QV z (.agg [x,c,y,d]) q):CZ 1 RW z d (toL (q.den:Int).natAbs):=by
 obtain ⟨c',d',e,_,h2⟩:=vR h
 injection e with e
 simp only [List.cons.injEq,and_true] at e
 rw [e.2.2.2]
 exact h2
theorem Jm (q:Rat):Num.valR ((decide (q.num<0),toL q.num.natAbs),(decide ((q.den:Int)<0),toL (q.den:Int).natAbs))=q:=bEM q
theorem aPc {a b:Int} (hb:b≠0):(Rat.divInt a b).num.natAbs≤a.natAbs∧(Rat.divInt a b).den≤b.natAbs:=by
 have h:=aZ8 (a:=a) hb rfl
 generalize hg:(if b<0 then -((Int.gcd a b:Nat):Int) else ((Int.gcd a b:Nat):Int))=g at h
 have d1:g ∣ a:=by rw [← hg];split;exact Int.neg_dvd.2 (Int.gcd_dvd_left a b);exact Int.gcd_dvd_left a b
 have d2:g ∣ b:=by rw [← hg];split;exact Int.neg_dvd.2 (Int.gcd_dvd_right a b);exact Int.gcd_dvd_right a b
 rw [Int.fdiv_eq_ediv_of_dvd d1,Int.fdiv_eq_ediv_of_dvd d2] at h
 refine ⟨by rw [← h.1];exact Int.natAbs_ediv_le_natAbs a g,?_⟩
 have h3:=Int.natAbs_ediv_le_natAbs b g
 rw [h.2] at h3
 simpa using h3
theorem bJ0 {p q:Rat} {k j:Nat} (h1:(toL p.num.natAbs).length≤k) (h2:(toL (p.den:Int).natAbs).length≤j) (h3:(toL q.num.natAbs).length≤k) (h4:(toL (q.den:Int).natAbs).length≤j):(toL (p+q).num.natAbs).length≤k+j+1∧(toL ((p+q).den:Int).natAbs).length≤j+j:=by
 have e:=aPc (a:=p.num * (q.den:Int)+q.num * (p.den:Int)) (bGg p q)
 rw [bKD] at e
 refine ⟨Nat.le_trans (D1 e.1) (aVo (Jg h1 h4) (Jg h3 h2)),Nat.le_trans (D1 (b:=((p.den:Int) * (q.den:Int)).natAbs) (by simpa using e.2)) (Jg h2 h4)⟩
theorem bKu {p q:Rat} {k j:Nat} (h1:(toL p.num.natAbs).length≤k) (h2:(toL (p.den:Int).natAbs).length≤j) (h3:(toL q.num.natAbs).length≤k) (h4:(toL (q.den:Int).natAbs).length≤j):(toL (p - q).num.natAbs).length≤k+j+1∧(toL ((p - q).den:Int).natAbs).length≤j+j:=by
 rw [Rat.sub_eq_add_neg]
 exact bJ0 h1 h2 (by rw [Rat.neg_num,Int.natAbs_neg];exact h3) (by rw [Rat.neg_den];exact h4)
theorem bK7 {x:Ni} (h:vP x=false):Num.valR x=0:=by simp [Num.valR,h]
theorem aUv {z:dE} {v:AV} {c d:C} {x q:Rat} (e:x=q) (h:v=.agg [Cb (decide (x.num<0)),c,Cb (decide ((x.den:Int)<0)),d]) (h1:CZ 1 RW z c (toL x.num.natAbs)) (h2:CZ 1 RW z d (toL (x.den:Int).natAbs)):QV z v q:=by
 subst e
 exact ⟨c,d,h,h1,h2⟩
theorem aVx {z:dE} {v:AV} {c d:C} {x y:Int} {q:Rat} (e1:x=q.num) (e2:y=(q.den:Int)) (h:v=.agg [Cb (decide (x<0)),c,Cb (decide (y<0)),d]) (h1:CZ 1 RW z c (toL x.natAbs)) (h2:CZ 1 RW z d (toL y.natAbs)):QV z v q:=by
 subst e1
 subst e2
 exact ⟨c,d,h,h1,h2⟩
theorem bLW {a b:Int} (hb:b≠0) (h:¬ b<0):a.fdiv ((Int.gcd a b:Nat):Int)=(Rat.divInt a b).num∧b.fdiv ((Int.gcd a b:Nat):Int)=((Rat.divInt a b).den:Int):=aZ8 hb (if_neg h).symm
theorem bRV {a b:Int} (h:b<0):(-a).fdiv ((Int.gcd a b:Nat):Int)=(Rat.divInt a b).num∧(-b).fdiv ((Int.gcd a b:Nat):Int)=((Rat.divInt a b).den:Int):=by
 have h2 := bLW (a := -a) (b := -b) (by omega) (by omega)
 rwa [Int.gcd_neg,Int.neg_gcd,Rat.neg_divInt_neg] at h2
theorem aZB {n:Int} (h1 : -9223372036854775808≤n) (h2:n<9223372036854775808):(toL n.natAbs).length≤100000000:=Nat.le_trans (m:=2) (mV.2 (by show _<4294967296 ^ 2;omega)) (by decide)
theorem aV3 {k:Nat} (hk:5≤k) {z:dE} {a b:Int} {c1 c2:C} (hx:CZ 1 RW z c1 (toL a.natAbs)) (hy:CZ 1 RW z c2 (toL b.natAbs)) (h1:(toL a.natAbs).length≤100000000) (h2:(toL b.natAbs).length≤100000000):FC (E k) 179 [.agg [Cb (decide (a<0)),c1],.agg [Cb (decide (b<0)),c2]] z fun v _=>v=Ab (decide ((a - b).sign=0)):=by
 refine cX (bAT) (by omega) (aU O) fun B j hj=>?_
 refine xR ?_
 refine iJ O fun b2=>?_
 refine iJ O fun b3=>?_
 refine R2 4 O (jB O Y1 O (jB O mem0 O ?_))
 refine lZ z (aSL (by omega) hx hy h1 h2) O O fun v7 z7 _ hv7=>?_
 rw [hZ,hZ] at hv7
 subst hv7
 refine R0 4 O (xT (rI O ?_))
 rfl
theorem O0 {k:Nat} (hk:6≤k) {z:dE} {n1 n2:Bool} {c1 c2:C} {l1 l2:List UInt32} (hx:CZ 1 RW z c1 l1) (hy:CZ 1 RW z c2 l2) (h1:l1.length≤40000000) (h2:l2.length≤40000000):FC (E k) 112 [.agg [Cb n1,c1,Cb n2,c2]] z fun v _=>v=Ab (vP ((n1,l1),(n2,l2))):=by
 have k1:=Nat.le_trans h1 (show 40000000≤100000000 by decide)
 have k2:=Nat.le_trans h2 (show 40000000≤100000000 by decide)
 have hla:=Es (n:=n1) (l:=l1)
 have hlb:=Es (n:=n2) (l:=l2)
 have hlg:=bKb (Nat.le_trans hla k1) (Nat.le_trans hlb k2)
 refine cX (bCT) (by omega) (aU O) fun B j hj=>?_
 refine xR ?_
 refine iJ O fun b1=>?_
 refine R2 8 O (jB O mem0 O ?_)
 refine lE z (aAz (by omega) hx) O O fun z5 hz5=>?_
 refine lM O ?_
 refine jI 6 O (fun hg6=>?_) (fun hg6=>?_)
 ·refine lD O (lF O (lD O (jB O mem0 O (lD O ?_))))
  refine lE z5 (aAz (by omega) hy.m) O O fun z9 hz9=>?_
  refine R1 6 O ?_
  refine jI 11 O (fun hg11=>?_) (fun hg11=>?_)
  ·refine lD O (lF O (lD O (jB O mem0 O (lD O ?_))))
   refine lE z9 (Ae (by omega) hy.m k2) O O fun z14 hz14=>?_
   refine R1 12 O ?_
   refine iW 17 O (fun hg17=>?_) (fun hg17=>?_)
   ·refine lD O (lF O (lD O (jB O mem0 O (lD O (lF O (lD O (jB O mem0 O (lD O ?_))))))))
    refine lZ z14 (aEG (by omega) hx.m hy.m k1 k2) O O fun v22 z22 hz22 hv22=>?_
    obtain ⟨c22,hv,h22⟩:=hv22
    subst hv
    have h22:=h22.mono (zA (hz5.trans (hz9.trans hz14)))
    refine lD O ?_
    refine lZ z22 (A8 (n:=1) (by omega) (by decide) (by decide)) O O fun v23 z23 _ hv23=>?_
    obtain ⟨c23,hv,h23⟩:=hv23
    subst hv
    have h23:=h23.mono (zA (hz5.trans (hz9.trans (hz14.trans hz22))))
    refine lD O ?_
    refine lE z23 (aV3 (by omega) h22.m (h23.mono gU) hlg bLP) O O fun z24 _=>?_
    refine R0 6 O (xT ?_)
    exact rI O (cQ (bTW hg6 hg11 hg17))
   refine R0 768 O (xT ?_)
   exact rI O (cQ (bRt hg17))
  refine R0 49184 O (xT ?_)
  exact rI O (cQ (bRO hg11))
 refine R0 1573904 O (xT ?_)
 exact rI O (cQ (bRX hg6))
theorem aV2 {k:Nat} (hk:6≤k) {z:dE}  : FC (E k) 146 [] z fun v z'=>QV (zd z z') v 0:=by
 refine cX (bCM) (by omega) (aU O) fun B j hj=>?_
 refine xR ?_
 refine vO fun b0=>?_
 refine lN (xR ?_)
 refine lZ z (A8 (n:=0) (by omega) (by decide) (by decide)) O O fun v1 z1 hz1 hv1=>?_
 obtain ⟨c1,hv,h1⟩:=hv1
 subst hv
 refine lZ z1 (A8 (n:=1) (by omega) (by decide) (by decide)) O O fun v2 z2 _ hv2=>?_
 obtain ⟨c2,hv,h2⟩:=hv2
 subst hv
 have h2:=h2.mono (zA (hz1))
 refine iU (cs:=[_,_,_,_]) O (nN O O iP (lN (xT (rQ (.inl O) (rc4 O mem0 rn) ?_))))
 exact aFr (x:=0) (y:=1) (q:=0) rfl rfl (h1.mono (mX zI)) h2
theorem Ds {k:Nat} (hk:7≤k) {z:dE} {n1 n2:Bool} {c1 c2:C} {l1 l2:List UInt32} (hx:CZ 1 RW z c1 l1) (hy:CZ 1 RW z c2 l2) (h1:l1.length≤40000000) (h2:l2.length≤40000000):FC (E k) 77 [.agg [Cb n1,c1,Cb n2,c2]] z fun v z'=>∀ zz,CZ 1 RW zz c1 l1→CZ 1 RW zz c2 l2→zle (zd z z') zz→QV zz v (valR ((n1,l1),(n2,l2))):=by
 refine cX (bDG) (by omega) (aU O) fun B j hj=>?_
 refine xR ?_
 refine iJ O fun b1=>?_
 refine vO fun b2=>?_
 refine lN (R4 4 O (kJ O Y1 O ?_))
 refine lE z (O0 (by omega) hx hy h1 h2) O O fun z4 hz4=>?_
 refine R3 4 O ?_
 refine iO O (fun hc5=>?_) (fun hc5=>?_)
 ·refine R4 4 O ?_
  refine lZ z4 (aV2 (by omega)) O O fun v6 z6 _ hv6=>?_
  have hv6:=vR hv6
  obtain ⟨c6,d6,hv,hm6,hn6⟩:=hv6
  subst hv
  have hm6:=hm6.mono (zA (hz4))
  have hn6:=hn6.mono (zA (hz4))
  refine nN O O iP (lN (mN (rQ (.inl O) (rc4 O mem0 rn) ?_)))
  intro zz g1 g2 g3
  have hz:=bK7 (by simpa using hc5)
  exact aUv hz.symm rfl (hm6.mono g3) (hn6.mono g3)
 refine R4 4 O (kJ O Y1 O (nN O O iP (lN (xT (rQ (.inl O) (rc4 O mem0 rn) ?_)))))
 exact fun zz g1 g2 g3=>aWo (by simpa using hc5) g1 g2
theorem aFv {k:Nat} (hk:8≤k) {z:dE} {a b:Int} {c1 c2:C} (hx:CZ 1 RW z c1 (toL a.natAbs)) (hy:CZ 1 RW z c2 (toL b.natAbs)) (h1:(toL a.natAbs).length≤100000000) (h2:(toL b.natAbs).length≤100000000) (hb:b≠0):FC (E k) 75 [.agg [Cb (decide (a<0)),c1],.agg [Cb (decide (b<0)),c2]] z fun v z'=>∃ w,v=.tup [w,Ai 0]∧QV (zd z z') w (Rat.divInt a b):=by
 have hlg:=bKb h1 h2
 have hgn:((Int.gcd a b:Nat):Int)≠0:=by have:=Int.gcd_pos_of_ne_zero_right a hb;omega
 have g1:(toL (-a).natAbs).length≤100000000:=by rw [Int.natAbs_neg];exact h1
 have g2:(toL (-b).natAbs).length≤100000000:=by rw [Int.natAbs_neg];exact h2
 refine cX (bHP) (by omega) (aU O) fun B j hj=>?_
 refine xR ?_
 refine iJ O fun b2=>?_
 refine iJ O fun b3=>?_
 refine vO fun b4=>?_
 refine R2 8 O (jB O Y1 O ?_)
 refine lZ z (Ae (by omega) hy h2) O O fun v14 z14 hz14 hv14=>?_
 rw [hZ] at hv14
 subst hv14
 refine R3 4 O ?_
 refine xD O (fun hc15=>?_) (fun hc15=>?_)
 ·exact absurd (Int.sign_eq_zero_iff_zero.1 hc15) hb
 refine R4 8 O (jB O Y1 O ?_)
 refine lZ z14 (Ae (by omega) hy.m h2) O O fun v18 z18 hz18 hv18=>?_
 rw [hZ] at hv18
 subst hv18
 refine R3 4 O ?_
 refine xD O (fun hc19=>?_) (fun hc19=>?_)
 ·refine R4 4 O (jB O Y2 O ?_)
  refine lZ z18 (Zg (by omega) hx.m h1) O O fun v21 z21 hz21 hv21=>?_
  rw [hZ] at hv21
  obtain ⟨c21,hv,h21⟩:=hv21
  subst hv
  have h21:=h21.mono (zA (hz14.trans hz18))
  refine iE O O P2 (lN (xR (jB O Y1 O ?_)))
  refine lZ z21 (Zg (by omega) hy.m h2) O O fun v23 z23 hz23 hv23=>?_
  rw [hZ] at hv23
  obtain ⟨c23,hv,h23⟩:=hv23
  subst hv
  have h23:=h23.mono (zA (hz14.trans (hz18.trans hz21)))
  refine iE O O P1 (lN (xR (jB O Y2 O (jB O Y1 O ?_))))
  refine lZ z23 (aEG (by omega) h21.m (h23.mono gU) g1 g2) O O fun v26 z26 hz26 hv26=>?_
  rw [hZ,hZ,Int.gcd_neg,Int.neg_gcd] at hv26
  obtain ⟨c26,hv,h26⟩:=hv26
  subst hv
  have h26:=h26.mono (zA (hz14.trans (hz18.trans (hz21.trans hz23))))
  refine nJ fun b6=>?_
  refine iE O O iP (lN (xR (jB O Y3 O (jB O mem0 O ?_))))
  refine lZ z26 (Ew (by omega) h21.m (h26.mono gU) g1 hlg (by rw [hZ];omega)) O O fun v30 z30 hz30 hv30=>?_
  rw [hZ,hZ] at hv30
  obtain ⟨v1,v2,hv,hp30,hr30⟩:=hv30
  subst hv
  obtain ⟨c30,hv,h30⟩:=hp30
  subst hv
  obtain ⟨d30,hv,_⟩:=hr30
  subst hv
  have h30:=h30.mono (zA (hz14.trans (hz18.trans (hz21.trans (hz23.trans hz26)))))
  refine R1 17 O ?_
  refine nJ fun b7=>?_
  refine nJ fun b8=>?_
  refine iE O O P1 (iE O O iP (R2 5 O (jB O Y4 O (jB O Y2 O ?_))))
  refine lZ z30 (Ew (by omega) h23.m h26.m g2 hlg (by rw [hZ];omega)) O O fun v37 z37 hz37 hv37=>?_
  rw [hZ,hZ] at hv37
  obtain ⟨v1,v2,hv,hp37,hr37⟩:=hv37
  subst hv
  obtain ⟨c37,hv,h37⟩:=hp37
  subst hv
  obtain ⟨d37,hv,_⟩:=hr37
  subst hv
  have h37:=h37.mono (zA (hz14.trans (hz18.trans (hz21.trans (hz23.trans (hz26.trans hz30))))))
  refine R1 17 O ?_
  refine nJ fun b10=>?_
  refine nJ fun b11=>?_
  refine iE O O P1 (iE O O iP (R2 5 O (jB O Y3 O (jB O Y1 O (iU (cs:=[_,_,_,_]) O (nN O O (D5 (D5 P3)) (R0 2 O (xT (rQ (.inl O) (rc4 O (uD Y4) (rt O rn)) ?_)))))))))
  have he:=bRV (a:=a) (aX4 hc19)
  exact ⟨_,rfl,aVx he.1 he.2 rfl (h30.mono (mX zI)) h37⟩
 refine R4 4 O (jB O Y2 O (jB O Y1 O ?_))
 refine lZ z18 (aEG (by omega) hx.m hy.m h1 h2) O O fun v26 z26 hz26 hv26=>?_
 rw [hZ,hZ] at hv26
 obtain ⟨c26,hv,h26⟩:=hv26
 subst hv
 have h26:=h26.mono (zA (hz14.trans hz18))
 refine nJ fun b6=>?_
 refine iE O O iP (lN (xR (jB O Y3 O (jB O mem0 O ?_))))
 refine lZ z26 (Ew (by omega) hx.m (h26.mono gU) h1 hlg (by rw [hZ];omega)) O O fun v30 z30 hz30 hv30=>?_
 rw [hZ,hZ] at hv30
 obtain ⟨v1,v2,hv,hp30,hr30⟩:=hv30
 subst hv
 obtain ⟨c30,hv,h30⟩:=hp30
 subst hv
 obtain ⟨d30,hv,_⟩:=hr30
 subst hv
 have h30:=h30.mono (zA (hz14.trans (hz18.trans hz26)))
 refine R1 17 O ?_
 refine nJ fun b7=>?_
 refine nJ fun b8=>?_
 refine iE O O P1 (iE O O iP (R2 5 O (jB O Y4 O (jB O Y2 O ?_))))
 refine lZ z30 (Ew (by omega) hy.m h26.m h2 hlg (by rw [hZ];omega)) O O fun v37 z37 hz37 hv37=>?_
 rw [hZ,hZ] at hv37
 obtain ⟨v1,v2,hv,hp37,hr37⟩:=hv37
 subst hv
 obtain ⟨c37,hv,h37⟩:=hp37
 subst hv
 obtain ⟨d37,hv,_⟩:=hr37
 subst hv
 have h37:=h37.mono (zA (hz14.trans (hz18.trans (hz26.trans hz30))))
 refine R1 17 O ?_
 refine nJ fun b10=>?_
 refine nJ fun b11=>?_
 refine iE O O P1 (iE O O iP (R2 5 O (jB O Y3 O (jB O Y1 O (iU (cs:=[_,_,_,_]) O (nN O O (D5 (D5 P3)) (R0 2 O (xT (rQ (.inl O) (rc4 O (uD Y4) (rt O rn)) ?_)))))))))
 have he:=bLW (a:=a) hb (aUM hc19)
 exact ⟨_,rfl,aVx he.1 he.2 rfl (h30.mono (mX zI)) h37⟩
theorem aZn {k:Nat} (hk:9≤k) {z:dE} {n d:Int} (h1 : -9223372036854775808≤n) (h2:n<9223372036854775808) (h3 : -9223372036854775808≤d) (h4:d<9223372036854775808) (hd:d≠0):FC (E k) 23 [Ai n,Ai d] z fun v z'=>∃ w,v=.tup [w,Ai 0]∧QV (zd z z') w (Rat.divInt n d):=by
 refine cX (bGA) (by omega) (aU O) fun B j hj=>?_
 refine xR ?_
 refine vO fun b4=>?_
 refine R2 8 O ?_
 refine lZ z (A8 (n:=n) (by omega) h1 h2) O O fun v7 z7 hz7 hv7=>?_
 obtain ⟨c7,hv,h7⟩:=hv7
 subst hv
 refine lC O ?_
 refine lZ z7 (A8 (n:=d) (by omega) h3 h4) O O fun v9 z9 hz9 hv9=>?_
 obtain ⟨c9,hv,h9⟩:=hv9
 subst hv
 have h9:=h9.mono (zA (hz7))
 refine lZ z9 (aFv (by omega) h7.m (h9.mono gU) (aZB h1 h2) (aZB h3 h4) hd) O O fun v10 z10 _ hv10=>?_
 obtain ⟨w10,hv,hq10⟩:=hv10
 subst hv
 obtain ⟨c10,d10,hv,hm10,hn10⟩:=hq10
 subst hv
 have hm10:=hm10.mono (zA (hz7.trans hz9))
 have hn10:=hn10.mono (zA (hz7.trans hz9))
 refine R1 4 O (nN O O iP (R0 3 O (xT (rQ (.inl O) (rc4 O mem0 (rt O rn)) ?_))))
 exact ⟨_,rfl,_,_,rfl,hm10,hn10⟩
theorem aAC {k:Nat} (hk:6≤k) {z:dE} {n:Int} (h1 : -9223372036854775808≤n) (h2:n<9223372036854775808):FC (E k) 42 [Ai n] z fun v z'=>QV (zd z z') v (n:Rat):=by
 refine cX (bFj) (by omega) (aU O) fun B j hj=>?_
 refine xR ?_
 refine vO fun b2=>?_
 refine lN (R4 4 O ?_)
 refine lZ z (A8 (n:=n) (by omega) h1 h2) O O fun v4 z4 hz4 hv4=>?_
 obtain ⟨c4,hv,h4⟩:=hv4
 subst hv
 refine lZ z4 (A8 (n:=1) (by omega) (by decide) (by decide)) O O fun v5 z5 _ hv5=>?_
 obtain ⟨c5,hv,h5⟩:=hv5
 subst hv
 have h5:=h5.mono (zA (hz4))
 refine iU (cs:=[_,_,_,_]) O (nN O O iP (lN (xT (rQ (.inl O) (rc4 O mem0 rn) ?_))))
 exact aFr (Rat.num_intCast n).symm rfl (h4.mono (mX zI)) h5
theorem aWu {k:Nat} (hk:9≤k) {z:dE} {n1 n2:Bool} {c1 c2:C} {l1 l2:List UInt32} (hx:CZ 1 RW z c1 l1) (hy:CZ 1 RW z c2 l2) (h1:l1.length≤40000000) (h2:l2.length≤40000000) {n3 n4:Bool} {c3 c4:C} {l3 l4:List UInt32} (hu:CZ 1 RW z c3 l3) (hw:CZ 1 RW z c4 l4) (h3:l3.length≤40000000) (h4:l4.length≤40000000):FC (E k) 181 [.agg [Cb n1,c1,Cb n2,c2],.agg [Cb n3,c3,Cb n4,c4]] z fun v z'=>QV (zd z z') v ((valR ((n1,l1),(n2,l2)))+(valR ((n3,l3),(n4,l4)))):=by
 have em1:=Nat.le_trans (aEi (x:=((n1,l1),(n2,l2)))) h1
 have en1:=Nat.le_trans (aEn (x:=((n1,l1),(n2,l2)))) (Nat.succ_le_succ h2)
 have em2:=Nat.le_trans (aEi (x:=((n3,l3),(n4,l4)))) h3
 have en2:=Nat.le_trans (aEn (x:=((n3,l3),(n4,l4)))) (Nat.succ_le_succ h4)
 have om1:=Nat.le_trans em1 (show 40000000≤100000000 by decide)
 have on1:=Nat.le_trans en1 (show 40000000+1≤100000000 by decide)
 have om2:=Nat.le_trans em2 (show 40000000≤100000000 by decide)
 have on2:=Nat.le_trans en2 (show 40000000+1≤100000000 by decide)
 have m1:=Jg em1 en2
 have m2:=Jg em2 en1
 have m3:=Nat.le_trans (Jg en1 en2) (show 40000000+1+(40000000+1)≤100000000 by decide)
 have m4:=Nat.le_trans (aVo m1 m2) (show 40000000+(40000000+1)+1≤100000000 by decide)
 have m1:=Nat.le_trans m1 (show 40000000+(40000000+1)≤100000000 by decide)
 have m2:=Nat.le_trans m2 (show 40000000+(40000000+1)≤100000000 by decide)
 have d0:=bGg (valR ((n1,l1),(n2,l2))) (valR ((n3,l3),(n4,l4)))
 refine cX (bAY) (by omega) (aU O) fun B j hj=>?_
 refine xR ?_
 refine iJ O fun b2=>?_
 refine iJ O fun b3=>?_
 refine vO fun b4=>?_
 refine lN (xR (kJ O Y2 O ?_))
 refine lZ z (Ds (by omega) hx hy h1 h2) O O fun v8 z8 hz8 hv8=>?_
 have hw8:=vR (hv8 _ hx.m hy.m gU)
 obtain ⟨c8,d8,hv,hm8,hn8⟩:=hw8
 subst hv
 refine nN O O P2 (lN (xR (kJ O Y1 O ?_)))
 refine lZ z8 (Ds (by omega) hu.m hw.m h3 h4) O O fun v10 z10 hz10 hv10=>?_
 have hw10:=vR (hv10 _ hu.m hw.m gU)
 obtain ⟨c10,d10,hv,hm10,hn10⟩:=hw10
 subst hv
 refine nN O O P1 (lN (gX (G1 2 O (J3 O O (.inr Y2) O (G1 2 O (J3 O O (.inr Y1) O ?_))))))
 refine gC z10 (O8 (by omega) hm8.m hn10 om1 on2) O O O O fun v16 z16 hz16 hv16=>?_
 rw [hZ,hZ] at hv16
 obtain ⟨c16,hv,h16⟩:=hv16
 subst hv
 have h16:=h16.mono (zA (hz8.trans hz10))
 refine G1 2 O (J3 O O (.inr Y1) O (G1 2 O (J3 O O (.inr Y2) O ?_)))
 refine gC z16 (O8 (by omega) hm10.m hn8.m om2 on1) O O O O fun v21 z21 hz21 hv21=>?_
 rw [hZ,hZ] at hv21
 obtain ⟨c21,hv,h21⟩:=hv21
 subst hv
 have h21:=h21.mono (zA (hz8.trans (hz10.trans hz16)))
 refine gC z21 (aFY (by omega) h16.m (h21.mono gU) m1 m2) O O O O fun v22 z22 hz22 hv22=>?_
 rw [hZ,hZ] at hv22
 obtain ⟨c22,hv,h22⟩:=hv22
 subst hv
 have h22:=h22.mono (zA (hz8.trans (hz10.trans (hz16.trans hz21))))
 refine G1 2 O (J3 O O (.inr Y2) O (G1 2 O (J3 O O (.inr Y1) O ?_)))
 refine gC z22 (O8 (by omega) hn8.m hn10.m on1 on2) O O O O fun v27 z27 hz27 hv27=>?_
 rw [hZ,hZ] at hv27
 obtain ⟨c27,hv,h27⟩:=hv27
 subst hv
 have h27:=h27.mono (zA (hz8.trans (hz10.trans (hz16.trans (hz21.trans hz22)))))
 refine gC z27 (aFv (by omega) h22.m (h27.mono gU) m4 m3 d0) O O O O fun v28 z28 _ hv28=>?_
 rw [bKD] at hv28
 obtain ⟨w28,hv,hq28⟩:=hv28
 subst hv
 obtain ⟨c28,d28,hv,hm28,hn28⟩:=hq28
 subst hv
 have hm28:=hm28.mono (zA (hz8.trans (hz10.trans (hz16.trans (hz21.trans (hz22.trans hz27))))))
 have hn28:=hn28.mono (zA (hz8.trans (hz10.trans (hz16.trans (hz21.trans (hz22.trans hz27))))))
 refine G1 9 O ?_
 refine gA O O (fun b5 hT5=>?_)
 refine gS O O O (nN O O iP (lN (G0 3 O (xR (kJ O mem0 O (nN O O P1 (lN (xT (rQ (.inl O) (rc4 O Y1 rn) ?_)))))))))
 exact ⟨_,_,rfl,hm28,hn28⟩
theorem aSF {k:Nat} (hk:8≤k) {z:dE} {n1 n2:Bool} {c1 c2:C} {l1 l2:List UInt32} (hx:CZ 1 RW z c1 l1) (hy:CZ 1 RW z c2 l2) (h1:l1.length≤40000000) (h2:l2.length≤40000000):FC (E k) 45 [.agg [Cb n1,c1,Cb n2,c2]] z fun v z'=>∀ zz,CZ 1 RW zz c1 l1→CZ 1 RW zz c2 l2→zle (zd z z') zz→QV zz v (-(valR ((n1,l1),(n2,l2)))):=by
 have em1:=Nat.le_trans (aEi (x:=((n1,l1),(n2,l2)))) h1
 have en1:=Nat.le_trans (aEn (x:=((n1,l1),(n2,l2)))) (Nat.succ_le_succ h2)
 have om1:=Nat.le_trans em1 (show 40000000≤100000000 by decide)
 have on1:=Nat.le_trans en1 (show 40000000+1≤100000000 by decide)
 refine cX (bDu) (by omega) (aU O) fun B j hj=>?_
 refine xR ?_
 refine iJ O fun b1=>?_
 refine vO fun b2=>?_
 refine lN (xR (kJ O Y1 O ?_))
 refine lZ z (Ds (by omega) hx hy h1 h2) O O fun v4 z4 hz4 hv4=>?_
 have hw4:=vR (hv4 _ hx.m hy.m gU)
 obtain ⟨c4,d4,hv,hm4,hn4⟩:=hw4
 subst hv
 refine nN O O P1 (lN (gX (G1 2 O (J3 O O (.inr Y1) O ?_))))
 refine gC z4 (Zg (by omega) hm4 om1) O O O O fun v7 z7 _ hv7=>?_
 rw [hZ] at hv7
 obtain ⟨c7,hv,h7⟩:=hv7
 subst hv
 have h7:=h7.mono (zA (hz4))
 refine G1 2 O (J3 O O (.inr Y1) O (gP O O F ?_))
 refine iU (cs:=[_,_,_,_]) O (lN ?_)
 refine gS O O O (nN O O iP (lN (mQ (xT (rQ (.inl O) (rc4 O mem0 rn) ?_)))))
 intro zz g1 g2 g3
 exact aVx (Rat.neg_num _).symm (by rw [Rat.neg_den]) rfl (h7.mono g3) (bQf (hv4 zz g1 g2 ((mX zI).trans g3)))
theorem aXf {k:Nat} (hk:9≤k) {z:dE} {n1 n2:Bool} {c1 c2:C} {l1 l2:List UInt32} (hx:CZ 1 RW z c1 l1) (hy:CZ 1 RW z c2 l2) (h1:l1.length≤40000000) (h2:l2.length≤40000000) {n3 n4:Bool} {c3 c4:C} {l3 l4:List UInt32} (hu:CZ 1 RW z c3 l3) (hw:CZ 1 RW z c4 l4) (h3:l3.length≤40000000) (h4:l4.length≤40000000):FC (E k) 25 [.agg [Cb n1,c1,Cb n2,c2],.agg [Cb n3,c3,Cb n4,c4]] z fun v z'=>QV (zd z z') v ((valR ((n1,l1),(n2,l2))) * (valR ((n3,l3),(n4,l4)))):=by
 have em1:=Nat.le_trans (aEi (x:=((n1,l1),(n2,l2)))) h1
 have en1:=Nat.le_trans (aEn (x:=((n1,l1),(n2,l2)))) (Nat.succ_le_succ h2)
 have em2:=Nat.le_trans (aEi (x:=((n3,l3),(n4,l4)))) h3
 have en2:=Nat.le_trans (aEn (x:=((n3,l3),(n4,l4)))) (Nat.succ_le_succ h4)
 have om1:=Nat.le_trans em1 (show 40000000≤100000000 by decide)
 have on1:=Nat.le_trans en1 (show 40000000+1≤100000000 by decide)
 have om2:=Nat.le_trans em2 (show 40000000≤100000000 by decide)
 have on2:=Nat.le_trans en2 (show 40000000+1≤100000000 by decide)
 have p1:=Jg em1 em2
 have p2:=Jg en1 en2
 have p1:=Nat.le_trans p1 (show 40000000+40000000≤100000000 by decide)
 have p2:=Nat.le_trans p2 (show 40000000+1+(40000000+1)≤100000000 by decide)
 have d0:=bGg (valR ((n1,l1),(n2,l2))) (valR ((n3,l3),(n4,l4)))
 refine cX (bGb) (by omega) (aU O) fun B j hj=>?_
 refine xR ?_
 refine iJ O fun b2=>?_
 refine iJ O fun b3=>?_
 refine vO fun b4=>?_
 refine lN (xR (kJ O Y2 O ?_))
 refine lZ z (Ds (by omega) hx hy h1 h2) O O fun v8 z8 hz8 hv8=>?_
 have hw8:=vR (hv8 _ hx.m hy.m gU)
 obtain ⟨c8,d8,hv,hm8,hn8⟩:=hw8
 subst hv
 refine nN O O P2 (lN (xR (kJ O Y1 O ?_)))
 refine lZ z8 (Ds (by omega) hu.m hw.m h3 h4) O O fun v10 z10 hz10 hv10=>?_
 have hw10:=vR (hv10 _ hu.m hw.m gU)
 obtain ⟨c10,d10,hv,hm10,hn10⟩:=hw10
 subst hv
 refine nN O O P1 (lN (gX (G1 2 O (J3 O O (.inr Y2) O (G1 2 O (J3 O O (.inr Y1) O ?_))))))
 refine gC z10 (O8 (by omega) hm8.m hm10 om1 om2) O O O O fun v16 z16 hz16 hv16=>?_
 rw [hZ,hZ] at hv16
 obtain ⟨c16,hv,h16⟩:=hv16
 subst hv
 have h16:=h16.mono (zA (hz8.trans hz10))
 refine G1 2 O (J3 O O (.inr Y2) O (G1 2 O (J3 O O (.inr Y1) O ?_)))
 refine gC z16 (O8 (by omega) hn8.m hn10.m on1 on2) O O O O fun v21 z21 hz21 hv21=>?_
 rw [hZ,hZ] at hv21
 obtain ⟨c21,hv,h21⟩:=hv21
 subst hv
 have h21:=h21.mono (zA (hz8.trans (hz10.trans hz16)))
 refine gC z21 (aFv (by omega) h16.m (h21.mono gU) p1 p2 d0) O O O O fun v22 z22 _ hv22=>?_
 rw [bSe] at hv22
 obtain ⟨w22,hv,hq22⟩:=hv22
 subst hv
 obtain ⟨c22,d22,hv,hm22,hn22⟩:=hq22
 subst hv
 have hm22:=hm22.mono (zA (hz8.trans (hz10.trans (hz16.trans hz21))))
 have hn22:=hn22.mono (zA (hz8.trans (hz10.trans (hz16.trans hz21))))
 refine G1 9 O ?_
 refine gA O O (fun b5 hT5=>?_)
 refine gS O O O (nN O O iP (lN (G0 3 O (xR (kJ O mem0 O (nN O O P1 (lN (xT (rQ (.inl O) (rc4 O Y1 rn) ?_)))))))))
 exact ⟨_,_,rfl,hm22,hn22⟩
theorem Tz {k:Nat} (hk:8≤k) {z:dE} {n1 n2:Bool} {c1 c2:C} {l1 l2:List UInt32} (hx:CZ 1 RW z c1 l1) (hy:CZ 1 RW z c2 l2) (h1:l1.length≤40000000) (h2:l2.length≤40000000):FC (E k) 47 [.agg [Cb n1,c1,Cb n2,c2]] z fun v _=>v=.c (.v (.int .i64 ((valR ((n1,l1),(n2,l2)))).num.sign)):=by
 have em1:=Nat.le_trans (aEi (x:=((n1,l1),(n2,l2)))) h1
 have en1:=Nat.le_trans (aEn (x:=((n1,l1),(n2,l2)))) (Nat.succ_le_succ h2)
 have om1:=Nat.le_trans em1 (show 40000000≤100000000 by decide)
 have on1:=Nat.le_trans en1 (show 40000000+1≤100000000 by decide)
 refine cX (bHi) (by omega) (aU O) fun B j hj=>?_
 refine xR ?_
 refine iJ O fun b1=>?_
 refine R2 4 O (kJ O mem0 O ?_)
 refine lZ z (Ds (by omega) hx hy h1 h2) O O fun v4 z4 _ hv4=>?_
 have hw4:=vR (hv4 _ hx.m hy.m gU)
 obtain ⟨c4,d4,hv,hm4,hn4⟩:=hw4
 subst hv
 refine aM8 O O ?_
 refine lZ z4 (Ae (by omega) hm4 om1) O O fun v6 z6 _ hv6=>?_
 rw [hZ] at hv6
 refine R0 3 O (xT ?_)
 exact rI O hv6
theorem aWx {k:Nat} (hk:10≤k) {z:dE} {n1 n2:Bool} {c1 c2:C} {l1 l2:List UInt32} (hx:CZ 1 RW z c1 l1) (hy:CZ 1 RW z c2 l2) (h1:l1.length≤19000000) (h2:l2.length≤19000000) {n3 n4:Bool} {c3 c4:C} {l3 l4:List UInt32} (hu:CZ 1 RW z c3 l3) (hw:CZ 1 RW z c4 l4) (h3:l3.length≤19000000) (h4:l4.length≤19000000):FC (E k) 114 [.agg [Cb n1,c1,Cb n2,c2],.agg [Cb n3,c3,Cb n4,c4]] z fun v z'=>QV (zd z z') v ((valR ((n1,l1),(n2,l2))) - (valR ((n3,l3),(n4,l4)))):=by
 have k1:=Nat.le_trans h1 (show 19000000≤40000000 by decide)
 have k2:=Nat.le_trans h2 (show 19000000≤40000000 by decide)
 have k3:=Nat.le_trans h3 (show 19000000≤40000000 by decide)
 have k4:=Nat.le_trans h4 (show 19000000≤40000000 by decide)
 have em2:(toL (-(valR ((n3,l3),(n4,l4)))).num.natAbs).length≤40000000:=by rw [Rat.neg_num,Int.natAbs_neg];exact Nat.le_trans aEi k3
 have en2:(toL ((-(valR ((n3,l3),(n4,l4)))).den:Int).natAbs).length≤40000000:=by rw [Rat.neg_den];exact Nat.le_trans aEn (Nat.le_trans (Nat.succ_le_succ h4) (by decide))
 refine cX (bBI) (by omega) (aU O) fun B j hj=>?_
 refine xR ?_
 refine iJ O fun b2=>?_
 refine iJ O fun b3=>?_
 refine vO fun b4=>?_
 refine lN (gX (Qr O O (.inr Y2) O (Qr O O (.inr Y1) O ?_)))
 refine gC z (aSF (by omega) hu hw k3 k4) O O O O fun v7 z7 hz7 hv7=>?_
 have hw7:=vR (hv7 _ hu.m hw.m gU)
 obtain ⟨c7,d7,hv,hm7,hn7⟩:=hw7
 subst hv
 refine gC z7 (aWu (by omega) hx.m hy.m k1 k2 hm7 hn7 em2 en2) O O O O fun v8 z8 _ hv8=>?_
 rw [Jm,← Rat.sub_eq_add_neg] at hv8
 have hv8:=vR hv8
 obtain ⟨c8,d8,hv,hm8,hn8⟩:=hv8
 subst hv
 have hm8:=hm8.mono (zA (hz7))
 have hn8:=hn8.mono (zA (hz7))
 refine gS O O O (nN O O iP (lN (mQ (xT (rQ (.inl O) (rc4 O mem0 rn) ?_)))))
 exact ⟨_,_,rfl,hm8,hn8⟩
theorem Z6 {k:Nat} (hk:11≤k) {z:dE} {n1 n2:Bool} {c1 c2:C} {l1 l2:List UInt32} (hx:CZ 1 RW z c1 l1) (hy:CZ 1 RW z c2 l2) (h1:l1.length≤19000000) (h2:l2.length≤19000000) {n3 n4:Bool} {c3 c4:C} {l3 l4:List UInt32} (hu:CZ 1 RW z c3 l3) (hw:CZ 1 RW z c4 l4) (h3:l3.length≤19000000) (h4:l4.length≤19000000):FC (E k) 44 [.agg [Cb n1,c1,Cb n2,c2],.agg [Cb n3,c3,Cb n4,c4]] z fun v _=>v=.c (.v (.int .i64 ((valR ((n1,l1),(n2,l2))) - (valR ((n3,l3),(n4,l4)))).num.sign)):=by
 have s1:=bKu (Nat.le_trans (aEi (x:=((n1,l1),(n2,l2)))) h1) (Nat.le_trans (aEn (x:=((n1,l1),(n2,l2)))) (Nat.succ_le_succ h2)) (Nat.le_trans (aEi (x:=((n3,l3),(n4,l4)))) h3) (Nat.le_trans (aEn (x:=((n3,l3),(n4,l4)))) (Nat.succ_le_succ h4))
 have s2:=Nat.le_trans s1.2 (show 19000000+1+(19000000+1)≤40000000 by decide)
 have s1:=Nat.le_trans s1.1 (show 19000000+(19000000+1)+1≤40000000 by decide)
 refine cX (bFv) (by omega) (aU O) fun B j hj=>?_
 refine xR ?_
 refine iJ O fun b2=>?_
 refine iJ O fun b3=>?_
 refine R2 4 O (kJ O Y1 O (kJ O mem0 O ?_))
 refine lZ z (aWx (by omega) hx hy h1 h2 hu hw h3 h4) O O fun v7 z7 _ hv7=>?_
 have hv7:=vR hv7
 obtain ⟨c7,d7,hv,hm7,hn7⟩:=hv7
 subst hv
 refine lZ z7 (Tz (by omega) (hm7.mono gU) (hn7.mono gU) s1 s2) O O fun v8 z8 _ hv8=>?_
 rw [Jm] at hv8
 refine R0 3 O (xT ?_)
 exact rI O hv8
end Go.Proofs.YtcnpoojdochapaaGreatDoor

/- The references' naturals and rationals, walked (2). -/
import Derived.WalkKit
import Derived.Orders
import Derived.Test.YtlceligcgelbdaaGreatMD3
set_option linter.unusedVariables false
set_option linter.unusedSimpArgs false
set_option maxRecDepth 100000
set_option maxHeartbeats 1000000
namespace Go.Proofs.YtlceligcgelbdaaGreat
open Go.CE Go.RowKit Go.Num
open Go.Eng (mR)
theorem aUT {call:iJ} {B:rR} {an:List Nat} {j:Nat} {l:List CE.D} {fs:Sf} {tag last:Nat} {pj:List Nat} {Q:Sf→Prop} {b:Nat} {k0:jX} {p q:List HA} (e:fs.H=p++.blk b k0::q) (h:(∀ k,¬ tz fs.z (p++q) b k)→FG call B an j l fs (tz fs.z (p++q)) tag last pj [] Q):FG call B an j l fs (tz fs.z fs.H) tag last pj [] Q:=fun a r=>by
  have hsub:∀ b k,tz fs.z (p++q) b k→tz fs.z fs.H b k:=fun b k ht=>ht.imp id fun hm=>by
    rw [e]
    rcases List.mem_append.1 hm with hm | hm
    · exact List.mem_append.2 (.inl hm)
    · exact List.mem_append.2 (.inr (List.mem_cons_of_mem _ hm))
  refine h ?_ a ⟨r.rf,r.hd,fun x hx b k ht=>r.t0 x hx b k (hsub b k ht),fun b k ht=>r.tlt b k (hsub b k ht),fun x hx k ht=>r.np x hx k (hsub _ k ht),fun x hx=>absurd (r.fl x hx).1 List.not_mem_nil,r.last,r.pj,r.plt⟩
  intro k ht
  have hnd:=r.rf.hold.nd
  rcases ht with ht | ht
  · exact (r.rf.hold.z b k ht).2.2 (by show b∈qT fs.H;rw [e,kM,kD];simp [HA.fp])
  · have hm : b ∈ qT (p ++ q) := List.mem_flatMap.2 ⟨_, ht, by simp [HA.fp]⟩
    replace hnd:(qT fs.H).Nodup:=hnd
    rw [e,kM,kD] at hnd
    rw [kM] at hm
    have h2:=List.nodup_append.1 hnd
    rcases List.mem_append.1 hm with hm | hm
    · exact h2.2.2 b hm b (by simp [HA.fp]) rfl
    · have h3:=List.nodup_append.1 h2.2.1
      exact h3.2.2 b (by simp [HA.fp]) b hm rfl
theorem bCw {A B:Int} (hB:B≠0):Pi (decide (A<0)) (A.natAbs % B.natAbs)+B * Pi (!decide (decide (A<0)=decide (B<0))) (A.natAbs / B.natAbs)=A∧(Pi (decide (A<0)) (A.natAbs % B.natAbs)).natAbs<B.natAbs:=by
  refine ⟨?_,by rw [W5];exact Nat.mod_lt _ (by omega)⟩
  have h:=Nat.div_add_mod A.natAbs B.natAbs
  have e:((B.natAbs * (A.natAbs / B.natAbs):Nat):Int)=(B.natAbs:Int) * ((A.natAbs / B.natAbs:Nat):Int):=Int.natCast_mul _ _
  generalize A.natAbs / B.natAbs=q at *
  generalize A.natAbs % B.natAbs=r at *
  generalize hp:B.natAbs * q=pq at *
  unfold Pi
  rcases Int.lt_or_le A 0 with ha | ha<;>rcases Int.lt_or_le B 0 with hb | hb
  · rw [decide_eq_true ha,decide_eq_true hb]
    have:(B.natAbs:Int) = -B:=by omega
    rw [this,Int.neg_mul] at e
    simp only [decide_true,Bool.not_true,if_true,Bool.false_eq_true,if_false]
    omega
  · rw [decide_eq_true ha, decide_eq_false (show ¬ B < 0 by omega)]
    have:(B.natAbs:Int)=B:=by omega
    rw [this] at e
    simp only [Bool.true_eq_false,decide_false,Bool.not_false,if_true,Int.mul_neg]
    omega
  · rw [decide_eq_false (show ¬ A < 0 by omega), decide_eq_true hb]
    have:(B.natAbs:Int) = -B:=by omega
    rw [this,Int.neg_mul] at e
    simp only [Bool.false_eq_true,decide_false,Bool.not_false,if_true,if_false,Int.mul_neg]
    omega
  · rw [decide_eq_false (show ¬ A < 0 by omega), decide_eq_false (show ¬ B < 0 by omega)]
    have:(B.natAbs:Int)=B:=by omega
    rw [this] at e
    simp only [decide_true,Bool.not_true,Bool.false_eq_true,if_false]
    omega
theorem aB8 {z:fR} {v:AV} {c:C} {x y:Int} (e:x=y) (h:v=.agg [Cb (decide (x<0)),c]) (hq:CZ 1 RW z c (toL x.natAbs)):IV z v y:=by
 subst e
 exact ⟨c,h,hq⟩
theorem Yy (a:Int):(a<0∧a.sign = -1)∨(a=0∧a.sign=0)∨(0<a∧a.sign=1):=by
 rcases Int.lt_trichotomy a 0 with h | h | h
 ·exact .inl ⟨h,Int.sign_eq_neg_one_of_neg h⟩
 ·exact .inr (.inl ⟨h,by rw [h];rfl⟩)
 exact .inr (.inr ⟨h,Int.sign_eq_one_of_pos h⟩)
theorem bNJ {A B q r:Int} (hb:B≠0) (h:r+B * q=A∧r.natAbs<B.natAbs) (h1:¬ r.sign=0) (h2:¬ r.sign=B.sign):q - 1=A.fdiv B∧r+B=A.fmod B:=by
 refine aGg hb ?_ ?_
 ·rw [Int.mul_sub,Int.mul_one,← h.1];omega
 have:=h.2
 rcases Yy r with ⟨h3,h4⟩ | ⟨h3,h4⟩ | ⟨h3,h4⟩<;>rcases Yy B with ⟨h5,h6⟩ | ⟨h5,h6⟩ | ⟨h5,h6⟩<;>constructor<;>intro<;>omega
theorem aVt {A B q r:Int} (hb:B≠0) (h:r+B * q=A∧r.natAbs<B.natAbs) (h1:r.sign=0∨r.sign=B.sign):q=A.fdiv B∧r=A.fmod B:=by
 refine aGg hb h.1 ?_
 have:=h.2
 rcases Yy r with ⟨h3,h4⟩ | ⟨h3,h4⟩ | ⟨h3,h4⟩<;>rcases Yy B with ⟨h5,h6⟩ | ⟨h5,h6⟩ | ⟨h5,h6⟩<;>constructor<;>intro<;>omega
theorem bMs:(toL (1:Int).natAbs).length≤100000000:=Nat.le_trans (m:=1) (qS.2 (by decide)) (by decide)
theorem aH1 {n:Nat} (h:0<(pS n).length):0<n:=by
 rcases Nat.eq_zero_or_pos n with rfl | h0
 ·rw [S5] at h;simp at h
 exact h0
theorem bRD {n:Nat} (h:(pS n).length=0):n=0:=by
 rcases Nat.eq_zero_or_pos n with h0 | h0
 ·exact h0
 rw [aFm h0] at h;simp at h
theorem Gk {k:Nat} (hk:7≤k) {z:fR} {n1:Bool} {c1:C} {l1:List UInt32} (hx:CZ 1 RW z c1 l1) {n2:Bool} {c2:C} {l2:List UInt32} (hy:CZ 1 RW z c2 l2) (h1:l1.length≤100000000) (h2:l2.length≤100000000) (hb:mB (n2,l2)≠0):FC (E k) 214 [.agg [Cb n1,c1],.agg [Cb n2,c2]] z fun v z'=>∃ v1 v2,v=.tup [v1,v2,Ai 0]∧IV (zd z z') v1 ((mB (n1,l1)).fdiv (mB (n2,l2)))∧IV (zd z z') v2 ((mB (n1,l1)).fmod (mB (n2,l2))):=by
 have e1:=Nat.le_trans (Dx (n:=n1) (l:=l1)) h1
 have e2:=Nat.le_trans (Dx (n:=n2) (l:=l2)) h2
 have f1:=aGq e1
 have f2:=aGq e2
 have hbp:0<(mB (n2,l2)).natAbs:=by omega
 have hml:=aFs (Nat.le_of_lt (Nat.mod_lt (mB (n1,l1)).natAbs hbp))
 have hdl:=aFs (Nat.div_le_self (mB (n1,l1)).natAbs (mB (n2,l2)).natAbs)
 have gml:=F4 (Nat.le_of_lt (Nat.mod_lt (mB (n1,l1)).natAbs hbp))
 have gdl:=F4 (Nat.div_le_self (mB (n1,l1)).natAbs (mB (n2,l2)).natAbs)
 have hql:(toL (Pi (!decide (decide (mB (n1,l1)<0)=decide (mB (n2,l2)<0))) ((mB (n1,l1)).natAbs / (mB (n2,l2)).natAbs)).natAbs).length≤100000000:=by rw [W5];exact Nat.le_trans gdl e1
 have hrl:(toL (Pi (decide (mB (n1,l1)<0)) ((mB (n1,l1)).natAbs % (mB (n2,l2)).natAbs)).natAbs).length≤100000000:=by rw [W5];exact Nat.le_trans gml e2
 have htk:=bCw (A:=mB (n1,l1)) (B:=mB (n2,l2)) hb
 refine iI (bDw) (by omega) (dN O) fun B j hj=>?_
 refine xR ?_
 refine kN O fun b2=>?_
 refine kN O fun b3=>?_
 refine oI fun b4=>?_
 refine oI fun b5=>?_
 refine R2 4 O (jN O Y3 O ?_)
 refine lZ z (pU (by omega) hx) O O fun v12 z12 hz12 hv12=>?_
 obtain ⟨c12,rfl,hq12⟩:=hv12
 have h12:=hq12 _ (hx.mono (zJ z12))
 refine jI O O P3 (lN (xR (jN O Y2 O ?_)))
 refine lZ z12 (pU (by omega) hy.m) O O fun v14 z14 hz14 hv14=>?_
 obtain ⟨c14,rfl,hq14⟩:=hv14
 have h14:=hq14 _ (hy.mono (zJ z14))
 refine jI O O P2 (lN (R4 8 O (dH O Y2 O (cX O h14 (R3 4 O ?_)))))
 refine xD O (fun hc18=>?_) (fun hc18=>?_)
 ·exact absurd (Px (n:=(mB (n2,l2)).natAbs) (by omega)) (by omega)
 refine dX (jF (G1 2 O (wM O O (.inr Y3) O ?_)))
 refine gC z14 (Ar (by omega) h12.m (by omega)) O O O O fun v24 z24 hz24 h24=>?_
 have h24:=h24.mono (vS (hz12.trans hz14))
 rw [iN] at h24
 refine G1 2 O (wM O O (.inr Y2) O ?_)
 refine gC z24 (Ar (by omega) h14.m (by omega)) O O O O fun v27 z27 hz27 h27=>?_
 have h27:=h27.mono (vS (hz12.trans (hz14.trans hz24)))
 rw [iN] at h27
 refine gC z27 (aDS (by omega) (yJ _) h24.m (h27.mono kY) hbp (by omega) (by omega)) O O O O fun v28 z28 hz28 hv28=>?_
 obtain ⟨q28,r28,hv,hq28,hr28⟩:=hv28
 subst hv
 rw [xP] at hq28 hr28
 refine G0 57 O (jF (G1 2 O (wM O O (.inr Y3) O (G1 2 O (wM O O (.inr Y2) O (gP O O F ?_))))))
 refine A8 O O (Wj _ _) (lN ?_)
 refine G1 3 O ?_
 refine gC z28 (Jm (by omega) (yJ _) hq28 (by omega)) O O O O fun v37 z37 hz37 h37=>?_
 rw [Jc] at h37
 obtain ⟨c37,rfl,_⟩:=h37.one
 have h37:=h37.mono (vS (hz12.trans (hz14.trans (hz24.trans (hz27.trans hz28)))))
 refine gC z37 (wO (by omega) (h37.mono kY) (by omega)) O O O O fun v38 z38 hz38 hv38=>?_
 rw [iN] at hv38
 obtain ⟨c38,rfl,h38⟩:=hv38
 have h38:=h38.mono (vS (hz12.trans (hz14.trans (hz24.trans (hz27.trans (hz28.trans hz37))))))
 refine G1 2 O (wM O O (.inr Y3) O (G1 3 O ?_))
 refine gC z38 (Jm (by omega) (yJ _) hr28.m (by omega)) O O O O fun v42 z42 hz42 h42=>?_
 rw [Jc] at h42
 obtain ⟨c42,rfl,_⟩:=h42.one
 have h42:=h42.mono (vS (hz12.trans (hz14.trans (hz24.trans (hz27.trans (hz28.trans (hz37.trans hz38)))))))
 refine gC z42 (wO (by omega) (h42.mono kY) (by omega)) O O O O fun v43 z43 hz43 hv43=>?_
 rw [iN] at hv43
 obtain ⟨c43,rfl,h43⟩:=hv43
 have h43:=h43.mono (vS (hz12.trans (hz14.trans (hz24.trans (hz27.trans (hz28.trans (hz37.trans (hz38.trans hz42))))))))
 refine gA O O (fun b9 hT9=>?_)
 refine gA O O (fun b10 hT10=>?_)
 refine gS O O O (jI O O P1 (lN (gS O O O (jI O O lR (lN (nQ (Z6 (jF (O8 O O Ht O ?_)))))))))
 refine gC z43 (A9 (by omega) (h43.mono kY) hrl) O O O O fun v45 z45 hz45 hv45=>?_
 rw [kC] at hv45
 subst hv45
 refine G1 4 O ?_
 refine aJS 47 O (fun hg47=>?_) (fun hg47=>?_)
 ·refine O8 O O Ht O ?_
  refine gC z45 (A9 (by omega) h43.m hrl) O O O O fun v49 z49 hz49 hv49=>?_
  rw [kC] at hv49
  subst hv49
  refine O8 O O (.inr Y4) O ?_
  refine gC z49 (A9 (by omega) h14.m e2) O O O O fun v51 z51 hz51 hv51=>?_
  rw [kC] at hv51
  subst hv51
  refine G0 4 O (Ez ?_)
  refine Ae O (fun hc53=>?_) (fun hc53=>?_)
  ·refine Z6 (jF (O8 O O (.inr Y1) O ?_))
   refine gC z51 (Y0 (n:=1) (by omega) (by decide) (by decide)) O O O O fun v55 z55 hz55 hv55=>?_
   obtain ⟨c55,hv,h55⟩:=hv55
   subst hv
   have h55:=h55.mono (vS (hz12.trans (hz14.trans (hz24.trans (hz27.trans (hz28.trans (hz37.trans (hz38.trans (hz42.trans (hz43.trans (hz45.trans (hz49.trans hz51))))))))))))
   refine gC z55 (aVN (by omega) h38.m (h55.mono kY) hql bMs) O O O O fun v56 z56 hz56 hv56=>?_
   rw [kC,kC] at hv56
   obtain ⟨c56,hv,h56⟩:=hv56
   subst hv
   have h56:=h56.mono (vS (hz12.trans (hz14.trans (hz24.trans (hz27.trans (hz28.trans (hz37.trans (hz38.trans (hz42.trans (hz43.trans (hz45.trans (hz49.trans (hz51.trans hz55)))))))))))))
   refine gS O O O (jI O O P1 (lN (nQ (xR (jN O mem0 O (jN O Y4 O ?_))))))
   refine lZ z56 (aA9 (by omega) h43.m h14.m hrl e2) O O fun v59 z59 _ hv59=>?_
   rw [kC,kC] at hv59
   obtain ⟨c59,hv,h59⟩:=hv59
   subst hv
   have h59:=h59.mono (vS (hz12.trans (hz14.trans (hz24.trans (hz27.trans (hz28.trans (hz37.trans (hz38.trans (hz42.trans (hz43.trans (hz45.trans (hz49.trans (hz51.trans (hz55.trans hz56))))))))))))))
   refine jI O O lR (lN (jF ?_))
   refine aUT (p:=[_,_,_]) O fun hT4=>?_
   refine O8 O O (.inr Y1) O (O8 O O Ht O (gT O O O hT4 (jI O O P3 (lN (gS O O O (jI O O P2 (lN (G0 2 O (xT (rQ (.inl O) (Xr O Y3 (Xr O Y2 (rt O rn))) ?_))))))))))
   have he:=bNJ hb htk hg47 hc53
   exact ⟨_,_,rfl,aB8 he.1 rfl (h56.mono (nJ zI)),aB8 he.2 rfl h59⟩
  refine dX (jF ?_)
  refine aUT (p:=[_,_,_]) O fun hT4=>?_
  refine O8 O O (.inr Y1) O (O8 O O Ht O (gT O O O hT4 (jI O O P3 (lN (gS O O O (jI O O P2 (lN (G0 2 O (xT (rQ (.inl O) (Xr O Y3 (Xr O Y2 (rt O rn))) ?_))))))))))
  have he:=aVt hb htk (.inr hc53)
  exact ⟨_,_,rfl,aB8 he.1 rfl (h38.mono (nJ zI)),aB8 he.2 rfl (h43.mono (nJ zI))⟩
 refine G0 64 O (R5 8 O (jF ?_))
 refine aUT (p:=[_,_,_]) O fun hT4=>?_
 refine O8 O O (.inr Y1) O (O8 O O Ht O (gT O O O hT4 (jI O O P3 (lN (gS O O O (jI O O P2 (lN (G0 2 O (xT (rQ (.inl O) (Xr O Y3 (Xr O Y2 (rt O rn))) ?_))))))))))
 have he:=aVt hb htk (.inl hg47)
 exact ⟨_,_,rfl,aB8 he.1 rfl (h38.mono (nJ zI)),aB8 he.2 rfl (h43.mono (nJ zI))⟩
theorem aBU {k:Nat} (hk:5≤k) {z:fR} {n1:Bool} {c1:C} {l1:List UInt32} (hx:CZ 1 RW z c1 l1) {n2:Bool} {c2:C} {l2:List UInt32} (hy:CZ 1 RW z c2 l2) (h1:l1.length≤100000000) (h2:l2.length≤100000000):FC (E k) 213 [.agg [Cb n1,c1],.agg [Cb n2,c2]] z fun v z'=>IV (zd z z') v (Int.gcd (mB (n1,l1)) (mB (n2,l2))):=by
 have e1:=Nat.le_trans (Dx (n:=n1) (l:=l1)) h1
 have e2:=Nat.le_trans (Dx (n:=n2) (l:=l2)) h2
 have f1:=aGq e1
 have f2:=aGq e2
 refine iI (bAR) (by omega) (dN O) fun B j hj=>?_
 refine xR ?_
 refine kN O fun b2=>?_
 refine kN O fun b3=>?_
 refine oI fun b4=>?_
 refine lN (jF (O8 O O (.inr Y2) O ?_))
 refine gC z (pU (by omega) hx) O O O O fun v10 z10 hz10 hv10=>?_
 obtain ⟨c10,rfl,hq10⟩:=hv10
 have h10:=hq10 _ (hx.mono (zJ z10))
 refine gP O O F ?_
 refine aDv O O (lN ?_)
 refine gC z10 (Ar (by omega) h10 (by omega)) O O O O fun v12 z12 hz12 h12=>?_
 have h12:=h12.mono (vS (hz10))
 rw [iN] at h12
 refine O8 O O (.inr Y1) O ?_
 refine gC z12 (pU (by omega) hy.m) O O O O fun v14 z14 hz14 hv14=>?_
 obtain ⟨c14,rfl,hq14⟩:=hv14
 have h14:=hq14 _ (hy.mono (zJ z14))
 refine gP O O F ?_
 refine aDv O O (lN ?_)
 refine gC z14 (Ar (by omega) h14 (by omega)) O O O O fun v16 z16 hz16 h16=>?_
 have h16:=h16.mono (vS (hz10.trans (hz12.trans hz14)))
 rw [iN] at h16
 refine G0 7 O ?_
 refine dE (bQ ?_)
 refine eT (fun n fs=>∃ (x:Nat) (y:Nat) (vx:AV) (vy:AV) (zi:fR),LZ z16 zi [.blk b4 (.cells 49 [Cb false,Cz]),.blk b3 (.cells 49 [Cb n2,c2]),.blk b2 (.cells 49 [Cb n1,c1])] [(4,Ap b4),(5,vx),(6,vy)] fs∧n=gm x y∧(SZ 1 RN zi vx (pS x))∧(SZ 1 RN zi vy (pS y))∧(Nat.gcd x y=Nat.gcd (mB (n1,l1)).natAbs (mB (n2,l2)).natAbs)∧((toL x).length≤100000000)∧((toL y).length≤100000000)) ?_ _ ⟨(mB (n1,l1)).natAbs,(mB (n2,l2)).natAbs,_,_,_,LZ.m [] O,rfl,h12.m,(h16.mono kY),rfl,e1,e2⟩ (by have:=bMB e1 e2;show _<18446744073709551616;omega)
 intro n fs ⟨x,y,vx,vy,zi,hL0,hmz0,hvx,hvy,hg,hxl,hyl⟩
 refine hL0.open fun e hzi=>?_
 refine R4 12 O (cX O hvy (R3 4 O ?_))
 refine xD O (fun hc19=>?_) (fun hc19=>?_)
 ·refine dX (bQ (xR ?_))
  have f3:=aGq hxl
  have f4:=aGq hyl
  have hy0:0<y:=aH1 (by omega)
  refine R1 7 O ?_
  refine lZ zi (aDS (by omega) (yJ _) hvx hvy hy0 (by omega) (by omega)) O O fun v23 z23 _ hv23=>?_
  obtain ⟨q23,r23,hv,_,hr23⟩:=hv23
  subst hv
  rw [xP] at hr23
  refine R3 473 O (xG (R0 7 O ?_))
  exact nN (by rw [hmz0];exact bMp (hy0)) ⟨y,x % y,_,_,_,LZ.m [] O,rfl,hvy.m,hr23,by rw [Nat.gcd_comm y,← Nat.gcd_rec,Nat.gcd_comm];exact hg,hyl,Nat.le_trans (F4 (Nat.le_of_lt (Nat.mod_lt _ hy0))) hyl⟩
 refine eE (oC (iE (xR ?_)))
 have f3:=aGq hxl
 have hy0:y=0:=bRD (by omega)
 rw [hy0,Nat.gcd_zero_right] at hg
 refine lM O ?_
 refine lZ zi (Jm (by omega) (yJ _) hvx (by omega)) O O fun v29 z29 hz29 h29=>?_
 rw [Jc] at h29
 obtain ⟨c29,rfl,_⟩:=h29.one
 have h29:=h29.mono (vS (hz10.trans (hz12.trans (hz14.trans (hz16.trans hzi)))))
 refine lZ z29 (wO (by omega) (h29.mono kY) (by omega)) O O fun v30 z30 _ hv30=>?_
 rw [iN] at hv30
 obtain ⟨c30,rfl,h30⟩:=hv30
 have h30:=h30.mono (vS (hz10.trans (hz12.trans (hz14.trans (hz16.trans (hzi.trans hz29))))))
 refine jI O O lR (lN (xT (rQ (.inl O) (Xr O mem0 rn) ?_)))
 rw [show ((Int.gcd (mB (n1,l1)) (mB (n2,l2)):Nat):Int)=Pi false x by rw [hg];rfl]
 exact ⟨_,rfl,h30⟩
open Go.CE Go.RowKit Go.Num
open Go.Eng (mR)
theorem bNc {z:fR} {c d:C} {x y:C} {q:Rat} (h:QV z (.agg [x,c,y,d]) q):CZ 1 RW z d (toL (q.den:Int).natAbs):=by
 obtain ⟨c',d',e,_,h2⟩:=V7 h
 injection e with e
 simp only [List.cons.injEq,and_true] at e
 rw [e.2.2.2]
 exact h2
theorem bEo (q:Rat):Num.valR ((decide (q.num<0),toL q.num.natAbs),(decide ((q.den:Int)<0),toL (q.den:Int).natAbs))=q:=bQx q
theorem bBO {a b:Int} (hb:b≠0):(Rat.divInt a b).num.natAbs≤a.natAbs∧(Rat.divInt a b).den≤b.natAbs:=by
 have h:=aYO (a:=a) hb rfl
 generalize hg:(if b<0 then -((Int.gcd a b:Nat):Int) else ((Int.gcd a b:Nat):Int))=g at h
 have d1:g ∣ a:=by rw [← hg];split;exact Int.neg_dvd.2 (Int.gcd_dvd_left a b);exact Int.gcd_dvd_left a b
 have d2:g ∣ b:=by rw [← hg];split;exact Int.neg_dvd.2 (Int.gcd_dvd_right a b);exact Int.gcd_dvd_right a b
 rw [Int.fdiv_eq_ediv_of_dvd d1,Int.fdiv_eq_ediv_of_dvd d2] at h
 refine ⟨by rw [← h.1];exact Int.natAbs_ediv_le_natAbs a g,?_⟩
 have h3:=Int.natAbs_ediv_le_natAbs b g
 rw [h.2] at h3
 simpa using h3
theorem bKc {p q:Rat} {k j:Nat} (h1:(toL p.num.natAbs).length≤k) (h2:(toL (p.den:Int).natAbs).length≤j) (h3:(toL q.num.natAbs).length≤k) (h4:(toL (q.den:Int).natAbs).length≤j):(toL (p+q).num.natAbs).length≤k+j+1∧(toL ((p+q).den:Int).natAbs).length≤j+j:=by
 have e:=bBO (a:=p.num * (q.den:Int)+q.num * (p.den:Int)) (bPp p q)
 rw [bJ5] at e
 refine ⟨Nat.le_trans (F4 e.1) (aUk (Xn h1 h4) (Xn h3 h2)),Nat.le_trans (F4 (b:=((p.den:Int) * (q.den:Int)).natAbs) (by simpa using e.2)) (Xn h2 h4)⟩
theorem bJR {p q:Rat} {k j:Nat} (h1:(toL p.num.natAbs).length≤k) (h2:(toL (p.den:Int).natAbs).length≤j) (h3:(toL q.num.natAbs).length≤k) (h4:(toL (q.den:Int).natAbs).length≤j):(toL (p - q).num.natAbs).length≤k+j+1∧(toL ((p - q).den:Int).natAbs).length≤j+j:=by
 rw [Rat.sub_eq_add_neg]
 exact bKc h1 h2 (by rw [Rat.neg_num,Int.natAbs_neg];exact h3) (by rw [Rat.neg_den];exact h4)
theorem bLI {x:aUq} (h:yU x=false):Num.valR x=0:=by simp [Num.valR,h]
theorem bQ8 {z:fR} {v:AV} {c d:C} {x q:Rat} (e:x=q) (h:v=.agg [Cb (decide (x.num<0)),c,Cb (decide ((x.den:Int)<0)),d]) (h1:CZ 1 RW z c (toL x.num.natAbs)) (h2:CZ 1 RW z d (toL (x.den:Int).natAbs)):QV z v q:=by
 subst e
 exact ⟨c,d,h,h1,h2⟩
theorem aUC {z:fR} {v:AV} {c d:C} {x y:Int} {q:Rat} (e1:x=q.num) (e2:y=(q.den:Int)) (h:v=.agg [Cb (decide (x<0)),c,Cb (decide (y<0)),d]) (h1:CZ 1 RW z c (toL x.natAbs)) (h2:CZ 1 RW z d (toL y.natAbs)):QV z v q:=by
 subst e1
 subst e2
 exact ⟨c,d,h,h1,h2⟩
theorem bMR {a b:Int} (hb:b≠0) (h:¬ b<0):a.fdiv ((Int.gcd a b:Nat):Int)=(Rat.divInt a b).num∧b.fdiv ((Int.gcd a b:Nat):Int)=((Rat.divInt a b).den:Int):=aYO hb (if_neg h).symm
theorem bT1 {a b:Int} (h:b<0):(-a).fdiv ((Int.gcd a b:Nat):Int)=(Rat.divInt a b).num∧(-b).fdiv ((Int.gcd a b:Nat):Int)=((Rat.divInt a b).den:Int):=by
 have h2 := bMR (a := -a) (b := -b) (by omega) (by omega)
 rwa [Int.gcd_neg,Int.neg_gcd,Rat.neg_divInt_neg] at h2
theorem aUV {k:Nat} (hk:5≤k) {z:fR} {a b:Int} {c1 c2:C} (hx:CZ 1 RW z c1 (toL a.natAbs)) (hy:CZ 1 RW z c2 (toL b.natAbs)) (h1:(toL a.natAbs).length≤100000000) (h2:(toL b.natAbs).length≤100000000):FC (E k) 234 [.agg [Cb (decide (a<0)),c1],.agg [Cb (decide (b<0)),c2]] z fun v _=>v=Ab (decide ((a - b).sign=0)):=by
 refine iI (bAP) (by omega) (dN O) fun B j hj=>?_
 refine xR ?_
 refine kN O fun b2=>?_
 refine kN O fun b3=>?_
 refine R2 4 O (jN O Y1 O (jN O mem0 O ?_))
 refine lZ z (aLE (by omega) hx hy h1 h2) O O fun v7 z7 _ hv7=>?_
 rw [kC,kC] at hv7
 subst hv7
 refine R0 4 O (xT (rI O ?_))
 rfl
theorem aS0 {k:Nat} (hk:6≤k) {z:fR} {n1 n2:Bool} {c1 c2:C} {l1 l2:List UInt32} (hx:CZ 1 RW z c1 l1) (hy:CZ 1 RW z c2 l2) (h1:l1.length≤40000000) (h2:l2.length≤40000000):FC (E k) 145 [.agg [Cb n1,c1,Cb n2,c2]] z fun v _=>v=Ab (yU ((n1,l1),(n2,l2))):=by
 have k1:=Nat.le_trans h1 (show 40000000≤100000000 by decide)
 have k2:=Nat.le_trans h2 (show 40000000≤100000000 by decide)
 have hla:=Dx (n:=n1) (l:=l1)
 have hlb:=Dx (n:=n2) (l:=l2)
 have hlg:=bLh (Nat.le_trans hla k1) (Nat.le_trans hlb k2)
 refine iI (bA8) (by omega) (dN O) fun B j hj=>?_
 refine xR ?_
 refine kN O fun b1=>?_
 refine R2 8 O (jN O mem0 O ?_)
 refine lE z (Qr (by omega) hx) O O fun z5 hz5=>?_
 refine lM O ?_
 refine nV 6 O (fun hg6=>?_) (fun hg6=>?_)
 ·refine lD O (lF O (lD O (jN O mem0 O (lD O ?_))))
  refine lE z5 (Qr (by omega) hy.m) O O fun z9 hz9=>?_
  refine R1 6 O ?_
  refine nV 11 O (fun hg11=>?_) (fun hg11=>?_)
  ·refine lD O (lF O (lD O (jN O mem0 O (lD O ?_))))
   refine lE z9 (A9 (by omega) hy.m k2) O O fun z14 hz14=>?_
   refine R1 12 O ?_
   refine iO 17 O (fun hg17=>?_) (fun hg17=>?_)
   ·refine lD O (lF O (lD O (jN O mem0 O (lD O (lF O (lD O (jN O mem0 O (lD O ?_))))))))
    refine lZ z14 (aBU (by omega) hx.m hy.m k1 k2) O O fun v22 z22 hz22 hv22=>?_
    obtain ⟨c22,hv,h22⟩:=hv22
    subst hv
    have h22:=h22.mono (vS (hz5.trans (hz9.trans hz14)))
    refine lD O ?_
    refine lZ z22 (Y0 (n:=1) (by omega) (by decide) (by decide)) O O fun v23 z23 _ hv23=>?_
    obtain ⟨c23,hv,h23⟩:=hv23
    subst hv
    have h23:=h23.mono (vS (hz5.trans (hz9.trans (hz14.trans hz22))))
    refine lD O ?_
    refine lE z23 (aUV (by omega) h22.m (h23.mono kY) hlg bMs) O O fun z24 _=>?_
    refine R0 6 O (xT ?_)
    exact rI O (cQ (bTw hg6 hg11 hg17))
   refine R0 768 O (xT ?_)
   exact rI O (cQ (bSp hg17))
  refine R0 49184 O (xT ?_)
  exact rI O (cQ (bRJ hg11))
 refine R0 1573904 O (xT ?_)
 exact rI O (cQ (bSl hg6))
theorem aUO {k:Nat} (hk:6≤k) {z:fR}  : FC (E k) 73 [] z fun v z'=>QV (zd z z') v 0:=by
 refine iI (bEV) (by omega) (dN O) fun B j hj=>?_
 refine xR ?_
 refine F3 fun b0=>?_
 refine lN (xR ?_)
 refine lZ z (Y0 (n:=0) (by omega) (by decide) (by decide)) O O fun v1 z1 hz1 hv1=>?_
 obtain ⟨c1,hv,h1⟩:=hv1
 subst hv
 refine lZ z1 (Y0 (n:=1) (by omega) (by decide) (by decide)) O O fun v2 z2 _ hv2=>?_
 obtain ⟨c2,hv,h2⟩:=hv2
 subst hv
 have h2:=h2.mono (vS (hz1))
 refine pR (cs:=[_,_,_,_]) O (uZ O O lR (lN (xT (rQ (.inl O) (rc4 O mem0 rn) ?_))))
 exact aHh (x:=0) (y:=1) (q:=0) rfl rfl (h1.mono (nJ zI)) h2
theorem Ey {k:Nat} (hk:7≤k) {z:fR} {n1 n2:Bool} {c1 c2:C} {l1 l2:List UInt32} (hx:CZ 1 RW z c1 l1) (hy:CZ 1 RW z c2 l2) (h1:l1.length≤40000000) (h2:l2.length≤40000000):FC (E k) 100 [.agg [Cb n1,c1,Cb n2,c2]] z fun v z'=>∀ zz,CZ 1 RW zz c1 l1→CZ 1 RW zz c2 l2→zle (zd z z') zz→QV zz v (valR ((n1,l1),(n2,l2))):=by
 refine iI (bDx) (by omega) (dN O) fun B j hj=>?_
 refine xR ?_
 refine kN O fun b1=>?_
 refine F3 fun b2=>?_
 refine lN (R4 4 O (qZ O Y1 O ?_))
 refine lE z (aS0 (by omega) hx hy h1 h2) O O fun z4 hz4=>?_
 refine R3 4 O ?_
 refine kJ O (fun hc5=>?_) (fun hc5=>?_)
 ·refine R4 4 O ?_
  refine lZ z4 (aUO (by omega)) O O fun v6 z6 _ hv6=>?_
  have hv6:=V7 hv6
  obtain ⟨c6,d6,hv,hm6,hn6⟩:=hv6
  subst hv
  have hm6:=hm6.mono (vS (hz4))
  have hn6:=hn6.mono (vS (hz4))
  refine uZ O O lR (lN (mC (rQ (.inl O) (rc4 O mem0 rn) ?_)))
  intro zz g1 g2 g3
  have hz:=bLI (by simpa using hc5)
  exact bQ8 hz.symm rfl (hm6.mono g3) (hn6.mono g3)
 refine R4 4 O (qZ O Y1 O (uZ O O lR (lN (xT (rQ (.inl O) (rc4 O mem0 rn) ?_)))))
 exact fun zz g1 g2 g3=>aVW (by simpa using hc5) g1 g2
theorem aWE {k:Nat} (hk:8≤k) {z:fR} {a b:Int} {c1 c2:C} (hx:CZ 1 RW z c1 (toL a.natAbs)) (hy:CZ 1 RW z c2 (toL b.natAbs)) (h1:(toL a.natAbs).length≤100000000) (h2:(toL b.natAbs).length≤100000000) (hb:b≠0):FC (E k) 132 [.agg [Cb (decide (a<0)),c1],.agg [Cb (decide (b<0)),c2]] z fun v z'=>∃ w,v=.tup [w,Ai 0]∧QV (zd z z') w (Rat.divInt a b):=by
 have hlg:=bLh h1 h2
 have hgn:((Int.gcd a b:Nat):Int)≠0:=by have:=Int.gcd_pos_of_ne_zero_right a hb;omega
 have g1:(toL (-a).natAbs).length≤100000000:=by rw [Int.natAbs_neg];exact h1
 have g2:(toL (-b).natAbs).length≤100000000:=by rw [Int.natAbs_neg];exact h2
 refine iI (bDk) (by omega) (dN O) fun B j hj=>?_
 refine xR ?_
 refine kN O fun b2=>?_
 refine kN O fun b3=>?_
 refine F3 fun b4=>?_
 refine R2 8 O (jN O Y1 O ?_)
 refine lZ z (A9 (by omega) hy h2) O O fun v14 z14 hz14 hv14=>?_
 rw [kC] at hv14
 subst hv14
 refine R3 4 O ?_
 refine xD O (fun hc15=>?_) (fun hc15=>?_)
 ·exact absurd (Int.sign_eq_zero_iff_zero.1 hc15) hb
 refine R4 8 O (jN O Y1 O ?_)
 refine lZ z14 (A9 (by omega) hy.m h2) O O fun v18 z18 hz18 hv18=>?_
 rw [kC] at hv18
 subst hv18
 refine R3 4 O ?_
 refine xD O (fun hc19=>?_) (fun hc19=>?_)
 ·refine R4 4 O (jN O Y2 O ?_)
  refine lZ z18 (Po (by omega) hx.m h1) O O fun v21 z21 hz21 hv21=>?_
  rw [kC] at hv21
  obtain ⟨c21,hv,h21⟩:=hv21
  subst hv
  have h21:=h21.mono (vS (hz14.trans hz18))
  refine jI O O P2 (lN (xR (jN O Y1 O ?_)))
  refine lZ z21 (Po (by omega) hy.m h2) O O fun v23 z23 hz23 hv23=>?_
  rw [kC] at hv23
  obtain ⟨c23,hv,h23⟩:=hv23
  subst hv
  have h23:=h23.mono (vS (hz14.trans (hz18.trans hz21)))
  refine jI O O P1 (lN (xR (jN O Y2 O (jN O Y1 O ?_))))
  refine lZ z23 (aBU (by omega) h21.m (h23.mono kY) g1 g2) O O fun v26 z26 hz26 hv26=>?_
  rw [kC,kC,Int.gcd_neg,Int.neg_gcd] at hv26
  obtain ⟨c26,hv,h26⟩:=hv26
  subst hv
  have h26:=h26.mono (vS (hz14.trans (hz18.trans (hz21.trans hz23))))
  refine oI fun b6=>?_
  refine jI O O lR (lN (xR (jN O Y3 O (jN O mem0 O ?_))))
  refine lZ z26 (Gk (by omega) h21.m (h26.mono kY) g1 hlg (by rw [kC];omega)) O O fun v30 z30 hz30 hv30=>?_
  rw [kC,kC] at hv30
  obtain ⟨v1,v2,hv,hp30,hr30⟩:=hv30
  subst hv
  obtain ⟨c30,hv,h30⟩:=hp30
  subst hv
  obtain ⟨d30,hv,_⟩:=hr30
  subst hv
  have h30:=h30.mono (vS (hz14.trans (hz18.trans (hz21.trans (hz23.trans hz26)))))
  refine R1 17 O ?_
  refine oI fun b7=>?_
  refine oI fun b8=>?_
  refine jI O O P1 (jI O O lR (R2 5 O (jN O Y4 O (jN O Y2 O ?_))))
  refine lZ z30 (Gk (by omega) h23.m h26.m g2 hlg (by rw [kC];omega)) O O fun v37 z37 hz37 hv37=>?_
  rw [kC,kC] at hv37
  obtain ⟨v1,v2,hv,hp37,hr37⟩:=hv37
  subst hv
  obtain ⟨c37,hv,h37⟩:=hp37
  subst hv
  obtain ⟨d37,hv,_⟩:=hr37
  subst hv
  have h37:=h37.mono (vS (hz14.trans (hz18.trans (hz21.trans (hz23.trans (hz26.trans hz30))))))
  refine R1 17 O ?_
  refine oI fun b10=>?_
  refine oI fun b11=>?_
  refine jI O O P1 (jI O O lR (R2 5 O (jN O Y3 O (jN O Y1 O (pR (cs:=[_,_,_,_]) O (uZ O O (oH (oH P3)) (R0 2 O (xT (rQ (.inl O) (rc4 O (mX Y4) (rt O rn)) ?_)))))))))
  have he:=bT1 (a:=a) (aWJ hc19)
  exact ⟨_,rfl,aUC he.1 he.2 rfl (h30.mono (nJ zI)) h37⟩
 refine R4 4 O (jN O Y2 O (jN O Y1 O ?_))
 refine lZ z18 (aBU (by omega) hx.m hy.m h1 h2) O O fun v26 z26 hz26 hv26=>?_
 rw [kC,kC] at hv26
 obtain ⟨c26,hv,h26⟩:=hv26
 subst hv
 have h26:=h26.mono (vS (hz14.trans hz18))
 refine oI fun b6=>?_
 refine jI O O lR (lN (xR (jN O Y3 O (jN O mem0 O ?_))))
 refine lZ z26 (Gk (by omega) hx.m (h26.mono kY) h1 hlg (by rw [kC];omega)) O O fun v30 z30 hz30 hv30=>?_
 rw [kC,kC] at hv30
 obtain ⟨v1,v2,hv,hp30,hr30⟩:=hv30
 subst hv
 obtain ⟨c30,hv,h30⟩:=hp30
 subst hv
 obtain ⟨d30,hv,_⟩:=hr30
 subst hv
 have h30:=h30.mono (vS (hz14.trans (hz18.trans hz26)))
 refine R1 17 O ?_
 refine oI fun b7=>?_
 refine oI fun b8=>?_
 refine jI O O P1 (jI O O lR (R2 5 O (jN O Y4 O (jN O Y2 O ?_))))
 refine lZ z30 (Gk (by omega) hy.m h26.m h2 hlg (by rw [kC];omega)) O O fun v37 z37 hz37 hv37=>?_
 rw [kC,kC] at hv37
 obtain ⟨v1,v2,hv,hp37,hr37⟩:=hv37
 subst hv
 obtain ⟨c37,hv,h37⟩:=hp37
 subst hv
 obtain ⟨d37,hv,_⟩:=hr37
 subst hv
 have h37:=h37.mono (vS (hz14.trans (hz18.trans (hz26.trans hz30))))
 refine R1 17 O ?_
 refine oI fun b10=>?_
 refine oI fun b11=>?_
 refine jI O O P1 (jI O O lR (R2 5 O (jN O Y3 O (jN O Y1 O (pR (cs:=[_,_,_,_]) O (uZ O O (oH (oH P3)) (R0 2 O (xT (rQ (.inl O) (rc4 O (mX Y4) (rt O rn)) ?_)))))))))
 have he:=bMR (a:=a) hb (aTk hc19)
 exact ⟨_,rfl,aUC he.1 he.2 rfl (h30.mono (nJ zI)) h37⟩
theorem aWA {k:Nat} (hk:9≤k) {z:fR} {n1 n2:Bool} {c1 c2:C} {l1 l2:List UInt32} (hx:CZ 1 RW z c1 l1) (hy:CZ 1 RW z c2 l2) (h1:l1.length≤40000000) (h2:l2.length≤40000000) {n3 n4:Bool} {c3 c4:C} {l3 l4:List UInt32} (hu:CZ 1 RW z c3 l3) (hw:CZ 1 RW z c4 l4) (h3:l3.length≤40000000) (h4:l4.length≤40000000):FC (E k) 64 [.agg [Cb n1,c1,Cb n2,c2],.agg [Cb n3,c3,Cb n4,c4]] z fun v z'=>QV (zd z z') v ((valR ((n1,l1),(n2,l2)))+(valR ((n3,l3),(n4,l4)))):=by
 have em1:=Nat.le_trans (aRm (x:=((n1,l1),(n2,l2)))) h1
 have en1:=Nat.le_trans (aPp (x:=((n1,l1),(n2,l2)))) (Nat.succ_le_succ h2)
 have em2:=Nat.le_trans (aRm (x:=((n3,l3),(n4,l4)))) h3
 have en2:=Nat.le_trans (aPp (x:=((n3,l3),(n4,l4)))) (Nat.succ_le_succ h4)
 have om1:=Nat.le_trans em1 (show 40000000≤100000000 by decide)
 have on1:=Nat.le_trans en1 (show 40000000+1≤100000000 by decide)
 have om2:=Nat.le_trans em2 (show 40000000≤100000000 by decide)
 have on2:=Nat.le_trans en2 (show 40000000+1≤100000000 by decide)
 have m1:=Xn em1 en2
 have m2:=Xn em2 en1
 have m3:=Nat.le_trans (Xn en1 en2) (show 40000000+1+(40000000+1)≤100000000 by decide)
 have m4:=Nat.le_trans (aUk m1 m2) (show 40000000+(40000000+1)+1≤100000000 by decide)
 have m1:=Nat.le_trans m1 (show 40000000+(40000000+1)≤100000000 by decide)
 have m2:=Nat.le_trans m2 (show 40000000+(40000000+1)≤100000000 by decide)
 have d0:=bPp (valR ((n1,l1),(n2,l2))) (valR ((n3,l3),(n4,l4)))
 refine iI (bFm) (by omega) (dN O) fun B j hj=>?_
 refine xR ?_
 refine kN O fun b2=>?_
 refine kN O fun b3=>?_
 refine F3 fun b4=>?_
 refine lN (xR (qZ O Y2 O ?_))
 refine lZ z (Ey (by omega) hx hy h1 h2) O O fun v8 z8 hz8 hv8=>?_
 have hw8:=V7 (hv8 _ hx.m hy.m kY)
 obtain ⟨c8,d8,hv,hm8,hn8⟩:=hw8
 subst hv
 refine uZ O O P2 (lN (xR (qZ O Y1 O ?_)))
 refine lZ z8 (Ey (by omega) hu.m hw.m h3 h4) O O fun v10 z10 hz10 hv10=>?_
 have hw10:=V7 (hv10 _ hu.m hw.m kY)
 obtain ⟨c10,d10,hv,hm10,hn10⟩:=hw10
 subst hv
 refine uZ O O P1 (lN (jF (G1 2 O (O8 O O (.inr Y2) O (G1 2 O (O8 O O (.inr Y1) O ?_))))))
 refine gC z10 (aBY (by omega) hm8.m hn10 om1 on2) O O O O fun v16 z16 hz16 hv16=>?_
 rw [kC,kC] at hv16
 obtain ⟨c16,hv,h16⟩:=hv16
 subst hv
 have h16:=h16.mono (vS (hz8.trans hz10))
 refine G1 2 O (O8 O O (.inr Y1) O (G1 2 O (O8 O O (.inr Y2) O ?_)))
 refine gC z16 (aBY (by omega) hm10.m hn8.m om2 on1) O O O O fun v21 z21 hz21 hv21=>?_
 rw [kC,kC] at hv21
 obtain ⟨c21,hv,h21⟩:=hv21
 subst hv
 have h21:=h21.mono (vS (hz8.trans (hz10.trans hz16)))
 refine gC z21 (aA9 (by omega) h16.m (h21.mono kY) m1 m2) O O O O fun v22 z22 hz22 hv22=>?_
 rw [kC,kC] at hv22
 obtain ⟨c22,hv,h22⟩:=hv22
 subst hv
 have h22:=h22.mono (vS (hz8.trans (hz10.trans (hz16.trans hz21))))
 refine G1 2 O (O8 O O (.inr Y2) O (G1 2 O (O8 O O (.inr Y1) O ?_)))
 refine gC z22 (aBY (by omega) hn8.m hn10.m on1 on2) O O O O fun v27 z27 hz27 hv27=>?_
 rw [kC,kC] at hv27
 obtain ⟨c27,hv,h27⟩:=hv27
 subst hv
 have h27:=h27.mono (vS (hz8.trans (hz10.trans (hz16.trans (hz21.trans hz22)))))
 refine gC z27 (aWE (by omega) h22.m (h27.mono kY) m4 m3 d0) O O O O fun v28 z28 _ hv28=>?_
 rw [bJ5] at hv28
 obtain ⟨w28,hv,hq28⟩:=hv28
 subst hv
 obtain ⟨c28,d28,hv,hm28,hn28⟩:=hq28
 subst hv
 have hm28:=hm28.mono (vS (hz8.trans (hz10.trans (hz16.trans (hz21.trans (hz22.trans hz27))))))
 have hn28:=hn28.mono (vS (hz8.trans (hz10.trans (hz16.trans (hz21.trans (hz22.trans hz27))))))
 refine G1 9 O ?_
 refine gA O O (fun b5 hT5=>?_)
 refine gS O O O (uZ O O lR (lN (G0 3 O (xR (qZ O mem0 O (uZ O O P1 (lN (xT (rQ (.inl O) (rc4 O Y1 rn) ?_)))))))))
 exact ⟨_,_,rfl,hm28,hn28⟩
theorem aWm {k:Nat} (hk:8≤k) {z:fR} {n1 n2:Bool} {c1 c2:C} {l1 l2:List UInt32} (hx:CZ 1 RW z c1 l1) (hy:CZ 1 RW z c2 l2) (h1:l1.length≤40000000) (h2:l2.length≤40000000):FC (E k) 149 [.agg [Cb n1,c1,Cb n2,c2]] z fun v z'=>∀ zz,CZ 1 RW zz c1 l1→CZ 1 RW zz c2 l2→zle (zd z z') zz→QV zz v (-(valR ((n1,l1),(n2,l2)))):=by
 have em1:=Nat.le_trans (aRm (x:=((n1,l1),(n2,l2)))) h1
 have en1:=Nat.le_trans (aPp (x:=((n1,l1),(n2,l2)))) (Nat.succ_le_succ h2)
 have om1:=Nat.le_trans em1 (show 40000000≤100000000 by decide)
 have on1:=Nat.le_trans en1 (show 40000000+1≤100000000 by decide)
 refine iI (bCp) (by omega) (dN O) fun B j hj=>?_
 refine xR ?_
 refine kN O fun b1=>?_
 refine F3 fun b2=>?_
 refine lN (xR (qZ O Y1 O ?_))
 refine lZ z (Ey (by omega) hx hy h1 h2) O O fun v4 z4 hz4 hv4=>?_
 have hw4:=V7 (hv4 _ hx.m hy.m kY)
 obtain ⟨c4,d4,hv,hm4,hn4⟩:=hw4
 subst hv
 refine uZ O O P1 (lN (jF (G1 2 O (O8 O O (.inr Y1) O ?_))))
 refine gC z4 (Po (by omega) hm4 om1) O O O O fun v7 z7 _ hv7=>?_
 rw [kC] at hv7
 obtain ⟨c7,hv,h7⟩:=hv7
 subst hv
 have h7:=h7.mono (vS (hz4))
 refine G1 2 O (O8 O O (.inr Y1) O (gP O O F ?_))
 refine pR (cs:=[_,_,_,_]) O (lN ?_)
 refine gS O O O (uZ O O lR (lN (nQ (xT (rQ (.inl O) (rc4 O mem0 rn) ?_)))))
 intro zz g1 g2 g3
 exact aUC (Rat.neg_num _).symm (by rw [Rat.neg_den]) rfl (h7.mono g3) (bNc (hv4 zz g1 g2 ((nJ zI).trans g3)))
theorem aGy {k:Nat} (hk:8≤k) {z:fR} {n1 n2:Bool} {c1 c2:C} {l1 l2:List UInt32} (hx:CZ 1 RW z c1 l1) (hy:CZ 1 RW z c2 l2) (h1:l1.length≤40000000) (h2:l2.length≤40000000):FC (E k) 146 [.agg [Cb n1,c1,Cb n2,c2]] z fun v _=>v=.c (.v (.int .i64 ((valR ((n1,l1),(n2,l2)))).num.sign)):=by
 have em1:=Nat.le_trans (aRm (x:=((n1,l1),(n2,l2)))) h1
 have en1:=Nat.le_trans (aPp (x:=((n1,l1),(n2,l2)))) (Nat.succ_le_succ h2)
 have om1:=Nat.le_trans em1 (show 40000000≤100000000 by decide)
 have on1:=Nat.le_trans en1 (show 40000000+1≤100000000 by decide)
 refine iI (bCV) (by omega) (dN O) fun B j hj=>?_
 refine xR ?_
 refine kN O fun b1=>?_
 refine R2 4 O (qZ O mem0 O ?_)
 refine lZ z (Ey (by omega) hx hy h1 h2) O O fun v4 z4 _ hv4=>?_
 have hw4:=V7 (hv4 _ hx.m hy.m kY)
 obtain ⟨c4,d4,hv,hm4,hn4⟩:=hw4
 subst hv
 refine aMF O O ?_
 refine lZ z4 (A9 (by omega) hm4 om1) O O fun v6 z6 _ hv6=>?_
 rw [kC] at hv6
 refine R0 3 O (xT ?_)
 exact rI O hv6
theorem aVQ {k:Nat} (hk:10≤k) {z:fR} {n1 n2:Bool} {c1 c2:C} {l1 l2:List UInt32} (hx:CZ 1 RW z c1 l1) (hy:CZ 1 RW z c2 l2) (h1:l1.length≤19000000) (h2:l2.length≤19000000) {n3 n4:Bool} {c3 c4:C} {l3 l4:List UInt32} (hu:CZ 1 RW z c3 l3) (hw:CZ 1 RW z c4 l4) (h3:l3.length≤19000000) (h4:l4.length≤19000000):FC (E k) 76 [.agg [Cb n1,c1,Cb n2,c2],.agg [Cb n3,c3,Cb n4,c4]] z fun v z'=>QV (zd z z') v ((valR ((n1,l1),(n2,l2))) - (valR ((n3,l3),(n4,l4)))):=by
 have k1:=Nat.le_trans h1 (show 19000000≤40000000 by decide)
 have k2:=Nat.le_trans h2 (show 19000000≤40000000 by decide)
 have k3:=Nat.le_trans h3 (show 19000000≤40000000 by decide)
 have k4:=Nat.le_trans h4 (show 19000000≤40000000 by decide)
 have em2:(toL (-(valR ((n3,l3),(n4,l4)))).num.natAbs).length≤40000000:=by rw [Rat.neg_num,Int.natAbs_neg];exact Nat.le_trans aRm k3
 have en2:(toL ((-(valR ((n3,l3),(n4,l4)))).den:Int).natAbs).length≤40000000:=by rw [Rat.neg_den];exact Nat.le_trans aPp (Nat.le_trans (Nat.succ_le_succ h4) (by decide))
 refine iI (bIh) (by omega) (dN O) fun B j hj=>?_
 refine xR ?_
 refine kN O fun b2=>?_
 refine kN O fun b3=>?_
 refine F3 fun b4=>?_
 refine lN (jF (gl4 O O (.inr Y2) O (gl4 O O (.inr Y1) O ?_)))
 refine gC z (aWm (by omega) hu hw k3 k4) O O O O fun v7 z7 hz7 hv7=>?_
 have hw7:=V7 (hv7 _ hu.m hw.m kY)
 obtain ⟨c7,d7,hv,hm7,hn7⟩:=hw7
 subst hv
 refine gC z7 (aWA (by omega) hx.m hy.m k1 k2 hm7 hn7 em2 en2) O O O O fun v8 z8 _ hv8=>?_
 rw [bEo,← Rat.sub_eq_add_neg] at hv8
 have hv8:=V7 hv8
 obtain ⟨c8,d8,hv,hm8,hn8⟩:=hv8
 subst hv
 have hm8:=hm8.mono (vS (hz7))
 have hn8:=hn8.mono (vS (hz7))
 refine gS O O O (uZ O O lR (lN (nQ (xT (rQ (.inl O) (rc4 O mem0 rn) ?_)))))
 exact ⟨_,_,rfl,hm8,hn8⟩
theorem aWh {k:Nat} (hk:11≤k) {z:fR} {n1 n2:Bool} {c1 c2:C} {l1 l2:List UInt32} (hx:CZ 1 RW z c1 l1) (hy:CZ 1 RW z c2 l2) (h1:l1.length≤19000000) (h2:l2.length≤19000000) {n3 n4:Bool} {c3 c4:C} {l3 l4:List UInt32} (hu:CZ 1 RW z c3 l3) (hw:CZ 1 RW z c4 l4) (h3:l3.length≤19000000) (h4:l4.length≤19000000):FC (E k) 148 [.agg [Cb n1,c1,Cb n2,c2],.agg [Cb n3,c3,Cb n4,c4]] z fun v _=>v=.c (.v (.int .i64 ((valR ((n1,l1),(n2,l2))) - (valR ((n3,l3),(n4,l4)))).num.sign)):=by
 have s1:=bJR (Nat.le_trans (aRm (x:=((n1,l1),(n2,l2)))) h1) (Nat.le_trans (aPp (x:=((n1,l1),(n2,l2)))) (Nat.succ_le_succ h2)) (Nat.le_trans (aRm (x:=((n3,l3),(n4,l4)))) h3) (Nat.le_trans (aPp (x:=((n3,l3),(n4,l4)))) (Nat.succ_le_succ h4))
 have s2:=Nat.le_trans s1.2 (show 19000000+1+(19000000+1)≤40000000 by decide)
 have s1:=Nat.le_trans s1.1 (show 19000000+(19000000+1)+1≤40000000 by decide)
 refine iI (bBz) (by omega) (dN O) fun B j hj=>?_
 refine xR ?_
 refine kN O fun b2=>?_
 refine kN O fun b3=>?_
 refine R2 4 O (qZ O Y1 O (qZ O mem0 O ?_))
 refine lZ z (aVQ (by omega) hx hy h1 h2 hu hw h3 h4) O O fun v7 z7 _ hv7=>?_
 have hv7:=V7 hv7
 obtain ⟨c7,d7,hv,hm7,hn7⟩:=hv7
 subst hv
 refine lZ z7 (aGy (by omega) (hm7.mono kY) (hn7.mono kY) s1 s2) O O fun v8 z8 _ hv8=>?_
 rw [bEo] at hv8
 refine R0 3 O (xT ?_)
 exact rI O hv8
open Go.CE Go.RowKit Go.Num
open Go.Eng (mR)
theorem aKW {k:Nat} (hk:1≤k) {z:fR} {v:AV} {l:List UInt32} (hx:SZ 1 RW z v l) (hl:l.length≤1000000000):FC (E k) 128 [v] z fun v' z'=>SZ 1 RW (zd z z') v' l:=by
 refine iI (bBx) (by omega) (dN O) fun B j hj=>?_
 refine R4 32 O (uE 117 1 (R1 6 O ?_))
 refine aT4 (r:=[]) O O hx (fun _=>lR) (by simp only [List.length_nil];omega) (by simp only [List.length_nil];omega) fun c6 hc6=>?_
 refine Bw z z (p:=[]) O O zI (by simp only [List.length_append,List.length_nil];omega) fun zf6 _ hf6=>?_
 refine R0 2 O (xT ?_)
 exact rI O hf6
theorem aE8 {k:Nat} (hk:2≤k) {z:fR} {n1 n2:Bool} {c1 c2:C} {l1 l2:List UInt32} (hx:CZ 1 RW z c1 l1) (hy:CZ 1 RW z c2 l2) (h1:l1.length≤1000000000) (h2:l2.length≤1000000000):FC (E k) 61 [.agg [Cb n1,c1,Cb n2,c2]] z fun v z'=>∃ c d,v=.agg [Cb n1,c,Cb n2,d]∧CZ 1 RW (zd z z') c l1∧CZ 1 RW (zd z z') d l2:=by
 refine iI (bEj) (by omega) (dN O) fun B j hj=>?_
 refine xR ?_
 refine kN O fun b1=>?_
 refine F3 fun b2=>?_
 refine lN (jF (G1 4 O (wM O O (.inr Y1) O (G1 4 O (wM O O (.inr Y1) O ?_)))))
 refine gC z (aKW (by omega) hx h1) O O O O fun v9 z9 hz9 h9=>?_
 obtain ⟨c9,rfl,_⟩:=h9.one
 have h9:CZ 1 RW _ c9 _:=h9
 refine gP O O F ?_
 refine pR (cs:=[_,_]) O (lN ?_)
 refine G1 4 O (wM O O (.inr Y1) O (G1 4 O (wM O O (.inr Y1) O ?_)))
 refine gC z9 (aKW (by omega) hy.m h2) O O O O fun v17 z17 _ h17=>?_
 obtain ⟨c17,rfl,_⟩:=h17.one
 have h17:=h17.mono (vS (hz9))
 have h17:CZ 1 RW _ c17 _:=h17
 refine gP O O F ?_
 refine pR (cs:=[_,_]) O (lN ?_)
 refine gP O O F ?_
 refine pR (cs:=[_,_,_,_]) O (lN ?_)
 refine gS O O O (uZ O O lR (lN (nQ (xT (rQ (.inl O) (rc4 O mem0 rn) ?_)))))
 exact ⟨_,_,rfl,(h9.mono (nJ zI)),h17⟩
end Go.Proofs.YtlceligcgelbdaaGreat

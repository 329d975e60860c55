/- The references' naturals and rationals, walked (2). -/
import Derived.WalkKit
import Derived.Orders
import Derived.Test.YtcnpoojdochapaaGreatDoorLD3
set_option linter.unusedVariables false
set_option linter.unusedSimpArgs false
set_option maxRecDepth 100000
set_option maxHeartbeats 1000000
namespace Go.Proofs.YtcnpoojdochapaaGreatDoor
open Go.CE Go.RowKit Go.Num
open Go.Eng (setL)
theorem fg_part {call:Call'} {B:Base} {an:List Nat} {j:Nat} {l:List CE.D} {fs:Sf} {tag last:Nat} {pj:List Nat} {Q:Sf→Prop} {b:Nat} {k0:Blk} {p q:List HA} (e:fs.H=p++.blk b k0::q) (h:(∀ k,¬ tz fs.z (p++q) b k)→FG call B an j l fs (tz fs.z (p++q)) tag last pj [] Q):FG call B an j l fs (tz fs.z fs.H) tag last pj [] Q:=fun a r=>by
  have hsub:∀ b k,tz fs.z (p++q) b k→tz fs.z fs.H b k:=fun b k ht=>ht.imp id fun hm=>by
    rw [e]
    rcases List.mem_append.1 hm with hm | hm
    · exact List.mem_append.2 (.inl hm)
    · exact List.mem_append.2 (.inr (List.mem_cons_of_mem _ hm))
  refine h ?_ a ⟨r.rf,r.hd,fun x hx b k ht=>r.t0 x hx b k (hsub b k ht),fun b k ht=>r.tlt b k (hsub b k ht),fun x hx k ht=>r.np x hx k (hsub _ k ht),fun x hx=>absurd (r.fl x hx).1 List.not_mem_nil,r.last,r.pj,r.plt⟩
  intro k ht
  have hnd:=r.rf.hold.nd
  rcases ht with ht | ht
  · exact (r.rf.hold.z b k ht).2.2 (by show b∈fps fs.H;rw [e,fps_app,fps_cons];simp [HA.fp])
  · have hm : b ∈ fps (p ++ q) := List.mem_flatMap.2 ⟨_, ht, by simp [HA.fp]⟩
    replace hnd:(fps fs.H).Nodup:=hnd
    rw [e,fps_app,fps_cons] at hnd
    rw [fps_app] at hm
    have h2:=List.nodup_append.1 hnd
    rcases List.mem_append.1 hm with hm | hm
    · exact h2.2.2 b hm b (by simp [HA.fp]) rfl
    · have h3:=List.nodup_append.1 h2.2.1
      exact h3.2.2 b (by simp [HA.fp]) b hm rfl
theorem trunc_key {A B:Int} (hB:B≠0):sgn (decide (A<0)) (A.natAbs % B.natAbs)+B * sgn (!decide (decide (A<0)=decide (B<0))) (A.natAbs / B.natAbs)=A∧(sgn (decide (A<0)) (A.natAbs % B.natAbs)).natAbs<B.natAbs:=by
  refine ⟨?_,by rw [sgn_abs];exact Nat.mod_lt _ (by omega)⟩
  have h:=Nat.div_add_mod A.natAbs B.natAbs
  have e:((B.natAbs * (A.natAbs / B.natAbs):Nat):Int)=(B.natAbs:Int) * ((A.natAbs / B.natAbs:Nat):Int):=Int.natCast_mul _ _
  generalize A.natAbs / B.natAbs=q at *
  generalize A.natAbs % B.natAbs=r at *
  generalize hp:B.natAbs * q=pq at *
  unfold sgn
  rcases Int.lt_or_le A 0 with ha | ha<;>rcases Int.lt_or_le B 0 with hb | hb
  · rw [decide_eq_true ha,decide_eq_true hb]
    have:(B.natAbs:Int) = -B:=by omega
    rw [this,Int.neg_mul] at e
    simp only [decide_true,Bool.not_true,if_true,Bool.false_eq_true,if_false]
    omega
  · rw [decide_eq_true ha, decide_eq_false (show ¬ B < 0 by omega)]
    have:(B.natAbs:Int)=B:=by omega
    rw [this] at e
    simp only [Bool.true_eq_false,decide_false,Bool.not_false,if_true,Int.mul_neg]
    omega
  · rw [decide_eq_false (show ¬ A < 0 by omega), decide_eq_true hb]
    have:(B.natAbs:Int) = -B:=by omega
    rw [this,Int.neg_mul] at e
    simp only [Bool.false_eq_true,decide_false,Bool.not_false,if_true,if_false,Int.mul_neg]
    omega
  · rw [decide_eq_false (show ¬ A < 0 by omega), decide_eq_false (show ¬ B < 0 by omega)]
    have:(B.natAbs:Int)=B:=by omega
    rw [this] at e
    simp only [decide_true,Bool.not_true,Bool.false_eq_true,if_false]
    omega
theorem iv_fin3 {z:Mem} {v:AV} {c:C} {x y:Int} (e:x=y) (h:v=.agg [.v (.bool (decide (x<0))),c]) (hq:CZ 1 RW z c (toL x.natAbs)):IV z v y:=by
 subst e
 exact ⟨c,h,hq⟩
theorem sign_cases (a:Int):(a<0∧a.sign = -1)∨(a=0∧a.sign=0)∨(0<a∧a.sign=1):=by
 rcases Int.lt_trichotomy a 0 with h | h | h
 ·exact .inl ⟨h,Int.sign_eq_neg_one_of_neg h⟩
 ·exact .inr (.inl ⟨h,by rw [h];rfl⟩)
 ·exact .inr (.inr ⟨h,Int.sign_eq_one_of_pos h⟩)
theorem adj_ok {A B q r:Int} (hb:B≠0) (h:r+B * q=A∧r.natAbs<B.natAbs) (h1:¬ r.sign=0) (h2:¬ r.sign=B.sign):q - 1=A.fdiv B∧r+B=A.fmod B:=by
 refine fdiv_key hb ?_ ?_
 ·rw [Int.mul_sub,Int.mul_one,← h.1];omega
 ·have:=h.2
  rcases sign_cases r with ⟨h3,h4⟩ | ⟨h3,h4⟩ | ⟨h3,h4⟩<;>rcases sign_cases B with ⟨h5,h6⟩ | ⟨h5,h6⟩ | ⟨h5,h6⟩<;>constructor<;>intro<;>omega
theorem noadj_ok {A B q r:Int} (hb:B≠0) (h:r+B * q=A∧r.natAbs<B.natAbs) (h1:r.sign=0∨r.sign=B.sign):q=A.fdiv B∧r=A.fmod B:=by
 refine fdiv_key hb h.1 ?_
 have:=h.2
 rcases sign_cases r with ⟨h3,h4⟩ | ⟨h3,h4⟩ | ⟨h3,h4⟩<;>rcases sign_cases B with ⟨h5,h6⟩ | ⟨h5,h6⟩ | ⟨h5,h6⟩<;>constructor<;>intro<;>omega
theorem lenO1:(toL (1:Int).natAbs).length≤100000000:=Nat.le_trans (m:=1) (toL_len.2 (by decide)) (by decide)
theorem hpos {n:Nat} (h:0<(toH n).length):0<n:=by
 rcases Nat.eq_zero_or_pos n with rfl | h0
 ·rw [toH_zero] at h;simp at h
 ·exact h0
theorem hzero {n:Nat} (h:(toH n).length=0):n=0:=by
 rcases Nat.eq_zero_or_pos n with h0 | h0
 ·exact h0
 ·rw [toH_pos h0] at h;simp at h
theorem c_ref03_DivMod {k:Nat} (hk:7≤k) {z:Mem} {n1:Bool} {c1:C} {l1:List UInt32} (hx:CZ 1 RW z c1 l1) {n2:Bool} {c2:C} {l2:List UInt32} (hy:CZ 1 RW z c2 l2) (h1:l1.length≤100000000) (h2:l2.length≤100000000) (hb:valI (n2,l2)≠0):FC (E k) 111 [.agg [.v (.bool n1),c1],.agg [.v (.bool n2),c2]] z fun v z'=>∃ v1 v2,v=.tup [v1,v2,.c (.v (.int .i64 0))]∧IV (zd z z') v1 ((valI (n1,l1)).fdiv (valI (n2,l2)))∧IV (zd z z') v2 ((valI (n1,l1)).fmod (valI (n2,l2))):=by
 have e1:=Nat.le_trans (lenI (n:=n1) (l:=l1)) h1
 have e2:=Nat.le_trans (lenI (n:=n2) (l:=l2)) h2
 have f1:=hlenL e1
 have f2:=hlenL e2
 have hbp:0<(valI (n2,l2)).natAbs:=by omega
 have hml:=hlen_le (Nat.le_of_lt (Nat.mod_lt (valI (n1,l1)).natAbs hbp))
 have hdl:=hlen_le (Nat.div_le_self (valI (n1,l1)).natAbs (valI (n2,l2)).natAbs)
 have gml:=len_le (Nat.le_of_lt (Nat.mod_lt (valI (n1,l1)).natAbs hbp))
 have gdl:=len_le (Nat.div_le_self (valI (n1,l1)).natAbs (valI (n2,l2)).natAbs)
 have hql:(toL (sgn (!decide (decide (valI (n1,l1)<0)=decide (valI (n2,l2)<0))) ((valI (n1,l1)).natAbs / (valI (n2,l2)).natAbs)).natAbs).length≤100000000:=by rw [sgn_abs];exact Nat.le_trans gdl e1
 have hrl:(toL (sgn (decide (valI (n1,l1)<0)) ((valI (n1,l1)).natAbs % (valI (n2,l2)).natAbs)).natAbs).length≤100000000:=by rw [sgn_abs];exact Nat.le_trans gml e2
 have htk:=trunc_key (A:=valI (n1,l1)) (B:=valI (n2,l2)) hb
 refine fc_of (tS_get111) (by omega) (len1 rfl) fun B j hj=>?_
 refine xR ?_
 refine fl_bx rfl fun b2=>?_
 refine fl_bx rfl fun b3=>?_
 refine fl_al2 fun b4=>?_
 refine fl_al2 fun b5=>?_
 refine lC rfl (lN (xR (fl_ld2 rfl (memS (memS (memS mem0))) rfl ?_)))
 refine lZ z (c_ref03_plain (by omega) hx) rfl rfl fun v12 z12 hz12 hv12=>?_
 obtain ⟨c12,rfl,hq12⟩:=hv12
 have h12:=hq12 _ (hx.mono (hz12))
 refine fl_st2 rfl rfl (repS (repS (repS rep0))) (lN (xR (fl_ld2 rfl (memS (memS mem0)) rfl ?_)))
 refine lZ z12 (c_ref03_plain (by omega) (hy.mono (hz12))) rfl rfl fun v14 z14 hz14 hv14=>?_
 obtain ⟨c14,rfl,hq14⟩:=hv14
 have h14:=hq14 _ (hy.mono (hz12.trans hz14))
 refine fl_st2 rfl rfl (repS (repS rep0)) (lN (fx_ss (xR (lF rfl (fl_ld1 rfl (memS (memS mem0)) rfl (fl_lenS rfl h14 (lB rfl rfl (b_eql _ _ _) ?_)))))))
 refine lN (fx_cseq ?_)
 refine xD rfl (fun hc18=>?_) (fun hc18=>?_)
 ·exact absurd (zero_of_toL (n:=(valI (n2,l2)).natAbs) (by omega)) (by omega)
 ·refine fx_kseq (fx_drwS (gP rfl rfl trivial ?_))
  refine lF rfl (lN ?_)
  refine fg_ld1 (i:=⟨_,_,.load _ _ _⟩) rfl rfl trivial rfl (.inr (memS (memS (memS mem0)))) rfl (by simp [sameA,sameL,sI,sB,sameC_nil,hx.refl,hy.refl,h12.refl,h14.refl]) ?_
  refine gZ z14 (i:=⟨_,_,.call _ _⟩) (c_ref03_halves (by omega) (h12.mono (hz14)) (by omega)) rfl rfl trivial rfl rfl rfl rfl fun v24 z24 hz24 h24=>?_
  have h24:=h24.mono (zA (hz12.trans hz14))
  rw [val_toL] at h24
  refine gP rfl rfl trivial ?_
  refine lF rfl (lN ?_)
  refine fg_ld1 (i:=⟨_,_,.load _ _ _⟩) rfl rfl trivial rfl (.inr (memS (memS mem0))) rfl (by simp [sameA,sameL,sI,sB,sameC_nil,hx.refl,hy.refl,h12.refl,h14.refl]) ?_
  refine gZ z24 (i:=⟨_,_,.call _ _⟩) (c_ref03_halves (by omega) (h14.mono (hz24)) (by omega)) rfl rfl trivial rfl rfl rfl rfl fun v27 z27 hz27 h27=>?_
  have h27:=h27.mono (zA (hz12.trans (hz14.trans hz24)))
  rw [val_toL] at h27
  refine gZ z27 (i:=⟨_,_,.call _ _⟩) (c_ref03_parts (by omega) (ok_toH _) (h24.mono (zd_le.trans (hz27))) (h27.mono zd_le) hbp (by omega) (by omega)) rfl rfl trivial rfl rfl rfl rfl fun v28 z28 hz28 hv28=>?_
  obtain ⟨q28,r28,hv,hq28,hr28⟩:=hv28
  subst hv
  rw [hv_toH] at hq28 hr28
  refine gP rfl rfl trivial ?_
  refine lM rfl (lN ?_)
  refine gP rfl rfl trivial ?_
  refine fl_ext rfl rfl (lN ?_)
  refine gP rfl rfl trivial ?_
  refine fl_ext rfl rfl (lN ?_)
  refine gP rfl rfl trivial ?_
  refine lM rfl (lN ?_)
  refine gP rfl rfl trivial ?_
  refine lM rfl (lN ?_)
  refine fg_nil (fx_drwS (gP rfl rfl trivial ?_))
  refine lF rfl (lN ?_)
  refine fg_ld1 (i:=⟨_,_,.load _ _ _⟩) rfl rfl trivial rfl (.inr (memS (memS (memS mem0)))) rfl (by simp [sameA,sameL,sI,sB,sameC_nil,hx.refl,hy.refl,h12.refl,h14.refl]) ?_
  refine gP rfl rfl trivial ?_
  refine lF rfl (lN ?_)
  refine fg_ld1 (i:=⟨_,_,.load _ _ _⟩) rfl rfl trivial rfl (.inr (memS (memS mem0))) rfl (by simp [sameA,sameL,sI,sB,sameC_nil,hx.refl,hy.refl,h12.refl,h14.refl]) ?_
  refine gP rfl rfl trivial ?_
  refine fl_binB rfl rfl (b_neqB _ _) (lN ?_)
  refine gP rfl rfl trivial ?_
  refine lM rfl (lN ?_)
  refine gZ z28 (i:=⟨_,_,.call _ _⟩) (c_ref03_limbs (by omega) (ok_toH _) hq28 (by omega)) rfl rfl trivial rfl rfl rfl rfl fun v37 z37 hz37 h37=>?_
  rw [pairs_toH] at h37
  obtain ⟨c37,rfl,_⟩:=h37.one
  have h37:=h37.mono (zA (hz12.trans (hz14.trans (hz24.trans (hz27.trans hz28)))))
  refine gZ z37 (i:=⟨_,_,.call _ _⟩) (c_ref03_made (by omega) (h37.mono zd_le) (by omega)) rfl rfl trivial rfl rfl rfl rfl fun v38 z38 hz38 hv38=>?_
  rw [val_toL] at hv38
  obtain ⟨c38,rfl,h38⟩:=hv38
  have h38:=h38.mono (zA (hz12.trans (hz14.trans (hz24.trans (hz27.trans (hz28.trans hz37))))))
  refine gP rfl rfl trivial ?_
  refine lF rfl (lN ?_)
  refine fg_ld1 (i:=⟨_,_,.load _ _ _⟩) rfl rfl trivial rfl (.inr (memS (memS (memS mem0)))) rfl (by simp [sameA,sameL,sI,sB,sameC_nil,hx.refl,hy.refl,h12.refl,h14.refl,h38.refl]) ?_
  refine gP rfl rfl trivial ?_
  refine lM rfl (lN ?_)
  refine gZ z38 (i:=⟨_,_,.call _ _⟩) (c_ref03_limbs (by omega) (ok_toH _) (hr28.mono (hz37.trans hz38)) (by omega)) rfl rfl trivial rfl rfl rfl rfl fun v42 z42 hz42 h42=>?_
  rw [pairs_toH] at h42
  obtain ⟨c42,rfl,_⟩:=h42.one
  have h42:=h42.mono (zA (hz12.trans (hz14.trans (hz24.trans (hz27.trans (hz28.trans (hz37.trans hz38)))))))
  refine gZ z42 (i:=⟨_,_,.call _ _⟩) (c_ref03_made (by omega) (h42.mono zd_le) (by omega)) rfl rfl trivial rfl rfl rfl rfl fun v43 z43 hz43 hv43=>?_
  rw [val_toL] at hv43
  obtain ⟨c43,rfl,h43⟩:=hv43
  have h43:=h43.mono (zA (hz12.trans (hz14.trans (hz24.trans (hz27.trans (hz28.trans (hz37.trans (hz38.trans hz42))))))))
  refine fg_own (k:=.cells 28 [.v ((.bool false)),.v ((.slice none 0 0))]) (w:=fun b=>.c (.ptr b 0)) rfl trivial rfl (fun _=>rfl) (fun st hst=>rfl) (fun b9 hT9=>?_)
  refine fg_own (k:=.cells 28 [.v ((.bool false)),.v ((.slice none 0 0))]) (w:=fun b=>.c (.ptr b 0)) rfl trivial rfl (fun _=>rfl) (fun st hst=>rfl) (fun b10 hT10=>?_)
  refine fg_store (i:=⟨_,_,.store _ _ _⟩) rfl trivial rfl rfl rfl rfl ?_
  refine fl_st2 rfl rfl (repS rep0) (lN ?_)
  refine fg_store (i:=⟨_,_,.store _ _ _⟩) rfl trivial rfl rfl rfl rfl ?_
  refine fl_st2 rfl rfl rep0 (lN (fg_nil (fx_ss (fx_drwS ?_))))
  refine fg_ld2 (i:=⟨_,_,.load _ _ _⟩) rfl rfl trivial rfl (.inr mem0) rfl (by simp [sameA,sameL,sI,sB,sameC_nil,hx.refl,hy.refl,h12.refl,h14.refl,h38.refl,h43.refl]) ?_
  refine gZ z43 (i:=⟨_,_,.call _ _⟩) (c_ref03_Sign (by omega) (h43.mono zd_le) hrl) rfl rfl trivial rfl rfl rfl rfl fun v45 z45 hz45 hv45=>?_
  rw [valI_c] at hv45
  subst hv45
  refine gP rfl rfl trivial ?_
  refine lB rfl rfl (b_neq _ _ _) (lN ?_)
  refine gP rfl rfl trivial ?_
  refine lC rfl (lN ?_)
  refine fg_splitN 47 rfl (fun hg47=>?_) (fun hg47=>?_)
  ·refine fg_ld2 (i:=⟨_,_,.load _ _ _⟩) rfl rfl rfl rfl (.inr mem0) rfl (by simp [sameA,sameL,sI,sB,sameC_nil,hx.refl,hy.refl,h12.refl,h14.refl,h38.refl,h43.refl]) ?_
   refine gZ z45 (i:=⟨_,_,.call _ _⟩) (c_ref03_Sign (by omega) (h43.mono (zd_le.trans (hz45))) hrl) rfl rfl rfl rfl rfl rfl rfl fun v49 z49 hz49 hv49=>?_
   rw [valI_c] at hv49
   subst hv49
   refine fg_ld2 (i:=⟨_,_,.load _ _ _⟩) rfl rfl rfl rfl (.inr (memS (memS (memS (memS mem0))))) rfl (by simp [sameA,sameL,sI,sB,sameC_nil,hx.refl,hy.refl,h12.refl,h14.refl,h38.refl,h43.refl]) ?_
   refine gZ z49 (i:=⟨_,_,.call _ _⟩) (c_ref03_Sign (by omega) (h14.mono (hz24.trans (hz27.trans (hz28.trans (hz37.trans (hz38.trans (hz42.trans (hz43.trans (hz45.trans hz49))))))))) e2) rfl rfl rfl rfl rfl rfl rfl fun v51 z51 hz51 hv51=>?_
   rw [valI_c] at hv51
   subst hv51
   refine gP rfl rfl rfl ?_
   refine lB rfl rfl (b_neq _ _ _) (lN ?_)
   refine gP rfl rfl trivial ?_
   refine lP rfl rfl (lN ?_)
   refine fg_nil (fx_cseq ?_)
   refine fx_condN rfl (fun hc53=>?_) (fun hc53=>?_)
   ·refine fx_ss (fx_drwS ?_)
    refine fg_ld2 (i:=⟨_,_,.load _ _ _⟩) rfl rfl trivial rfl (.inr (memS mem0)) rfl (by simp [sameA,sameL,sI,sB,sameC_nil,hx.refl,hy.refl,h12.refl,h14.refl,h38.refl,h43.refl]) ?_
    refine gZ z51 (i:=⟨_,_,.call _ _⟩) (c_ref03_Of (n:=1) (by omega) (by decide) (by decide)) rfl rfl trivial rfl rfl rfl rfl fun v55 z55 hz55 hv55=>?_
    obtain ⟨c55,hv,h55⟩:=hv55
    subst hv
    have h55:=h55.mono (zA (hz12.trans (hz14.trans (hz24.trans (hz27.trans (hz28.trans (hz37.trans (hz38.trans (hz42.trans (hz43.trans (hz45.trans (hz49.trans hz51))))))))))))
    refine gZ z55 (i:=⟨_,_,.call _ _⟩) (c_ref03_Sub (by omega) (h38.mono (zd_le.trans (hz42.trans (hz43.trans (hz45.trans (hz49.trans (hz51.trans hz55))))))) (h55.mono zd_le) hql lenO1) rfl rfl trivial rfl rfl rfl rfl fun v56 z56 hz56 hv56=>?_
    rw [valI_c,valI_c] at hv56
    obtain ⟨c56,hv,h56⟩:=hv56
    subst hv
    have h56:=h56.mono (zA (hz12.trans (hz14.trans (hz24.trans (hz27.trans (hz28.trans (hz37.trans (hz38.trans (hz42.trans (hz43.trans (hz45.trans (hz49.trans (hz51.trans hz55)))))))))))))
    refine fg_store (i:=⟨_,_,.store _ _ _⟩) rfl trivial rfl rfl rfl rfl ?_
    refine fl_st2 rfl rfl (repS rep0) (lN (fg_nil (xR (fl_ld2 rfl mem0 rfl (fl_ld2 rfl (memS (memS (memS (memS mem0)))) rfl ?_)))))
    refine lZ z56 (c_ref03_Add (by omega) (h43.mono (zd_le.trans (hz45.trans (hz49.trans (hz51.trans (hz55.trans hz56)))))) (h14.mono (hz24.trans (hz27.trans (hz28.trans (hz37.trans (hz38.trans (hz42.trans (hz43.trans (hz45.trans (hz49.trans (hz51.trans (hz55.trans hz56)))))))))))) hrl e2) rfl rfl fun v59 z59 hz59 hv59=>?_
    rw [valI_c,valI_c] at hv59
    obtain ⟨c59,hv,h59⟩:=hv59
    subst hv
    have h59:=h59.mono (zA (hz12.trans (hz14.trans (hz24.trans (hz27.trans (hz28.trans (hz37.trans (hz38.trans (hz42.trans (hz43.trans (hz45.trans (hz49.trans (hz51.trans (hz55.trans hz56))))))))))))))
    refine fl_st2 rfl rfl rep0 (lN (fx_drwS ?_))
    refine fg_part (p:=[_,_,_]) rfl fun hT4=>?_
    refine fg_ld2 (i:=⟨_,_,.load _ _ _⟩) rfl rfl trivial rfl (.inr (memS mem0)) rfl (by simp [sameA,sameL,sI,sB,sameC_nil,hx.refl,hy.refl,h12.refl,h14.refl,h38.refl,h43.refl,h55.refl,h56.refl,h59.refl]) ?_
    refine fg_ld2 (i:=⟨_,_,.load _ _ _⟩) rfl rfl trivial rfl (.inr mem0) rfl (by simp [sameA,sameL,sI,sB,sameC_nil,hx.refl,hy.refl,h12.refl,h14.refl,h38.refl,h43.refl,h55.refl,h56.refl,h59.refl]) ?_
    refine fg_storeT (i:=⟨_,_,.store _ _ _⟩) rfl trivial rfl rfl rfl hT4 ?_
    refine fl_st2 rfl rfl (repS (repS (repS rep0))) (lN ?_)
    refine fg_store (i:=⟨_,_,.store _ _ _⟩) rfl trivial rfl rfl rfl rfl ?_
    refine fl_st2 rfl rfl (repS (repS rep0)) (lN (gP rfl rfl trivial ?_))
    refine lC rfl (lN ?_)
    refine fg_nil (xT (rQ (.inl rfl) (rc2 rfl (memS (memS (memS mem0))) (rc2 rfl (memS (memS mem0)) (rt rfl rn))) ?_))
    have he:=adj_ok hb htk hg47 hc53
    exact ⟨_,_,rfl,iv_fin3 he.1 rfl (h56.mono (zd_mono (hz59))),iv_fin3 he.2 rfl h59⟩
   ·refine fx_kseq (fx_drwS ?_)
    refine fg_part (p:=[_,_,_]) rfl fun hT4=>?_
    refine fg_ld2 (i:=⟨_,_,.load _ _ _⟩) rfl rfl trivial rfl (.inr (memS mem0)) rfl (by simp [sameA,sameL,sI,sB,sameC_nil,hx.refl,hy.refl,h12.refl,h14.refl,h38.refl,h43.refl]) ?_
    refine fg_ld2 (i:=⟨_,_,.load _ _ _⟩) rfl rfl trivial rfl (.inr mem0) rfl (by simp [sameA,sameL,sI,sB,sameC_nil,hx.refl,hy.refl,h12.refl,h14.refl,h38.refl,h43.refl]) ?_
    refine fg_storeT (i:=⟨_,_,.store _ _ _⟩) rfl trivial rfl rfl rfl hT4 ?_
    refine fl_st2 rfl rfl (repS (repS (repS rep0))) (lN ?_)
    refine fg_store (i:=⟨_,_,.store _ _ _⟩) rfl trivial rfl rfl rfl rfl ?_
    refine fl_st2 rfl rfl (repS (repS rep0)) (lN (gP rfl rfl trivial ?_))
    refine lC rfl (lN ?_)
    refine fg_nil (xT (rQ (.inl rfl) (rc2 rfl (memS (memS (memS mem0))) (rc2 rfl (memS (memS mem0)) (rt rfl rn))) ?_))
    have he:=noadj_ok hb htk (.inr hc53)
    exact ⟨_,_,rfl,iv_fin3 he.1 rfl (h38.mono (zd_mono (hz42.trans (hz43.trans (hz45.trans (hz49.trans hz51)))))),iv_fin3 he.2 rfl (h43.mono (zd_mono (hz45.trans (hz49.trans hz51))))⟩
  ·refine fg_off rfl rfl (.inl rfl) (fg_off rfl rfl (.inl rfl) (fg_off rfl rfl (.inl rfl) (fg_off rfl rfl (.inl rfl) (fg_off rfl rfl (.inl rfl) (gP rfl rfl trivial ?_)))))
   refine lP rfl rfl (lN ?_)
   refine fg_nil (fx_cseq (fx_condF rfl (fx_kseq (fx_drwS ?_))))
   refine fg_part (p:=[_,_,_]) rfl fun hT4=>?_
   refine fg_ld2 (i:=⟨_,_,.load _ _ _⟩) rfl rfl trivial rfl (.inr (memS mem0)) rfl (by simp [sameA,sameL,sI,sB,sameC_nil,hx.refl,hy.refl,h12.refl,h14.refl,h38.refl,h43.refl]) ?_
   refine fg_ld2 (i:=⟨_,_,.load _ _ _⟩) rfl rfl trivial rfl (.inr mem0) rfl (by simp [sameA,sameL,sI,sB,sameC_nil,hx.refl,hy.refl,h12.refl,h14.refl,h38.refl,h43.refl]) ?_
   refine fg_storeT (i:=⟨_,_,.store _ _ _⟩) rfl trivial rfl rfl rfl hT4 ?_
   refine fl_st2 rfl rfl (repS (repS (repS rep0))) (lN ?_)
   refine fg_store (i:=⟨_,_,.store _ _ _⟩) rfl trivial rfl rfl rfl rfl ?_
   refine fl_st2 rfl rfl (repS (repS rep0)) (lN (gP rfl rfl trivial ?_))
   refine lC rfl (lN ?_)
   refine fg_nil (xT (rQ (.inl rfl) (rc2 rfl (memS (memS (memS mem0))) (rc2 rfl (memS (memS mem0)) (rt rfl rn))) ?_))
   have he:=noadj_ok hb htk (.inl hg47)
   exact ⟨_,_,rfl,iv_fin3 he.1 rfl (h38.mono (zd_mono (hz42.trans (hz43.trans hz45)))),iv_fin3 he.2 rfl (h43.mono (zd_mono (hz45)))⟩
theorem c_ref03_Gcd {k:Nat} (hk:5≤k) {z:Mem} {n1:Bool} {c1:C} {l1:List UInt32} (hx:CZ 1 RW z c1 l1) {n2:Bool} {c2:C} {l2:List UInt32} (hy:CZ 1 RW z c2 l2) (h1:l1.length≤100000000) (h2:l2.length≤100000000):FC (E k) 147 [.agg [.v (.bool n1),c1],.agg [.v (.bool n2),c2]] z fun v z'=>IV (zd z z') v (Int.gcd (valI (n1,l1)) (valI (n2,l2))):=by
 have e1:=Nat.le_trans (lenI (n:=n1) (l:=l1)) h1
 have e2:=Nat.le_trans (lenI (n:=n2) (l:=l2)) h2
 have f1:=hlenL e1
 have f2:=hlenL e2
 refine fc_of (tS_get147) (by omega) (len1 rfl) fun B j hj=>?_
 refine xR ?_
 refine fl_bx rfl fun b2=>?_
 refine fl_bx rfl fun b3=>?_
 refine fl_al2 fun b4=>?_
 refine lN (fx_drwS ?_)
 refine fg_ld2 (i:=⟨_,_,.load _ _ _⟩) rfl rfl trivial rfl (.inr (memS (memS mem0))) rfl (by simp [sameA,sameL,sI,sB,sameC_nil,hx.refl,hy.refl]) ?_
 refine gZ z (i:=⟨_,_,.call _ _⟩) (c_ref03_plain (by omega) hx) rfl rfl trivial rfl rfl rfl rfl fun v10 z10 hz10 hv10=>?_
 obtain ⟨c10,rfl,hq10⟩:=hv10
 have h10:=hq10 _ (hx.mono (hz10))
 refine gP rfl rfl trivial ?_
 refine fl_fld1 rfl rfl (lN ?_)
 refine gZ z10 (i:=⟨_,_,.call _ _⟩) (c_ref03_halves (by omega) h10 (by omega)) rfl rfl trivial rfl rfl rfl rfl fun v12 z12 hz12 h12=>?_
 have h12:=h12.mono (zA (hz10))
 rw [val_toL] at h12
 refine fg_ld2 (i:=⟨_,_,.load _ _ _⟩) rfl rfl trivial rfl (.inr (memS mem0)) rfl (by simp [sameA,sameL,sI,sB,sameC_nil,hx.refl,hy.refl,h10.refl]) ?_
 refine gZ z12 (i:=⟨_,_,.call _ _⟩) (c_ref03_plain (by omega) (hy.mono (hz10.trans hz12))) rfl rfl trivial rfl rfl rfl rfl fun v14 z14 hz14 hv14=>?_
 obtain ⟨c14,rfl,hq14⟩:=hv14
 have h14:=hq14 _ (hy.mono (hz10.trans (hz12.trans hz14)))
 refine gP rfl rfl trivial ?_
 refine fl_fld1 rfl rfl (lN ?_)
 refine gZ z14 (i:=⟨_,_,.call _ _⟩) (c_ref03_halves (by omega) h14 (by omega)) rfl rfl trivial rfl rfl rfl rfl fun v16 z16 hz16 h16=>?_
 have h16:=h16.mono (zA (hz10.trans (hz12.trans hz14)))
 rw [val_toL] at h16
 refine gP rfl rfl trivial ?_
 refine lM rfl (lN ?_)
 refine gP rfl rfl trivial ?_
 refine lM rfl (lN ?_)
 refine fg_nil ?_
 refine fx_seq (fx_block ?_)
 refine fx_loop (fun n fs=>∃ (x:Nat) (y:Nat) (vx:AV) (vy:AV) (zi:Mem),LZ z16 zi [.blk b4 (.cells 28 [.v (.bool false),.v (.slice none 0 0)]),.blk b3 (.cells 28 [.v (.bool n2),c2]),.blk b2 (.cells 28 [.v (.bool n1),c1])] [(4,.c (.ptr b4 0)),(5,vx),(6,vy)] fs∧n=gm x y∧(SZ 1 RN zi vx (toH x))∧(SZ 1 RN zi vy (toH y))∧(Nat.gcd x y=Nat.gcd (valI (n1,l1)).natAbs (valI (n2,l2)).natAbs)∧((toL x).length≤100000000)∧((toL y).length≤100000000)) ?_ _ ⟨(valI (n1,l1)).natAbs,(valI (n2,l2)).natAbs,_,_,_,LZ.mk [] (zle.refl _) (atc rfl (atc rfl (atc rfl atn))),rfl,(h12.mono (zd_le.trans (hz14.trans hz16))),(h16.mono zd_le),rfl,e1,e2⟩ (by have:=gm_le e1 e2;show _<18446744073709551616;omega)
 intro n fs hI
 obtain ⟨x,y,vx,vy,zi,hL0,hmz0,hvx,hvy,hg,hxl,hyl⟩:=hI
 refine hL0.open fun e hzi=>?_
 refine fx_ss (xR (lM rfl (fl_lenS rfl hvy (lB rfl rfl (b_gtr _ _ _) (lN (fx_cseq ?_))))))
 refine xD rfl (fun hc19=>?_) (fun hc19=>?_)
 ·refine fx_kseq (fx_block (xR ?_))
  have f3:=hlenL hxl
  have f4:=hlenL hyl
  have hy0:0<y:=hpos (by omega)
  iterate 2 refine lM rfl ?_
  refine lZ zi (c_ref03_parts (by omega) (ok_toH _) hvx hvy hy0 (by omega) (by omega)) rfl rfl fun v23 z23 hz23 hv23=>?_
  obtain ⟨q23,r23,hv,_,hr23⟩:=hv23
  subst hv
  rw [hv_toH] at hr23
  refine lM rfl (fl_ext rfl rfl (fl_ext rfl rfl (lM rfl (lM rfl (lN (xR (lM rfl ?_)))))))
  refine lM rfl (lN (xG (lM rfl (lM rfl (lN ?_)))))
  exact lq_n (by rw [hmz0];exact gm_lt (hy0)) ⟨y,x % y,_,_,_,LZ.mk [] (hzi.trans hz23) (atc rfl (atc rfl (atc rfl atn))),rfl,(hvy.mono (hz23)),hr23,by rw [Nat.gcd_comm y,← Nat.gcd_rec,Nat.gcd_comm];exact hg,hyl,Nat.le_trans (len_le (Nat.le_of_lt (Nat.mod_lt _ hy0))) hyl⟩
 ·refine fx_eseq (lq_e (sq_n (xR ?_)))
  have f3:=hlenL hxl
  have hy0:y=0:=hzero (by omega)
  rw [hy0,Nat.gcd_zero_right] at hg
  refine lM rfl ?_
  refine lZ zi (c_ref03_limbs (by omega) (ok_toH _) hvx (by omega)) rfl rfl fun v29 z29 hz29 h29=>?_
  rw [pairs_toH] at h29
  obtain ⟨c29,rfl,_⟩:=h29.one
  have h29:=h29.mono (zA (hz10.trans (hz12.trans (hz14.trans (hz16.trans hzi)))))
  refine lZ z29 (c_ref03_made (by omega) (h29.mono zd_le) (by omega)) rfl rfl fun v30 z30 hz30 hv30=>?_
  rw [val_toL] at hv30
  obtain ⟨c30,rfl,h30⟩:=hv30
  have h30:=h30.mono (zA (hz10.trans (hz12.trans (hz14.trans (hz16.trans (hzi.trans hz29))))))
  refine fl_st2 rfl rfl rep0 (lN (xT (rQ (.inl rfl) (rc2 rfl mem0 rn) ?_)))
  rw [show ((Int.gcd (valI (n1,l1)) (valI (n2,l2)):Nat):Int)=sgn false x by rw [hg];rfl]
  exact ⟨_,rfl,h30⟩
open Go.CE Go.RowKit Go.Num
open Go.Eng (setL)
theorem valR_c (q:Rat):Num.valR ((decide (q.num<0),toL q.num.natAbs),(decide ((q.den:Int)<0),toL (q.den:Int).natAbs))=q:=val_cR q
theorem divInt_le {a b:Int} (hb:b≠0):(Rat.divInt a b).num.natAbs≤a.natAbs∧(Rat.divInt a b).den≤b.natAbs:=by
 have h:=red_q (a:=a) hb rfl
 generalize hg:(if b<0 then -((Int.gcd a b:Nat):Int) else ((Int.gcd a b:Nat):Int))=g at h
 have d1:g ∣ a:=by rw [← hg];split;exact Int.neg_dvd.2 (Int.gcd_dvd_left a b);exact Int.gcd_dvd_left a b
 have d2:g ∣ b:=by rw [← hg];split;exact Int.neg_dvd.2 (Int.gcd_dvd_right a b);exact Int.gcd_dvd_right a b
 rw [Int.fdiv_eq_ediv_of_dvd d1,Int.fdiv_eq_ediv_of_dvd d2] at h
 refine ⟨by rw [← h.1];exact Int.natAbs_ediv_le_natAbs a g,?_⟩
 have h3:=Int.natAbs_ediv_le_natAbs b g
 rw [h.2] at h3
 simpa using h3
theorem qv_eq {z:Mem} {v:AV} {c d:C} {x q:Rat} (e:x=q) (h:v=.agg [.v (.bool (decide (x.num<0))),c,.v (.bool (decide ((x.den:Int)<0))),d]) (h1:CZ 1 RW z c (toL x.num.natAbs)) (h2:CZ 1 RW z d (toL (x.den:Int).natAbs)):QV z v q:=by
 subst e
 exact ⟨c,d,h,h1,h2⟩
theorem qv_fin2 {z:Mem} {v:AV} {c d:C} {x y:Int} {q:Rat} (e1:x=q.num) (e2:y=(q.den:Int)) (h:v=.agg [.v (.bool (decide (x<0))),c,.v (.bool (decide (y<0))),d]) (h1:CZ 1 RW z c (toL x.natAbs)) (h2:CZ 1 RW z d (toL y.natAbs)):QV z v q:=by
 subst e1
 subst e2
 exact ⟨c,d,h,h1,h2⟩
theorem new_p {a b:Int} (hb:b≠0) (h:¬ b<0):a.fdiv ((Int.gcd a b:Nat):Int)=(Rat.divInt a b).num∧b.fdiv ((Int.gcd a b:Nat):Int)=((Rat.divInt a b).den:Int):=red_q hb (if_neg h).symm
theorem new_n {a b:Int} (h:b<0):(-a).fdiv ((Int.gcd a b:Nat):Int)=(Rat.divInt a b).num∧(-b).fdiv ((Int.gcd a b:Nat):Int)=((Rat.divInt a b).den:Int):=by
 have h2 := new_p (a := -a) (b := -b) (by omega) (by omega)
 rwa [Int.gcd_neg,Int.neg_gcd,Rat.neg_divInt_neg] at h2
theorem len64 {n:Int} (h1 : -9223372036854775808≤n) (h2:n<9223372036854775808):(toL n.natAbs).length≤100000000:=Nat.le_trans (m:=2) (toL_len.2 (by show _<4294967296 ^ 2;omega)) (by decide)
theorem c_ref04_New {k:Nat} (hk:8≤k) {z:Mem} {a b:Int} {c1 c2:C} (hx:CZ 1 RW z c1 (toL a.natAbs)) (hy:CZ 1 RW z c2 (toL b.natAbs)) (h1:(toL a.natAbs).length≤100000000) (h2:(toL b.natAbs).length≤100000000) (hb:b≠0):FC (E k) 75 [.agg [.v (.bool (decide (a<0))),c1],.agg [.v (.bool (decide (b<0))),c2]] z fun v z'=>∃ w,v=.tup [w,.c (.v (.int .i64 0))]∧QV (zd z z') w (Rat.divInt a b):=by
 have hlg:=lenG h1 h2
 have hgn:((Int.gcd a b:Nat):Int)≠0:=by have:=Int.gcd_pos_of_ne_zero_right a hb;omega
 have g1:(toL (-a).natAbs).length≤100000000:=by rw [Int.natAbs_neg];exact h1
 have g2:(toL (-b).natAbs).length≤100000000:=by rw [Int.natAbs_neg];exact h2
 refine fc_of (tS_get75) (by omega) (len1 rfl) fun B j hj=>?_
 refine xR ?_
 refine fl_bx rfl fun b2=>?_
 refine fl_bx rfl fun b3=>?_
 refine fl_al4 fun b4=>?_
 refine lC rfl (lN (fx_ss (xR (fl_ld2 rfl (memS mem0) rfl ?_))))
 refine lZ z (c_ref03_Sign (by omega) hy h2) rfl rfl fun v14 z14 hz14 hv14=>?_
 rw [valI_c] at hv14
 subst hv14
 refine lB rfl rfl (b_eql _ _ _) (lN (fx_cseq ?_))
 refine xD rfl (fun hc15=>?_) (fun hc15=>?_)
 ·exact absurd (Int.sign_eq_zero_iff_zero.1 hc15) hb
 ·refine fx_kseq (fx_ss (xR (fl_ld2 rfl (memS mem0) rfl ?_)))
  refine lZ z14 (c_ref03_Sign (by omega) (hy.mono (hz14)) h2) rfl rfl fun v18 z18 hz18 hv18=>?_
  rw [valI_c] at hv18
  subst hv18
  refine lB rfl rfl (b_lss _ _ _) (lN (fx_cseq ?_))
  refine xD rfl (fun hc19=>?_) (fun hc19=>?_)
  ·refine fx_ss (xR (fl_ld2 rfl (memS (memS mem0)) rfl ?_))
   refine lZ z18 (c_ref03_Neg (by omega) (hx.mono (hz14.trans hz18)) h1) rfl rfl fun v21 z21 hz21 hv21=>?_
   rw [valI_c] at hv21
   obtain ⟨c21,hv,h21⟩:=hv21
   subst hv
   have h21:=h21.mono (zA (hz14.trans hz18))
   refine fl_st2 rfl rfl (repS (repS rep0)) (lN (xR (fl_ld2 rfl (memS mem0) rfl ?_)))
   refine lZ z21 (c_ref03_Neg (by omega) (hy.mono (hz14.trans (hz18.trans hz21))) h2) rfl rfl fun v23 z23 hz23 hv23=>?_
   rw [valI_c] at hv23
   obtain ⟨c23,hv,h23⟩:=hv23
   subst hv
   have h23:=h23.mono (zA (hz14.trans (hz18.trans hz21)))
   refine fl_st2 rfl rfl (repS rep0) (lN (xR (fl_ld2 rfl (memS (memS mem0)) rfl (fl_ld2 rfl (memS mem0) rfl ?_))))
   refine lZ z23 (c_ref03_Gcd (by omega) (h21.mono (zd_le.trans (hz23))) (h23.mono zd_le) g1 g2) rfl rfl fun v26 z26 hz26 hv26=>?_
   rw [valI_c,valI_c,Int.gcd_neg,Int.neg_gcd] at hv26
   obtain ⟨c26,hv,h26⟩:=hv26
   subst hv
   have h26:=h26.mono (zA (hz14.trans (hz18.trans (hz21.trans hz23))))
   refine fl_al2 fun b6=>?_
   refine fl_st2 rfl rfl rep0 (lN (xR (fl_ld2 rfl (memS (memS (memS mem0))) rfl (fl_ld2 rfl mem0 rfl ?_))))
   refine lZ z26 (c_ref03_DivMod (by omega) (h21.mono (zd_le.trans (hz23.trans hz26))) (h26.mono zd_le) g1 hlg (by rw [valI_c];omega)) rfl rfl fun v30 z30 hz30 hv30=>?_
   rw [valI_c,valI_c] at hv30
   obtain ⟨v1,v2,hv,hp30,hr30⟩:=hv30
   subst hv
   obtain ⟨c30,hv,h30⟩:=hp30
   subst hv
   obtain ⟨d30,hv,_⟩:=hr30
   subst hv
   have h30:=h30.mono (zA (hz14.trans (hz18.trans (hz21.trans (hz23.trans hz26)))))
   refine lM rfl (fl_ext rfl rfl (fl_ext rfl rfl (fl_ext rfl rfl ?_)))
   refine fl_al2 fun b7=>?_
   refine fl_al2 fun b8=>?_
   refine fl_st2 rfl rfl (repS rep0) (fl_st2 rfl rfl rep0 (lM rfl (lN (xR (fl_ld2 rfl (memS (memS (memS (memS mem0)))) rfl (fl_ld2 rfl (memS (memS mem0)) rfl ?_))))))
   refine lZ z30 (c_ref03_DivMod (by omega) (h23.mono (zd_le.trans (hz26.trans hz30))) (h26.mono (zd_le.trans (hz30))) g2 hlg (by rw [valI_c];omega)) rfl rfl fun v37 z37 hz37 hv37=>?_
   rw [valI_c,valI_c] at hv37
   obtain ⟨v1,v2,hv,hp37,hr37⟩:=hv37
   subst hv
   obtain ⟨c37,hv,h37⟩:=hp37
   subst hv
   obtain ⟨d37,hv,_⟩:=hr37
   subst hv
   have h37:=h37.mono (zA (hz14.trans (hz18.trans (hz21.trans (hz23.trans (hz26.trans hz30))))))
   refine lM rfl (fl_ext rfl rfl (fl_ext rfl rfl (fl_ext rfl rfl ?_)))
   refine fl_al2 fun b10=>?_
   refine fl_al2 fun b11=>?_
   refine fl_st2 rfl rfl (repS rep0) (fl_st2 rfl rfl rep0 (lM rfl (lN (xR (fl_ld2 rfl (memS (memS (memS mem0))) rfl (fl_ld2 rfl (memS mem0) rfl (fl_bd (cs:=[_,_,_,_]) rfl ?_)))))))
   refine fl_st4 rfl rfl (repS (repS (repS (repS (repS rep0))))) (lC rfl (lN (xT (rQ (.inl rfl) (rc4 rfl (memS (memS (memS (memS (memS mem0))))) (rt rfl rn)) ?_))))
   have he:=new_n (a:=a) (sign_neg hc19)
   exact ⟨_,rfl,qv_fin2 he.1 he.2 rfl (h30.mono (zd_mono (hz37))) h37⟩
  ·refine fx_kseq (xR (fl_ld2 rfl (memS (memS mem0)) rfl (fl_ld2 rfl (memS mem0) rfl ?_)))
   refine lZ z18 (c_ref03_Gcd (by omega) (hx.mono (hz14.trans hz18)) (hy.mono (hz14.trans hz18)) h1 h2) rfl rfl fun v26 z26 hz26 hv26=>?_
   rw [valI_c,valI_c] at hv26
   obtain ⟨c26,hv,h26⟩:=hv26
   subst hv
   have h26:=h26.mono (zA (hz14.trans hz18))
   refine fl_al2 fun b6=>?_
   refine fl_st2 rfl rfl rep0 (lN (xR (fl_ld2 rfl (memS (memS (memS mem0))) rfl (fl_ld2 rfl mem0 rfl ?_))))
   refine lZ z26 (c_ref03_DivMod (by omega) (hx.mono (hz14.trans (hz18.trans hz26))) (h26.mono zd_le) h1 hlg (by rw [valI_c];omega)) rfl rfl fun v30 z30 hz30 hv30=>?_
   rw [valI_c,valI_c] at hv30
   obtain ⟨v1,v2,hv,hp30,hr30⟩:=hv30
   subst hv
   obtain ⟨c30,hv,h30⟩:=hp30
   subst hv
   obtain ⟨d30,hv,_⟩:=hr30
   subst hv
   have h30:=h30.mono (zA (hz14.trans (hz18.trans hz26)))
   refine lM rfl (fl_ext rfl rfl (fl_ext rfl rfl (fl_ext rfl rfl ?_)))
   refine fl_al2 fun b7=>?_
   refine fl_al2 fun b8=>?_
   refine fl_st2 rfl rfl (repS rep0) (fl_st2 rfl rfl rep0 (lM rfl (lN (xR (fl_ld2 rfl (memS (memS (memS (memS mem0)))) rfl (fl_ld2 rfl (memS (memS mem0)) rfl ?_))))))
   refine lZ z30 (c_ref03_DivMod (by omega) (hy.mono (hz14.trans (hz18.trans (hz26.trans hz30)))) (h26.mono (zd_le.trans (hz30))) h2 hlg (by rw [valI_c];omega)) rfl rfl fun v37 z37 hz37 hv37=>?_
   rw [valI_c,valI_c] at hv37
   obtain ⟨v1,v2,hv,hp37,hr37⟩:=hv37
   subst hv
   obtain ⟨c37,hv,h37⟩:=hp37
   subst hv
   obtain ⟨d37,hv,_⟩:=hr37
   subst hv
   have h37:=h37.mono (zA (hz14.trans (hz18.trans (hz26.trans hz30))))
   refine lM rfl (fl_ext rfl rfl (fl_ext rfl rfl (fl_ext rfl rfl ?_)))
   refine fl_al2 fun b10=>?_
   refine fl_al2 fun b11=>?_
   refine fl_st2 rfl rfl (repS rep0) (fl_st2 rfl rfl rep0 (lM rfl (lN (xR (fl_ld2 rfl (memS (memS (memS mem0))) rfl (fl_ld2 rfl (memS mem0) rfl (fl_bd (cs:=[_,_,_,_]) rfl ?_)))))))
   refine fl_st4 rfl rfl (repS (repS (repS (repS (repS rep0))))) (lC rfl (lN (xT (rQ (.inl rfl) (rc4 rfl (memS (memS (memS (memS (memS mem0))))) (rt rfl rn)) ?_))))
   have he:=new_p (a:=a) hb (sign_nneg hc19)
   exact ⟨_,rfl,qv_fin2 he.1 he.2 rfl (h30.mono (zd_mono (hz37))) h37⟩
theorem c_ref04_Of {k:Nat} (hk:9≤k) {z:Mem} {n d:Int} (h1 : -9223372036854775808≤n) (h2:n<9223372036854775808) (h3 : -9223372036854775808≤d) (h4:d<9223372036854775808) (hd:d≠0):FC (E k) 23 [.c (.v (.int .i64 n)),.c (.v (.int .i64 d))] z fun v z'=>∃ w,v=.tup [w,.c (.v (.int .i64 0))]∧QV (zd z z') w (Rat.divInt n d):=by
 refine fc_of (tS_get23) (by omega) (len1 rfl) fun B j hj=>?_
 refine xR ?_
 refine fl_al4 fun b4=>?_
 refine lC rfl (lN (xR (lC rfl ?_)))
 refine lZ z (c_ref03_Of (n:=n) (by omega) h1 h2) rfl rfl fun v7 z7 hz7 hv7=>?_
 obtain ⟨c7,hv,h7⟩:=hv7
 subst hv
 refine lC rfl ?_
 refine lZ z7 (c_ref03_Of (n:=d) (by omega) h3 h4) rfl rfl fun v9 z9 hz9 hv9=>?_
 obtain ⟨c9,hv,h9⟩:=hv9
 subst hv
 have h9:=h9.mono (zA (hz7))
 refine lZ z9 (c_ref04_New (by omega) (h7.mono (zd_le.trans (hz9))) (h9.mono zd_le) (len64 h1 h2) (len64 h3 h4) hd) rfl rfl fun v10 z10 hz10 hv10=>?_
 obtain ⟨w10,hv,hq10⟩:=hv10
 subst hv
 obtain ⟨c10,d10,hv,hm10,hn10⟩:=hq10
 subst hv
 have hm10:=hm10.mono (zA (hz7.trans hz9))
 have hn10:=hn10.mono (zA (hz7.trans hz9))
 refine fl_ext rfl rfl (fl_ext rfl rfl (fl_st4 rfl rfl rep0 (lM rfl (lN (xT (rQ (.inl rfl) (rc4 rfl mem0 (rt rfl rn)) ?_))))))
 exact ⟨_,rfl,_,_,rfl,hm10,hn10⟩
end Go.Proofs.YtcnpoojdochapaaGreatDoor

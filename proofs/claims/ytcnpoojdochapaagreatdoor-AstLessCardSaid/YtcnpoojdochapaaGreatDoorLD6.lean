/- Names, walked. -/
import Derived.WalkKit
import Derived.Orders
import Derived.Test.YtcnpoojdochapaaGreatDoorLD5
set_option linter.unusedVariables false
set_option linter.unusedSimpArgs false
set_option maxRecDepth 100000
set_option maxHeartbeats 1000000
namespace Go.Proofs.YtcnpoojdochapaaGreatDoor
open Go.CE Go.RowKit Go.Num
open Go.Eng (setL bget)
def nmL:List UInt8:=[97,98,99,100,101,102,103,104,105,106,107,108,109,110,111,112,113,114,115,116,117,118,119,120,121,122,65,66,67,68,69,70,71,72,73,74,75,76,77,78,79,80,81,82,83,84,85,86,87,88,89,90]
def nmK:List UInt8:=[97,98,99,100,101,102,103,104,105,106,107,108,109,110,111,112,113,114,115,116,117,118,119,120,121,122,65,66,67,68,69,70,71,72,73,74,75,76,77,78,79,80,81,82,83,84,85,86,87,88,89,90,48,49,50,51,52,53,54,55,56,57,95,45]
def setF (l:List UInt8) (c:Nat):Bool:=l.any fun x=>decide (x.toNat=c)
theorem setF_iff {l:List UInt8} {c:Nat}:setF l c=true↔∃ x,x∈l∧x.toNat=c:=by simp [setF]
theorem setF_ixb {l:List UInt8} {c:Nat}:decide (ixb l c 0 ≥ 0)=setF l c:=by
 rw [Bool.eq_iff_iff,setF_iff,decide_eq_true_iff]
 exact ixb_mem
theorem mem_at {l:List UInt8} {i:Nat} (h:i<l.length):l.getD i 0∈l:=by
 rw [List.getD_eq_getElem?_getD,List.getElem?_eq_getElem h]
 exact List.getElem_mem h
theorem mem_lt {l:List UInt8} {i:Nat} (ha:∀ x,x∈l→x.toNat<128) (h:i<l.length):(l.getD i 0).toNat<128:=ha _ (mem_at h)
theorem getD_take {l:List UInt8} {m k:Nat} (h:k<m):(l.take m).getD k 0=l.getD k 0:=by
 simp [List.getD_eq_getElem?_getD,List.getElem?_take,h]
theorem getD_drop {l:List UInt8} {m k:Nat}:(l.drop m).getD k 0=l.getD (m+k) 0:=by
 simp [List.getD_eq_getElem?_getD]
theorem tr_last {l:List UInt8} {f:Nat→Bool} {m:Nat} (h0:0<m) (hm:m≤l.length) (h:f ((l.take m).getD (m - 1) 0).toNat=false):f (l.getD (m - 1) 0).toNat=false:=by rwa [getD_take (by omega)] at h
theorem tr_step {l r:List UInt8} {f:Nat→Bool} {m:Nat} (h0:0<m) (hm:m≤l.length) (hk:∀ k,m≤k→k<l.length→f (l.getD k 0).toNat=true) (hr:r=l.take m) (h:f (r.getD (m - 1) 0).toNat=true):∀ k,m - 1≤k→k<l.length→f (l.getD k 0).toNat=true:=fun k h1 h2=>by
 by_cases h3:k=m - 1
 ·subst h3;rw [hr,getD_take (by omega)] at h;exact h
 ·exact hk k (by omega) h2
theorem tl_last {l:List UInt8} {f:Nat→Bool} {m:Nat} (h:f ((l.drop m).getD 0 0).toNat=false):f (l.getD m 0).toNat=false:=by rwa [getD_drop] at h
theorem tl_step {l r:List UInt8} {f:Nat→Bool} {m:Nat} (hk:∀ k,k<m→f (l.getD k 0).toNat=true) (hr:r=l.drop m) (h:f (r.getD 0 0).toNat=true):∀ k,k<m+1→f (l.getD k 0).toNat=true:=fun k h1=>by
 by_cases h3:k=m
 ·subst h3;rw [hr,getD_drop] at h;exact h
 ·exact hk k (by omega)
theorem setF_succ {l:List UInt8} {i:Nat} (h:i<l.length):(fun k=>decide (k=(l.getD i 0).toNat) || setF (l.take i) k)=setF (l.take (i+1)):=by
 funext k
 rw [List.take_add_one,List.getElem?_eq_getElem h,setF,setF,List.any_append,List.getD_eq_getElem?_getD,List.getElem?_eq_getElem h]
 simp only [Option.toList,List.any_cons,List.any_nil,Bool.or_false,Option.getD_some]
 rw [Bool.or_comm]
 congr 1
 exact decide_eq_decide.2 eq_comm
theorem nmK_lt:∀ x,x∈nmK→x.toNat<128:=by decide
theorem nmK_b {x:UInt8} (h:setF nmK x.toNat=true):x.toNat<128:=by
 obtain ⟨y,hy,e⟩:=setF_iff.1 h
 rw [← e];exact nmK_lt y hy
def nameS (l:List UInt8):Bool:=decide (l≠[]) && (decide (l.length≤32) && (setF nmL (l.getD 0 0).toNat && l.all fun x=>setF nmK x.toNat))
theorem name_n1 {l:List UInt8} (h:l=[]):false=nameS l:=by simp [nameS,h]
theorem name_n2 {l:List UInt8} (h:¬ l.length≤32):false=nameS l:=by simp [nameS,h]
theorem name_n3 {l:List UInt8} (h:¬ ixb nmL (l.getD 0 0).toNat 0 ≥ 0):false=nameS l:=by
 have e:=setF_ixb (l:=nmL) (c:=(l.getD 0 0).toNat)
 rw [decide_eq_false h] at e
 rw [nameS,← e];simp
theorem name_n4 {l:List UInt8} (h:¬ ∀ x,x∈l→setF nmK x.toNat=true):false=nameS l:=by
 have e:(l.all fun x=>setF nmK x.toNat)=false:=by
  cases h2:l.all fun x=>setF nmK x.toNat with
  | false=>rfl
  | true=>exact absurd (List.all_eq_true.1 h2) h
 rw [nameS,e];simp
theorem name_y {l:List UInt8} (h1:¬ l=[]) (h2:l.length≤32) (h3:ixb nmL (l.getD 0 0).toNat 0 ≥ 0) (h4:∀ x,x∈l→setF nmK x.toNat=true):true=nameS l:=by
 have e:=setF_ixb (l:=nmL) (c:=(l.getD 0 0).toNat)
 rw [decide_eq_true h3] at e
 rw [nameS,← e,List.all_eq_true.2 h4,decide_eq_true h2,decide_eq_true h1]
 rfl
theorem trim_iff {l:List UInt8} {f:Nat→Bool} {m1 m2:Nat} (k1:m1≤l.length) (k2:m1=0∨f (l.getD (m1 - 1) 0).toNat=false) (k3:∀ k,m1≤k→k<l.length→f (l.getD k 0).toNat=true)
    (k4:m2≤(l.take m1).length) (k5:m2=(l.take m1).length∨f ((l.take m1).getD m2 0).toNat=false) (k6:∀ k,k<m2→f ((l.take m1).getD k 0).toNat=true):(l.take m1).drop m2=[]↔∀ x,x∈l→f x.toNat=true:=by
  rw [take_len k1] at k4 k5
  constructor
  · intro h
    have hl:=congrArg List.length h
    rw [List.length_drop,take_len k1,List.length_nil] at hl
    have h1:m1=0:=by
      rcases k2 with h2 | h2
      · exact h2
      · by_cases h3:m1=0
        · exact h3
        · have := k6 (m1 - 1) (by omega)
          rw [getD_take (by omega),h2] at this
          cases this
    subst h1
    intro x hx
    obtain ⟨k,hk,rfl⟩:=List.getElem_of_mem hx
    have:=k3 k (Nat.zero_le _) hk
    rwa [List.getD_eq_getElem?_getD,List.getElem?_eq_getElem hk] at this
  · intro h
    have h1:m1=0:=by
      rcases k2 with h2 | h2
      · exact h2
      · by_cases h3:m1=0
        · exact h3
        · rw [h _ (mem_at (by omega))] at h2;cases h2
    subst h1
    simp
theorem ixb_c {k:Nat} (hk:1≤k) {z:Mem} {l:List UInt8} {c:Nat} (hc:c<256):FC (E k) 158 [sV l,.c (.v (.int .u8 ((c:Nat):Int)))] z fun v _=>v=.c (.v (.int .i64 (ixb l c 0))):=(ixb_fc tS_none2 rfl hk).mono fun v z' _ h=>by rw [h];show AV.c (.v (.int .i64 (ixb l (c % 256) 0)))=_;rw [Nat.mod_eq_of_lt hc]
theorem c_internal_stringslite_IndexByte {k:Nat} (hk:2≤k) {z:Mem} {l:List UInt8} {c:Nat} (hc:c<256):FC (E k) 90 [sV l,.c (.v (.int .u8 ((c:Nat):Int)))] z fun v _=>v=.c (.v (.int .i64 (ixb l c 0))):=by
 refine fc_of (tS_get90) (by omega) (len1 rfl) fun B j hj=>?_
 refine xR (lC rfl (lN (xR (lM rfl (lC rfl ?_)))))
 refine lZ z (ixb_c (by omega) hc) rfl rfl fun v7 z7 hz7 hv7=>?_
 subst hv7
 refine lM rfl (lN (xT (rQ (.inl rfl) (rt rfl rn) ?_)))
 rfl
theorem c_strings_IndexByte {k:Nat} (hk:3≤k) {z:Mem} {l:List UInt8} {c:Nat} (hc:c<256):FC (E k) 32 [sV l,.c (.v (.int .u8 ((c:Nat):Int)))] z fun v _=>v=.c (.v (.int .i64 (ixb l c 0))):=by
 refine fc_of (tS_get32) (by omega) (len1 rfl) fun B j hj=>?_
 refine xR (lC rfl (lN (xR (lM rfl (lC rfl ?_)))))
 refine lZ z (c_internal_stringslite_IndexByte (by omega) hc) rfl rfl fun v7 z7 hz7 hv7=>?_
 subst hv7
 refine lM rfl (lN (xT (rQ (.inl rfl) (rt rfl rn) ?_)))
 rfl
theorem c_strings_IndexRune {k:Nat} (hk:4≤k) {z:Mem} {l:List UInt8} {c:Nat} (hc:c<128):FC (E k) 99 [sV l,.c (.v (.int .i32 ((c:Nat):Int)))] z fun v _=>v=.c (.v (.int .i64 (ixb l c 0))):=by
 refine fc_of (tS_get99) (by omega) (len1 rfl) fun B j hj=>?_
 refine xR (lC rfl (lN (fx_block (xR (lC rfl (lB rfl rfl (b_leq _ _ _) (lC rfl ?_)))))))
 refine fl_splitD 163 rfl (fun hg163=>?_) (fun hg163=>?_)
 ·refine lD rfl (lC rfl (lD rfl (lB rfl rfl (b_lss _ _ _) (lP rfl rfl (lM rfl (lN ?_))))))
  refine xD rfl (fun hc160=>?_) (fun hc160=>?_)
  ·refine xR (lM rfl (lC rfl ?_))
   refine fl_cvi rfl ((wu8 ⟨by omega,by omega⟩)) ?_
   refine lZ z (c_strings_IndexByte (by omega) (by omega)) rfl rfl fun v170 z170 hz170 hv170=>?_
   subst hv170
   refine lM rfl (lN (xT (rQ (.inl rfl) (rt rfl rn) ?_)))
   rfl
  ·omega
 ·omega
theorem c_strings_ContainsRune {k:Nat} (hk:5≤k) {z:Mem} {l:List UInt8} {c:Nat} (hc:c<128):FC (E k) 36 [sV l,.c (.v (.int .i32 ((c:Nat):Int)))] z fun v _=>v=.c (.v (.bool (setF l c))):=by
 refine fc_of (tS_get36) (by omega) (len1 rfl) fun B j hj=>?_
 refine xR (lC rfl (lN (xR (lM rfl (lC rfl ?_)))))
 refine lZ z (c_strings_IndexRune (by omega) hc) rfl rfl fun v7 z7 hz7 hv7=>?_
 subst hv7
 refine lB rfl rfl (b_geq _ _ _) (lC rfl (lN (xT (rQ (.inl rfl) (rt rfl rn) ?_))))
 exact congrArg (fun b=>AV.c (.v (.bool b))) (setF_ixb)
theorem c_ast_IsName_1 {k:Nat} (hk:6≤k) {z:Mem} {c:Nat} (hc:c<128):FC (E k) 35 [.c (.v (.int .i32 ((c:Nat):Int)))] z fun v _=>v=.c (.v (.bool (!setF nmK c))):=by
 refine fc_of (tS_get35) (by omega) (len1 rfl) fun B j hj=>?_
 refine xR (lC rfl (lN (xR (lC rfl ?_))))
 refine lZ z (c_strings_ContainsRune (l:=nmK) (by omega) hc) rfl rfl fun v4 z4 hz4 hv4=>?_
 subst hv4
 refine fl_un rfl (u_not _) (lC rfl (lN (xT (rQ (.inl rfl) (rt rfl rn) ?_))))
 rfl
theorem c_strings_asciiSet_contains {k:Nat} (hk:1≤k) {z:Mem} {b c ty:Nat} {f:Nat→Bool} (hb:z b (.cells ty (cB f))) (hc:c<256):FC (E k) 159 [.c (.ptr b 0),.c (.v (.int .u8 ((c:Nat):Int)))] z fun v _=>v=.c (.v (.bool (f c))):=by
 refine fc_of (tS_get159) (by omega) (len1 rfl) fun B j hj=>?_
 refine xR (lC rfl (lN (xR (lC rfl (lC rfl (fl_nilck rfl (fl_iaa rfl rfl (c) rfl (by omega) ?_)))))))
 refine fl_ldb c rfl hb (by omega) hc (lC rfl (lN (xT (rQ (.inl rfl) (rt rfl rn) ?_))))
 rfl
theorem c_strings_trimRightASCII {k:Nat} (hk:2≤k) {z:Mem} {l:List UInt8} {b ty:Nat} {f:Nat→Bool} (hb:z b (.cells ty (cB f))) (hl:l.length≤1000):FC (E k) 95 [sV l,.c (.ptr b 0)] z fun v _=>∃ m,v=sV (l.take m)∧m≤l.length∧(m=0∨f (l.getD (m - 1) 0).toNat=false)∧∀ k,m≤k→k<l.length→f (l.getD k 0).toNat=true:=by
 refine fc_of (tS_get95) (by omega) (len1 rfl) fun B j hj=>?_
 refine xR (lC rfl (lN ?_))
 refine fx_seq (fx_block ?_)
 refine fx_loop (fun n fs=>∃ (m:Nat) (r:List UInt8),LI z [] [(0,sV r),(1,.c (.ptr b 0))] fs∧n=m∧(m≤l.length)∧(r=l.take m)∧(∀ k,m≤k→k<l.length→f (l.getD k 0).toNat=true)) ?_ _ ⟨l.length,l,LI.mk [] (zle.refl _) (atc rfl (atc rfl atn)),rfl,Nat.le_refl _,List.take_length.symm,fun k h1 h2=>absurd h1 (by omega)⟩ (by show _<18446744073709551616;omega)
 intro n fs hI
 obtain ⟨m,r,hL0,hmz0,hm,hr,hk2⟩:=hI
 refine hL0.open fun e zl0 hzl0=>?_
 refine fx_ss (xR ?_)
 have htl:r.length=m:=by rw [hr];exact take_len hm
 refine lM rfl (fl_lenT rfl (lB rfl rfl (b_gtr _ _ _) (lN (fx_cseq ?_))))
 refine xD rfl (fun hc7=>?_) (fun hc7=>?_)
 ·refine fx_kseq (fx_block (fx_ss (xR (lC rfl (lM rfl (lM rfl (fl_lenT rfl ?_)))))))
  refine lB rfl rfl (bI_sub (n:=m - 1) (by omega) (by omega)) (fl_ixT rfl rfl (m - 1) (rfl) (by omega) ?_)
  refine lZ zl0 (c_strings_asciiSet_contains (by omega) ((hzl0) _ _ hb) (UInt8.toNat_lt _)) rfl rfl fun v14 z14 hz14 hv14=>?_
  subst hv14
  refine fl_un rfl (u_not _) (lN (fx_cseq ?_))
  refine fx_condB rfl (fun hc15=>?_) (fun hc15=>?_)
  ·refine fx_eseq (lq_e (sq_n (xR (lM rfl (lM rfl (lN (xT ?_)))))))
   refine rQ (.inl rfl) (rt rfl rn) ?_
   subst hr
   exact ⟨m,rfl,hm,.inr (tr_last (by omega) hm (by simpa using hc15)),hk2⟩
  ·refine fx_kseq (xG (lM rfl (lM rfl (fl_lenT rfl (lB rfl rfl (bI_sub (n:=m - 1) (by omega) (by omega)) ?_)))))
   refine fl_cutS (i:=0) (j:=m - 1) rfl rfl ⟨_,rfl⟩ (by omega) (by omega) (rfl) ?_
   refine lM rfl (lN ?_)
   exact lq_n (by omega) ⟨m - 1,_,LI.mk [] (hzl0.trans hz14) (atc rfl (atc rfl atn)),rfl,by omega,by rw [hr,List.drop_zero,List.take_take,Nat.min_eq_left (by omega)],tr_step (by omega) hm hk2 hr (by simpa using hc15)⟩
 ·refine fx_eseq (lq_e (sq_n (xR (lM rfl (lM rfl (lN (xT ?_)))))))
  refine rQ (.inl rfl) (rt rfl rn) ?_
  subst hr
  exact ⟨m,rfl,hm,.inl (by omega),hk2⟩
theorem c_strings_trimLeftASCII {k:Nat} (hk:2≤k) {z:Mem} {l:List UInt8} {b ty:Nat} {f:Nat→Bool} (hb:z b (.cells ty (cB f))) (hl:l.length≤1000):FC (E k) 94 [sV l,.c (.ptr b 0)] z fun v _=>∃ m,v=sV (l.drop m)∧m≤l.length∧(m=l.length∨f (l.getD m 0).toNat=false)∧∀ k,k<m→f (l.getD k 0).toNat=true:=by
 refine fc_of (tS_get94) (by omega) (len1 rfl) fun B j hj=>?_
 refine xR (lC rfl (lN ?_))
 refine fx_seq (fx_block ?_)
 refine fx_loop (fun n fs=>∃ (m:Nat) (r:List UInt8),LI z [] [(0,sV r),(1,.c (.ptr b 0))] fs∧n=l.length - m∧(m≤l.length)∧(r=l.drop m)∧(∀ k,k<m→f (l.getD k 0).toNat=true)) ?_ _ ⟨0,l,LI.mk [] (zle.refl _) (atc rfl (atc rfl atn)),rfl,Nat.zero_le _,rfl,fun k h1=>absurd h1 (by omega)⟩ (by show _<18446744073709551616;omega)
 intro n fs hI
 obtain ⟨m,r,hL0,hmz0,hm,hr,hk2⟩:=hI
 refine hL0.open fun e zl0 hzl0=>?_
 refine fx_ss (xR ?_)
 have htl:r.length=l.length - m:=by rw [hr];exact List.length_drop ..
 refine lM rfl (fl_lenT rfl (lB rfl rfl (b_gtr _ _ _) (lN (fx_cseq ?_))))
 refine xD rfl (fun hc7=>?_) (fun hc7=>?_)
 ·refine fx_kseq (fx_block (fx_ss (xR (lC rfl (lM rfl (fl_ixT rfl rfl (0) (rfl) (by omega) ?_))))))
  refine lZ zl0 (c_strings_asciiSet_contains (by omega) ((hzl0) _ _ hb) (UInt8.toNat_lt _)) rfl rfl fun v11 z11 hz11 hv11=>?_
  subst hv11
  refine fl_un rfl (u_not _) (lN (fx_cseq ?_))
  refine fx_condB rfl (fun hc12=>?_) (fun hc12=>?_)
  ·refine fx_eseq (lq_e (sq_n (xR (lM rfl (lM rfl (lN (xT ?_)))))))
   refine rQ (.inl rfl) (rt rfl rn) ?_
   subst hr
   exact ⟨m,rfl,hm,.inr (tl_last (by simpa using hc12)),hk2⟩
  ·refine fx_kseq (xG (lM rfl ?_))
   refine fl_cutS (i:=1) (j:=r.length) rfl ⟨_,rfl⟩ rfl (by omega) (by omega) (rfl) ?_
   refine lM rfl (lN ?_)
   exact lq_n (by omega) ⟨m+1,_,LI.mk [] (hzl0.trans hz11) (atc rfl (atc rfl atn)),rfl,by omega,by rw [List.take_length,hr,List.drop_drop],tl_step hk2 hr (by simpa using hc12)⟩
 ·refine fx_eseq (lq_e (sq_n (xR (lM rfl (lM rfl (lN (xT ?_)))))))
  refine rQ (.inl rfl) (rt rfl rn) ?_
  subst hr
  exact ⟨m,rfl,hm,.inl (by omega),hk2⟩
theorem c_strings_makeASCIISet {k:Nat} (hk:1≤k) {z:Mem} {l:List UInt8} (ha:∀ x,x∈l→x.toNat<128) (hl:l.length≤1000):FC (E k) 93 [sV l] z fun v _=>v=.tup [.agg (cB (setF l)),.c (.v (.bool true))]:=by
 refine fc_of (tS_get93) (by omega) (len1 rfl) fun B j hj=>?_
 refine xR ?_
 refine fl_alB rfl fun b2=>?_
 refine lC rfl (lN (fx_ss (xR (lC rfl (lN ?_)))))
 refine fx_seq (fx_block ?_)
 refine fx_loop (fun n fs=>∃ (i:Nat),LI z [.blk b2 (.cells 148 (cB (setF (l.take i))))] [(0,sV l),(2,.c (.ptr b2 0)),(4,.c (.v (.int .i64 ((i:Nat):Int))))] fs∧n=l.length - i∧(i≤l.length)) ?_ _ ⟨0,LI.mk [] (zle.refl _) (atc rfl (atc rfl (atc rfl atn))),rfl,Nat.zero_le _⟩ (by show _<18446744073709551616;omega)
 intro n fs hI
 obtain ⟨i,hL0,hmz0,hi⟩:=hI
 refine hL0.open fun e zl0 hzl0=>?_
 refine fx_ss (xR (lC rfl (lM rfl (fl_lenT rfl (lB rfl rfl (b_lss _ _ _) (lN (fx_cseq ?_)))))))
 refine xD rfl (fun hc9=>?_) (fun hc9=>?_)
 ·refine fx_kseq ?_
  refine fx_seq (fx_block ?_)
  refine xR (lM rfl (lC rfl (fl_ixT rfl rfl (i) (rfl) (by omega) (lC rfl (lN (fx_ss (xR ?_)))))))
  refine lC rfl (lB rfl rfl (b_geq _ _ _) (lN (fx_cseq ?_)))
  refine xD rfl (fun hc16=>?_) (fun hc16=>?_)
  ·have:=mem_lt ha (show i<l.length by omega);omega
  ·refine fx_kseq (xG (lC rfl (fl_iaa rfl rfl ((l.getD i 0).toNat) rfl (by omega) ?_)))
   refine fl_stB (l.getD i 0).toNat rfl (setF_succ (by omega)) rep0 (by omega) (by have:=mem_lt ha (show i<l.length by omega);omega) ?_
   refine lN (sq_n (xG (lC rfl (lB rfl rfl (bI_add (n:=i+1) (by omega) (by omega)) (lC rfl (lN ?_))))))
   exact lq_n (by omega) ⟨i+1,LI.mk [] (hzl0) (atc rfl (atc rfl (atc rfl atn))),rfl,by omega⟩
 ·refine fx_eseq (lq_e (sq_n (xR (fl_ldB rfl mem0 (fl_stA rfl rfl rep0 (lC rfl (lN ?_)))))))
  refine xT (rQ (.inl rfl) (rc256 rfl mem0 (rt rfl rn)) ?_)
  have e:l.take i=l:=List.take_of_length_le (by omega)
  rw [e]
  rfl
theorem c_strings_Trim {k:Nat} (hk:7≤k) {z:Mem} {l:List UInt8} (hl:l.length≤1000):FC (E k) 33 [sV l,sV nmK] z fun v _=>∃ r,v=sV r∧(r=[]↔∀ x,x∈l→setF nmK x.toNat=true):=by
 refine fc_of (tS_get33) (by omega) (len1 rfl) fun B j hj=>?_
 refine xR (lC rfl (lN (fx_ss (xR (lM rfl (lB rfl rfl ((bS_eql _ _)) (lC rfl ?_)))))))
 refine fl_splitD 9 rfl (fun hg9=>?_) (fun hg9=>?_)
 ·refine lX rfl (lX rfl (lP rfl rfl (lN (fx_cseq (fx_condT rfl (fx_ss (xR ?_)))))))
  refine lM rfl (lM rfl (lN (fx_rseq (rQ (.inl rfl) (rt rfl rn) ?_))))
  exact ⟨l,rfl,by rw [hg9];simp⟩
 ·refine lD rfl (lM rfl (lD rfl (lB rfl rfl ((bS_eql _ _)) (lP rfl rfl (lN (fx_cseq ?_))))))
  refine xD rfl (fun hc12=>?_) (fun hc12=>?_)
  ·exact absurd hc12 (by decide)
  ·refine fx_kseq (fx_ss (xR (lM rfl (fl_lenT rfl (lB rfl rfl (b_eql _ _ _) (lC rfl ?_))))))
   refine fl_splitD 17 rfl (fun hg17=>?_) (fun hg17=>?_)
   ·exact absurd hg17 (by decide)
   ·refine lX rfl (lX rfl (lX rfl (lP rfl rfl (lN (fx_cseq (fx_condF rfl (fx_kseq ?_)))))))
    refine fx_ss (xR (lM rfl ?_))
    refine lZ z (c_strings_makeASCIISet (by omega) nmK_lt (by decide)) rfl rfl fun v31 z31 hz31 hv31=>?_
    subst hv31
    refine lM rfl (fl_ext rfl rfl (fl_ext rfl rfl ?_))
    refine fl_alB rfl fun b5=>?_
    refine fl_stA rfl rfl rep0 (lM rfl (lN (fx_ss (xR (lM rfl (lN (fx_cseq ?_)))))))
    refine fx_condB rfl (fun hc34=>?_) (fun hc34=>?_)
    ·refine fx_ss (xR ?_)
     refine fl_frzZ z31 (p:=[]) rfl rfl rfl (fun _ h=>h) fun zfg5 hzfg5 g5=>?_
     refine lM rfl ?_
     refine lZ zfg5 (c_strings_trimRightASCII (by omega) g5 hl) rfl rfl fun v36 z36 hz36 ⟨m1,hv36,k1,k2,k3⟩=>?_
     subst hv36
     refine lZ z36 (c_strings_trimLeftASCII (by omega) ((hz36) _ _ g5) (by rw [List.length_take];omega)) rfl rfl fun v37 z37 hz37 ⟨m2,hv37,k4,k5,k6⟩=>?_
     subst hv37
     refine lM rfl (lN (fx_rseq (rQ (.inl rfl) (rt rfl rn) ?_)))
     exact ⟨_,rfl,trim_iff k1 k2 k3 k4 k5 k6⟩
    ·cases hc34
theorem c_strings_indexFunc {k:Nat} (hk:7≤k) {z:Mem} {l:List UInt8} (ha:∀ x,x∈l→setF nmK x.toNat=true) (hl:l.length≤1000):FC (E k) 162 [sV l,.c (.fn 35 [] []),.c (.v (.bool true))] z fun v _=>v=.c (.v (.int .i64 (-1))):=by
 refine fc_of (tS_get162) (by omega) (len1 rfl) fun B j hj=>?_
 refine xR (lC rfl (lN (fx_ss (xR (lM rfl ?_)))))
 refine fl_rngS rfl fun b10=>?_
 refine lN ?_
 refine fx_seq (fx_block ?_)
 refine fx_loop (fun n fs=>∃ (i:Nat),LI z [.blk b10 (.sit (bs l) i)] [(1,.c (.fn 35 [] [])),(2,.c (.v (.bool true))),(10,.c (.ptr b10 0))] fs∧n=l.length - i∧(i≤l.length)) ?_ _ ⟨0,LI.mk [] (zle.refl _) (atc rfl (atc rfl (atc rfl atn))),rfl,Nat.zero_le _⟩ (by show _<18446744073709551616;omega)
 intro n fs hI
 obtain ⟨i,hL0,hmz0,hi⟩:=hI
 refine hL0.open fun e zl0 hzl0=>?_
 refine xR ?_
 refine fl_nxtC rfl rep0 (fun h=>nmK_b (ha _ (mem_at h))) (fun hn11=>?_) (fun hn11=>?_)
 ·refine fl_ext rfl rfl (lN (fx_cseq (fx_condT rfl (fx_kseq (fx_block (xR (fl_ext rfl rfl ?_)))))))
  refine fl_ext rfl rfl (lM rfl (lM rfl (lN (xR (lC rfl (lM rfl ?_))))))
  refine fl_callvZ zl0 rfl (c_ast_IsName_1 (by omega) (nmK_b (ha _ (mem_at hn11)))) rfl rfl fun v17 z17 hz17 hv17=>?_
  rw [ha _ (mem_at hn11)] at hv17
  subst hv17
  refine lC rfl (fl_binB rfl rfl (b_eqlB _ _) (lN ?_))
  refine xD rfl (fun hc19=>?_) (fun hc19=>?_)
  ·cases hc19
  ·refine fx_skip ?_
   exact lq_n (by omega) ⟨i+1,LI.mk [] (hzl0.trans hz17) (atc rfl (atc rfl (atc rfl atn))),rfl,by omega⟩
 ·refine fl_ext rfl rfl (lN (fx_cseq (fx_condF rfl (fx_eseq (lq_e (sq_n (xR ?_)))))))
  refine lC rfl (lN (xT (rQ (.inl rfl) (rt rfl rn) ?_)))
  rfl
theorem c_strings_IndexFunc {k:Nat} (hk:8≤k) {z:Mem} {l:List UInt8} (ha:∀ x,x∈l→setF nmK x.toNat=true) (hl:l.length≤1000):FC (E k) 98 [sV l,.c (.fn 35 [] [])] z fun v _=>v=.c (.v (.int .i64 (-1))):=by
 refine fc_of (tS_get98) (by omega) (len1 rfl) fun B j hj=>?_
 refine xR (lC rfl (lN (xR (lM rfl (lC rfl ?_)))))
 refine lZ z (c_strings_indexFunc (by omega) ha hl) rfl rfl fun v7 z7 hz7 hv7=>?_
 subst hv7
 refine lM rfl (lN (xT (rQ (.inl rfl) (rt rfl rn) ?_)))
 rfl
theorem c_strings_ContainsFunc {k:Nat} (hk:9≤k) {z:Mem} {l:List UInt8} (ha:∀ x,x∈l→setF nmK x.toNat=true) (hl:l.length≤1000):FC (E k) 34 [sV l,.c (.fn 35 [] [])] z fun v _=>v=.c (.v (.bool false)):=by
 refine fc_of (tS_get34) (by omega) (len1 rfl) fun B j hj=>?_
 refine xR (lC rfl (lN (xR (lM rfl (lC rfl ?_)))))
 refine lZ z (c_strings_IndexFunc (by omega) ha hl) rfl rfl fun v7 z7 hz7 hv7=>?_
 subst hv7
 refine lB rfl rfl (b_geq _ _ _) (lC rfl (lN (xT (rQ (.inl rfl) (rt rfl rn) ?_))))
 rfl
theorem c_ast_IsName {k:Nat} (hk:10≤k) {z:Mem} {l:List UInt8} (hl:l.length≤1000):FC (E k) 9 [sV l] z fun v _=>v=.c (.v (.bool (nameS l))):=by
 refine fc_of (tS_get9) (by omega) (len1 rfl) fun B j hj=>?_
 refine xR (lC rfl (lN (xR (lM rfl (lB rfl rfl ((bS_neq l [])) (lC rfl ?_))))))
 refine fl_splitN 5 rfl (fun hg5=>?_) (fun hg5=>?_)
 ·refine lD rfl (lM rfl (lD rfl (fl_lenT rfl (lD rfl (lB rfl rfl (b_leq _ _ _) (lP rfl rfl (lM rfl ?_)))))))
  refine fl_splitD 10 rfl (fun hg10=>?_) (fun hg10=>?_)
  ·refine lD rfl (lM rfl (lD rfl (fl_ixT rfl rfl (0) (rfl) (List.length_pos_iff.2 hg5) (lD rfl ?_))))
   refine lZ z (c_strings_IndexByte (l:=nmL) (by omega) (UInt8.toNat_lt _)) rfl rfl fun v13 z13 hz13 hv13=>?_
   subst hv13
   refine lD rfl (lB rfl rfl (b_geq _ _ _) (lP rfl rfl (lM rfl ?_)))
   refine fl_splitD 16 rfl (fun hg16=>?_) (fun hg16=>?_)
   ·refine lD rfl (lM rfl (lD rfl ?_))
    refine lZ z13 (c_strings_Trim (by omega) hl) rfl rfl fun v18 z18 hz18 ⟨r18,hv18,ht18⟩=>?_
    subst hv18
    refine lD rfl (lB rfl rfl ((bS_eql r18 [])) (lP rfl rfl (lM rfl ?_)))
    refine fl_splitD 21 rfl (fun hg21=>?_) (fun hg21=>?_)
    ·refine lD rfl (lM rfl (lD rfl ?_))
     refine lZ z18 (c_strings_ContainsFunc (by omega) (ht18.1 hg21) hl) rfl rfl fun v23 z23 hz23 hv23=>?_
     subst hv23
     refine lD rfl (fl_un rfl (u_not _) (lP rfl rfl (lM rfl (lN (xT (rQ (.inl rfl) (rt rfl rn) ?_))))))
     exact congrArg (fun b=>AV.c (.v (.bool b))) (name_y hg5 (by omega) hg16 (ht18.1 hg21))
    ·refine lX rfl (lX rfl (lX rfl (lP rfl rfl (lM rfl (lN (xT (rQ (.inl rfl) (rt rfl rn) ?_)))))))
     exact congrArg (fun b=>AV.c (.v (.bool b))) (name_n4 fun h=>hg21 (ht18.2 h))
   ·refine lX rfl (lX rfl (lX rfl (lP rfl rfl (lM rfl (lX rfl (lX rfl (lX rfl ?_)))))))
    refine lP rfl rfl (lM rfl (lN (xT (rQ (.inl rfl) (rt rfl rn) ?_))))
    exact congrArg (fun b=>AV.c (.v (.bool b))) (name_n3 hg16)
  ·refine lX rfl (lX rfl (lX rfl (lX rfl (lP rfl rfl (lM rfl (lX rfl (lX rfl ?_)))))))
   refine lX rfl (lP rfl rfl (lM rfl (lX rfl (lX rfl (lX rfl (lP rfl rfl (lM rfl ?_)))))))
   refine lN (xT (rQ (.inl rfl) (rt rfl rn) ?_))
   exact congrArg (fun b=>AV.c (.v (.bool b))) (name_n2 (by omega))
 ·refine lX rfl (lX rfl (lX rfl (lP rfl rfl (lM rfl (lX rfl (lX rfl (lX rfl ?_)))))))
  refine lX rfl (lP rfl rfl (lM rfl (lX rfl (lX rfl (lX rfl (lP rfl rfl (lM rfl ?_)))))))
  refine lX rfl (lX rfl (lX rfl (lP rfl rfl (lM rfl (lN (xT (rQ (.inl rfl) (rt rfl rn) ?_)))))))
  exact congrArg (fun b=>AV.c (.v (.bool b))) (name_n1 hg5)
end Go.Proofs.YtcnpoojdochapaaGreatDoor

/- Naturals in limbs of 32 bits, and rationals on them, walked. -/
import Derived.WalkKit
import Derived.Orders
import Derived.Test.YtlceligcgelbdaaGreatJB2
import Derived.Test.YtlceligcgelbdaaGreatJC2
set_option linter.unusedVariables false
set_option linter.unusedSimpArgs false
set_option maxRecDepth 100000
set_option maxHeartbeats 1000000
namespace Go.Proofs.YtlceligcgelbdaaGreat
open Go.CE Go.RowKit Go.Num
open Go.Eng (setL)
theorem c_limb_trimmed {k:Nat} (hk:1≤k) {z:Mem} {v:AV} {l:List UInt32} (hx:SZ 1 RW z v l):FC (E k) 240 [v] z fun v' _=>∀ zz,SZ 1 RW zz v l→SZ 1 RW zz v' (toL (val l)):=by
 have hxl:=hx.le
 refine fc_of (tS_get240) (by omega) (len1 rfl) fun B j hj=>?_
 refine R5 4 O ?_
 refine fx_seq (fx_block ?_)
 refine fx_loop (fun n fs=>∃ (v':AV) (m:Nat),LI z [] [(0,v')] fs∧n=m∧(m≤l.length)∧(val (l.take m)=val l)∧(∀ zz,SZ 1 RW zz v l→SZ 1 RW zz v' (l.take m))) ?_ _ ⟨v,l.length,LI.m [] O,rfl,Nat.le_refl _,by rw [List.take_length],fun zz h=>by rw [List.take_length];exact h⟩ (kK (by omega))
 intro n fs ⟨v',m,hL0,hmz0,hm,hv,ht⟩
 refine hL0.open fun e zl0 hzl0=>?_
 refine R4 12 O (fl_lenN rfl (ht _ (hx.mono (hzl0))) (take_len hm) (R1 4 O ?_))
 refine fl_splitD 6 rfl (fun hg6=>?_) (fun hg6=>?_)
 ·refine R1 7 O (lD rfl (fl_lenN rfl (ht _ (hx.mono (hzl0))) (take_len hm) (lD rfl (lB rfl rfl (bI_sub (n:=m - 1) (by omega) (by omega)) (lD rfl ?_)))))
  refine fl_iadW rfl rfl (ht _ (hx.mono (hzl0))) (m - 1) (rfl) (by rw [take_len hm];omega) fun p11 hp11=>?_
  refine lD rfl (fl_ldP rfl hp11 (R3 8 O ?_))
  refine xD rfl (fun hc14=>?_) (fun hc14=>?_)
  ·refine fx_kseq (fx_block (xG (R1 7 O (fl_lenN rfl (ht _ (hx.mono (hzl0))) (take_len hm) (lB rfl rfl (bI_sub (n:=m - 1) (by omega) (by omega)) ?_)))))
   refine fl_slcS (i:=0) (j:=m - 1) rfl (ht _ (hx.mono (hzl0))) rfl ⟨_,rfl⟩ (by omega) (by rw [take_len hm];omega) ?_
   refine R0 3 O ?_
   exact lq_n (by omega) ⟨subV v' 0 (m - 1),m - 1,LI.m [] O,rfl,by omega,(trim_step (by omega) hm (by omega)).trans hv,fun zz h=>by have:=(ht zz h).sub (i:=0) (j:=m - 1) (by omega) (by rw [take_len hm];omega);rwa [List.drop_zero,List.take_take,Nat.min_eq_left (by omega)] at this⟩
  refine fx_eseq (lq_e (sq_n (R5 14 O (xT (rI O ?_)))))
  intro zz h
  rw [← trim_done hm hv (.inr (by omega))]
  exact ht zz h
 refine R3 1024 O (fx_eseq (lq_e (sq_n (R5 14 O (xT (rI O ?_))))))
 intro zz h
 rw [← trim_done hm hv (.inl (by omega))]
 exact ht zz h
theorem c_Clone32 {k:Nat} (hk:1≤k) {z:Mem} {v:AV} {l:List UInt32} (hx:SZ 1 RW z v l) (hl:l.length≤10000000000):FC (E k) 192 [v] z fun v' z'=>SZ 1 RW (zd z z') v' l:=FCt.clone (clone_fc tS_get192 hk hx (by omega)) (fun h=>h) (by omega)
theorem c_limb_Trim {k:Nat} (hk:2≤k) {z:Mem} {v:AV} {l:List UInt32} (hx:SZ 1 RW z v l) (hl:l.length≤10000000000):FC (E k) 164 [v] z fun v' z'=>SZ 1 RW (zd z z') v' (toL (val l)):=by
 refine fc_of (tS_get164) (by omega) (len1 rfl) fun B j hj=>?_
 refine R4 24 O ?_
 refine lZ z (c_limb_trimmed (by omega) hx) rfl rfl fun v4 z4 hz4 ht4=>?_
 have hs4:=ht4 _ (hx.mono (hz4))
 have hq4:=len_canon (l:=l)
 refine lZ z4 (c_Clone32 (by omega) hs4 (by omega)) rfl rfl fun v5 z5 _ hr5=>?_
 have hr5:=hr5.mono (zAq (hz4))
 refine R0 3 O (xT ?_)
 exact rI O hr5
theorem c_isNaNI {k:Nat} (hk:1≤k) {z:Mem} {a:Int}:FC (E k) 318 [Ai a] z fun v _=>v=Ab false:=by
 refine fc_of (tS_get318) (by omega) (len1 rfl) fun B j hj=>?_
 refine R5 128 O (xT (rI O ?_))
 show AV.c (C.v (Value.bool (!decide (a=a))))=_
 simp
theorem c_isNaN32 {k:Nat} (hk:1≤k) {z:Mem} {a:Int}:FC (E k) 319 [Ad a] z fun v _=>v=Ab false:=by
 refine fc_of (tS_get319) (by omega) (len1 rfl) fun B j hj=>?_
 refine R5 128 O (xT (rI O ?_))
 show AV.c (C.v (Value.bool (!decide (a=a))))=_
 simp
theorem c_CompareI {k:Nat} (hk:2≤k) {z:Mem} {a b:Nat}:FC (E k) 307 [Ai (a:Nat),Ai (b:Nat)] z fun v _=>v=Ai (cmp3 a b):=by
 refine fc_of (tS_get307) (by omega) (len1 rfl) fun B j hj=>?_
 refine R4 16 O ?_
 refine lE z (c_isNaNI (by omega)) O O fun z8 _=>?_
 refine R2 9 O ?_
 refine lE z8 (c_isNaNI (by omega)) O O fun z10 _=>?_
 refine R3 524809 O ?_
 refine xD rfl (fun hc16=>?_) (fun hc16=>?_)
 ·refine R5 8 O (fx_rseq (rI O ?_))
  rw [cmp3,if_pos (by omega)]
  rfl
 refine R5 128 O ?_
 refine xD rfl (fun hc19=>?_) (fun hc19=>?_)
 ·refine R5 8 O (fx_rseq (rI O ?_))
  rw [cmp3,if_neg (by omega),if_pos (by omega)]
  rfl
 refine R5 8 O (xT (rI O ?_))
 rw [cmp3,if_neg (by omega),if_neg (by omega)]
 rfl
theorem c_Compare32 {k:Nat} (hk:2≤k) {z:Mem} {a b:Nat}:FC (E k) 308 [Ad (a:Nat),Ad (b:Nat)] z fun v _=>v=Ai (cmp3 a b):=by
 refine fc_of (tS_get308) (by omega) (len1 rfl) fun B j hj=>?_
 refine R4 16 O ?_
 refine lE z (c_isNaN32 (by omega)) O O fun z8 _=>?_
 refine R2 9 O ?_
 refine lE z8 (c_isNaN32 (by omega)) O O fun z10 _=>?_
 refine R3 524809 O ?_
 refine xD rfl (fun hc16=>?_) (fun hc16=>?_)
 ·refine R5 8 O (fx_rseq (rI O ?_))
  rw [cmp3,if_pos (by omega)]
  rfl
 refine R5 128 O ?_
 refine xD rfl (fun hc19=>?_) (fun hc19=>?_)
 ·refine R5 8 O (fx_rseq (rI O ?_))
  rw [cmp3,if_neg (by omega),if_pos (by omega)]
  rfl
 refine R5 8 O (xT (rI O ?_))
 rw [cmp3,if_neg (by omega),if_neg (by omega)]
 rfl
theorem c_limb_Cmp {k:Nat} (hk:3≤k) {z:Mem} {u v:AV} {a b:List UInt32} (hx:SZ 1 RW z u a) (hy:SZ 1 RW z v b):FC (E k) 281 [u,v] z fun v _=>v=Ai (cmp3 (val a) (val b)):=by
 refine fc_of (tS_get281) (by omega) (len1 rfl) fun B j hj=>?_
 refine R4 24 O ?_
 refine lZ z (c_limb_trimmed (by omega) hx) rfl rfl fun v7 z7 hz7 ht7=>?_
 have hs7:=ht7 _ (hx.mono (hz7))
 have hl7:=hs7.le
 refine lM rfl ?_
 refine lZ z7 (c_limb_trimmed (by omega) hy.m) rfl rfl fun v9 z9 hz9 ht9=>?_
 have hs9:=ht9 _ (hy.mono (hz7.trans hz9))
 refine R2 51 O (fl_lenS rfl hs7 (lM rfl (fl_lenS rfl hs9 (R3 4 O ?_))))
 refine fx_condN rfl (fun hc14=>?_) (fun hc14=>?_)
 ·refine R4 12 O (fl_lenS rfl hs7 (lM rfl (fl_lenS rfl hs9 ?_)))
  refine lZ z9 (c_CompareI (by omega)) rfl rfl fun v19 z19 _ hv19=>?_
  refine R0 3 O (fx_rseq ?_)
  exact rI O (hv19.trans (by rw [cmp_len (by omega)]))
 refine R4 24 O (fl_lenS rfl hs7 (lB rfl rfl (b_sub' (r:=(((toL (val a)).length:Nat):Int) - 1) (wi64 (by omega))) (R0 2 O ?_)))
 refine fx_seq (fx_block ?_)
 refine fx_loop (fun n fs=>∃ (i:Nat),LI z9 [] [(0,v7),(1,v9),(5,Ai ((i:Int) - 1))] fs∧n=i∧(i≤(toL (val a)).length)∧(∀ j,i≤j→dig (toL (val a)) j=dig (toL (val b)) j)) ?_ _ ⟨(toL (val a)).length,LI.m [] O,rfl,Nat.le_refl _,fun j hj=>by rw [dig_ge hj,dig_ge (by omega)]⟩ (kK (by omega))
 intro n fs ⟨i,hL0,hmz0,hi,he⟩
 refine hL0.open fun e zl0 _=>?_
 refine R5 32 O ?_
 refine xD rfl (fun hc24=>?_) (fun hc24=>?_)
 ·refine fx_kseq ?_
  refine fx_seq (fx_block ?_)
  refine fx_drwS (G1 5 O (gP rfl rfl trivial ?_))
  refine fl_iadW (zz:=zl0) rfl rfl hs7.m (i - 1) (by omega) (by omega) fun p29 hp29=>lN ?_
  refine glP O O hp29 ti (G1 5 O (gP rfl rfl trivial ?_))
  refine fl_iadW (zz:=zl0) rfl rfl hs9.m (i - 1) (by omega) (by omega) fun p33 hp33=>lN ?_
  refine glP O O hp33 ti (G0 2 O ?_)
  refine fx_condN rfl (fun hc35=>?_) (fun hc35=>?_)
  ·refine fx_drwS (G1 5 O (gP rfl rfl trivial ?_))
   refine fl_iadW (zz:=zl0) rfl rfl hs7.m (i - 1) (by omega) (by omega) fun p38 hp38=>lN ?_
   refine glP O O hp38 ti (G1 5 O (gP rfl rfl trivial ?_))
   refine fl_iadW (zz:=zl0) rfl rfl hs9.m (i - 1) (by omega) (by omega) fun p42 hp42=>lN ?_
   refine glP O O hp42 ti ?_
   refine gC zl0 (c_Compare32 (by omega)) O O O O fun v44 z44 _ hv44=>?_
   refine G0 3 O (xT (sq_r (lq_r (sq_r (rI O (hv44.trans ?_))))))
   rw [cmp_top (by omega) (by omega) (fun j hj=>he j (by omega)) (by omega),val_toL,val_toL]
  refine fx_skip (sq_n (xG (lC rfl ?_)))
  refine lB rfl rfl (b_sub' (r:=((i - 1:Nat):Int) - 1) (by rw [wi64 ⟨by omega,by omega⟩];omega)) ?_
  refine R0 2 O ?_
  exact lq_n (by omega) ⟨i - 1,LI.m [] O,rfl,by omega,eq_below (by omega) he (by omega)⟩
 refine fx_eseq (lq_e (sq_n (R5 4 O (xT (rI O ?_)))))
 have e:toL (val a)=toL (val b):=dig_ext (by omega) fun j=>he j (by omega)
 have e2:val a=val b:=by rw [← val_toL (val a),e,val_toL]
 rw [e2,cmp3,if_neg (by omega),if_neg (by omega)]
 rfl
theorem c_bits_Add32 {k:Nat} (hk:1≤k) {z:Mem} {a b c:Nat} (ha:a<4294967296) (hb:b<4294967296) (hc:c≤1):FC (E k) 305 [Ad ((a:Nat):Int),Ad ((b:Nat):Int),Ad ((c:Nat):Int)] z fun v _=>∃ lo co:Nat,v=.tup [Ad (lo:Nat),Ad (co:Nat)]∧lo+4294967296 * co=a+b+c∧lo<4294967296∧co≤1:=by
 refine fc_of (tS_get305) (by omega) (len1 rfl) fun B j hj=>?_
 refine R4 32 O (fl_cvi rfl (wQ (rfl) (by omega)) (lC rfl (fl_cvi rfl (wQ (rfl) (by omega)) (lB rfl rfl (bQ_add (n:=a+b) (by omega) (by omega)) (lC rfl (fl_cvi rfl (wQ (rfl) (by omega)) (lB rfl rfl (bQ_add (n:=a+b+c) (by omega) (by omega)) (R2 8 O (fl_cvi rfl (wDm _) (R2 8 O (lB rfl rfl (b_shr (n:=(a+b+c) / 4294967296) (by decide) (rfl)) (fl_cvi rfl (wD (rfl) (by omega)) (R0 2 O (xT (rQ (.inl rfl) (rt rfl (rt rfl rn)) ?_)))))))))))))))
 exact ⟨_,_,rfl,by omega,by omega,by omega⟩
theorem c_bits_Mul32 {k:Nat} (hk:1≤k) {z:Mem} {a b:Nat} (ha:a<4294967296) (hb:b<4294967296):FC (E k) 323 [Ad ((a:Nat):Int),Ad ((b:Nat):Int)] z fun v _=>∃ hi lo:Nat,v=.tup [Ad (hi:Nat),Ad (lo:Nat)]∧lo+4294967296 * hi=a * b∧lo<4294967296∧hi<4294967296:=by
 have hab:a * b≤4294967295 * 4294967295:=Nat.mul_le_mul (by omega) (by omega)
 refine fc_of (tS_get323) (by omega) (len1 rfl) fun B j hj=>?_
 refine R4 32 O (fl_cvi rfl (wQ (rfl) (by omega)) (lC rfl (fl_cvi rfl (wQ (rfl) (by omega)) (lB rfl rfl (bQ_mul (n:=a * b) ((Int.natCast_mul a b).symm) (by omega)) (R2 8 O (lB rfl rfl (b_shr (n:=(a * b) / 4294967296) (by decide) (rfl)) (fl_cvi rfl (wD (rfl) (by omega)) (lC rfl (fl_cvi rfl (wDm _) (R0 4 O (xT (rQ (.inl rfl) (rt rfl (rt rfl rn)) ?_))))))))))))
 exact ⟨_,_,rfl,by omega,by omega,by omega⟩
theorem c_bits_Div32 {k:Nat} (hk:1≤k) {z:Mem} {hi lo y:Nat} (hh:hi<y) (hl:lo<4294967296) (hy:y<4294967296):FC (E k) 314 [Ad ((hi:Nat):Int),Ad ((lo:Nat):Int),Ad ((y:Nat):Int)] z fun v _=>∃ q r:Nat,v=.tup [Ad (q:Nat),Ad (r:Nat)]∧q * y+r=4294967296 * hi+lo∧r<y∧q<4294967296:=by
 have h1:=div32_lt hh hl
 have h2:=Nat.mod_lt (4294967296 * hi+lo) (show 0<y by omega)
 have h3:=Nat.div_add_mod' (4294967296 * hi+lo) y
 refine fc_of (tS_get314) (by omega) (len1 rfl) fun B j hj=>?_
 refine R4 256 O ?_
 refine fl_splitN 11 rfl (fun hg11=>?_) (fun hg11=>?_)
 ·refine R3 32 O ?_
  refine xD rfl (fun hc15=>?_) (fun hc15=>?_)
  ·omega
  refine R4 8 O (fl_cvi rfl (wQ (rfl) (by omega)) (lB rfl rfl (bQ_shl32 (n:=4294967296 * hi) (by omega) (by omega)) (lC rfl (fl_cvi rfl (wQ (rfl) (by omega)) (lB rfl rfl (bQ_or (n:=4294967296 * hi+lo) (by omega) (by omega) (or_shift hl)) (R0 2 O (fx_drwS (G1 4 O (gP rfl rfl trivial ?_)))))))))
  refine fl_cvi rfl (wQ (rfl) (by omega)) (lN ?_)
  refine gP rfl rfl trivial ?_
  refine lB rfl rfl (bQ_quo (by omega) (rfl) (by omega)) (lN ?_)
  refine gP rfl rfl trivial ?_
  refine fl_cvi rfl (wD (rfl) (by omega)) (lN ?_)
  refine G1 4 O (gP rfl rfl trivial ?_)
  refine fl_cvi rfl (wQ (rfl) (by omega)) (lN ?_)
  refine gP rfl rfl trivial ?_
  refine lB rfl rfl (bQ_rem (by omega) (rfl)) (lN ?_)
  refine gP rfl rfl trivial ?_
  refine fl_cvi rfl (wD (rfl) (by omega)) (lN ?_)
  refine G0 4 O (xT (rQ (.inl rfl) (rt rfl (rt rfl rn)) ?_))
  exact ⟨_,_,rfl,h3,h2,h1⟩
 omega
theorem c_bits_Sub32 {k:Nat} (hk:1≤k) {z:Mem} {a b c:Nat} (ha:a<4294967296) (hb:b<4294967296) (hc:c≤1):FC (E k) 306 [Ad ((a:Nat):Int),Ad ((b:Nat):Int),Ad ((c:Nat):Int)] z fun v _=>∃ lo co:Nat,v=.tup [Ad (lo:Nat),Ad (co:Nat)]∧lo+b+c=a+4294967296 * co∧lo<4294967296∧co≤1:=by
 refine fc_of (tS_get306) (by omega) (len1 rfl) fun B j hj=>?_
 refine R4 64 O ?_
 refine lB rfl rfl (b_sub' (r:=((a+4294967296 - b) % 4294967296:Nat)) (by rw [wu32m];omega)) ?_
 refine lC rfl ?_
 refine lB rfl rfl (b_sub' (r:=((a+8589934592 - b - c) % 4294967296:Nat)) (by rw [wu32m];omega)) ?_
 refine R2 8 O (fl_un rfl (uD_not (by omega) rfl) (lC rfl (lB rfl rfl (bD_and (by omega) (by omega) (rfl)) (R1 4 O (lB rfl rfl (bD_xor (by omega) (by omega) (rfl)) (fl_un rfl (uD_not (Nat.xor_lt_two_pow (n:=32) ha hb) rfl) (lC rfl (lB rfl rfl (bD_and (by omega) (by omega) (rfl)) (lB rfl rfl (bD_or (Nat.and_lt_two_pow (n:=32) _ hb) (Nat.and_lt_two_pow (n:=32) _ (by omega)) (rfl)) (lB rfl rfl (b_shr (by decide) (rfl)) (R0 2 O (xT (rQ (.inl rfl) (rt rfl (rt rfl rn)) ?_)))))))))))))
 have h:=borrow_bit ha hb hc
 refine ⟨_,_,rfl,?_,by omega,?_⟩
 ·rw [h];split<;>omega
 rw [h];split<;>omega
theorem c_bits_Len32 {k:Nat} (hk:1≤k) {z:Mem} {x:Nat} (hx:x<4294967296):FC (E k) 258 [Ad ((x:Nat):Int)] z fun v _=>∃ n:Nat,v=Ai (n:Nat)∧n≤32∧x<2 ^ n∧(0<x→2 ^ (n - 1)≤x∧0<n):=by
 refine fc_of (tS_get258) (by omega) (len1 rfl) fun B j hj=>?_
 refine R5 64 O ?_
 refine fx_join (fun fs=>∃ (y:Nat) (n:Nat),LI z [] [(0,Ad ((y:Nat):Int)),(2,Az n)] fs∧(Bl x y n 16)) ?_ fun fs hJ=>?_
 ·refine xD rfl (fun hc4=>?_) (fun hc4=>?_)
  ·refine R4 4 O (lB rfl rfl (b_shr (by decide) (rfl)) (R0 2 O (xG (R0 2 O ?_))))
   exact sq_n ⟨x / 65536,16,LI.m [] O,bl_a hx (by omega)⟩
  refine fx_skip ?_
  exact sq_n ⟨x,0,LI.m [] O,bl_b (by omega)⟩
 obtain ⟨y,n,hJ4,hb4⟩:=hJ
 refine hJ4.open fun e zj4 _=>?_
 refine R5 16 O ?_
 refine fx_join (fun fs=>∃ (y':Nat) (n':Nat),LI zj4 [] [(0,Ad ((y':Nat):Int)),(2,Az n')] fs∧(Bl x y' n' 8)) ?_ fun fs hJ=>?_
 ·refine xD rfl (fun hc8=>?_) (fun hc8=>?_)
  ·refine R4 4 O (lB rfl rfl (b_shr (by decide) (rfl)) (R0 2 O (xG (lC rfl ?_))))
   refine lB rfl rfl (bI_add (n:=n+8) (by omega) (by have:=hb4.1;omega)) ?_
   refine R0 2 O ?_
   exact sq_n ⟨y / 256,n+8,LI.m [] O,bl_c hb4 (by omega)⟩
  refine fx_skip ?_
  exact sq_n ⟨y,n,LI.m [] O,bl_d hb4 (by omega)⟩
 obtain ⟨y',n',hJ8,hb8⟩:=hJ
 refine hJ8.open fun e zj8 _=>?_
 refine R4 8 O ?_
 refine fl_cvi rfl ((wu8 ⟨by omega,by have:=hb8.2.1;omega⟩)) ?_
 refine fl_ixs rfl rfl (y') (rfl) (by have:=hb8.2.1;show _<256;omega) ?_
 refine fl_cvi rfl (wI (rfl) (Nat.lt_trans (UInt8.toNat_lt _) (by decide))) ?_
 refine lB rfl rfl (bI_add (n:=n'+(Go.Eng.bget tab8 y').toNat) ((Int.natCast_add _ _).symm) (by have:=UInt8.toNat_lt (Go.Eng.bget tab8 y');have:=hb8.1;omega)) ?_
 refine R0 2 O (xT ?_)
 exact rI O (bl_e hb8)
theorem c_limb_Add {k:Nat} (hk:2≤k) {z:Mem} {u v:AV} {a0 b0:List UInt32} (hx:SZ 1 RW z u a0) (hy:SZ 1 RW z v b0) (hla:a0.length≤1000000000) (hlb:b0.length≤1000000000):FC (E k) 279 [u,v] z fun v z'=>SZ 1 RW (zd z z') v (toL (val a0+val b0)):=by
 refine fc_of (tS_get279) (by omega) (len1 rfl) fun B j hj=>?_
 refine R4 48 O (fl_lenS rfl hx (lM rfl (fl_lenS rfl hy (R0 2 O ?_))))
 refine fx_join (fun fs=>∃ (p:AV) (q:AV) (a:List UInt32) (b:List UInt32),LI z [] [(0,p),(1,q)] fs∧(SZ 1 RW z p a)∧(SZ 1 RW z q b)∧(b.length≤a.length)∧(a.length≤1000000000)∧(val a+val b=val a0+val b0)) ?_ fun fs hJ=>?_
 ·refine xD rfl (fun hc13=>?_) (fun hc13=>?_)
  ·refine xG (R0 31 O ?_)
   exact sq_n ⟨v,u,b0,a0,LI.m [] O,hy,hx,by omega,hlb,Nat.add_comm _ _⟩
  refine fx_skip ?_
  exact sq_n ⟨u,v,a0,b0,LI.m [] O,hx,hy,by omega,hla,rfl⟩
 obtain ⟨p,q,a,b,hJ13,hp,hq,hba,hal,hs⟩:=hJ
 refine hJ13.open fun e zj13 _=>?_
 refine R4 6 O (fl_lenS rfl hp (lB rfl rfl (bI_add (n:=a.length+1) (by omega) (by omega)) ?_))
 refine fl_mkW (n:=a.length+1) rfl rfl (rfl) (by omega) (by omega) fun b19=>?_
 refine R2 96 O (fl_lenS rfl hp (R0 2 O ?_))
 refine fx_seq (fx_block ?_)
 refine fx_loop (fun n fs=>∃ (i:Nat) (o:List UInt32) (cy:Nat),LI zj13 [blkE eW b19 117 o] [(0,p),(1,q),(5,Aw b19 (a.length+1)),(6,Ad ((cy:Nat):Int)),(21,Az a.length),(22,Az i)] fs∧n=a.length - i∧(i≤a.length)∧(o.length=a.length+1)∧(cy≤1)∧(val (o.take i)+Num.W ^ i * cy=val (a.take i)+val (b.take i))) ?_ _ ⟨0,_,0,LI.m [] O,rfl,Nat.zero_le _,by simp,by omega,by simp [val]⟩ (kK (by omega))
 intro n fs ⟨i,o,cy,hL0,hmz0,hi,hol,hcy,hv⟩
 refine hL0.open fun e zl0 _=>?_
 refine R5 8 O ?_
 refine xD rfl (fun hc23=>?_) (fun hc23=>?_)
 ·refine fx_kseq ?_
  refine fx_seq (fx_block ?_)
  refine R4 768 O (fl_lenS rfl hq (R0 2 O ?_))
  refine fx_join (fun fs=>LI zl0 [blkE eW b19 117 o] [(0,p),(1,q),(5,Aw b19 (a.length+1)),(6,Ad ((cy:Nat):Int)),(7,Az i),(8,Ad ((dig b i:Nat):Int)),(21,Az a.length),(22,Az i)] fs) ?_ fun fs hJ=>?_
  ·refine xD rfl (fun hc28=>?_) (fun hc28=>?_)
   ·refine xG (R1 5 O ?_)
    refine fl_iadW (zz:=zl0) rfl rfl hq.m (i) (rfl) (by omega) fun p31 hp31=>?_
    refine fl_ldP rfl hp31 (R0 2 O ?_)
    exact sq_n (LI.m [] O)
   refine fx_skip ?_
   rw [show dig b i=0 from dig_ge (by omega)]
   exact sq_n (LI.m [] O)
  have hJ28:=hJ
  refine hJ28.open fun e zj28 _=>?_
  refine xG (R1 20 O ?_)
  refine fl_iadW (zz:=zj28) rfl rfl hp.m (i) (rfl) (by omega) fun p38 hp38=>?_
  refine fl_ldP rfl hp38 (R1 4 O ?_)
  refine lZ zj28 (c_bits_Add32 (by omega) (dig_lt a i) (dig_lt b i) hcy) rfl rfl fun v42 z42 _ ⟨lo,co,hv42,hk1,hk2,hk3⟩=>?_
  subst hv42
  refine R1 9 O (fl_iad rfl rfl (i) (rfl) (by omega) (fl_setW (i) (lo) rfl rfl rep0 (rfl) (by omega) (by omega) (by omega) (R0 3 O (sq_n (xG (lB rfl rfl (bI_add (n:=i+1) (by omega) (by omega)) (R0 2 O ?_)))))))
  exact lq_n (by omega) ⟨i+1,_,co,LI.m [] O,rfl,by omega,by simp [hol],hk3,add_set (by omega) hk2 hv hk1⟩
 refine fx_eseq (lq_e (sq_n (R4 12 O (fl_lenS rfl hp (lC rfl (fl_iad rfl rfl (a.length) (rfl) (by omega) (fl_setW (a.length) (cy) rfl rfl rep0 (rfl) (by omega) (by omega) (by omega) (lN (R4 4 O ?_)))))))))
 refine fl_frzBZ (n:=a.length+1) z zl0 (p:=[]) rfl rfl zI (by rw [List.length_set];omega) (by omega) fun zf52 _ hf52=>?_
 refine lZ zf52 (c_limb_trimmed (by omega) (hf52.mono zd_le)) rfl rfl fun v53 z53 hz53 ht53=>?_
 refine R0 3 O (xT (rI O ?_))
 have hr:=ht53 _ (hf52.mono (zd_mono (hz53)))
 rwa [last_set hol (by show _<4294967296;omega),show val (o.take a.length)+Num.W ^ a.length * cy=val a0+val b0 by rw [show i=a.length by omega] at hv;rw [hv,val_take_all (Nat.le_refl _),val_take_all hba];exact hs] at hr
theorem c_Clone32o {k:Nat} (hk:1≤k) {z:Mem} {v:AV} {l:List UInt32} (hx:SZ 1 RW z v l) (hl:l.length≤10000000000):FCt (E k) 192 [v] z [] fun v' _ H'=>H'=[rowE eW v' 117 l]:=(clone_fc tS_get192 hk hx (by omega)).mono fun v' z' H' _ ⟨cs,h1,h2,_⟩=>by rw [h1,cl_cE h2]
theorem c_limb_Sub {k:Nat} (hk:4≤k) {z:Mem} {u v:AV} {a b:List UInt32} (hx:SZ 1 RW z u a) (hy:SZ 1 RW z v b) (hla:a.length≤1000000000) (hlb:b.length≤1000000000):FC (E k) 280 [u,v] z fun v z'=>(val a<val b→v=.tup [nilv,Ai 2])∧(val b≤val a→∃ v',v=.tup [v',Ai 0]∧SZ 1 RW (zd z z') v' (toL (val a - val b))):=by
 have hqa:=len_canon (l:=a)
 have hqb:=len_canon (l:=b)
 refine fc_of (tS_get280) (by omega) (len1 rfl) fun B j hj=>?_
 refine R4 48 O ?_
 refine lZ z (c_limb_trimmed (by omega) hx) rfl rfl fun v11 z11 hz11 ht11=>?_
 have hs11:=ht11 _ (hx.mono (hz11))
 refine lM rfl ?_
 refine lZ z11 (c_limb_trimmed (by omega) hy.m) rfl rfl fun v13 z13 hz13 ht13=>?_
 have hs13:=ht13 _ (hy.mono (hz11.trans hz13))
 refine R2 115 O ?_
 refine lZ z13 (c_limb_Cmp (by omega) hs11.m hs13) rfl rfl fun v16 z16 _ hv16=>?_
 rw [val_toL,val_toL] at hv16
 subst hv16
 refine R3 4 O ?_
 refine xD rfl (fun hc17=>?_) (fun hc17=>?_)
 ·refine R5 16 O (fx_rseq (rQ (.inl rfl) (rt rfl (rt rfl rn)) ?_))
  rw [cmp3_lt] at hc17
  exact ⟨fun _=>rfl,fun h=>absurd h (by omega)⟩
 refine R4 12 O ?_
 refine fl_callLZ z16 [] (c_Clone32o (by omega) hs11.m (by omega)) rfl rfl rfl fun v19 z19 H19 _ hH19=>?_
 subst hH19
 refine R2 97 O (fl_lenR rfl mem0 (R0 2 O ?_))
 refine fx_seq (fx_block ?_)
 refine fx_loop (fun n fs=>∃ (i:Nat) (o:List UInt32) (cy:Nat),LI z19 [rowE eW v19 117 o] [(1,v13),(6,v19),(7,Ad ((cy:Nat):Int)),(21,Az ((toL (val a)).length)),(22,Az i)] fs∧n=(toL (val a)).length - i∧(i≤(toL (val a)).length)∧(o.length=(toL (val a)).length)∧(cy≤1)∧(o.drop i=(toL (val a)).drop i)∧(val (o.take i)+val ((toL (val b)).take i)=val ((toL (val a)).take i)+Num.W ^ i * cy)) ?_ _ ⟨0,_,0,LI.m [] O,rfl,Nat.zero_le _,rfl,by omega,rfl,by simp [val]⟩ (kK (by omega))
 intro n fs ⟨i,o,cy,hL0,hmz0,hi,hol,hcy,hdr,hv⟩
 refine hL0.open fun e zl0 _=>?_
 refine R5 8 O ?_
 refine xD rfl (fun hc23=>?_) (fun hc23=>?_)
 ·refine fx_kseq ?_
  refine fx_seq (fx_block ?_)
  refine R4 768 O (fl_lenS rfl hs13 (R0 2 O ?_))
  refine fx_join (fun fs=>LI zl0 [rowE eW v19 117 o] [(1,v13),(6,v19),(7,Ad ((cy:Nat):Int)),(8,Az i),(9,Ad ((dig (toL (val b)) i:Nat):Int)),(21,Az ((toL (val a)).length)),(22,Az i)] fs) ?_ fun fs hJ=>?_
  ·refine xD rfl (fun hc28=>?_) (fun hc28=>?_)
   ·refine xG (R1 5 O ?_)
    refine fl_iadW (zz:=zl0) rfl rfl hs13.m (i) (rfl) (by omega) fun p31 hp31=>?_
    refine fl_ldP rfl hp31 (R0 2 O ?_)
    exact sq_n (LI.m [] O)
   refine fx_skip ?_
   rw [show dig (toL (val b)) i=0 from dig_ge (by omega)]
   exact sq_n (LI.m [] O)
  have hJ28:=hJ
  refine hJ28.open fun e zj28 _=>?_
  refine xG ?_
  refine fl_rowE (p:=[]) rfl (by omega) fun bbr hbr=>?_
  cases hbr
  refine R1 21 O (fl_iad rfl rfl (i) (rfl) (by omega) (fl_ldOW (i) rfl mem0 (by omega) (by omega) (R1 4 O ?_)))
  refine lZ zj28 (c_bits_Sub32 (by omega) (dig_lt o i) (dig_lt _ i) hcy) rfl rfl fun v42 z42 _ ⟨lo,co,hv42,hk1,hk2,hk3⟩=>?_
  subst hv42
  refine R1 9 O (fl_iad rfl rfl (i) (rfl) (by omega) (fl_setW (i) (lo) rfl rfl rep0 (rfl) (by omega) (by omega) (by omega) ?_))
  refine fl_asrowE (p:=[]) rfl (by rw [List.length_set]) ?_
  refine R0 3 O (sq_n (xG (lB rfl rfl (bI_add (n:=i+1) (by omega) (by omega)) (R0 2 O ?_))))
  have hd:=dig_drop hdr (Nat.le_refl i)
  exact lq_n (by omega) ⟨i+1,_,co,LI.m [] O,rfl,by omega,by rw [List.length_set];exact hol,hk3,by rw [set_drop (by omega),drop_succ hdr],sub_set (by omega) hk2 hv (by rw [← hd];exact hk1)⟩
 refine fx_eseq (lq_e (sq_n (R4 6 O ?_)))
 refine fl_frzRZ z zl0 (p:=[]) rfl rfl zI (by omega) fun zf47 _ hf47=>?_
 refine lZ zf47 (c_limb_trimmed (by omega) (hf47.mono zd_le)) rfl rfl fun v48 z48 hz48 ht48=>?_
 refine R0 5 O (xT (rQ (.inl rfl) (rt rfl (rt rfl rn)) ?_))
 rw [cmp3_lt] at hc17
 refine ⟨fun h=>absurd h hc17,fun _=>⟨_,rfl,?_⟩⟩
 have hr:=ht48 _ (hf47.mono (zd_mono (hz48)))
 have hw:=val_lt o
 rw [show i=(toL (val a)).length by omega,val_take_all (by omega),val_take_all (Nat.le_refl _),val_take_all (by have:=len_le (show val b≤val a by omega);omega),val_toL,val_toL] at hv
 have e:val o=val a - val b:=sub_last (by omega) hcy (by rw [← hol];exact hw) hv
 rwa [e] at hr
theorem c_limb_MulSmall {k:Nat} (hk:2≤k) {z:Mem} {v:AV} {a:List UInt32} {m:Nat} (hx:SZ 1 RW z v a) (hm:m<4294967296) (hla:a.length≤1000000000):FC (E k) 322 [v,Ad ((m:Nat):Int)] z fun v z'=>SZ 1 RW (zd z z') v (toL (val a * m)):=by
 refine fc_of (tS_get322) (by omega) (len1 rfl) fun B j hj=>?_
 refine R4 24 O (fl_lenS rfl hx (lB rfl rfl (bI_add (n:=a.length+1) (by omega) (by omega)) ?_))
 refine fl_mkW (n:=a.length+1) rfl rfl (rfl) (by omega) (by omega) fun b16=>?_
 refine R2 96 O (fl_lenS rfl hx (R0 2 O ?_))
 refine fx_seq (fx_block ?_)
 refine fx_loop (fun n fs=>∃ (i:Nat) (o:List UInt32) (cy:Nat),LI z [blkE eW b16 117 o] [(0,v),(1,Ad ((m:Nat):Int)),(5,Aw b16 (a.length+1)),(6,Ad ((cy:Nat):Int)),(17,v),(18,Az a.length),(19,Az i)] fs∧n=a.length - i∧(i≤a.length)∧(o.length=a.length+1)∧(cy<4294967296)∧(val (o.take i)+Num.W ^ i * cy=val (a.take i) * m)) ?_ _ ⟨0,_,0,LI.m [] O,rfl,Nat.zero_le _,by simp,by omega,by simp [val]⟩ (kK (by omega))
 intro n fs ⟨i,o,cy,hL0,hmz0,hi,hol,hcy,hv⟩
 refine hL0.open fun e zl0 _=>?_
 refine R5 8 O ?_
 refine xD rfl (fun hc20=>?_) (fun hc20=>?_)
 ·refine fx_kseq ?_
  refine fx_seq (fx_block ?_)
  refine R4 4 O ?_
  refine fl_iadW (zz:=zl0) rfl rfl hx.m (i) (rfl) (by omega) fun p22 hp22=>?_
  refine fl_ldP rfl hp22 (R2 32 O ?_)
  refine lZ zl0 (c_bits_Mul32 (by omega) (dig_lt a i) hm) rfl rfl fun v27 z27 _ ⟨hi1,lo,hv27,hk1,hk2,hk3⟩=>?_
  subst hv27
  refine R2 345 O ?_
  refine lZ z27 (c_bits_Add32 (c:=0) (by omega) hk2 hcy (by omega)) rfl rfl fun v33 z33 _ ⟨s,mo,hv33,hk4,hk5,hk6⟩=>?_
  subst hv33
  obtain ⟨hh1,hh2⟩:=mul_hi (dig_lt a i) hm hcy hk1 (by rw [hk4];rfl)
  refine R0 57 O (xG (R1 60 O (lB rfl rfl (bD_add (n:=hi1+mo) (by omega) (by omega)) (fl_iad rfl rfl (i) (rfl) (by omega) (fl_setW (i) (s) rfl rfl rep0 (rfl) (by omega) (by omega) (by omega) (R0 2 O (sq_n (xG (lB rfl rfl (bI_add (n:=i+1) (by omega) (by omega)) (R0 2 O ?_))))))))))
  exact lq_n (by omega) ⟨i+1,_,hi1+mo,LI.m [] O,rfl,by omega,by simp [hol],hh2,mul_set (by omega) hk5 hv hh1⟩
 refine fx_eseq (lq_e (sq_n (R4 12 O (fl_lenS rfl hx (lC rfl (fl_iad rfl rfl (a.length) (rfl) (by omega) (fl_setW (a.length) (cy) rfl rfl rep0 (rfl) (by omega) (by omega) (by omega) (lN (R4 4 O ?_)))))))))
 refine fl_frzBZ (n:=a.length+1) z zl0 (p:=[]) rfl rfl zI (by rw [List.length_set];omega) (by omega) fun zf49 _ hf49=>?_
 refine lZ zf49 (c_limb_trimmed (by omega) (hf49.mono zd_le)) rfl rfl fun v50 z50 hz50 ht50=>?_
 refine R0 3 O (xT (rI O ?_))
 have hr:=ht50 _ (hf49.mono (zd_mono (hz50)))
 rw [show i=a.length by omega,val_take_all (Nat.le_refl _)] at hv
 rwa [last_set hol hcy,hv] at hr
theorem c_limb_DivSmall {k:Nat} (hk:2≤k) {z:Mem} {v:AV} {a:List UInt32} {d:Nat} (hx:SZ 1 RW z v a) (hd:d<4294967296) (hla:a.length≤1000000000):FC (E k) 300 [v,Ad ((d:Nat):Int)] z fun v z'=>(d=0→v=.tup [nilv,Ad 0,Ai 20])∧(0<d→∃ v',v=.tup [v',Ad ((val a % d:Nat):Int),Ai 0]∧SZ 1 RW (zd z z') v' (toL (val a / d))):=by
 refine fc_of (tS_get300) (by omega) (len1 rfl) fun B j hj=>?_
 refine R5 512 O ?_
 refine xD rfl (fun hc9=>?_) (fun hc9=>?_)
 ·refine R5 32 O (fx_rseq (rQ (.inl rfl) (rt rfl (rt rfl (rt rfl rn))) ?_))
  exact ⟨fun _=>rfl,fun h=>absurd h (by omega)⟩
 refine R4 12 O ?_
 refine fl_callLZ z [] (c_Clone32o (by omega) hx (by omega)) rfl rfl rfl fun v11 z11 H11 _ hH11=>?_
 subst hH11
 refine R2 25 O (fl_lenR rfl mem0 (lB rfl rfl (b_sub' (r:=((a.length:Nat):Int) - 1) (wi64 (by omega))) (R0 2 O ?_)))
 refine fx_seq (fx_block ?_)
 refine fx_loop (fun n fs=>∃ (i:Nat) (o:List UInt32) (r:Nat),LI z11 [rowE eW v11 117 o] [(1,Ad ((d:Nat):Int)),(4,v11),(5,Ad ((r:Nat):Int)),(7,Ai ((i:Int) - 1))] fs∧n=i∧(i≤a.length)∧(o.length=a.length)∧(r<d)∧(o.take i=a.take i)∧(val (a.drop i)=val (o.drop i) * d+r)) ?_ _ ⟨a.length,_,0,LI.m [] O,rfl,Nat.le_refl _,rfl,by omega,rfl,by simp [val]⟩ (kK (by omega))
 intro n fs ⟨i,o,r,hL0,hmz0,hi,hol,hr,htk,hv⟩
 refine hL0.open fun e zl0 _=>?_
 refine R5 32 O ?_
 refine xD rfl (fun hc16=>?_) (fun hc16=>?_)
 ·refine fx_kseq ?_
  refine fx_seq (fx_block ?_)
  refine xG ?_
  refine fl_rowE (p:=[]) rfl (by omega) fun bbr hbr=>?_
  cases hbr
  refine R1 41 O (fl_iad rfl rfl (i - 1) (by omega) (by omega) (fl_ldOW (i - 1) rfl mem0 (by omega) (by omega) (lC rfl ?_)))
  refine lZ zl0 (c_bits_Div32 (by omega) hr (dig_lt o (i - 1)) hd) rfl rfl fun v28 z28 _ ⟨q1,r1,hv28,hk1,hk2,hk3⟩=>?_
  subst hv28
  refine R1 9 O (fl_iad rfl rfl (i - 1) (by omega) (by omega) (fl_setW (i - 1) (q1) rfl rfl rep0 (rfl) (by omega) (by omega) (by omega) ?_))
  refine fl_asrowE (p:=[]) rfl (by rw [List.length_set]) ?_
  refine R0 3 O (sq_n (xG (lC rfl ?_)))
  refine lB rfl rfl (b_sub' (r:=((i - 1:Nat):Int) - 1) (by rw [wi64 ⟨by omega,by omega⟩];omega)) ?_
  refine R0 2 O ?_
  have hdg:dig o (i - 1)=dig a (i - 1):=by rw [← dig_take (l:=o) (m:=i) (by omega),htk,dig_take (by omega)]
  rw [hdg] at hk1
  exact lq_n (by omega) ⟨i - 1,_,r1,LI.m [] O,rfl,by omega,by rw [List.length_set];exact hol,hk2,by rw [List.take_set_of_le (Nat.le_refl _)];exact take_pred htk,div_set (by omega) (by omega) hk3 hv (by omega) hk1⟩
 refine fx_eseq (lq_e (sq_n (R4 6 O ?_)))
 refine fl_frzRZ z zl0 (p:=[]) rfl rfl zI (by omega) fun zf32 _ hf32=>?_
 refine lZ zf32 (c_limb_trimmed (by omega) (hf32.mono zd_le)) rfl rfl fun v33 z33 hz33 ht33=>?_
 refine R0 18 O (xT (rQ (.inl rfl) (rt rfl (rt rfl (rt rfl rn))) ?_))
 refine ⟨fun h=>absurd h (by omega),fun _=>?_⟩
 rw [show i=0 by omega,List.drop_zero,List.drop_zero] at hv
 obtain ⟨e1,e2⟩:=div_last hr hv
 refine ⟨_,by rw [e2];rfl,?_⟩
 have h:=ht33 _ (hf32.mono (zd_mono (hz33)))
 rwa [← e1] at h
open Go.CE Go.RowKit Go.Num
open Go.Eng (setL)
theorem c_bits_LeadingZeros32 {k:Nat} (hk:2≤k) {z:Mem} {x:Nat} (hx:x<4294967296):FC (E k) 301 [Ad ((x:Nat):Int)] z fun v _=>∃ n:Nat,v=Ai (n:Nat)∧n≤32∧x * 2 ^ n<4294967296∧(0<x→2147483648≤x * 2 ^ n∧n≤31):=by
 refine fc_of (tS_get301) (by omega) (len1 rfl) fun B j hj=>?_
 refine R4 16 O ?_
 refine lZ z (c_bits_Len32 (by omega) hx) rfl rfl fun v4 z4 _ ⟨m,hv4,hm1,hm2,hm3⟩=>?_
 subst hv4
 refine lB rfl rfl (bI_sub (n:=32 - m) (by omega) (by omega)) (R0 2 O (xT ?_))
 exact rI O ⟨_,rfl,lz_ok hm1 hm2 hm3⟩
theorem c_limb_left {k:Nat} (hk:3≤k) {z:Mem} {v:AV} {m n:Nat} (hx:SZ 1 RW z v (toL m)) (hn:n≤31) (hl:(toL m).length≤1000000000):FC (E k) 316 [v,Az n] z fun v' z'=>SZ 1 RW z' v' (toL (m * 2 ^ n)):=by
 have hp:2 ^ n<4294967296:=Nat.lt_of_le_of_lt (Nat.pow_le_pow_right (by decide) hn) (by decide)
 refine fc_of (tS_get316) (by omega) (len1 rfl) fun B j hj=>?_
 refine R5 128 O ?_
 refine xD rfl (fun hc6=>?_) (fun hc6=>?_)
 ·refine R5 28 O (fx_rseq (rI O ?_))
  rw [show n=0 by omega,Nat.pow_zero,Nat.mul_one]
  exact hx
 refine R4 20 O (lB rfl rfl (bD_shl1 (n:=2 ^ n) hn rfl) ?_)
 refine lZ z (c_limb_MulSmall (by omega) hx hp hl) rfl rfl fun v11 z11 _ hr11=>?_
 refine R0 3 O (xT (rI O ?_))
 rw [val_toL] at hr11
 exact (hr11.mono zd_le)
theorem c_limb_right {k:Nat} (hk:3≤k) {z:Mem} {v:AV} {m n:Nat} (hx:SZ 1 RW z v (toL m)) (hn:n≤31) (hl:(toL m).length≤1000000000):FC (E k) 317 [v,Az n] z fun v' z'=>SZ 1 RW z' v' (toL (m / 2 ^ n)):=by
 have hp:2 ^ n<4294967296:=Nat.lt_of_le_of_lt (Nat.pow_le_pow_right (by decide) hn) (by decide)
 have hp0:0<2 ^ n:=Nat.pow_pos (by decide)
 refine fc_of (tS_get317) (by omega) (len1 rfl) fun B j hj=>?_
 refine R5 128 O ?_
 refine xD rfl (fun hc9=>?_) (fun hc9=>?_)
 ·refine R5 28 O (fx_rseq (rI O ?_))
  rw [show n=0 by omega,Nat.pow_zero,Nat.div_one]
  exact hx
 refine R4 20 O (lB rfl rfl (bD_shl1 (n:=2 ^ n) hn rfl) ?_)
 refine lZ z (c_limb_DivSmall (by omega) hx hp hl) rfl rfl fun v15 z15 _ ⟨_,hv15⟩=>?_
 obtain ⟨w,rfl,hr15⟩:=hv15 hp0
 refine R3 1905 O (xT (rI O ?_))
 rw [val_toL] at hr15
 exact (hr15.mono zd_le)
theorem c_Concat32 {k:Nat} (hk:2≤k) {z:Mem} {v:AV} {ls:List (List UInt32)} (hx:SZ 1 RLs z v ls) (ht:sumL ls≤10000000000) (hp:0<sumL ls):FCt (E k) 315 [v] z [] fun v' _ H'=>H'=[rowE eW v' 117 ls.flatten]:=by
 have hxl:=hx.le
 refine fct_of (tS_get315) (by omega) (len1 rfl) fun B j hj=>?_
 refine R4 192 O (fl_lenS rfl hx (R0 2 O ?_))
 refine fx_seq (fx_block ?_)
 refine fx_loop (fun n fs=>∃ (i:Nat),LI z [] [(0,v),(3,Az (sumL (ls.take i))),(9,v),(10,Az ls.length),(11,Az i)] fs∧n=ls.length - i∧(i≤ls.length)) ?_ _ ⟨0,LI.m [] O,rfl,Nat.zero_le _⟩ (kK (by omega))
 intro n fs ⟨i,hL0,hmz0,hi⟩
 refine hL0.open fun e zl0 _=>?_
 refine R5 8 O ?_
 refine xD rfl (fun hc12=>?_) (fun hc12=>?_)
 ·refine fx_kseq ?_
  refine fx_seq (fx_block ?_)
  refine xR ?_
  refine fl_iadS (zz:=zl0) rfl rfl hx.m i rfl _ (List.getElem?_eq_getElem (by omega)) fun b13 p13 cs13 at13 hR13=>?_
  obtain ⟨e13,rfl,hc13⟩:=hR13
  refine fl_ldA1 rfl at13 (R2 16 O (fl_lenS rfl hc13 ?_))
  refine lB rfl rfl (bI_add (n:=sumL (ls.take (i+1))) (by rw [sumL_succ (by omega)];omega) (by have:=sumL_le (ls:=ls) (i+1);omega)) ?_
  refine R3 16 O ?_
  refine xD rfl (fun hc20=>?_) (fun hc20=>?_)
  ·omega
  refine fx_skip (sq_n (xG (lB rfl rfl (bI_add (n:=i+1) (by omega) (by omega)) (R0 2 O ?_))))
  exact lq_n (by omega) ⟨i+1,LI.m [] O,rfl,by omega⟩
 refine fx_eseq (lq_e (sq_n (R4 4 O ?_)))
 have hil:sumL (ls.take i)=sumL ls:=by rw [show i=ls.length by omega,List.take_length]
 refine fl_callLZ zl0 [] (grow_fc tS_none (by omega) (n:=sumL (ls.take i)) (by omega) (by omega)) rfl rfl rfl fun v24 z24 H24 _ hH24=>?_
 subst hH24
 refine R2 25 O (fl_lenS rfl hx (R0 2 O ?_))
 refine fx_seq (fx_block ?_)
 refine fx_loop (fun n fs=>∃ (i:Nat) (u:AV),LI z24 [rowE eW u 117 (ls.take i).flatten] [(6,u),(25,v),(26,Az ls.length),(27,Az i)] fs∧n=ls.length - i∧(i≤ls.length)) ?_ _ ⟨0,_,LI.m [] O,rfl,Nat.zero_le _⟩ (kK (by omega))
 intro n fs ⟨i,u,hL1,hmz1,hi2⟩
 refine hL1.open fun e zl1 _=>?_
 refine R5 8 O ?_
 refine xD rfl (fun hc28=>?_) (fun hc28=>?_)
 ·refine fx_kseq ?_
  refine fx_seq (fx_block ?_)
  refine xR ?_
  refine fl_iadS (zz:=zl1) rfl rfl hx.m i rfl _ (List.getElem?_eq_getElem (by omega)) fun b29 p29 cs29 at29 hR29=>?_
  obtain ⟨e29,rfl,hc29⟩:=hR29
  refine fl_ldA1 rfl at29 (R0 2 O (xG (R1 5 O ?_)))
  refine fl_appE  rfl rfl hc29 (fun _=>rep0) (by rw [flat_len,← sumL_succ (by omega)];have:=sumL_le (ls:=ls) (i+1);omega) (by rw [flat_len,← sumL_succ (by omega)];have:=sumL_le (ls:=ls) (i+1);omega) fun c33 hc33=>?_
  refine R0 2 O (sq_n (xG (lB rfl rfl (bI_add (n:=i+1) (by omega) (by omega)) (R0 2 O ?_))))
  exact lq_n (by omega) ⟨i+1,_,(by rw [flat_succ (by omega)];exact LI.m [] O),rfl,by omega⟩
 refine fx_eseq (lq_e (sq_n (R5 14 O (xT (ret_h (.inl rfl) (rt rfl rn) (List.Sublist.refl _) ?_)))))
 rw [show i=ls.length by omega,List.take_length]
 rfl
theorem c_limb_Shift {k:Nat} (hk:4≤k) {z:Mem} {v:AV} {a:List UInt32} {n:Nat} (hx:SZ 1 RW z v a) (hn:n≤31) (hla:a.length≤100000000):FCt (E k) 302 [v,Az n] z [] fun v' _ H'=>∃ u,v'=.tup [u,Ai 0]∧H'=[rowE eW u 117 (toL (val a * 2 ^ n))]:=by
 have hxl:=hx.le
 refine fct_of (tS_get302) (by omega) (len1 rfl) fun B j hj=>?_
 refine R4 48 O ?_
 refine lZ z (c_limb_trimmed (by omega) hx) rfl rfl fun v7 z7 hz7 ht7=>?_
 have hs7:=ht7 _ (hx.mono (hz7))
 have hq7:=len_canon (l:=a)
 refine R0 3 O ?_
 refine fx_seq (fx_block ?_)
 refine R4 6 O (fl_lenS rfl hs7 (R0 4 O ?_))
 refine xD rfl (fun hc8=>?_) (fun hc8=>?_)
 ·refine R5 8 O (fx_row0 117 1 (xT (sq_r (ret_h (.inl rfl) (rt rfl (rt rfl rn)) (List.Sublist.refl _) ?_))))
  rw [show val a=0 from zero_of_len (by omega),Nat.zero_mul,toL_zero]
  exact ⟨_,rfl,rfl⟩
 refine R5 16 O ?_
 refine xD rfl (fun hc12=>?_) (fun hc12=>?_)
 ·omega
 refine R4 8 O ?_
 have hva:0<val a:=pos_of_len (by omega)
 refine R0 2 O ?_
 refine xD rfl (fun hc15=>?_) (fun hc15=>?_)
 ·refine fx_drwS (G1 2 O (gP rfl rfl trivial ?_))
  refine lB rfl rfl (bI_quo (b:=32) (n:=0) (by omega) (by omega) (by omega)) (lN ?_)
  refine fg_own (k:=.cells 117 []) (w:=fun b=>Aw b 0) rfl trivial rfl (fun _=>rfl) (fun st hst=>by simp only [stepE,AS.ev,hst 19 (by simp [Ins.sl,Od.sls,Od.sl])];rfl) (fun b20 hT20=>?_)
  refine G1 5 O (gP rfl rfl trivial ?_)
  refine lB rfl rfl (bI_rem (b:=32) (n:=n) (by omega) (by omega)) (lN ?_)
  refine fg_callPZ z7 (i:=⟨_,_,.call _ _⟩) (c_limb_left (by omega) hs7 hn (by omega)) rfl rfl trivial rfl rfl rfl rfl ti fun v24 z24 _ hr24=>?_
  obtain ⟨c24,hc24,hcc24⟩:=hr24.one
  subst hc24
  refine fg_own (k:=.cells 31 [.sl b20 0 0 1,c24]) (w:=fun b=>Aw b 2) rfl trivial rfl (fun _=>rfl) (fun st hst=>?_) (fun b25 hT25=>?_)
  ·simp only [stepE,fillS,AS.ev,hst 20 (by simp [Ins.sl,Od.sls,Od.sl]),hst 24 (by simp [Ins.sl,Od.sls,Od.sl])];rfl
  refine fg_frzZ z24 (p:=[]) rfl rfl rfl (fun _ h=>h) fun zfg25 _ g25=>?_
  refine fg_frzZ zfg25 (p:=[]) rfl rfl rfl (fun _ h=>h) fun zfg20 _ g20=>?_
  have hrow:SZ 1 RLs zfg20 (Aw b25 2) [[],toL (val a * 2 ^ n)]:=rls2 g20 hr24.m (zI _ _ g25)
  refine fg_callOZ zfg20 (i:=⟨_,_,.call _ _⟩) (c_Concat32 (by omega) hrow (by rw [sumL2];have:=shl_len (m:=val a) hn;omega) (by rw [sumL2];exact len_pos (Nat.mul_pos (by omega) (Nat.pow_pos (by decide))))) rfl rfl trivial rfl rfl rfl rfl fun v26 z26 H26 _ hH26=>?_
  subst hH26
  refine G0 5 O (xT (sq_r (ret_h (.inl rfl) (rt rfl (rt rfl rn)) (List.Sublist.refl _) ?_)))
  refine ⟨_,rfl,?_⟩
  rw [show ([[],toL (val a * 2 ^ n)]:List (List UInt32)).flatten=toL (val a * 2 ^ n) by simp]
  rfl
 omega
theorem c_limb_ShiftR {k:Nat} (hk:4≤k) {z:Mem} {v:AV} {a:List UInt32} {n:Nat} (hx:SZ 1 RW z v a) (hn:n≤31) (hn0:0<n) (hla:a.length≤100000000):FC (E k) 302 [v,Ai (-(n:Nat):Int)] z fun v' z'=>∃ u,v'=.tup [u,Ai 0]∧SZ 1 RW (zd z z') u (toL (val a / 2 ^ n)):=by
 have hxl:=hx.le
 refine fc_of (tS_get302) (by omega) (len1 rfl) fun B j hj=>?_
 refine R4 48 O ?_
 refine lZ z (c_limb_trimmed (by omega) hx) rfl rfl fun v7 z7 hz7 ht7=>?_
 have hs7:=ht7 _ (hx.mono (hz7))
 have hq7:=len_canon (l:=a)
 refine R0 3 O ?_
 refine fx_seq (fx_block ?_)
 refine R4 6 O (fl_lenS rfl hs7 (R0 4 O ?_))
 refine xD rfl (fun hc8=>?_) (fun hc8=>?_)
 ·refine R5 8 O (xT (sq_r (rQ (.inl rfl) (rt rfl (rt rfl rn)) ?_)))
  refine ⟨_,rfl,?_⟩
  rw [show val a=0 from zero_of_len (by omega),Nat.zero_div,toL_zero]
  exact .nil
 refine R5 16 O ?_
 refine xD rfl (fun hc12=>?_) (fun hc12=>?_)
 ·omega
 refine R5 16 O ?_
 refine xD rfl (fun hc15=>?_) (fun hc15=>?_)
 ·omega
 refine R4 12 O (fl_lenS rfl hs7 (lB rfl rfl (b_mul' (r := -32 * (((toL (val a)).length:Nat):Int)) (wi64 (by omega))) (R0 4 O ?_)))
 refine xD rfl (fun hc27=>?_) (fun hc27=>?_)
 ·omega
 refine fx_skip (sq_n (R4 4 O ?_))
 refine fl_un rfl (u_neg (r:=((n:Nat):Int)) (by rw [wi64 ⟨by omega,by omega⟩];omega)) ?_
 refine R2 20 O (lB rfl rfl (bI_quo (b:=32) (n:=0) (by omega) (by omega) (by omega)) ?_)
 refine fl_slcS (i:=0) (j:=(toL (val a)).length) rfl hs7 ⟨_,rfl⟩ rfl (by omega) (by omega) ?_
 refine lC rfl (lB rfl rfl (bI_rem (b:=32) (n:=n) (by omega) (by omega)) ?_)
 have hsub:=(hs7).sub (i:=0) (j:=(toL (val a)).length) (by omega) (by omega)
 rw [List.take_length,List.drop_zero] at hsub
 refine lZ z7 (c_limb_right (by omega) hsub (by omega) (by omega)) rfl rfl fun v41 z41 hz41 hr41=>?_
 refine lZ z41 (c_limb_trimmed (by omega) hr41) rfl rfl fun v42 z42 hz42 ht42=>?_
 have hs42:=ht42 _ (hr41.mono (hz42))
 refine lZ z42 (c_Clone32 (by omega) hs42 (by have:=len_canon (l:=toL (val a / 2 ^ n));have:=len_le (Nat.div_le_self (val a) (2 ^ n));omega)) rfl rfl fun v43 z43 _ hk43=>?_
 have hk43:=hk43.mono (zAq (hz7.trans (hz41.trans hz42)))
 refine R0 5 O (xT (rQ (.inl rfl) (rt rfl (rt rfl rn)) ?_))
 refine ⟨_,rfl,?_⟩
 rw [val_toL] at hk43
 exact hk43
open Go.CE Go.RowKit Go.Num
open Go.Eng (setL)
theorem c_nat_Mul {k:Nat} (hk:3≤k) {z:Mem} {u v:AV} {a b:List UInt32} (hx:SZ 1 RW z u a) (hy:SZ 1 RW z v b) (hla:a.length≤1000000000) (hlb:b.length≤1000000000):FC (E k) 171 [u,v] z fun v z'=>SZ 1 RW (zd z z') v (toL (val a * val b)):=by
 refine fc_of (tS_get171) (by omega) (len1 rfl) fun B j hj=>?_
 refine R4 24 O (fl_lenS rfl hx (lM rfl (fl_lenS rfl hy (lB rfl rfl (bI_add (n:=a.length+b.length) (by omega) (by omega)) ?_))))
 refine fl_mkW (n:=a.length+b.length) rfl rfl (rfl) (by omega) (by omega) fun b17=>?_
 refine R2 24 O (fl_lenS rfl hx (R0 2 O ?_))
 refine fx_seq (fx_block ?_)
 refine fx_loop (fun n fs=>∃ (i:Nat) (o:List UInt32),LI z [blkE eW b17 117 o] [(0,u),(1,v),(5,Aw b17 (a.length+b.length)),(18,u),(19,Az a.length),(20,Az i)] fs∧n=a.length - i∧(i≤a.length)∧(o.length=a.length+b.length)∧(val (o.take (i+b.length))=val (a.take i) * val b)) ?_ _ ⟨0,_,LI.m [] O,rfl,Nat.zero_le _,by simp,by simp [val,val_rep]⟩ (kK (by omega))
 intro n fs ⟨i,o,hL0,hmz0,hi,hol,hv⟩
 refine hL0.open fun e zl0 hzl0=>?_
 refine R5 8 O ?_
 refine xD rfl (fun hc21=>?_) (fun hc21=>?_)
 ·refine fx_kseq ?_
  refine fx_seq (fx_block ?_)
  refine R4 4 O ?_
  refine fl_iadW (zz:=zl0) rfl rfl hx.m (i) (rfl) (by omega) fun p23 hp23=>?_
  refine fl_ldP rfl hp23 (R2 192 O (fl_lenS rfl hy (R0 2 O ?_)))
  refine fx_seq (fx_block ?_)
  refine fx_loop (fun n fs=>∃ (k:Nat) (o2:List UInt32) (cy:Nat),LI zl0 [blkE eW b17 117 o2] [(0,u),(1,v),(5,Aw b17 (a.length+b.length)),(6,Az i),(7,Ad ((dig a i:Nat):Int)),(8,.c (.v (.int .u64 ((cy:Nat):Int)))),(18,u),(19,Az a.length),(20,Az i),(25,v),(26,Az b.length),(27,Az k)] fs∧n=b.length - k∧(k≤b.length)∧(o2.length=a.length+b.length)∧(cy<4294967296)∧(o2.drop (i+k)=o.drop (i+k))∧(val (o2.take (i+k))+Num.W ^ (i+k) * cy=val (o.take (i+k))+Num.W ^ i * (dig a i * val (b.take k)))) ?_ _ ⟨0,_,0,LI.m [] O,rfl,Nat.zero_le _,hol,by omega,rfl,by simp [val]⟩ (kK (by omega))
  intro n fs ⟨k,o2,cy,hL1,hmz1,hk2,hol2,hcy,hdr,hv2⟩
  refine hL1.open fun e zl1 _=>?_
  refine R5 8 O ?_
  refine xD rfl (fun hc28=>?_) (fun hc28=>?_)
  ·refine fx_kseq ?_
   refine fx_seq (fx_block ?_)
   refine R4 4 O ?_
   refine fl_iadW (zz:=zl1) rfl rfl hy.m (k) (rfl) (by omega) fun p30 hp30=>?_
   refine fl_ldP rfl hp30 (R2 8 O ?_)
   have hdb:dig b k<4294967296:=dig_lt b k
   obtain ⟨hf1,hf2⟩:=mul_fit (dig_lt a i) hdb (dig_lt o2 (i+k)) hcy
   refine lC rfl ?_
   refine fl_cvi rfl (wQ (rfl) (by have:dig a i<4294967296:=dig_lt a i;omega)) ?_
   refine lC rfl (fl_cvi rfl (wQ (rfl) (by omega)) (lB rfl rfl (bQ_mul (n:=dig a i * dig b k) ((Int.natCast_mul _ _).symm) (by omega)) (R1 8 O (lB rfl rfl (bI_add (n:=i+k) (by omega) (by omega)) (fl_iad rfl rfl (i+k) (rfl) (by omega) (fl_ldOW (i+k) rfl mem0 (by omega) (by omega) ?_))))))
   refine fl_cvi rfl (wQ (rfl) (by have:dig o2 (i+k)<4294967296:=dig_lt o2 (i+k);omega)) ?_
   refine lB rfl rfl (bQ_add (n:=dig a i * dig b k+dig o2 (i+k)) (by omega) (by omega)) (lC rfl (lB rfl rfl (bQ_add (n:=dig a i * dig b k+dig o2 (i+k)+cy) (by omega) (by omega)) (R0 2 O (xG (R1 8 O (lB rfl rfl (bI_add (n:=i+k) (by omega) (by omega)) (lC rfl (fl_cvi rfl (wDm _) (lC rfl (lB rfl rfl (b_shr (n:=(dig a i * dig b k+dig o2 (i+k)+cy) / 4294967296) (by decide) (rfl)) (fl_iad rfl rfl (i+k) (rfl) (by omega) (fl_setW (i+k) ((dig a i * dig b k+dig o2 (i+k)+cy) % 4294967296) rfl rfl rep0 (rfl) (by omega) (by omega) (by omega) (R0 2 O (sq_n (xG ?_)))))))))))))))
   refine lB rfl rfl (bI_add (n:=k+1) (by omega) (by omega)) (R0 2 O ?_)
   exact lq_n (by omega) ⟨k+1,_,_,LI.m [] O,rfl,by omega,by rw [List.length_set];exact hol2,by omega,drop_set_succ hdr,mulrow (by omega) hdr hv2 rfl⟩
  refine fx_eseq (lq_e (sq_n (xG (R1 12 O (fl_lenS rfl hy (lB rfl rfl (bI_add (n:=i+b.length) (by omega) (by omega)) (lC rfl (fl_cvi rfl (wD (rfl) (by omega)) (fl_iad rfl rfl (i+b.length) (rfl) (by omega) (fl_setW (i+b.length) (cy) rfl rfl rep0 (rfl) (by omega) (by omega) (by omega) (lN (sq_n (xG (lB rfl rfl (bI_add (n:=i+1) (by omega) (by omega)) (R0 2 O ?_)))))))))))))))
  exact lq_n (by omega) ⟨i+1,_,LI.m [] O,rfl,by omega,by rw [List.length_set];exact hol2,mulend rfl (by omega) (by omega) hcy hv (by rw [show k=b.length by omega] at hv2;exact hv2)⟩
 refine fx_eseq (lq_e (sq_n (R4 4 O ?_)))
 refine fl_frzBZ (n:=a.length+b.length) z zl0 (p:=[]) rfl rfl zI (hol) (by omega) fun zf66 hzf66 hf66=>?_
 refine lZ zf66 (c_limb_Trim (by omega) (hf66.mono zd_le) (by omega)) rfl rfl fun v67 z67 _ hr67=>?_
 have hr67:=hr67.mono (zAq (hzl0.trans hzf66))
 refine R0 3 O (xT (rI O ?_))
 rw [show i=a.length by omega,val_take_all (by omega),val_take_all (Nat.le_refl _)] at hv
 rw [hv] at hr67
 exact hr67
theorem c_nat_guess {k:Nat} (hk:1≤k) {z:Mem} {hi mid low first second:Nat} (hhi:hi≤first) (hmid:mid<4294967296) (hlow:low<4294967296) (hf:2147483648≤first) (hfW:first<4294967296) (hse:second<4294967296):FC (E k) 303 [Ad ((hi:Nat):Int),Ad ((mid:Nat):Int),Ad ((low:Nat):Int),Ad ((first:Nat):Int),Ad ((second:Nat):Int)] z fun v _=>v=.c (.v (.int .u64 ((min 4294967295 (((4294967296 * hi+mid) * 4294967296+low) / (first * 4294967296+second)):Nat):Int))):=by
 refine fc_of (tS_get303) (by omega) (len1 rfl) fun B j hj=>?_
 refine R4 16 O (fl_cvi rfl (wQ (rfl) (by omega)) (lB rfl rfl (bQ_shl32 (n:=4294967296 * hi) (by omega) (by omega)) (lC rfl (fl_cvi rfl (wQ (rfl) (by omega)) (lB rfl rfl (bQ_or (n:=(4294967296 * hi+mid)) (by omega) (by omega) (or_shift hmid)) (R0 2 O (fx_drwS (G1 4 O (gP rfl rfl trivial ?_)))))))))
 refine fl_cvi rfl (wQ (rfl) (by omega)) (lN ?_)
 refine gP rfl rfl trivial ?_
 refine lB rfl rfl (bQ_quo (n:=(4294967296 * hi+mid) / first) (by omega) (rfl) (by omega)) (lN ?_)
 refine G1 4 O (gP rfl rfl trivial ?_)
 refine fl_cvi rfl (wQ (rfl) (by omega)) (lN ?_)
 refine gP rfl rfl trivial ?_
 refine lB rfl rfl (bQ_rem (n:=(4294967296 * hi+mid) % first) (by omega) (rfl)) (lN ?_)
 refine G0 4 O (fx_kseq ?_)
 refine fx_seq (fx_block ?_)
 refine fx_loop (fun n fs=>∃ (q:Nat) (r:Nat),LI z [] [(2,Ad ((low:Nat):Int)),(3,Ad ((first:Nat):Int)),(4,Ad ((second:Nat):Int)),(12,.c (.v (.int .u64 ((q:Nat):Int)))),(13,.c (.v (.int .u64 ((r:Nat):Int))))] fs∧n=q∧(r<4294967296)∧(q<18446744073709551616)∧(Gs (4294967296 * hi+mid) first second low q r)) ?_ _ ⟨_,_,LI.m [] O,rfl,by have:=Nat.mod_lt (4294967296 * hi+mid) (show 0<first by omega);omega,by have:=Nat.div_le_self (4294967296 * hi+mid) first;omega,gs_init (by omega) hlow⟩ (by have:=Nat.div_le_self (4294967296 * hi+mid) first;show _<18446744073709551616;omega)
 intro n fs ⟨q,r,hL0,hmz0,hr,hq,hg⟩
 refine hL0.open fun e zl0 _=>?_
 refine R4 32 O ?_
 refine fl_splitD 30 rfl (fun hg30=>?_) (fun hg30=>?_)
 ·refine R3 16384 O (fx_block (R4 4 O ?_))
  have hq0:0<q:=by omega
  have hg2:=gs_step hg hq0 (.inl (by omega))
  refine lB rfl rfl (bQ_sub (n:=q - 1) (by omega) (by omega)) (R2 16 O (fl_cvi rfl (wQ (rfl) (by omega)) (lB rfl rfl (bQ_add (n:=r+first) (by omega) (by omega)) (R3 16 O ?_))))
  refine xD rfl (fun hc49=>?_) (fun hc49=>?_)
  ·refine fx_exit (lq_e (sq_n (R5 8 O (xT (rI O ?_)))))
   rw [← gs_exit hg2 (by omega) hfW hse (by omega) (.inr (by omega))]
   rfl
  refine fx_skip ?_
  exact lq_n (by omega) ⟨q - 1,r+first,LI.m [] O,rfl,by omega,by omega,hg2⟩
 refine lD rfl ?_
 have hqs:q * second≤4294967295 * 4294967295:=Nat.mul_le_mul (by omega) (by omega)
 refine R1 4 O (lD rfl (fl_cvi rfl (wQ (rfl) (by omega)) (lD rfl (lB rfl rfl (bQ_mul (n:=q * second) ((Int.natCast_mul _ _).symm) (by omega)) (lD rfl (lC rfl (lD rfl (lB rfl rfl (bQ_shl32 (n:=4294967296 * r) (by omega) (by omega)) (lD rfl (lC rfl (lD rfl (fl_cvi rfl (wQ (rfl) (by omega)) (lD rfl (lB rfl rfl (bQ_or (n:=4294967296 * r+low) (by omega) (by omega) (or_shift hlow)) (R3 8 O ?_)))))))))))))))
 refine xD rfl (fun hc41=>?_) (fun hc41=>?_)
 ·refine fx_kseq (fx_block (R4 4 O ?_))
  have hq0:0<q:=Nat.pos_of_ne_zero fun h=>by rw [h,Nat.zero_mul] at hc41;omega
  have hg2:=gs_step hg hq0 (.inr (by omega))
  refine lB rfl rfl (bQ_sub (n:=q - 1) (by omega) (by omega)) (R2 16 O (fl_cvi rfl (wQ (rfl) (by omega)) (lB rfl rfl (bQ_add (n:=r+first) (by omega) (by omega)) (R3 16 O ?_))))
  refine xD rfl (fun hc49=>?_) (fun hc49=>?_)
  ·refine fx_exit (lq_e (sq_n (R5 8 O (xT (rI O ?_)))))
   rw [← gs_exit hg2 (by omega) hfW hse (by omega) (.inr (by omega))]
   rfl
  refine fx_skip ?_
  exact lq_n (by omega) ⟨q - 1,r+first,LI.m [] O,rfl,by omega,by omega,hg2⟩
 refine fx_eseq (lq_e (sq_n (R5 8 O (xT (rI O ?_)))))
 rw [← gs_exit hg (by omega) hfW hse (by omega) (.inl ⟨by omega,by omega⟩)]
 rfl
theorem c_nat_take {k:Nat} (hk:2≤k) {z:Mem} {v:AV} {b L:List UInt32} {b0 off N q:Nat} (hy:SZ 1 RW z v b) (hoN:off+N≤L.length) (hbN:b.length<N) (hL:L.length≤10000000000) (hq:q<4294967296) (hB:0<val b) (hq1:val ((L.drop off).take N) / val b≤q) (hq2:q≤val ((L.drop off).take N) / val b+1):FCt (E k) 304 [.c (.sl b0 off N 1),v,.c (.v (.int .u64 ((q:Nat):Int)))] z [blkE eW b0 117 L] fun v' _ H'=>∃ M,v'=Ad ((val ((L.drop off).take N) / val b:Nat):Int)∧H'=[blkE eW b0 117 M]∧M.length=L.length∧M.take off=L.take off∧M.drop (off+N)=L.drop (off+N)∧val ((M.drop off).take N)=val ((L.drop off).take N) - val ((L.drop off).take N) / val b * val b:=by
 refine fct_of (tS_get304) (by omega) (len1 rfl) fun B j hj=>?_
 refine R4 256 O (fl_len rfl rfl (R0 2 O ?_))
 refine fx_seq (fx_block ?_)
 refine fx_loop (fun n fs=>∃ (i:Nat) (M:List UInt32) (cy:Nat) (bw:Nat),LI z [blkE eW b0 117 M] [(0,.c (.sl b0 off N 1)),(1,v),(2,.c (.v (.int .u64 ((q:Nat):Int)))),(7,.c (.v (.int .u64 ((cy:Nat):Int)))),(8,.c (.v (.int .u64 ((bw:Nat):Int)))),(17,Az N),(18,Az i)] fs∧n=N - i∧(i≤N)∧(M.length=L.length)∧(cy<4294967296)∧(bw≤1)∧(M.take off=L.take off)∧(M.drop (off+i)=L.drop (off+i))∧(b.length<i→cy=0)∧(val ((M.drop off).take i)+q * val (b.take i)=val ((L.drop off).take i)+Num.W ^ i * (cy+bw))) ?_ _ ⟨0,_,0,0,LI.m [] O,rfl,Nat.zero_le _,rfl,by omega,by omega,rfl,rfl,fun h=>rfl,by simp [val]⟩ (kK (by omega))
 intro n fs ⟨i,M,cy,bw,hL0,hmz0,hi,hML,hcy,hbw,htk,hdr,hc0,hv⟩
 refine hL0.open fun e zl0 _=>?_
 refine R5 8 O ?_
 refine xD rfl (fun hc19=>?_) (fun hc19=>?_)
 ·refine fx_kseq ?_
  refine fx_seq (fx_block ?_)
  refine R4 768 O (fl_lenS rfl hy (R0 2 O ?_))
  refine fx_join (fun fs=>LI zl0 [blkE eW b0 117 M] [(0,.c (.sl b0 off N 1)),(1,v),(2,.c (.v (.int .u64 ((q:Nat):Int)))),(7,.c (.v (.int .u64 ((cy:Nat):Int)))),(8,.c (.v (.int .u64 ((bw:Nat):Int)))),(9,Az i),(10,.c (.v (.int .u64 ((dig b i:Nat):Int)))),(17,Az N),(18,Az i)] fs) ?_ fun fs hJ=>?_
  ·refine xD rfl (fun hc24=>?_) (fun hc24=>?_)
   ·refine xG (R1 5 O ?_)
    refine fl_iadW (zz:=zl0) rfl rfl hy.m (i) (rfl) (by omega) fun p27 hp27=>?_
    refine fl_ldP rfl hp27 ?_
    refine fl_cvi rfl (wQ (rfl) (by have:dig b i<4294967296:=dig_lt b i;omega)) ?_
    refine R0 2 O ?_
    exact sq_n (LI.m [] O)
   refine fx_skip ?_
   rw [show dig b i=0 from dig_ge (by omega)]
   exact sq_n (LI.m [] O)
  have hJ24:=hJ
  refine hJ24.open fun e zj24 _=>?_
  refine xR ?_
  have hqb:q * dig b i≤4294967295 * 4294967295:=Nat.mul_le_mul (by omega) (by have:dig b i<4294967296:=dig_lt b i;omega)
  refine R1 4 O (lB rfl rfl (bQ_mul (n:=q * dig b i) ((Int.natCast_mul _ _).symm) (by omega)) (lC rfl (lB rfl rfl (bQ_add (n:=(q * dig b i+cy)) (by omega) (by omega)) (R2 8 O (lB rfl rfl (b_shr (n:=(q * dig b i+cy) / 4294967296) (by decide) (rfl)) (R2 16 O (fl_iad rfl rfl (i) (rfl) (by omega) (fl_ldOW (off+i) rfl mem0 (by omega) (by omega) ?_))))))))
  refine fl_cvi rfl (wQ (rfl) (by have:dig M (off+i)<4294967296:=dig_lt M (off+i);omega)) ?_
  refine lC rfl (fl_cvi rfl (wDm _) (fl_cvi rfl (wQ (rfl) (by omega)) ?_))
  refine lB rfl rfl (b_sub' (r:=((dig M (off+i)+18446744073709551616 - (q * dig b i+cy) % 4294967296) % 18446744073709551616:Nat)) (by rw [wu64m];have:dig M (off+i)<4294967296:=dig_lt M (off+i);omega)) ?_
  refine lC rfl ?_
  refine lB rfl rfl (b_sub' (r:=(((dig M (off+i)+36893488147419103232 - (q * dig b i+cy) % 4294967296 - bw) % 18446744073709551616):Nat)) (by rw [wu64m];have:dig M (off+i)<4294967296:=dig_lt M (off+i);omega)) ?_
  refine R0 2 O (xG (R1 8 O (fl_cvi rfl (wDm _) (lC rfl (lB rfl rfl (b_shr (n:=((dig M (off+i)+36893488147419103232 - (q * dig b i+cy) % 4294967296 - bw) % 18446744073709551616) / 9223372036854775808) (by decide) (rfl)) (fl_iad rfl rfl (i) (rfl) (by omega) (fl_setW (off+i) (((dig M (off+i)+36893488147419103232 - (q * dig b i+cy) % 4294967296 - bw) % 18446744073709551616) % 4294967296) rfl rfl rep0 (rfl) (by omega) (by omega) (by omega) (R0 2 O (sq_n (xG (lB rfl rfl (bI_add (n:=i+1) (by omega) (by omega)) (R0 2 O ?_))))))))))))
  exact lq_n (by omega) ⟨i+1,_,_,_,LI.m [] O,rfl,by omega,by rw [List.length_set];exact hML,by omega,(tdig (dig_lt M (off+i)) (Nat.mod_lt _ (by decide)) hbw rfl).2,by rw [win_set_take];exact htk,drop_set_succ hdr,fun h=>by rw [dig_ge (show b.length≤i by omega),Nat.mul_zero,Nat.zero_add];omega,take_step (by omega) hdr hML hv rfl hbw rfl⟩
 refine fx_eseq (lq_e (sq_n (R5 32 O ?_)))
 have hiN:i=N:=by omega
 have hcy0:cy=0:=hc0 (by omega)
 rw [hiN,hcy0,Nat.zero_add,val_take_all (l:=b) (Nat.le_of_lt hbN)] at hv
 rw [hiN] at hdr
 have hX:=take_lt (M.drop off) N
 have hA:=take_lt (L.drop off) N
 have hBN:val b≤Num.W ^ N:=Nat.le_of_lt (Nat.lt_of_lt_of_le (val_lt b) (Nat.pow_le_pow_right (by decide) (Nat.le_of_lt hbN)))
 obtain ⟨ho1,ho2⟩:=take_ok hB rfl hX hv hA hq1 hq2 hBN
 refine xD rfl (fun hc57=>?_) (fun hc57=>?_)
 ·refine R4 8 O (fl_cvi rfl (wD (rfl) (by omega)) (R0 2 O (fx_rseq (ret_h (.inl rfl) (rt rfl rn) (List.Sublist.refl _) ?_))))
  obtain ⟨hq3,hX3⟩:=ho1 (by omega)
  refine ⟨M,by rw [← hq3];rfl,rfl,hML,htk,hdr,hX3⟩
 refine R4 64 O (fl_len rfl rfl (R0 2 O ?_))
 refine fx_seq (fx_block ?_)
 refine fx_loop (fun n fs=>∃ (i2:Nat) (M2:List UInt32) (c:Nat),LI zl0 [blkE eW b0 117 M2] [(0,.c (.sl b0 off N 1)),(1,v),(2,.c (.v (.int .u64 ((q:Nat):Int)))),(13,Ad ((c:Nat):Int)),(61,Az N),(62,Az i2)] fs∧n=N - i2∧(i2≤N)∧(M2.length=M.length)∧(c≤1)∧(M2.take off=M.take off)∧(M2.drop (off+i2)=M.drop (off+i2))∧(val ((M2.drop off).take i2)+Num.W ^ i2 * c=val ((M.drop off).take i2)+val (b.take i2))) ?_ _ ⟨0,_,0,LI.m [] O,rfl,Nat.zero_le _,rfl,by omega,rfl,rfl,by simp [val]⟩ (kK (by omega))
 intro n fs ⟨i2,M2,c,hL1,hmz1,hi2,hML2,hc2,htk2,hdr2,hv2⟩
 refine hL1.open fun e zl1 _=>?_
 refine R5 8 O ?_
 refine xD rfl (fun hc63=>?_) (fun hc63=>?_)
 ·refine fx_kseq ?_
  refine fx_seq (fx_block ?_)
  refine R4 768 O (fl_lenS rfl hy (R0 2 O ?_))
  refine fx_join (fun fs=>LI zl1 [blkE eW b0 117 M2] [(0,.c (.sl b0 off N 1)),(1,v),(2,.c (.v (.int .u64 ((q:Nat):Int)))),(13,Ad ((c:Nat):Int)),(14,Az i2),(15,Ad ((dig b i2:Nat):Int)),(61,Az N),(62,Az i2)] fs) ?_ fun fs hJ=>?_
  ·refine xD rfl (fun hc68=>?_) (fun hc68=>?_)
   ·refine xG (R1 5 O ?_)
    refine fl_iadW (zz:=zl1) rfl rfl hy.m (i2) (rfl) (by omega) fun p71 hp71=>?_
    refine fl_ldP rfl hp71 (R0 2 O ?_)
    exact sq_n (LI.m [] O)
   refine fx_skip ?_
   rw [show dig b i2=0 from dig_ge (by omega)]
   exact sq_n (LI.m [] O)
  have hJ68:=hJ
  refine hJ68.open fun e zj68 _=>?_
  refine xG (R1 16 O (fl_iad rfl rfl (i2) (rfl) (by omega) (fl_ldOW (off+i2) rfl mem0 (by omega) (by omega) (R1 4 O ?_))))
  refine lZ zj68 (c_bits_Add32 (by omega) (dig_lt M2 (off+i2)) (dig_lt b i2) hc2) rfl rfl fun v82 z82 _ ⟨lo,co,hv82,hk1,hk2,hk3⟩=>?_
  subst hv82
  refine R1 9 O (fl_iad rfl rfl (i2) (rfl) (by omega) (fl_setW (off+i2) (lo) rfl rfl rep0 (rfl) (by omega) (by omega) (by omega) (R0 3 O (sq_n (xG (lB rfl rfl (bI_add (n:=i2+1) (by omega) (by omega)) (R0 2 O ?_)))))))
  exact lq_n (by omega) ⟨i2+1,_,co,LI.m [] O,rfl,by omega,by rw [List.length_set];exact hML2,hk3,by rw [win_set_take];exact htk2,drop_set_succ hdr2,tadd_step (by omega) hdr2 hML2 hk2 hv2 hk1⟩
 refine fx_eseq (lq_e (sq_n (xR ?_)))
 have hiN2:i2=N:=by omega
 obtain ⟨hq3,hX2⟩:=ho2 (by omega)
 have hq0:0<q:=by rw [hq3];exact Nat.succ_pos _
 rw [hiN2,val_take_all (l:=b) (Nat.le_of_lt hbN)] at hv2
 rw [hiN2] at hdr2
 have hres:=take_back hX2 (Nat.lt_of_le_of_lt (Nat.sub_le _ _) hA) (take_lt (M2.drop off) N) hc2 hv2
 refine lC rfl (lB rfl rfl (bQ_sub (n:=q - 1) (by omega) (by omega)) (fl_cvi rfl (wD (rfl) (by omega)) (R0 2 O (xT (ret_h (.inl rfl) (rt rfl rn) (List.Sublist.refl _) ?_)))))
 refine ⟨M2,by rw [show q - 1=_ from by rw [hq3,Nat.add_sub_cancel]];rfl,rfl,hML2.trans hML,htk2.trans htk,hdr2.trans hdr,hres⟩
open Go.CE Go.RowKit Go.Num
open Go.Eng (setL)
theorem c_ShiftD {k:Nat} (hk:4≤k) {z:Mem} {v:AV} {a:List UInt32} {n:Nat} (hx:SZ 1 RW z v a) (hn:n≤31) (hla:a.length≤100000000):FC (E k) 302 [v,Ai (-(n:Nat):Int)] z fun v' z'=>∃ u,v'=.tup [u,Ai 0]∧SZ 1 RW (zd z z') u (toL (val a / 2 ^ n)):=by
 rcases Nat.eq_zero_or_pos n with h | h
 ·subst h
  have hq:=len_canon (l:=a)
  have h1:=(c_limb_Shift hk hx (Nat.zero_le 31) hla).told (P:=fun v' u=>v'=.tup [u,Ai 0]) (by rw [Nat.pow_zero,Nat.mul_one];omega)
  rw [Nat.pow_zero,Nat.mul_one] at h1
  rw [Nat.pow_zero,Nat.div_one]
  exact h1
 exact c_limb_ShiftR hk hx hn h hla
theorem c_nat_DivMod {k:Nat} (hk:5≤k) {z:Mem} {u v:AV} {a b:List UInt32} (hx:SZ 1 RW z u a) (hy:SZ 1 RW z v b) (hla:a.length≤50000000) (hlb:b.length≤50000000):FC (E k) 278 [u,v] z fun v z'=>(val b=0→v=.tup [nilv,nilv,Ai 20])∧(0<val b→∃ q r,v=.tup [q,r,Ai 0]∧SZ 1 RW (zd z z') q (toL (val a / val b))∧SZ 1 RW (zd z z') r (toL (val a % val b))):=by
 have hqa:=len_canon (l:=a)
 have hqb:=len_canon (l:=b)
 refine fc_of (tS_get278) (by omega) (len1 rfl) fun B j hj=>?_
 refine R4 96 O ?_
 refine lZ z (c_limb_Trim (by omega) hx (by omega)) rfl rfl fun v15 z15 hz15 ha15=>?_
 refine lM rfl ?_
 refine lZ z15 (c_limb_Trim (by omega) hy.m (by omega)) rfl rfl fun v17 z17 hz17 hb17=>?_
 have hb17:=hb17.mono (zAq (hz15))
 refine R2 27 O (fl_lenS rfl (hb17.mono zd_le) (R0 2 O ?_))
 refine fx_seq (fx_block ?_)
 refine R5 16 O ?_
 refine xD rfl (fun hc20=>?_) (fun hc20=>?_)
 ·refine R5 16 O (xT (sq_r (rQ (.inl rfl) (rt rfl (rt rfl (rt rfl rn))) ?_)))
  have hb0:=zero_of_len (l:=b) (by omega)
  exact ⟨fun _=>rfl,fun h=>absurd h (by omega)⟩
 refine R4 14 O ?_
 refine lZ z17 (c_limb_Cmp (by omega) ha15.m (hb17.mono zd_le)) rfl rfl fun v26 z26 hz26 hv26=>?_
 rw [val_toL,val_toL] at hv26
 subst hv26
 refine R0 4 O ?_
 refine xD rfl (fun hc23=>?_) (fun hc23=>?_)
 ·refine R5 42 O (xT (sq_r (rQ (.inl rfl) (rt rfl (rt rfl (rt rfl rn))) ?_)))
  rw [cmp3_lt] at hc23
  refine ⟨fun h=>absurd h (by omega),fun hb=>⟨_,_,rfl,?_,?_⟩⟩
  ·rw [Nat.div_eq_of_lt hc23,toL_zero];exact .nil
  rw [Nat.mod_eq_of_lt hc23];exact (ha15.mono (zd_mono zI))
 refine R5 16 O ?_
 refine xD rfl (fun hc29=>?_) (fun hc29=>?_)
 ·refine R4 14 O ?_
  refine fl_iadW (zz:=z26) rfl rfl hb17.m (0) (rfl) (by omega) fun p35 hp35=>?_
  refine fl_ldP rfl hp35 ?_
  refine lZ z26 (c_limb_DivSmall (by omega) ha15.m (dig_lt _ 0) (by omega)) rfl rfl fun v37 z37 hz37 ⟨_,hv37⟩=>?_
  obtain ⟨h1a,h1b,h1c⟩:=one_limb (b:=val b) (by omega)
  obtain ⟨w37,rfl,hr37⟩:=hv37 (by omega)
  rw [val_toL,h1a] at hr37
  have hr37:=hr37.mono (zAq (hz15.trans (hz17.trans hz26)))
  refine R2 1905 O ?_
  rw [val_toL,h1a]
  refine fl_bsl1 rfl (Nat.lt_trans (Nat.mod_lt _ h1c) h1b) rfl fun b43=>?_
  refine fl_frzBZ (n:=1) z z37 (p:=[]) rfl rfl zI (rfl) (by omega) fun zf43 hzf43 hf43=>?_
  refine lZ zf43 (c_limb_Trim (by omega) (hf43.mono zd_le) (by simp)) rfl rfl fun v44 z44 _ hr44=>?_
  rw [val_one (Nat.lt_trans (Nat.mod_lt _ h1c) h1b)] at hr44
  have hr44:=hr44.mono (zAq (hz15.trans (hz17.trans (hz26.trans (hz37.trans hzf43)))))
  refine R0 11 O (xT (sq_r (rQ (.inl rfl) (rt rfl (rt rfl (rt rfl rn))) ?_)))
  refine ⟨fun h=>absurd h (by omega),fun hb=>⟨_,_,rfl,(hr37.mono (zd_mono zI)),hr44⟩⟩
 refine fx_skip (sq_n (R4 10 O (lB rfl rfl (bI_sub (n:=(toL (val b)).length - 1) (by omega) (by omega)) ?_)))
 refine fl_iadW (zz:=z26) rfl rfl hb17.m ((toL (val b)).length - 1) (rfl) (by omega) fun p48 hp48=>?_
 refine fl_ldP rfl hp48 ?_
 refine lZ z26 (c_bits_LeadingZeros32 (by omega) (dig_lt _ _)) rfl rfl fun v50 z50 hz50 ⟨up,hv50,hu1,hu2,hu3⟩=>?_
 subst hv50
 obtain ⟨hu4,hu5⟩:=hu3 (top_pos rfl (by omega))
 obtain ⟨hB1,hB2⟩:=shl_same rfl (by omega) hu2
 have hsa:=shl_len (m:=val a) hu5
 refine R2 29 O ?_
 refine fl_callLZ z50 [] (c_limb_Shift (by omega) hb17.m hu5 (by omega)) rfl rfl rfl fun v54 z54 H54 hz54 ⟨ub,hv54,hH54⟩=>?_
 rw [val_toL] at hH54
 subst hv54
 subst hH54
 refine fl_frzRZ z z54 (p:=[]) rfl rfl zI (by omega) fun zfb hzfb hfb=>?_
 refine R2 233 O ?_
 refine fl_callLZ zfb [] (c_limb_Shift (by omega) ha15.m hu5 (by omega)) rfl rfl rfl fun v60 z60 H60 hz60 ⟨ua,hv60,hH60⟩=>?_
 rw [val_toL] at hH60
 subst hv60
 subst hH60
 refine R2 105 O ?_
 refine fl_push (e:=eW) (a:=(0:UInt32)) rfl (rfl) rfl (fun _=>rfl) (fun _=>rep0) (by omega) (by omega) fun b64 c65 hc65=>?_
 refine fl_sub (List.sublist_cons_self _ _) ?_
 rw [cmp3_lt] at hc23
 have hLN:(toL (val a * 2 ^ up)++[(0:UInt32)]).length=(toL (val a * 2 ^ up)).length+1:=by simp
 have hla2:(toL (val b)).length≤(toL (val a * 2 ^ up)).length:=len_le (Nat.le_trans (by omega) (Nat.le_mul_of_pos_right (val a) (Nat.pow_pos (by decide))))
 refine R2 8 O (fl_lenR rfl mem0 (lC rfl (lB rfl rfl (bI_sub (n:=((toL (val a * 2 ^ up)++[(0:UInt32)]).length - (toL (val b)).length)) (by omega) (by omega)) ?_)))
 refine fl_mkW (n:=((toL (val a * 2 ^ up)++[(0:UInt32)]).length - (toL (val b)).length)) rfl rfl (rfl) (by omega) (by omega) fun b70=>?_
 refine fl_perm (List.Perm.swap _ _ _) (R2 8 O ?_)
 refine fl_rowE (p:=[]) rfl (by omega) fun bba hba=>?_
 cases hba
 refine lC rfl (fl_len rfl rfl (lB rfl rfl (b_sub' (r:=((((toL (val a * 2 ^ up)++[(0:UInt32)]).length - (toL (val b)).length):Nat):Int) - 1) (wi64 (by omega))) (R0 2 O ?_)))
 refine fx_seq (fx_block ?_)
 refine fx_loop (fun n fs=>∃ (i:Nat) (L:List UInt32) (qo:List UInt32),LI z60 [blkE eW bba 117 L,blkE eW b70 117 qo] [(0,.c (.sl bba 0 (toL (val a * 2 ^ up)++[(0:UInt32)]).length 1)),(1,ub),(4,.c (.sl b70 0 ((toL (val a * 2 ^ up)++[(0:UInt32)]).length - (toL (val b)).length) 1)),(7,Az ((toL (val b)).length)),(11,Az up),(12,Ai ((i:Int) - 1))] fs∧n=i∧(i≤((toL (val a * 2 ^ up)++[(0:UInt32)]).length - (toL (val b)).length))∧(L.length=(toL (val a * 2 ^ up)++[(0:UInt32)]).length)∧(qo.length=((toL (val a * 2 ^ up)++[(0:UInt32)]).length - (toL (val b)).length))∧(Dv (val a * 2 ^ up) (val b * 2 ^ up) L qo i)) ?_ _ ⟨((toL (val a * 2 ^ up)++[(0:UInt32)]).length - (toL (val b)).length),_,_,LI.m [] O,rfl,Nat.le_refl _,rfl,by simp,dv_init hB1 (by omega) (by omega) (by omega) _ (by simp)⟩ (kK (by omega))
 intro n fs ⟨i,L,qo,hL0,hmz0,hi,hLl,hql,hD⟩
 refine hL0.open fun e zl0 hzl0=>?_
 refine R5 32 O ?_
 refine xD rfl (fun hc75=>?_) (fun hc75=>?_)
 ·refine fx_kseq ?_
  refine fx_seq (fx_block ?_)
  refine fx_drwS ?_
  have hDj:Dv (val a * 2 ^ up) (val b * 2 ^ up) L qo (i - 1+1):=by rw [show i - 1+1=i by omega];exact hD
  have hBp:0<val b * 2 ^ up:=Nat.mul_pos (pos_of_len (by omega)) (Nat.pow_pos (by decide))
  have hg1:=dv_top hDj hB1 (by omega) (by omega)
  obtain ⟨g,hgE,hg4,hg2,hg3⟩:=dv_guess (M:=4294967296) (M1:=4294967295) rfl rfl hDj hB1 (by omega) (by omega) (by omega)
  refine G1 8 O (gP rfl rfl trivial ?_)
  refine lB rfl rfl (bI_add (n:=i - 1+(toL (val b)).length) (by omega) (by omega)) (lN ?_)
  refine gP rfl rfl trivial ?_
  refine fl_iad rfl rfl (i - 1+(toL (val b)).length) (by omega) (by omega) (lN ?_)
  refine fg_ldOW (i:=⟨_,_,.load _ _ _⟩) (i - 1+(toL (val b)).length) rfl rfl trivial rfl (.inr mem0) (by omega) (by omega) ?_
  refine G1 8 O (gP rfl rfl trivial ?_)
  refine lB rfl rfl (bI_add (n:=i - 1+(toL (val b)).length) (by omega) (by omega)) (lN ?_)
  refine gP rfl rfl trivial ?_
  refine lB rfl rfl (bI_sub (n:=i - 1+(toL (val b)).length - 1) (by omega) (by omega)) (lN ?_)
  refine gP rfl rfl trivial ?_
  refine fl_iad rfl rfl (i - 1+(toL (val b)).length - 1) (by omega) (by omega) (lN ?_)
  refine fg_ldOW (i:=⟨_,_,.load _ _ _⟩) (i - 1+(toL (val b)).length - 1) rfl rfl trivial rfl (.inr mem0) (by omega) (by omega) ?_
  refine G1 8 O (gP rfl rfl trivial ?_)
  refine lB rfl rfl (bI_add (n:=i - 1+(toL (val b)).length) (by omega) (by omega)) (lN ?_)
  refine gP rfl rfl trivial ?_
  refine lB rfl rfl (bI_sub (n:=i - 1+(toL (val b)).length - 2) (by omega) (by omega)) (lN ?_)
  refine gP rfl rfl trivial ?_
  refine fl_iad rfl rfl (i - 1+(toL (val b)).length - 2) (by omega) (by omega) (lN ?_)
  refine fg_ldOW (i:=⟨_,_,.load _ _ _⟩) (i - 1+(toL (val b)).length - 2) rfl rfl trivial rfl (.inr mem0) (by omega) (by omega) ?_
  refine G1 5 O (gP rfl rfl trivial ?_)
  refine lB rfl rfl (bI_sub (n:=(toL (val b)).length - 1) (by omega) (by omega)) (lN ?_)
  refine gP rfl rfl trivial ?_
  refine fl_iadW (zz:=zl0) rfl rfl hfb.m ((toL (val b)).length - 1) (rfl) (by omega) fun p101 hp101=>lN ?_
  refine glP O O hp101 ti (G1 5 O (gP rfl rfl trivial ?_))
  refine lB rfl rfl (bI_sub (n:=(toL (val b)).length - 2) (by omega) (by omega)) (lN ?_)
  refine gP rfl rfl trivial ?_
  refine fl_iadW (zz:=zl0) rfl rfl hfb.m ((toL (val b)).length - 2) (rfl) (by omega) fun p106 hp106=>lN ?_
  refine glP O O hp106 ti ?_
  refine gC zl0 (c_nat_guess (by omega) hg1 (dig_lt _ _) (dig_lt _ _) (by omega) (dig_lt _ _) (dig_lt _ _)) O O O O fun v108 z108 _ hv108=>?_
  rw [← hgE] at hv108
  subst hv108
  refine G0 3 O (xG (R1 64 O (lB rfl rfl (bI_add (n:=i - 1+(toL (val b)).length) (by omega) (by omega)) (lB rfl rfl (bI_add (n:=i - 1+(toL (val b)).length+1) (by omega) (by omega)) ?_))))
  refine fl_slcOZ (i - 1) ((toL (val b)).length+1) (i:=i - 1) (j:=i - 1+(toL (val b)).length+1) rfl ⟨_,_,rfl,by omega⟩ ⟨_,_,rfl,by omega⟩ (by omega) (by omega) (by omega) (by omega) (by omega) ?_
  refine R1 7 O ?_
  refine fl_callLZ z108 [blkE eW bba 117 L] (c_nat_take (by omega) hfb.m (by omega) (by omega) (by omega) hg4 (by rw [val_toL];exact hBp) (by rw [val_toL];exact hg2) (by rw [val_toL];exact hg3)) rfl rfl rfl fun v120 z120 H120 _ ⟨M,hv120,hH120,hM1,hM2,hM3,hM4⟩=>?_
  rw [val_toL] at hv120 hM4
  subst hv120
  subst hH120
  refine fl_iad rfl rfl (i - 1) (by omega) (by omega) (fl_setW (i - 1) (val (List.take ((toL (val b)).length+1) (List.drop (i - 1) L)) / (val b * 2 ^ up)) rfl rfl P1 (rfl) (dv_fit hDj hB1 (by omega)) (by omega) (by omega) (lN (sq_n (xG (lC rfl ?_)))))
  refine lB rfl rfl (b_sub' (r:=((i - 1:Nat):Int) - 1) (by rw [wi64 ⟨by omega,by omega⟩];omega)) ?_
  refine R0 2 O ?_
  exact lq_n (by omega) ⟨i - 1,_,_,LI.m [] O,rfl,by omega,hM1.trans hLl,by rw [List.length_set];exact hql,dv_step hDj hB1 (by omega) (by omega) hM1 hM2 hM3 hM4 (dv_fit hDj hB1 (by omega))⟩
 refine fx_eseq (lq_e (sq_n (xR ?_)))
 have hi0:i=0:=by omega
 rw [hi0] at hD
 obtain ⟨he1,he2⟩:=dv_end hD
 refine fl_frzBZ (n:=(toL (val a * 2 ^ up)++[(0:UInt32)]).length) z zl0 (p:=[]) rfl rfl zI (hLl) (by omega) fun zfa hzfa hfa=>?_
 refine R1 4 O ?_
 refine fl_un rfl (u_neg (r := -((up:Nat):Int)) (by rw [wi64 ⟨by omega,by omega⟩];omega)) ?_
 refine lZ zfa (c_ShiftD (by omega) (hfa.mono zd_le) hu5 (by omega)) rfl rfl fun v126 z126 hz126 ⟨ur,hv126,hr126⟩=>?_
 subst hv126
 have hr126:=hr126.mono (zAq (hz15.trans (hz17.trans (hz26.trans (hz50.trans (hz54.trans (hzfb.trans (hz60.trans (hzl0.trans hzfa)))))))))
 refine R2 73 O ?_
 refine fl_frzBZ (n:=((toL (val a * 2 ^ up)++[(0:UInt32)]).length - (toL (val b)).length)) z z126 (p:=[]) rfl rfl zI (hql) (by omega) fun zfq hzfq hfq=>?_
 refine lZ zfq (c_limb_Trim (by omega) (hfq.mono zd_le) (by omega)) rfl rfl fun v130 z130 _ hr130=>?_
 have hr130:=hr130.mono (zAq (hz15.trans (hz17.trans (hz26.trans (hz50.trans (hz54.trans (hzfb.trans (hz60.trans (hzl0.trans (hzfa.trans (hz126.trans hzfq)))))))))))
 refine R0 23 O (xT (rQ (.inl rfl) (rt rfl (rt rfl (rt rfl rn))) ?_))
 obtain ⟨hd1,hd2⟩:=dv_back (a:=val a) (b:=val b) (up:=up)
 rw [he2,hd2] at hr126
 rw [he1,hd1] at hr130
 refine ⟨fun h=>absurd h (Nat.ne_of_gt (pos_of_len (by omega))),fun hb=>⟨_,_,rfl,hr130,(hr126.mono (zd_mono zI))⟩⟩
open Go.CE Go.RowKit Go.Num
open Go.Eng (setL)
theorem zero_of_toL {n:Nat} (h:(toL n).length=0):n=0:=by
 rcases Nat.eq_zero_or_pos n with h0 | h0
 ·exact h0
 have:=len_pos h0;omega
theorem pos_of_toL {n:Nat} (h:0<(toL n).length):0<n:=by
 rcases Nat.eq_zero_or_pos n with rfl | h0
 ·rw [toL_zero] at h;simp at h
 exact h0
def gcdL (ls:List (List UInt32)):Nat:=ls.foldl (fun g l=>Nat.gcd g (val l)) 0
theorem gcdL_succ {ls:List (List UInt32)} {i:Nat} (h:i<ls.length):gcdL (ls.take (i+1))=Nat.gcd (gcdL (ls.take i)) (val ls[i]):=by
 unfold gcdL
 rw [List.take_add_one,List.getElem?_eq_getElem h,List.foldl_append]
 rfl
theorem gcdL2 (a b:List UInt32):gcdL [a,b]=Nat.gcd (val a) (val b):=by simp [gcdL]
theorem c_nat_Gcd {k:Nat} (hk:6≤k) {z:Mem} {v:AV} {ls:List (List UInt32)} (hx:SZ 1 RLs z v ls) (hl:∀ l,l∈ls→l.length≤50000000):FC (E k) 277 [v] z fun v' z'=>SZ 1 RW (zd z z') v' (toL (gcdL ls)):=by
 have hxl:=hx.le
 refine fc_of (tS_get277) (by omega) (len1 rfl) fun B j hj=>?_
 refine R4 192 O (fl_lenS rfl hx (R0 2 O ?_))
 refine fx_seq (fx_block ?_)
 refine fx_loop (fun n fs=>∃ (i:Nat) (g:Nat) (va:AV) (zo:Mem),LZ z zo [] [(3,va),(9,v),(10,Az ls.length),(11,Az i)] fs∧n=ls.length - i∧(i≤ls.length)∧(SZ 1 RW zo va (toL g))∧(g=gcdL (ls.take i))∧((toL g).length≤50000000)) ?_ _ ⟨0,0,_,_,LZ.m [] O,rfl,Nat.zero_le _,by rw [toL_zero];exact .nil,rfl,by rw [toL_zero];simp⟩ (kK (by omega))
 intro n fs ⟨i,g,va,zo,hL0,hmz0,hi,hva,hg,hgl⟩
 refine hL0.open fun e hzo=>?_
 refine R5 8 O ?_
 refine xD rfl (fun hc12=>?_) (fun hc12=>?_)
 ·refine fx_kseq ?_
  refine fx_seq (fx_block ?_)
  refine xR ?_
  refine fl_iadS (zz:=zo) rfl rfl hx.m i rfl _ (List.getElem?_eq_getElem (by omega)) fun b13 p13 cs13 at13 hR13=>?_
  obtain ⟨e13,rfl,hc13⟩:=hR13
  refine fl_ldA1 rfl at13 ?_
  have hil:=hl _ (List.getElem_mem (show i<ls.length by omega))
  refine R2 8 O ?_
  refine lZ zo (c_limb_Trim (by omega) hc13 (by omega)) rfl rfl fun v16 z16 hz16 hb16=>?_
  have hb16:=hb16.mono (zAq (hzo))
  refine R0 3 O (fx_block ?_)
  refine fx_loop (fun n fs=>∃ (x:Nat) (y:Nat) (va2:AV) (vb2:AV) (zi:Mem),LZ z16 zi [] [(3,va2),(5,vb2),(9,v),(10,Az ls.length),(11,Az i)] fs∧n=gm x y∧(SZ 1 RW zi va2 (toL x))∧(SZ 1 RW zi vb2 (toL y))∧(Nat.gcd x y=Nat.gcd g (val ls[i]))∧((toL x).length≤50000000)∧((toL y).length≤50000000)) ?_ _ ⟨g,val ls[i],_,_,_,LZ.m [] O,rfl,hva.m,(hb16.mono zd_le),rfl,hgl,by have:=len_canon (l:=ls[i]);omega⟩ (by have:=gm_le hgl (show (toL (val ls[i])).length≤50000000 by have:=len_canon (l:=ls[i]);omega);show _<18446744073709551616;omega)
  intro n fs ⟨x,y,va2,vb2,zi,hL1,hmz1,hva2,hvb2,hgx,hxl2,hyl2⟩
  refine hL1.open fun e hzi=>?_
  refine R4 12 O (fl_lenS rfl hvb2 (R3 4 O ?_))
  refine xD rfl (fun hc19=>?_) (fun hc19=>?_)
  ·refine fx_kseq (fx_block (R4 14 O ?_))
   refine lZ zi (c_nat_DivMod (by omega) hva2 hvb2 hxl2 hyl2) rfl rfl fun v23 z23 _ ⟨_,hv23⟩=>?_
   rw [val_toL,val_toL] at hv23
   have hy0:0<y:=pos_of_toL (by omega)
   obtain ⟨q23,r23,rfl,hq23,hr23⟩:=hv23 hy0
   have hr23:=hr23.mono (zAq (hzo.trans (hz16.trans hzi)))
   refine R0 241 O (xG (R0 31 O ?_))
   exact lq_n (by rw [hmz1];exact gm_lt (by omega)) ⟨y,x % y,_,_,_,LZ.m [] O,rfl,hvb2.m,(hr23.mono zd_le),by rw [Nat.gcd_comm y,← Nat.gcd_rec,Nat.gcd_comm];exact hgx,hyl2,Nat.le_trans (len_le (Nat.le_of_lt (Nat.mod_lt _ (by omega)))) hyl2⟩
  refine fx_eseq (lq_e (sq_n (xG (lB rfl rfl (bI_add (n:=i+1) (by omega) (by omega)) (R0 2 O ?_)))))
  exact lq_n (by omega) ⟨i+1,x,va2,_,LZ.m [] O,rfl,by omega,hva2,by rw [gcdL_succ (by omega),← hg,← hgx,show y=0 from zero_of_toL (by omega),Nat.gcd_zero_right],hxl2⟩
 refine fx_eseq (lq_e (sq_n (R4 6 O ?_)))
 refine lZ zo (c_Clone32 (by omega) hva (by omega)) rfl rfl fun v31 z31 _ hk31=>?_
 have hk31:=hk31.mono (zAq (hzo))
 refine R0 3 O (xT (rI O ?_))
 rw [hg,show i=ls.length by omega,List.take_length] at hk31
 exact hk31
open Go.CE Go.RowKit Go.Num
open Go.Eng (setL)
theorem b_eqlB (a b:Bool):Go.Eng.binBV .eql (.bool a) (.bool b)=some (.bool (decide (a=b))):=by cases a<;>cases b<;>rfl
theorem b_neqB (a b:Bool):Go.Eng.binBV .neq (.bool a) (.bool b)=some (.bool (!decide (a=b))):=by cases a<;>cases b<;>rfl
theorem lenSub {a b:Int} {k j:Nat} (h1:(toL a.natAbs).length≤k) (h2:(toL b.natAbs).length≤j):(toL (a - b).natAbs).length≤k+j+1:=by
 refine toL_len.2 ?_
 have h3:=toL_len.1 h1
 have h4:=toL_len.1 h2
 have h5:Num.W ^ k≤Num.W ^ (k+j):=Nat.pow_le_pow_right (by decide) (by omega)
 have h6:Num.W ^ j≤Num.W ^ (k+j):=Nat.pow_le_pow_right (by decide) (by omega)
 have h7:Num.W ^ (k+j) * 2≤Num.W ^ (k+j) * Num.W:=Nat.mul_le_mul_left _ (by decide)
 rw [Nat.pow_succ]
 generalize Num.W ^ (k+j) * Num.W=X at *
 generalize Num.W ^ (k+j)=Y at *
 omega
theorem c_big_Right {k:Nat} (hk:1≤k) {z:Mem} {n:Bool} {c:C} {l:List UInt32} (hx:CZ 1 RW z c l):FC (E k) 236 [.agg [Cb n,c]] z fun v _=>v=Ab (rightI (n,l)):=by
 have hxl:=hx.le
 refine fc_of (tS_get236) (by omega) (len1 rfl) fun B j hj=>?_
 refine xR ?_
 refine fl_bx rfl fun b1=>?_
 refine R2 8 O (fl_ld1 rfl mem0 rfl (fl_lenS rfl hx (R2 32 O ?_)))
 refine fl_splitD 9 rfl (fun hg9=>?_) (fun hg9=>?_)
 ·refine lD rfl (lF rfl (lD rfl (fl_ld1 rfl mem0 rfl (R1 12 O ?_))))
  refine fl_splitB 14 rfl (fun hg14=>?_) (fun hg14=>?_)
  ·refine R0 12288 O (xT (rI O ?_))
   have hl:l=[]:=List.eq_nil_of_length_eq_zero (by omega)
   subst hl
   rw [right_nil,hg14]
   rfl
  refine R1 8 O ?_
  refine fl_splitD 17 rfl (fun hg17=>?_) (fun hg17=>?_)
  ·omega
  refine R0 1536 O (xT (rI O ?_))
  have hl:l=[]:=List.eq_nil_of_length_eq_zero (by omega)
  subst hl
  rw [right_nil,hg14]
  rfl
 refine R1 272 O ?_
 refine fl_splitD 17 rfl (fun hg17=>?_) (fun hg17=>?_)
 ·refine lD rfl (lF rfl (lD rfl (fl_ld1 rfl mem0 rfl (lD rfl (lC rfl (lD rfl (lB rfl rfl (bI_sub (n:=l.length - 1) (by omega) (by omega)) (lD rfl ?_))))))))
  refine fl_iadW rfl rfl hx (l.length - 1) (rfl) (by omega) fun p22 hp22=>?_
  refine lD rfl (fl_ldP rfl hp22 (R0 24 O (xT (rI O ?_))))
  rw [right_cons (by omega)]
  rfl
 omega
theorem c_big_of {k:Nat} (hk:2≤k) {z:Mem} {n:Bool} {c:C} {l:List UInt32} (hx:CZ 1 RW z c l):FC (E k) 170 [.agg [Cb n,c]] z fun v _=>∃ c',v=.agg [Cb (decide (valI (n,l)<0)),c']∧∀ zz,CZ 1 RW zz c l→CZ 1 RW zz c' (toL (valI (n,l)).natAbs):=by
 refine fc_of (tS_get170) (by omega) (len1 rfl) fun B j hj=>?_
 refine xR ?_
 refine fl_bx rfl fun b1=>?_
 refine fl_al2 fun b2=>?_
 refine lN (R4 4 O (fl_ld2 rfl Y1 rfl ?_))
 refine lE z (c_big_Right (by omega) hx) O O fun z4 _=>?_
 refine R3 4 O ?_
 refine fx_condB rfl (fun hc5=>?_) (fun hc5=>?_)
 ·refine R4 4 O (fl_bd (cs:=[_,_]) rfl (fl_st2 rfl rfl rep0 (lN (fx_rseq (rQ (.inl rfl) (rc2 rfl mem0 rn) ?_)))))
  have h0:=of_no (n:=n) (l:=l) (by simpa using hc5)
  rw [h0]
  exact ⟨_,rfl,fun zz h=>by rw [show toL (0:Int).natAbs=[] from toL_zero];exact .nil⟩
 refine R4 4 O (fl_ld2 rfl Y1 rfl (fl_bd (cs:=[_,_]) rfl (fl_st2 rfl rfl rep0 (lN (xT (rQ (.inl rfl) (rc2 rfl mem0 rn) ?_))))))
 obtain ⟨e1,e2⟩:=of_ok (n:=n) (l:=l) (by simpa using hc5)
 refine ⟨c,?_,fun zz h=>by rw [← e2];exact h⟩
 rw [← e1]
 rfl
theorem c_big_signed {k:Nat} (hk:1≤k) {z:Mem} {b:Bool} {m:Nat} {c:C} (hx:CZ 1 RW z c (toL m)):FC (E k) 163 [Ab b,.c c] z fun v _=>v=.agg [Cb (decide (sgn b m<0)),c]:=by
 refine fc_of (tS_get163) (by omega) (len1 rfl) fun B j hj=>?_
 refine xR ?_
 refine fl_al2 fun b4=>?_
 refine lN (R4 8 O ?_)
 refine fl_splitB 6 rfl (fun hg6=>?_) (fun hg6=>?_)
 ·refine lD rfl (lC rfl (lD rfl (fl_lenS rfl hx (R1 8 O (fl_bd (cs:=[_,_]) rfl (fl_st2 rfl rfl rep0 (lN (xT (rQ (.inl rfl) (rc2 rfl mem0 rn) ?_)))))))))
  rw [sgn_lt,hg6]
  rfl
 refine R1 32 O (fl_bd (cs:=[_,_]) rfl (fl_st2 rfl rfl rep0 (lN (xT (rQ (.inl rfl) (rc2 rfl mem0 rn) ?_)))))
 rw [sgn_lt,hg6]
 rfl
theorem c_big_number_plus {k:Nat} (hk:5≤k) {z:Mem} {a b:Int} {c1 c2:C} (hx:CZ 1 RW z c1 (toL a.natAbs)) (hy:CZ 1 RW z c2 (toL b.natAbs)) (h1:(toL a.natAbs).length≤100000000) (h2:(toL b.natAbs).length≤100000000):FC (E k) 242 [.agg [Cb (decide (a<0)),c1],.agg [Cb (decide (b<0)),c2]] z fun v z'=>IV (zd z z') v (a+b):=by
 refine fc_of (tS_get242) (by omega) (len1 rfl) fun B j hj=>?_
 refine xR ?_
 refine fl_bx rfl fun b2=>?_
 refine fl_bx rfl fun b3=>?_
 refine fl_al2 fun b4=>?_
 refine lN (R4 16 O (fl_ld1 rfl Y2 rfl (R1 4 O (fl_ld1 rfl Y1 rfl (fl_binB rfl rfl (b_eqlB _ _) (lN (fx_cseq ?_)))))))
 refine xD rfl (fun hc13=>?_) (fun hc13=>?_)
 ·refine fx_ss (fx_drwS (G1 4 O (gl1 O O (.inr Y2) O (G1 4 O (gl1 O O (.inr Y2) O (G1 4 O (gl1 O O (.inr Y1) O ?_)))))))
  refine gC z (c_limb_Add (by omega) hx hy (by omega) (by omega)) O O O O fun v23 z23 _ hr23=>?_
  rw [val_toL,val_toL] at hr23
  obtain ⟨c23,rfl,_⟩:=hr23.one
  refine gE z23 (c_big_signed (by omega) (hr23.mono zd_le)) O O O O fun z24 _=>?_
  refine gS O O O (fl_st2 rfl rfl rep0 (lN (fg_nil (fx_rseq (rQ (.inl rfl) (rc2 rfl mem0 rn) ?_)))))
  rw [plus_same hc13]
  refine ⟨_,rfl,?_⟩
  have hq:=(hr23.mono (zd_mono (zJ z24)))
  rwa [show a.natAbs+b.natAbs=(a+b).natAbs by rw [← plus_same hc13,sgn_abs]] at hq
 refine R4 32 O (fl_ld1 rfl Y2 rfl (R1 4 O (fl_ld1 rfl Y1 rfl ?_)))
 refine lZ z (c_limb_Cmp (by omega) hx hy) rfl rfl fun v31 z31 hz31 hv31=>?_
 rw [val_toL,val_toL] at hv31
 subst hv31
 refine R3 4 O ?_
 refine xD rfl (fun hc32=>?_) (fun hc32=>?_)
 ·refine xR ?_
  rw [cmp3_lt] at hc32
  refine fl_ld2 rfl Y1 rfl (fl_ld2 rfl Y2 rfl (fl_st2 rfl rfl P2 (fl_st2 rfl rfl P1 (lN (R4 8 O (fl_ld1 rfl Y2 rfl (R1 4 O (fl_ld1 rfl Y1 rfl ?_))))))))
  refine lZ z31 (c_limb_Sub (by omega) hy.m hx.m (by omega) (by omega)) rfl rfl fun v42 z42 hz42 ⟨_,hv42⟩=>?_
  rw [val_toL,val_toL] at hv42
  obtain ⟨w42,rfl,hr42⟩:=hv42 (by omega)
  obtain ⟨c42,rfl,_⟩:=hr42.one
  have hr42:=hr42.mono (zAq (hz31))
  refine R2 281 O (fl_ld1 rfl Y2 rfl (lM rfl ?_))
  refine lE z42 (c_big_signed (by omega) (hr42.mono zd_le)) O O fun z49 hz49=>?_
  refine fl_st2 rfl rfl rep0 (lN (xT (rQ (.inl rfl) (rc2 rfl mem0 rn) ?_)))
  rw [plus_lt hc13 hc32]
  refine ⟨_,rfl,?_⟩
  have hq:=(hr42.mono (zd_mono (zJ z49)))
  rwa [show b.natAbs - a.natAbs=(a+b).natAbs by rw [← plus_lt hc13 hc32,sgn_abs]] at hq
 refine R4 4 O ?_
 rw [cmp3_lt] at hc32
 refine R1 4 O (fl_ld1 rfl Y2 rfl (R1 4 O (fl_ld1 rfl Y1 rfl ?_)))
 refine lZ z31 (c_limb_Sub (by omega) hx.m hy.m (by omega) (by omega)) rfl rfl fun v42 z42 hz42 ⟨_,hv42⟩=>?_
 rw [val_toL,val_toL] at hv42
 obtain ⟨w42,rfl,hr42⟩:=hv42 (by omega)
 obtain ⟨c42,rfl,_⟩:=hr42.one
 have hr42:=hr42.mono (zAq (hz31))
 refine R2 281 O (fl_ld1 rfl Y2 rfl (lM rfl ?_))
 refine lE z42 (c_big_signed (by omega) (hr42.mono zd_le)) O O fun z49 hz49=>?_
 refine fl_st2 rfl rfl rep0 (lN (xT (rQ (.inl rfl) (rc2 rfl mem0 rn) ?_)))
 rw [plus_ge hc13 (Nat.le_of_not_lt hc32)]
 refine ⟨_,rfl,?_⟩
 have hq:=(hr42.mono (zd_mono (zJ z49)))
 rwa [show a.natAbs - b.natAbs=(a+b).natAbs by rw [← plus_ge hc13 (Nat.le_of_not_lt hc32),sgn_abs]] at hq
theorem c_big_number_turned {k:Nat} (hk:2≤k) {z:Mem} {a:Int} {c:C} (hx:CZ 1 RW z c (toL a.natAbs)):FC (E k) 243 [.agg [Cb (decide (a<0)),c]] z fun v _=>v=.agg [Cb (decide (-a<0)),c]:=by
 refine fc_of (tS_get243) (by omega) (len1 rfl) fun B j hj=>?_
 refine xR ?_
 refine fl_bx rfl fun b1=>?_
 refine fl_al2 fun b2=>?_
 refine lN (R4 8 O (fl_ld1 rfl Y1 rfl (R1 8 O (fl_ld1 rfl Y1 rfl ?_))))
 refine lE z (c_big_signed (by omega) hx) O O fun z10 _=>?_
 refine fl_bd (cs:=[_,_]) rfl (fl_st2 rfl rfl rep0 (lN (xT (rQ (.inl rfl) (rc2 rfl mem0 rn) ?_))))
 rw [neg_sgn]
 rfl
theorem c_big_Of {k:Nat} (hk:3≤k) {z:Mem} {n:Int} (h1 : -9223372036854775808≤n) (h2:n<9223372036854775808):FC (E k) 83 [Ai n] z fun v z'=>IV (zd z z') v n:=by
 refine fc_of (tS_get83) (by omega) (len1 rfl) fun B j hj=>?_
 refine xR ?_
 refine fl_al2 fun b2=>?_
 refine lN (R4 4 O (fl_cvi rfl ((wu64m n)) (R3 32 O ?_)))
 refine fx_join (fun fs=>LI z [.blk b2 (.cells 33 [Cb false,Cz])] [(0,Ai n),(2,Ap b2),(3,.c (.v (.int .u64 ((n.natAbs:Nat):Int))))] fs) ?_ fun fs hJ=>?_
 ·refine xD rfl (fun hc7=>?_) (fun hc7=>?_)
  ·refine xG (lC rfl ?_)
   refine fl_un rfl (u_neg (r:=((n.natAbs:Nat):Int)) (by rw [wu64m];omega)) ?_
   refine R0 2 O ?_
   exact sq_n (LI.m [] O)
  refine fx_skip ?_
  rw [show n % 18446744073709551616=((n.natAbs:Nat):Int) by omega]
  exact sq_n (LI.m [] O)
 have hJ7:=hJ
 refine hJ7.open fun e zj7 hzj7=>?_
 refine R4 16 O (fl_cvi rfl (wDm _) (lC rfl (lB rfl rfl (b_shr (n:=n.natAbs / 4294967296) (by decide) (rfl)) (fl_cvi rfl (wD (rfl) (by omega)) ?_))))
 refine fl_bsl2 rfl rfl (Nat.mod_lt _ (by decide)) (by omega) rfl fun b17=>?_
 refine fl_frzBZ (n:=2) z zj7 (p:=[]) rfl rfl zI (rfl) (by omega) fun zf17 hzf17 hf17=>?_
 refine lZ zf17 (c_limb_Trim (by omega) (hf17.mono zd_le) (by simp)) rfl rfl fun v18 z18 _ hr18=>?_
 rw [val_two (by omega)] at hr18
 obtain ⟨c18,rfl,_⟩:=hr18.one
 have hr18:=hr18.mono (zAq (hzj7.trans hzf17))
 refine lE z18 (c_big_signed (by omega) (hr18.mono zd_le)) O O fun z19 _=>?_
 refine fl_st2 rfl rfl rep0 (lN (xT (rQ (.inl rfl) (rc2 rfl mem0 rn) ?_)))
 rw [of_sgn]
 exact ⟨_,rfl,(hr18.mono (zd_mono zI))⟩
theorem c_big_Add {k:Nat} (hk:6≤k) {z:Mem} {n1:Bool} {c1:C} {l1:List UInt32} (hx:CZ 1 RW z c1 l1) {n2:Bool} {c2:C} {l2:List UInt32} (hy:CZ 1 RW z c2 l2) (h1:l1.length≤20000000) (h2:l2.length≤20000000):FC (E k) 166 [.agg [Cb n1,c1],.agg [Cb n2,c2]] z fun v z'=>IV (zd z z') v (valI (n1,l1)+valI (n2,l2)):=by
 refine fc_of (tS_get166) (by omega) (len1 rfl) fun B j hj=>?_
 refine xR ?_
 refine fl_bx rfl fun b2=>?_
 refine fl_bx rfl fun b3=>?_
 refine fl_al2 fun b4=>?_
 refine lN (fx_drwS (gl2 O O (.inr Y2) O ?_))
 refine gC z (c_big_of (by omega) hx) O O O O fun v6 z6 hz6 hv6=>?_
 obtain ⟨c6,rfl,hq6⟩:=hv6
 have h6:=hq6 _ (hx.mono (zJ z6))
 refine gl2 O O (.inr Y1) O ?_
 refine gC z6 (c_big_of (by omega) hy.m) O O O O fun v8 z8 hz8 hv8=>?_
 obtain ⟨c8,rfl,hq8⟩:=hv8
 have h8:=hq8 _ (hy.mono (zJ z8))
 refine gC z8 (c_big_number_plus (by omega) h6.m h8 (by have:=lenI (n:=n1) (l:=l1);omega) (by have:=lenI (n:=n2) (l:=l2);omega)) O O O O fun v9 z9 _ hv9=>?_
 obtain ⟨c9,rfl,h9⟩:=hv9
 have h9:=h9.mono (zAq (hz6.trans hz8))
 refine gS O O O (fl_st2 rfl rfl rep0 (lN (fg_nil (xT (rQ (.inl rfl) (rc2 rfl mem0 rn) ?_)))))
 exact ⟨_,rfl,h9⟩
theorem c_big_Sub {k:Nat} (hk:6≤k) {z:Mem} {n1:Bool} {c1:C} {l1:List UInt32} (hx:CZ 1 RW z c1 l1) {n2:Bool} {c2:C} {l2:List UInt32} (hy:CZ 1 RW z c2 l2) (h1:l1.length≤20000000) (h2:l2.length≤20000000):FC (E k) 169 [.agg [Cb n1,c1],.agg [Cb n2,c2]] z fun v z'=>IV (zd z z') v (valI (n1,l1) - valI (n2,l2)):=by
 refine fc_of (tS_get169) (by omega) (len1 rfl) fun B j hj=>?_
 refine xR ?_
 refine fl_bx rfl fun b2=>?_
 refine fl_bx rfl fun b3=>?_
 refine fl_al2 fun b4=>?_
 refine lN (fx_drwS (gl2 O O (.inr Y2) O ?_))
 refine gC z (c_big_of (by omega) hx) O O O O fun v6 z6 hz6 hv6=>?_
 obtain ⟨c6,rfl,hq6⟩:=hv6
 have h6:=hq6 _ (hx.mono (zJ z6))
 refine gl2 O O (.inr Y1) O ?_
 refine gC z6 (c_big_of (by omega) hy.m) O O O O fun v8 z8 hz8 hv8=>?_
 obtain ⟨c8,rfl,hq8⟩:=hv8
 have h8:=hq8 _ (hy.mono (zJ z8))
 refine gE z8 (c_big_number_turned (by omega) h8) O O O O fun z9 hz9=>?_
 refine gC z9 (c_big_number_plus (by omega) h6.m (b := -valI (n2,l2)) (by rw [Int.natAbs_neg];exact h8.m) (by have := lenI (n := n1) (l := l1);omega) (by rw [Int.natAbs_neg];have := lenI (n := n2) (l := l2);omega)) O O O O fun v10 z10 _ hv10=>?_
 obtain ⟨c10,rfl,h10⟩:=hv10
 have h10:=h10.mono (zAq (hz6.trans (hz8.trans hz9)))
 refine gS O O O (fl_st2 rfl rfl rep0 (lN (fg_nil (xT (rQ (.inl rfl) (rc2 rfl mem0 rn) ?_)))))
 rw [Int.sub_eq_add_neg]
 exact ⟨_,rfl,h10⟩
theorem c_big_Mul {k:Nat} (hk:4≤k) {z:Mem} {n1:Bool} {c1:C} {l1:List UInt32} (hx:CZ 1 RW z c1 l1) {n2:Bool} {c2:C} {l2:List UInt32} (hy:CZ 1 RW z c2 l2) (h1:l1.length≤20000000) (h2:l2.length≤20000000):FC (E k) 89 [.agg [Cb n1,c1],.agg [Cb n2,c2]] z fun v z'=>IV (zd z z') v (valI (n1,l1) * valI (n2,l2)):=by
 refine fc_of (tS_get89) (by omega) (len1 rfl) fun B j hj=>?_
 refine xR ?_
 refine fl_bx rfl fun b2=>?_
 refine fl_bx rfl fun b3=>?_
 refine fl_al2 fun b4=>?_
 refine lN (fx_drwS (gl2 O O (.inr Y2) O ?_))
 refine gC z (c_big_of (by omega) hx) O O O O fun v8 z8 hz8 hv8=>?_
 obtain ⟨c8,rfl,hq8⟩:=hv8
 have h8:=hq8 _ (hx.mono (zJ z8))
 refine gl2 O O (.inr Y1) O ?_
 refine gC z8 (c_big_of (by omega) hy.m) O O O O fun v10 z10 hz10 hv10=>?_
 obtain ⟨c10,rfl,hq10⟩:=hv10
 have h10:=hq10 _ (hy.mono (zJ z10))
 refine gA O O (fun b5 hT5=>?_)
 refine gA O O (fun b6 hT6=>?_)
 refine gS O O O (fl_st2 rfl rfl P1 (lN (gS O O O (fl_st2 rfl rfl rep0 (lN (fg_nil (fx_drwS (G1 4 O (gl1 O O (.inr Y1) O (G1 4 O (gl1 O O Ht O (gP rfl rfl trivial ?_))))))))))))
 refine fl_binB rfl rfl (b_neqB _ _) (lN ?_)
 refine G1 4 O (gl1 O O (.inr Y1) O (G1 4 O (gl1 O O Ht O ?_)))
 refine gC z10 (c_nat_Mul (by omega) h8.m h10 (by have:=lenI (n:=n1) (l:=l1);omega) (by have:=lenI (n:=n2) (l:=l2);omega)) O O O O fun v24 z24 _ hr24=>?_
 rw [val_toL,val_toL] at hr24
 obtain ⟨c24,rfl,_⟩:=hr24.one
 have hr24:=hr24.mono (zAq (hz8.trans hz10))
 refine gE z24 (c_big_signed (by omega) (hr24.mono zd_le)) O O O O fun z25 _=>?_
 refine gS O O O (fl_st2 rfl rfl P2 (lN (fg_nil (xT (rQ (.inl rfl) (rc2 rfl Y2 rn) ?_)))))
 rw [mul_sgn]
 refine ⟨_,rfl,?_⟩
 have hq:=(hr24.mono (zd_mono (zJ z25)))
 rwa [← Int.natAbs_mul] at hq
theorem c_big_Neg {k:Nat} (hk:3≤k) {z:Mem} {n:Bool} {c:C} {l:List UInt32} (hx:CZ 1 RW z c l) (h1:l.length≤20000000):FC (E k) 167 [.agg [Cb n,c]] z fun v z'=>IV (zd z z') v (-valI (n,l)):=by
 refine fc_of (tS_get167) (by omega) (len1 rfl) fun B j hj=>?_
 refine xR ?_
 refine fl_bx rfl fun b1=>?_
 refine fl_al2 fun b2=>?_
 refine lN (xR (fl_ld2 rfl Y1 rfl ?_))
 refine lZ z (c_big_of (by omega) hx) rfl rfl fun v5 z5 hz5 hv5=>?_
 obtain ⟨c5,rfl,hq5⟩:=hv5
 have h5:=hq5 _ (hx.mono (zJ z5))
 refine lE z5 (c_big_number_turned (by omega) h5) O O fun z6 hz6=>?_
 refine fl_al2 fun b3=>?_
 refine fl_st2 rfl rfl rep0 (lN (fx_drwS (G1 4 O (gl1 O O Ht O (G1 4 O (gl1 O O Ht O ?_))))))
 refine gC z6 (c_Clone32 (by omega) h5.m (by have:=lenI (n:=n) (l:=l);omega)) O O O O fun v13 z13 _ hr13=>?_
 obtain ⟨c13,rfl,_⟩:=hr13.one
 have hr13:=hr13.mono (zAq (hz5.trans hz6))
 refine gP rfl rfl trivial ?_
 refine fl_bd (cs:=[_,_]) rfl (lN ?_)
 refine gS O O O (fl_st2 rfl rfl P1 (lN (fg_nil (xT (rQ (.inl rfl) (rc2 rfl Y1 rn) ?_)))))
 refine ⟨_,rfl,?_⟩
 rw [Int.natAbs_neg]
 exact hr13
theorem c_big_Abs {k:Nat} (hk:3≤k) {z:Mem} {n:Bool} {c:C} {l:List UInt32} (hx:CZ 1 RW z c l) (h1:l.length≤20000000):FC (E k) 168 [.agg [Cb n,c]] z fun v z'=>IV (zd z z') v ((valI (n,l)).natAbs):=by
  refine fc_of (tS_get168) (by omega) (len1 rfl) fun B j hj=>?_
  refine xR ?_
  refine fl_bx rfl fun b1=>?_
  refine fl_al2 fun b2=>?_
  refine lN (xR (fl_ld2 rfl Y1 rfl ?_))
  refine lZ z (c_big_of (by omega) hx) rfl rfl fun v4 z4 hz4 hv4=>?_
  obtain ⟨c4,rfl,hq4⟩:=hv4
  have h4:=hq4 _ (hx.mono (zJ z4))
  refine fl_fld2 rfl rfl (fl_fld1 rfl rfl ?_)
  refine lZ z4 (c_Clone32 (by omega) h4 (by have:=lenI (n:=n) (l:=l);omega)) rfl rfl fun v7 z7 _ hr7=>?_
  obtain ⟨c7,rfl,_⟩:=hr7.one
  have hr7:=hr7.mono (zAq (hz4))
  refine fl_bd (cs:=[_,_]) rfl (fl_st2 rfl rfl rep0 (lN (xT (rQ (.inl rfl) (rc2 rfl mem0 rn) ?_))))
  refine ⟨c7,?_,?_⟩
  · rw [decide_eq_false (by omega)]
    rfl
  · exact hr7
theorem c_big_Sign {k:Nat} (hk:3≤k) {z:Mem} {n:Bool} {c:C} {l:List UInt32} (hx:CZ 1 RW z c l):FC (E k) 90 [.agg [Cb n,c]] z fun v _=>v=.c (.v (.int .i64 (valI (n,l)).sign)):=by
 refine fc_of (tS_get90) (by omega) (len1 rfl) fun B j hj=>?_
 refine xR ?_
 refine fl_bx rfl fun b1=>?_
 refine R2 8 O (fl_ld2 rfl mem0 rfl ?_)
 refine lZ z (c_big_of (by omega) hx) rfl rfl fun v5 z5 _ hv5=>?_
 obtain ⟨c5,rfl,hq5⟩:=hv5
 have h5:=hq5 _ (hx.mono (zJ z5))
 refine fl_al2 fun b3=>?_
 refine fl_st2 rfl rfl rep0 (lN ?_)
 refine fx_seq (fx_block ?_)
 refine R4 8 O (fl_ld1 rfl mem0 rfl (R0 2 O ?_))
 refine fx_condB rfl (fun hc6=>?_) (fun hc6=>?_)
 ·refine R5 4 O (xT (sq_r (rI O ?_)))
  rw [sign_c,if_pos (of_decide_eq_true hc6)]
  rfl
 refine R4 8 O (fl_ld1 rfl mem0 rfl (fl_lenS rfl h5 (R0 4 O ?_)))
 refine xD rfl (fun hc10=>?_) (fun hc10=>?_)
 ·refine R5 4 O (xT (sq_r (rI O ?_)))
  rw [sign_c,if_neg (of_decide_eq_false hc6),if_pos (pos_of_toL (by omega))]
  rfl
 refine fx_skip (sq_n (R5 4 O (xT (rI O ?_))))
 rw [sign_c,if_neg (of_decide_eq_false hc6),if_neg (by have:=zero_of_toL (n:=(valI (n,l)).natAbs) (by omega);omega)]
 rfl
theorem c_big_Cmp {k:Nat} (hk:7≤k) {z:Mem} {n1:Bool} {c1:C} {l1:List UInt32} (hx:CZ 1 RW z c1 l1) {n2:Bool} {c2:C} {l2:List UInt32} (hy:CZ 1 RW z c2 l2) (h1:l1.length≤20000000) (h2:l2.length≤20000000):FC (E k) 88 [.agg [Cb n1,c1],.agg [Cb n2,c2]] z fun v _=>v=.c (.v (.int .i64 (valI (n1,l1) - valI (n2,l2)).sign)):=by
 refine fc_of (tS_get88) (by omega) (len1 rfl) fun B j hj=>?_
 refine xR ?_
 refine fl_bx rfl fun b2=>?_
 refine fl_bx rfl fun b3=>?_
 refine R2 4 O (fl_ld2 rfl Y1 rfl (fl_ld2 rfl mem0 rfl ?_))
 refine lZ z (c_big_Sub (by omega) hx hy h1 h2) rfl rfl fun v7 z7 _ hv7=>?_
 obtain ⟨c7,rfl,h7⟩:=hv7
 have hb7:(toL (valI (n1,l1) - valI (n2,l2)).natAbs).length≤40000001:=lenSub (k:=20000000) (j:=20000000) (Nat.le_trans lenI h1) (Nat.le_trans lenI h2)
 refine lZ z7 (c_big_Sign (by omega) (h7.mono zd_le)) rfl rfl fun v8 z8 _ hv8=>?_
 rw [valI_c] at hv8
 refine R0 3 O (xT ?_)
 exact rI O hv8
open Go.CE Go.RowKit Go.Num
open Go.Eng (setL)
theorem pos_i {n:Nat} (h:(0:Int)<(n:Int)):0<n:=by omega
theorem zero_i {n:Nat} (h:¬ (0:Int)<(n:Int)):n=0:=by omega
theorem fdivN {a b:Int} (h:¬ decide (a<0)=decide (b<0)) (h2:(0:Int)<(((toL (a.natAbs % b.natAbs)).length:Nat):Int)) (hb:b≠0):sgn (!decide (decide (a<0)=decide (b<0))) (a.natAbs / b.natAbs+1)=a.fdiv b∧sgn (decide (b<0)) (b.natAbs - a.natAbs % b.natAbs)=a.fmod b:=fdiv_neg h (pos_of_toL (pos_i h2)) hb
theorem fdivZ {a b:Int} (h2:¬ (0:Int)<(((toL (a.natAbs % b.natAbs)).length:Nat):Int)) (hb:b≠0):sgn (!decide (decide (a<0)=decide (b<0))) (a.natAbs / b.natAbs)=a.fdiv b∧sgn (decide (b<0)) (a.natAbs % b.natAbs)=a.fmod b:=fdiv_pos (.inr (zero_of_toL (zero_i h2))) hb
theorem fdivS {a b:Int} (h:decide (a<0)=decide (b<0)) (hb:b≠0):sgn (!decide (decide (a<0)=decide (b<0))) (a.natAbs / b.natAbs)=a.fdiv b∧sgn (decide (b<0)) (a.natAbs % b.natAbs)=a.fmod b:=fdiv_pos (.inl h) hb
theorem iv_fin {z:Mem} {v:AV} {c:C} {b:Bool} {m:Nat} {y:Int} (e:sgn b m=y) (h:v=.agg [Cb (decide (sgn b m<0)),c]) (hq:CZ 1 RW z c (toL m)):IV z v y:=by
 subst e
 exact ⟨c,h,by rwa [sgn_abs]⟩
theorem c_big_DivMod {k:Nat} (hk:6≤k) {z:Mem} {n1:Bool} {c1:C} {l1:List UInt32} (hx:CZ 1 RW z c1 l1) {n2:Bool} {c2:C} {l2:List UInt32} (hy:CZ 1 RW z c2 l2) (h1:l1.length≤20000000) (h2:l2.length≤20000000) (hb:valI (n2,l2)≠0):FC (E k) 241 [.agg [Cb n1,c1],.agg [Cb n2,c2]] z fun v z'=>∃ v1 v2,v=.tup [v1,v2,Ai 0]∧IV (zd z z') v1 ((valI (n1,l1)).fdiv (valI (n2,l2)))∧IV (zd z z') v2 ((valI (n1,l1)).fmod (valI (n2,l2))):=by
 have hla:=lenI (n:=n1) (l:=l1)
 have hlb:=lenI (n:=n2) (l:=l2)
 have hbp:0<(valI (n2,l2)).natAbs:=by omega
 have hml:=Nat.le_of_lt (Nat.mod_lt (valI (n1,l1)).natAbs hbp)
 have hlr:=len_le hml
 have hlq:=len_le (Nat.div_le_self (valI (n1,l1)).natAbs (valI (n2,l2)).natAbs)
 refine fc_of (tS_get241) (by omega) (len1 rfl) fun B j hj=>?_
 refine xR ?_
 refine fl_bx rfl fun b2=>?_
 refine fl_bx rfl fun b3=>?_
 refine fl_al2 fun b4=>?_
 refine fl_al2 fun b5=>?_
 refine R0 2 O (fx_drwS (gl2 O O (.inr Y3) O ?_))
 refine gC z (c_big_of (by omega) hx) O O O O fun v12 z12 hz12 hv12=>?_
 obtain ⟨c12,rfl,hq12⟩:=hv12
 have h12:=hq12 _ (hx.mono (zJ z12))
 refine gl2 O O (.inr Y2) O ?_
 refine gC z12 (c_big_of (by omega) hy.m) O O O O fun v14 z14 hz14 hv14=>?_
 obtain ⟨c14,rfl,hq14⟩:=hv14
 have h14:=hq14 _ (hy.mono (zJ z14))
 refine gA O O (fun b7 hT7=>?_)
 refine gA O O (fun b8 hT8=>?_)
 refine gS O O O (fl_st2 rfl rfl P1 (lN (gS O O O (fl_st2 rfl rfl rep0 (lN (fg_nil (R4 8 O (fl_ld1 rfl Y1 rfl (R1 4 O (fl_ld1 rfl mem0 rfl ?_))))))))))
 refine lZ z14 (c_nat_DivMod (by omega) h12.m h14 (by have:=lenI (n:=n1) (l:=l1);omega) (by have:=lenI (n:=n2) (l:=l2);omega)) rfl rfl fun v22 z22 hz22 ⟨_,hv22⟩=>?_
 rw [val_toL,val_toL] at hv22
 obtain ⟨wq,wr,rfl,hq22,hr22⟩:=hv22 (by omega)
 obtain ⟨cq,rfl,_⟩:=hq22.one
 obtain ⟨cr,rfl,_⟩:=hr22.one
 have hq22:=hq22.mono (zAq (hz12.trans hz14))
 have hr22:=hr22.mono (zAq (hz12.trans hz14))
 refine R3 4721 O ?_
 refine fx_condN rfl (fun hc27=>?_) (fun hc27=>?_)
 ·exact absurd rfl hc27
 refine R4 32 O (fl_ld1 rfl Y1 rfl (R1 4 O (fl_ld1 rfl mem0 rfl (fl_binB rfl rfl (b_neqB _ _) (lC rfl ?_)))))
 refine fl_splitN 37 rfl (fun hg37=>?_) (fun hg37=>?_)
 ·refine lD rfl (lM rfl (lD rfl (fl_lenS rfl (hr22.mono zd_le) (R3 8 O ?_))))
  refine xD rfl (fun hc41=>?_) (fun hc41=>?_)
  ·refine R4 12 O ?_
   refine fl_bsl1 (n:=1) rfl (by decide) rfl fun b43=>?_
   refine fl_frzBZ (n:=1) z z22 (p:=[]) rfl rfl zI (rfl) (by omega) fun zf43 hzf43 hf43=>?_
   refine lZ zf43 (c_limb_Add (by omega) hq22.m (hf43.mono zd_le) (by omega) (by simp)) rfl rfl fun v44 z44 hz44 ha44=>?_
   rw [val_toL,val_one (by decide)] at ha44
   obtain ⟨ca,rfl,_⟩:=ha44.one
   have ha44:=ha44.mono (zAq (hz12.trans (hz14.trans (hz22.trans hzf43))))
   refine R2 17 O (fl_ld1 rfl mem0 rfl (lM rfl ?_))
   refine lZ z44 (c_limb_Sub (by omega) h14.m hr22.m (by omega) (by omega)) rfl rfl fun v50 z50 _ ⟨_,hv50⟩=>?_
   rw [val_toL,val_toL] at hv50
   have hv50:=hv50 hml
   obtain ⟨w50,hw50,hs50⟩:=hv50
   subst hw50
   obtain ⟨cs50,rfl,_⟩:=hs50.one
   have hs50:=hs50.mono (zAq (hz12.trans (hz14.trans (hz22.trans (hzf43.trans hz44)))))
   refine R0 25 O (fx_drwS (G1 4 O (gl1 O O (.inr Y1) O (G1 4 O (gl1 O O Ht O (gP rfl rfl trivial ?_))))))
   refine fl_binB rfl rfl (b_neqB _ _) (lN ?_)
   refine G1 3 O ?_
   refine gE z50 (c_big_signed (by omega) ha44.m) O O O O fun z61 hz61=>?_
   refine G1 4 O (gl1 O O Ht O (G1 3 O ?_))
   refine gE z61 (c_big_signed (by omega) hs50.m) O O O O fun z66 hz66=>?_
   refine gS O O O (fl_st2 rfl rfl P3 (lN (gS O O O (fl_st2 rfl rfl P2 (lN (G0 2 O (xT (rQ (.inl rfl) (rc2 rfl Y3 (rc2 rfl Y2 (rt rfl rn))) ?_))))))))
   have he:=fdivN hg37 hc41 hb
   exact ⟨_,_,rfl,iv_fin he.1 rfl (ha44.mono (zd_mono zI)),iv_fin he.2 rfl (hs50.mono (zd_mono zI))⟩
  refine fx_kseq (fx_drwS (G1 4 O (gl1 O O (.inr Y1) O (G1 4 O (gl1 O O Ht O (gP rfl rfl trivial ?_))))))
  refine fl_binB rfl rfl (b_neqB _ _) (lN ?_)
  refine G1 3 O ?_
  refine gE z22 (c_big_signed (by omega) (hq22.mono zd_le)) O O O O fun z61 hz61=>?_
  refine G1 4 O (gl1 O O Ht O (G1 3 O ?_))
  refine gE z61 (c_big_signed (by omega) hr22.m) O O O O fun z66 hz66=>?_
  refine gS O O O (fl_st2 rfl rfl P3 (lN (gS O O O (fl_st2 rfl rfl P2 (lN (G0 2 O (xT (rQ (.inl rfl) (rc2 rfl Y3 (rc2 rfl Y2 (rt rfl rn))) ?_))))))))
  have he:=fdivZ hc41 hb
  exact ⟨_,_,rfl,iv_fin he.1 rfl (hq22.mono (zd_mono zI)),iv_fin he.2 rfl (hr22.mono (zd_mono zI))⟩
 refine R3 128 O (fx_drwS (G1 4 O (gl1 O O (.inr Y1) O (G1 4 O (gl1 O O Ht O (gP rfl rfl trivial ?_))))))
 refine fl_binB rfl rfl (b_neqB _ _) (lN ?_)
 refine G1 3 O ?_
 refine gE z22 (c_big_signed (by omega) (hq22.mono zd_le)) O O O O fun z61 hz61=>?_
 refine G1 4 O (gl1 O O Ht O (G1 3 O ?_))
 refine gE z61 (c_big_signed (by omega) hr22.m) O O O O fun z66 hz66=>?_
 refine gS O O O (fl_st2 rfl rfl P3 (lN (gS O O O (fl_st2 rfl rfl P2 (lN (G0 2 O (xT (rQ (.inl rfl) (rc2 rfl Y3 (rc2 rfl Y2 (rt rfl rn))) ?_))))))))
 have he:=fdivS hg37 hb
 exact ⟨_,_,rfl,iv_fin he.1 rfl (hq22.mono (zd_mono zI)),iv_fin he.2 rfl (hr22.mono (zd_mono zI))⟩
theorem c_big_Gcd {k:Nat} (hk:7≤k) {z:Mem} {n1:Bool} {c1:C} {l1:List UInt32} (hx:CZ 1 RW z c1 l1) {n2:Bool} {c2:C} {l2:List UInt32} (hy:CZ 1 RW z c2 l2) (h1:l1.length≤20000000) (h2:l2.length≤20000000):FC (E k) 237 [.agg [Cb n1,c1],.agg [Cb n2,c2]] z fun v z'=>IV (zd z z') v (Int.gcd (valI (n1,l1)) (valI (n2,l2))):=by
 refine fc_of (tS_get237) (by omega) (len1 rfl) fun B j hj=>?_
 refine xR ?_
 refine fl_bx rfl fun b2=>?_
 refine fl_bx rfl fun b3=>?_
 refine fl_al2 fun b4=>?_
 refine lN (fx_drwS (gl2 O O (.inr Y2) O ?_))
 refine gC z (c_big_of (by omega) hx) O O O O fun v6 z6 hz6 hv6=>?_
 obtain ⟨c6,rfl,hq6⟩:=hv6
 have h6:=hq6 _ (hx.mono (zJ z6))
 refine gP rfl rfl trivial ?_
 refine fl_fld2 rfl rfl (lN ?_)
 refine gP rfl rfl trivial ?_
 refine fl_fld1 rfl rfl (lN ?_)
 refine gl2 O O (.inr Y1) O ?_
 refine gC z6 (c_big_of (by omega) hy.m) O O O O fun v10 z10 hz10 hv10=>?_
 obtain ⟨c10,rfl,hq10⟩:=hv10
 have h10:=hq10 _ (hy.mono (zJ z10))
 refine gP rfl rfl trivial ?_
 refine fl_fld2 rfl rfl (lN ?_)
 refine gP rfl rfl trivial ?_
 refine fl_fld1 rfl rfl (lN ?_)
 refine fg_own (k:=.cells 31 [c6,c10]) (w:=fun b=>Aw b 2) rfl trivial rfl (fun _=>rfl) (fun st hst=>?_) (fun b13 hT13=>?_)
 ·simp only [stepE,fillS,AS.ev,hst 8 (by simp [Ins.sl,Od.sls,Od.sl]),hst 12 (by simp [Ins.sl,Od.sls,Od.sl])];rfl
 refine fg_frzZ z10 (p:=[]) rfl rfl rfl (fun _ h=>h) fun zfg13 hzfg13 g13=>?_
 have hrow:=rlsC h6.m h10.m g13
 refine gC zfg13 (c_nat_Gcd (by omega) hrow (by intro l hl;rcases List.mem_cons.1 hl with rfl | hl;exact (by have:=lenI (n:=n1) (l:=l1);omega);rcases List.mem_cons.1 hl with rfl | hl;exact (by have:=lenI (n:=n2) (l:=l2);omega);cases hl)) O O O O fun v14 z14 _ hr14=>?_
 rw [gcdL2,val_toL,val_toL] at hr14
 obtain ⟨c14,rfl,_⟩:=hr14.one
 have hr14:=hr14.mono (zAq (hz6.trans (hz10.trans hzfg13)))
 refine gE z14 (c_big_signed (by omega) (hr14.mono zd_le)) O O O O fun z15 _=>?_
 refine gS O O O (fl_st2 rfl rfl rep0 (lN (fg_nil (xT (rQ (.inl rfl) (rc2 rfl mem0 rn) ?_)))))
 rw [show sgn false (Nat.gcd (valI (n1,l1)).natAbs (valI (n2,l2)).natAbs)=((Int.gcd (valI (n1,l1)) (valI (n2,l2)):Nat):Int) from rfl]
 exact ⟨_,rfl,(hr14.mono (zd_mono zI))⟩
open Go.CE Go.RowKit Go.Num
open Go.Eng (setL)
theorem lenG {a b:Int} {k:Nat} (h1:(toL a.natAbs).length≤k) (h2:(toL b.natAbs).length≤k):(toL ((Int.gcd a b:Nat):Int).natAbs).length≤k:=by
  rw [Int.natAbs_natCast]
  rcases Nat.eq_zero_or_pos b.natAbs with h | h
  · have e : Int.gcd a b = a.natAbs := by unfold Int.gcd; rw [h, Nat.gcd_zero_right]
    rw [e];exact h1
  · exact Nat.le_trans (len_le (Nat.gcd_le_right _ h)) h2
theorem lenOne:(toL (1:Int).natAbs).length≤20000000:=Nat.le_trans (m:=1) (toL_len.2 (by decide)) (by decide)
theorem rR_a {x y:RawI} (h:rightI x=false):false=rightR (x,y):=by simp [rightR,h]
theorem rR_b {x y:RawI} (h:rightI y=false):false=rightR (x,y):=by simp [rightR,h]
theorem sign_pos' {a:Int}:0<a.sign↔0<a:=by
 rcases Int.lt_trichotomy a 0 with h | h | h
 ·rw [Int.sign_eq_neg_one_of_neg h];omega
 ·rw [h];decide
 rw [Int.sign_eq_one_of_pos h];omega
theorem sign_neg' {a:Int}:a.sign<0↔a<0:=by
 rcases Int.lt_trichotomy a 0 with h | h | h
 ·rw [Int.sign_eq_neg_one_of_neg h];omega
 ·rw [h];decide
 rw [Int.sign_eq_one_of_pos h];omega
theorem sign_neg {a:Int} (h:a.sign<0):a<0:=sign_neg'.1 h
theorem sign_nneg {a:Int} (h:¬ a.sign<0):¬ a<0:=fun k=>h (sign_neg'.2 k)
theorem rR_c {x y:RawI} (h:¬ 0<(valI y).sign):false=rightR (x,y):=by
 have:¬ 0<valI y:=fun k=>h (sign_pos'.2 k)
 simp [rightR,this]
theorem rR_d {x y:RawI} (h1:rightI x=true) (h2:rightI y=true) (h3:0<(valI y).sign):decide ((((Int.gcd (valI x) (valI y):Nat):Int) - 1).sign=0)=rightR (x,y):=by
 have h4:=sign_pos'.1 h3
 have e:((((Int.gcd (valI x) (valI y):Nat):Int) - 1).sign=0)↔Int.gcd (valI x) (valI y)=1:=by
  rw [Int.sign_eq_zero_iff_zero];omega
 simp [rightR,h1,h2,h4,e]
theorem qv_fin {z:Mem} {c d:C} {x y:Int} {q:Rat} (e1:x=q.num) (e2:y=(q.den:Int)) (h1:CZ 1 RW z c (toL x.natAbs)) (h2:CZ 1 RW z d (toL y.natAbs)):QV z (.agg [Cb (decide (x<0)),c,Cb (decide (y<0)),d]) q:=by
 subst e1
 subst e2
 exact ⟨c,d,rfl,h1,h2⟩
theorem qv_zero {z:Mem} {c:C} {x:RawR} (hr:rightR x=false) (h:CZ 1 RW z c (toL (1:Int).natAbs)):QV z (.agg [Cb false,Cz,Cb (decide ((1:Int)<0)),c]) (valR x):=by
 have e:valR x=0:=by simp [Num.valR,hr]
 rw [e]
 exact qv_fin (x:=0) (y:=1) rfl rfl (by rw [show toL (0:Int).natAbs=[] from toL_zero];exact .nil) h
theorem qv_right {z:Mem} {n1 n2:Bool} {c1 c2:C} {l1 l2:List UInt32} (hr:rightR ((n1,l1),(n2,l2))=true) (hx:CZ 1 RW z c1 l1) (hy:CZ 1 RW z c2 l2):QV z (.agg [Cb n1,c1,Cb n2,c2]) (valR ((n1,l1),(n2,l2))):=by
 obtain ⟨e1,e2⟩:=num_of_right hr
 obtain ⟨r1,r2,_⟩:=rightR_parts hr
 obtain ⟨a1,a2⟩:=of_ok (n:=n1) (l:=l1) r1
 obtain ⟨b1,b2⟩:=of_ok (n:=n2) (l:=l2) r2
 have hq:=qv_fin (c:=c1) (d:=c2) e1.symm e2.symm (by rw [← a2];exact hx) (by rw [← b2];exact hy)
 rwa [← a1,← b1] at hq
theorem red_q {a b g:Int} (hb:b≠0) (hg:g=if b<0 then -((Int.gcd a b:Nat):Int) else ((Int.gcd a b:Nat):Int)):a.fdiv g=(Rat.divInt a b).num∧b.fdiv g=((Rat.divInt a b).den:Int):=by
 have h:=reduced_ok hb hg
 have d1:g ∣ a:=by rw [hg];split;exact Int.neg_dvd.2 (Int.gcd_dvd_left a b);exact Int.gcd_dvd_left a b
 have d2:g ∣ b:=by rw [hg];split;exact Int.neg_dvd.2 (Int.gcd_dvd_right a b);exact Int.gcd_dvd_right a b
 rw [Int.fdiv_eq_ediv_of_dvd d1,Int.fdiv_eq_ediv_of_dvd d2]
 exact ⟨congrArg Prod.fst h,congrArg Prod.snd h⟩
theorem c_rat_one {k:Nat} (hk:4≤k) {z:Mem}  : FC (E k) 84 [] z fun v z'=>IV (zd z z') v 1:=by
 refine fc_of (tS_get84) (by omega) (len1 rfl) fun B j hj=>?_
 refine xR ?_
 refine fl_al2 fun b0=>?_
 refine lN (xR ?_)
 refine lZ z (c_big_Of (n:=1) (by omega) (by decide) (by decide)) rfl rfl fun v1 z1 _ hv1=>?_
 obtain ⟨c1,rfl,h1⟩:=hv1
 refine fl_st2 rfl rfl rep0 (lN (xT (rQ (.inl rfl) (rc2 rfl mem0 rn) ?_)))
 exact ⟨_,rfl,h1⟩
theorem c_rat_Right {k:Nat} (hk:8≤k) {z:Mem} {n1 n2:Bool} {c1 c2:C} {l1 l2:List UInt32} (hx:CZ 1 RW z c1 l1) (hy:CZ 1 RW z c2 l2) (h1:l1.length≤20000000) (h2:l2.length≤20000000):FC (E k) 153 [.agg [Cb n1,c1,Cb n2,c2]] z fun v _=>v=Ab (rightR ((n1,l1),(n2,l2))):=by
 have hla:=lenI (n:=n1) (l:=l1)
 have hlb:=lenI (n:=n2) (l:=l2)
 have hlg:=lenG (Nat.le_trans hla h1) (Nat.le_trans hlb h2)
 refine fc_of (tS_get153) (by omega) (len1 rfl) fun B j hj=>?_
 refine xR ?_
 refine fl_bx rfl fun b1=>?_
 refine R2 8 O (fl_ld2 rfl mem0 rfl ?_)
 refine lE z (c_big_Right (by omega) hx) O O fun z5 hz5=>?_
 refine lM rfl ?_
 refine fl_splitB 6 rfl (fun hg6=>?_) (fun hg6=>?_)
 ·refine lD rfl (lF rfl (lD rfl (fl_ld2 rfl mem0 rfl (lD rfl ?_))))
  refine lE z5 (c_big_Right (by omega) hy.m) O O fun z9 hz9=>?_
  refine R1 6 O ?_
  refine fl_splitB 11 rfl (fun hg11=>?_) (fun hg11=>?_)
  ·refine lD rfl (lF rfl (lD rfl (fl_ld2 rfl mem0 rfl (lD rfl ?_))))
   refine lE z9 (c_big_Sign (by omega) hy.m) O O fun z14 hz14=>?_
   refine R1 12 O ?_
   refine fl_splitD 17 rfl (fun hg17=>?_) (fun hg17=>?_)
   ·refine lD rfl (lF rfl (lD rfl (fl_ld2 rfl mem0 rfl (lD rfl (lF rfl (lD rfl (fl_ld2 rfl mem0 rfl (lD rfl ?_))))))))
    refine lZ z14 (c_big_Gcd (by omega) hx.m hy.m h1 h2) rfl rfl fun v22 z22 hz22 hv22=>?_
    obtain ⟨c22,rfl,h22⟩:=hv22
    have h22:=h22.mono (zAq (hz5.trans (hz9.trans hz14)))
    refine lD rfl ?_
    refine lZ z22 (c_rat_one (by omega)) rfl rfl fun v23 z23 _ hv23=>?_
    obtain ⟨c23,rfl,h23⟩:=hv23
    have h23:=h23.mono (zAq (hz5.trans (hz9.trans (hz14.trans hz22))))
    refine lD rfl ?_
    refine lZ z23 (c_big_Cmp (by omega) h22.m (h23.mono zd_le) hlg lenOne) rfl rfl fun v24 z24 _ hv24=>?_
    rw [valI_c,valI_c] at hv24
    subst hv24
    refine R0 12 O (xT ?_)
    exact rI O (cQ (rR_d hg6 hg11 hg17))
   refine R0 1536 O (xT ?_)
   exact rI O (cQ (rR_c hg17))
  refine R0 98336 O (xT ?_)
  exact rI O (cQ (rR_b hg11))
 refine R0 3146768 O (xT ?_)
 exact rI O (cQ (rR_a hg6))
theorem c_rat_right {k:Nat} (hk:9≤k) {z:Mem} {n1 n2:Bool} {c1 c2:C} {l1 l2:List UInt32} (hx:CZ 1 RW z c1 l1) (hy:CZ 1 RW z c2 l2) (h1:l1.length≤20000000) (h2:l2.length≤20000000):FC (E k) 86 [.agg [Cb n1,c1,Cb n2,c2]] z fun v z'=>∀ zz,CZ 1 RW zz c1 l1→CZ 1 RW zz c2 l2→zle (zd z z') zz→QV zz v (valR ((n1,l1),(n2,l2))):=by
 refine fc_of (tS_get86) (by omega) (len1 rfl) fun B j hj=>?_
 refine xR ?_
 refine fl_bx rfl fun b1=>?_
 refine fl_al4 fun b2=>?_
 refine lN (R4 4 O (fl_ld4 rfl Y1 rfl ?_))
 refine lE z (c_rat_Right (by omega) hx hy h1 h2) O O fun z4 hz4=>?_
 refine R3 4 O ?_
 refine fx_condB rfl (fun hc5=>?_) (fun hc5=>?_)
 ·refine R4 4 O (fl_bd (cs:=[_,_]) rfl ?_)
  refine lZ z4 (c_rat_one (by omega)) rfl rfl fun v7 z7 _ hv7=>?_
  obtain ⟨c7,rfl,h7⟩:=hv7
  have h7:=h7.mono (zAq (hz4))
  refine fl_bd (cs:=[_,_,_,_]) rfl (fl_st4 rfl rfl rep0 (lN (fx_rseq (rQ (.inl rfl) (rc4 rfl mem0 rn) ?_))))
  exact fun zz _ _ hz=>qv_zero (by simpa using hc5) ((h7).mono hz)
 refine R4 4 O (fl_ld4 rfl Y1 rfl (fl_st4 rfl rfl rep0 (lN (xT (rQ (.inl rfl) (rc4 rfl mem0 rn) ?_)))))
 exact fun zz hx hy _=>qv_right (by simpa using hc5) hx hy
theorem c_rat_reduced {k:Nat} (hk:8≤k) {z:Mem} {a b:Int} {c1 c2:C} (hx:CZ 1 RW z c1 (toL a.natAbs)) (hy:CZ 1 RW z c2 (toL b.natAbs)) (h1:(toL a.natAbs).length≤20000000) (h2:(toL b.natAbs).length≤20000000) (hb:b≠0):FC (E k) 165 [.agg [Cb (decide (a<0)),c1],.agg [Cb (decide (b<0)),c2]] z fun v z'=>QV (zd z z') v (Rat.divInt a b):=by
 have hlg:=lenG h1 h2
 have hgn:((Int.gcd a b:Nat):Int)≠0:=by have:=Int.gcd_pos_of_ne_zero_right a hb;omega
 refine fc_of (tS_get165) (by omega) (len1 rfl) fun B j hj=>?_
 refine xR ?_
 refine fl_bx rfl fun b2=>?_
 refine fl_bx rfl fun b3=>?_
 refine fl_al4 fun b4=>?_
 refine lN (xR (fl_ld2 rfl Y2 rfl (fl_ld2 rfl Y1 rfl ?_)))
 refine lZ z (c_big_Gcd (by omega) hx hy h1 h2) rfl rfl fun v14 z14 hz14 hv14=>?_
 rw [valI_c,valI_c] at hv14
 obtain ⟨c14,rfl,h14⟩:=hv14
 refine fl_al2 fun b5=>?_
 refine fl_st2 rfl rfl rep0 (lN (R4 4 O (fl_ld2 rfl Y2 rfl ?_)))
 refine lZ z14 (c_big_Sign (by omega) hy.m) rfl rfl fun v16 z16 hz16 hv16=>?_
 rw [valI_c] at hv16
 subst hv16
 refine R3 4 O ?_
 refine xD rfl (fun hc17=>?_) (fun hc17=>?_)
 ·refine xR (fl_ld2 rfl mem0 rfl ?_)
  refine lZ z16 (c_big_Neg (by omega) h14.m hlg) rfl rfl fun v19 z19 hz19 hv19=>?_
  rw [valI_c] at hv19
  obtain ⟨c19,rfl,h19⟩:=hv19
  have h19:=h19.mono (zAq (hz14.trans hz16))
  refine fl_st2 rfl rfl rep0 (lN (xR (fl_ld2 rfl Y3 rfl (fl_ld2 rfl mem0 rfl ?_))))
  refine lZ z19 (c_big_DivMod (by omega) hx.m (h19.mono zd_le) h1 (by first | exact hlg | (rw [Int.natAbs_neg];exact hlg)) (by rw [valI_c];omega)) rfl rfl fun v23 z23 hz23 hv23=>?_
  rw [valI_c,valI_c] at hv23
  obtain ⟨v1,v2,hv,hp23,hr23⟩:=hv23
  subst hv
  obtain ⟨c23,hv,h23⟩:=hp23
  subst hv
  obtain ⟨d23,hv,_⟩:=hr23
  subst hv
  have h23:=h23.mono (zAq (hz14.trans (hz16.trans hz19)))
  refine R1 17 O ?_
  refine fl_al2 fun b6=>?_
  refine fl_al2 fun b7=>?_
  refine fl_st2 rfl rfl P1 (fl_st2 rfl rfl rep0 (R2 5 O (fl_ld2 rfl Y4 rfl (fl_ld2 rfl Y2 rfl ?_))))
  refine lZ z23 (c_big_DivMod (by omega) hy.m h19.m h2 (by first | exact hlg | (rw [Int.natAbs_neg];exact hlg)) (by rw [valI_c];omega)) rfl rfl fun v30 z30 hz30 hv30=>?_
  rw [valI_c,valI_c] at hv30
  obtain ⟨v1,v2,hv,hp30,hr30⟩:=hv30
  subst hv
  obtain ⟨c30,hv,h30⟩:=hp30
  subst hv
  obtain ⟨d30,hv,_⟩:=hr30
  subst hv
  have h30:=h30.mono (zAq (hz14.trans (hz16.trans (hz19.trans hz23))))
  refine R1 17 O ?_
  refine fl_al2 fun b9=>?_
  refine fl_al2 fun b10=>?_
  refine fl_st2 rfl rfl P1 (fl_st2 rfl rfl rep0 (R2 5 O (fl_ld2 rfl Y3 rfl (fl_ld2 rfl Y1 rfl (fl_bd (cs:=[_,_,_,_]) rfl (fl_st4 rfl rfl (repS (repS P3)) (lN (xT (rQ (.inl rfl) (rc4 rfl (memS Y4) rn) ?_)))))))))
  have he:=red_q (a:=a) hb (if_pos (sign_neg hc17)).symm
  exact qv_fin he.1 he.2 (h23.mono (zd_mono zI)) h30
 refine R4 4 O (fl_ld2 rfl Y3 rfl (fl_ld2 rfl mem0 rfl ?_))
 refine lZ z16 (c_big_DivMod (by omega) hx.m h14.m h1 (by first | exact hlg | (rw [Int.natAbs_neg];exact hlg)) (by rw [valI_c];omega)) rfl rfl fun v23 z23 hz23 hv23=>?_
 rw [valI_c,valI_c] at hv23
 obtain ⟨v1,v2,hv,hp23,hr23⟩:=hv23
 subst hv
 obtain ⟨c23,hv,h23⟩:=hp23
 subst hv
 obtain ⟨d23,hv,_⟩:=hr23
 subst hv
 have h23:=h23.mono (zAq (hz14.trans hz16))
 refine R1 17 O ?_
 refine fl_al2 fun b6=>?_
 refine fl_al2 fun b7=>?_
 refine fl_st2 rfl rfl P1 (fl_st2 rfl rfl rep0 (R2 5 O (fl_ld2 rfl Y4 rfl (fl_ld2 rfl Y2 rfl ?_))))
 refine lZ z23 (c_big_DivMod (by omega) hy.m h14.m h2 (by first | exact hlg | (rw [Int.natAbs_neg];exact hlg)) (by rw [valI_c];omega)) rfl rfl fun v30 z30 hz30 hv30=>?_
 rw [valI_c,valI_c] at hv30
 obtain ⟨v1,v2,hv,hp30,hr30⟩:=hv30
 subst hv
 obtain ⟨c30,hv,h30⟩:=hp30
 subst hv
 obtain ⟨d30,hv,_⟩:=hr30
 subst hv
 have h30:=h30.mono (zAq (hz14.trans (hz16.trans hz23)))
 refine R1 17 O ?_
 refine fl_al2 fun b9=>?_
 refine fl_al2 fun b10=>?_
 refine fl_st2 rfl rfl P1 (fl_st2 rfl rfl rep0 (R2 5 O (fl_ld2 rfl Y3 rfl (fl_ld2 rfl Y1 rfl (fl_bd (cs:=[_,_,_,_]) rfl (fl_st4 rfl rfl (repS (repS P3)) (lN (xT (rQ (.inl rfl) (rc4 rfl (memS Y4) rn) ?_)))))))))
 have he:=red_q (a:=a) hb (if_neg (sign_nneg hc17)).symm
 exact qv_fin he.1 he.2 (h23.mono (zd_mono zI)) h30
theorem c_rat_Whole {k:Nat} (hk:5≤k) {z:Mem} {n:Int} (h1 : -9223372036854775808≤n) (h2:n<9223372036854775808):FC (E k) 34 [Ai n] z fun v z'=>QV (zd z z') v (n:Rat):=by
 refine fc_of (tS_get34) (by omega) (len1 rfl) fun B j hj=>?_
 refine xR ?_
 refine fl_al4 fun b2=>?_
 refine lN (R4 4 O ?_)
 refine lZ z (c_big_Of (by omega) h1 h2) rfl rfl fun v4 z4 hz4 hv4=>?_
 obtain ⟨c4,rfl,h4⟩:=hv4
 refine lZ z4 (c_rat_one (by omega)) rfl rfl fun v5 z5 _ hv5=>?_
 obtain ⟨c5,rfl,h5⟩:=hv5
 have h5:=h5.mono (zAq (hz4))
 refine fl_bd (cs:=[_,_,_,_]) rfl (fl_st4 rfl rfl rep0 (lN (xT (rQ (.inl rfl) (rc4 rfl mem0 rn) ?_))))
 exact qv_fin (Rat.num_intCast n).symm rfl (h4.mono (zd_mono zI)) h5
open Go.CE Go.RowKit Go.Num
open Go.Eng (setL)
theorem qv_op {z:Mem} {v:AV} {q:Rat} (h:QV z v q):∃ c d,v=.agg [Cb (decide (q.num<0)),c,Cb (decide ((q.den:Int)<0)),d]∧CZ 1 RW z c (toL q.num.natAbs)∧CZ 1 RW z d (toL (q.den:Int).natAbs):=h
theorem lenMul {a b:Int} {k j:Nat} (h1:(toL a.natAbs).length≤k) (h2:(toL b.natAbs).length≤j):(toL (a * b).natAbs).length≤k+j:=by
 refine toL_len.2 ?_
 rw [Int.natAbs_mul,Nat.pow_add]
 exact Nat.mul_lt_mul'' (toL_len.1 h1) (toL_len.1 h2)
theorem lenAdd {a b:Int} {k:Nat} (h1:(toL a.natAbs).length≤k) (h2:(toL b.natAbs).length≤k):(toL (a+b).natAbs).length≤k+1:=by
 refine toL_len.2 ?_
 have h3:=toL_len.1 h1
 have h4:=toL_len.1 h2
 have h7:Num.W ^ k * 2≤Num.W ^ k * Num.W:=Nat.mul_le_mul_left _ (by decide)
 rw [Nat.pow_succ]
 generalize Num.W ^ k * Num.W=X at *
 generalize Num.W ^ k=Y at *
 omega
theorem lenN {x:RawR}:(toL (Num.valR x).num.natAbs).length≤x.1.2.length:=by
 cases h:rightR x with
 | true=>rw [(num_of_right h).1];exact lenI
 | false=>rw [show Num.valR x=0 by simp [Num.valR,h]];rw [show toL (0:Rat).num.natAbs=[] from toL_zero];simp
theorem lenD {x:RawR}:(toL ((Num.valR x).den:Int).natAbs).length≤x.2.2.length+1:=by
 cases h:rightR x with
 | true=>rw [(num_of_right h).2];exact Nat.le_succ_of_le lenI
 | false =>
  rw [show Num.valR x=0 by simp [Num.valR,h]]
  exact Nat.le_trans (m:=1) (toL_len.2 (by decide)) (by omega)
theorem den1 (p:Rat):(p.den:Int)≠0:=by have:=p.den_nz;omega
theorem denR (p q:Rat):(p.den:Int) * (q.den:Int)≠0:=Int.mul_ne_zero (den1 p) (den1 q)
theorem mulR {p q:Rat}:Rat.divInt (p.num * q.num) ((p.den:Int) * (q.den:Int))=p * q:=by
 rw [← Rat.divInt_mul_divInt,Rat.num_divInt_den,Rat.num_divInt_den]
theorem addB {p q:Rat}:Rat.divInt (p.num * (q.den:Int)+q.num * (p.den:Int)) ((p.den:Int) * (q.den:Int))=p+q:=by
 rw [← Rat.divInt_add_divInt _ _ (den1 p) (den1 q),Rat.num_divInt_den,Rat.num_divInt_den]
theorem addA {p q:Rat} (h:((p.den:Int) - (q.den:Int)).sign=0):Rat.divInt (p.num+q.num) (p.den:Int)=p+q:=by
 have e:(q.den:Int)=(p.den:Int):=by rw [Int.sign_eq_zero_iff_zero] at h;omega
 rw [← addB,e,← Int.add_mul,Rat.divInt_mul_right (den1 p)]
theorem c_rat_Cmp {k:Nat} (hk:10≤k) {z:Mem} {n1 n2:Bool} {c1 c2:C} {l1 l2:List UInt32} (hx:CZ 1 RW z c1 l1) (hy:CZ 1 RW z c2 l2) (h1:l1.length≤9000000) (h2:l2.length≤9000000) {n3 n4:Bool} {c3 c4:C} {l3 l4:List UInt32} (hu:CZ 1 RW z c3 l3) (hw:CZ 1 RW z c4 l4) (h3:l3.length≤9000000) (h4:l4.length≤9000000):FC (E k) 38 [.agg [Cb n1,c1,Cb n2,c2],.agg [Cb n3,c3,Cb n4,c4]] z fun v _=>v=.c (.v (.int .i64 ((valR ((n1,l1),(n2,l2))).num * ((valR ((n3,l3),(n4,l4))).den:Int) - (valR ((n3,l3),(n4,l4))).num * ((valR ((n1,l1),(n2,l2))).den:Int)).sign)):=by
 have em1:=Nat.le_trans (lenN (x:=((n1,l1),(n2,l2)))) h1
 have en1:=Nat.le_trans (lenD (x:=((n1,l1),(n2,l2)))) (Nat.succ_le_succ h2)
 have em2:=Nat.le_trans (lenN (x:=((n3,l3),(n4,l4)))) h3
 have en2:=Nat.le_trans (lenD (x:=((n3,l3),(n4,l4)))) (Nat.succ_le_succ h4)
 have om1:=Nat.le_trans em1 (show 9000000≤20000000 by decide)
 have om2:=Nat.le_trans em2 (show 9000000≤20000000 by decide)
 have on1:=Nat.le_trans en1 (show 9000000+1≤20000000 by decide)
 have on2:=Nat.le_trans en2 (show 9000000+1≤20000000 by decide)
 have p1:=lenMul em1 en2
 have p2:=lenMul em2 en1
 have p1:=Nat.le_trans p1 (show 9000000+(9000000+1)≤20000000 by decide)
 have p2:=Nat.le_trans p2 (show 9000000+(9000000+1)≤20000000 by decide)
 refine fc_of (tS_get38) (by omega) (len1 rfl) fun B j hj=>?_
 refine xR ?_
 refine fl_bx rfl fun b2=>?_
 refine fl_bx rfl fun b3=>?_
 refine R0 2 O (fx_drwS (gl4 O O (.inr Y1) O ?_))
 refine gC z (c_rat_right (by omega) hx hy (Nat.le_trans h1 (show 9000000≤20000000 by decide)) (Nat.le_trans h2 (show 9000000≤20000000 by decide))) O O O O fun v6 z6 hz6 hv6=>?_
 have hw6:=qv_op (hv6 _ hx.m hy.m zd_le)
 obtain ⟨c6,d6,hv,hm6,hn6⟩:=hw6
 subst hv
 refine gl4 O O Ht O ?_
 refine gC z6 (c_rat_right (by omega) hu.m hw.m (Nat.le_trans h3 (show 9000000≤20000000 by decide)) (Nat.le_trans h4 (show 9000000≤20000000 by decide))) O O O O fun v8 z8 hz8 hv8=>?_
 have hw8:=qv_op (hv8 _ hu.m hw.m zd_le)
 obtain ⟨c8,d8,hv,hm8,hn8⟩:=hw8
 subst hv
 refine gS O O O (fl_st4 rfl rfl P1 (lN (gS O O O (fl_st4 rfl rfl rep0 (lN (fg_nil (fx_drwS (G1 2 O (gl2 O O (.inr Y1) O (G1 2 O (gl2 O O Ht O ?_)))))))))))
 refine gC z8 (c_big_Mul (by omega) hm6.m hn8 om1 on2) O O O O fun v13 z13 hz13 hv13=>?_
 rw [valI_c,valI_c] at hv13
 obtain ⟨c13,hv,h13⟩:=hv13
 subst hv
 have h13:=h13.mono (zAq (hz6.trans hz8))
 refine G1 2 O (gl2 O O Ht O (G1 2 O (gl2 O O (.inr Y1) O ?_)))
 refine gC z13 (c_big_Mul (by omega) hm8.m hn6.m om2 on1) O O O O fun v18 z18 _ hv18=>?_
 rw [valI_c,valI_c] at hv18
 obtain ⟨c18,hv,h18⟩:=hv18
 subst hv
 have h18:=h18.mono (zAq (hz6.trans (hz8.trans hz13)))
 refine gC z18 (c_big_Cmp (by omega) h13.m (h18.mono zd_le) p1 p2) O O O O fun v19 z19 _ hv19=>?_
 rw [valI_c,valI_c] at hv19
 subst hv19
 refine G0 3 O (xT (rI O ?_))
 rfl
theorem c_rat_Mul {k:Nat} (hk:10≤k) {z:Mem} {n1 n2:Bool} {c1 c2:C} {l1 l2:List UInt32} (hx:CZ 1 RW z c1 l1) (hy:CZ 1 RW z c2 l2) (h1:l1.length≤9000000) (h2:l2.length≤9000000) {n3 n4:Bool} {c3 c4:C} {l3 l4:List UInt32} (hu:CZ 1 RW z c3 l3) (hw:CZ 1 RW z c4 l4) (h3:l3.length≤9000000) (h4:l4.length≤9000000):FC (E k) 160 [.agg [Cb n1,c1,Cb n2,c2],.agg [Cb n3,c3,Cb n4,c4]] z fun v z'=>QV (zd z z') v ((valR ((n1,l1),(n2,l2))) * (valR ((n3,l3),(n4,l4)))):=by
 have em1:=Nat.le_trans (lenN (x:=((n1,l1),(n2,l2)))) h1
 have en1:=Nat.le_trans (lenD (x:=((n1,l1),(n2,l2)))) (Nat.succ_le_succ h2)
 have em2:=Nat.le_trans (lenN (x:=((n3,l3),(n4,l4)))) h3
 have en2:=Nat.le_trans (lenD (x:=((n3,l3),(n4,l4)))) (Nat.succ_le_succ h4)
 have om1:=Nat.le_trans em1 (show 9000000≤20000000 by decide)
 have om2:=Nat.le_trans em2 (show 9000000≤20000000 by decide)
 have on1:=Nat.le_trans en1 (show 9000000+1≤20000000 by decide)
 have on2:=Nat.le_trans en2 (show 9000000+1≤20000000 by decide)
 have p1:=lenMul em1 em2
 have p2:=lenMul en1 en2
 have p1:=Nat.le_trans p1 (show 9000000+9000000≤20000000 by decide)
 have p2:=Nat.le_trans p2 (show 9000000+1+(9000000+1)≤20000000 by decide)
 have d0:=denR (valR ((n1,l1),(n2,l2))) (valR ((n3,l3),(n4,l4)))
 refine fc_of (tS_get160) (by omega) (len1 rfl) fun B j hj=>?_
 refine xR ?_
 refine fl_bx rfl fun b2=>?_
 refine fl_bx rfl fun b3=>?_
 refine fl_al4 fun b4=>?_
 refine lN (fx_drwS (gl4 O O (.inr Y2) O ?_))
 refine gC z (c_rat_right (by omega) hx hy (Nat.le_trans h1 (show 9000000≤20000000 by decide)) (Nat.le_trans h2 (show 9000000≤20000000 by decide))) O O O O fun v6 z6 hz6 hv6=>?_
 have hw6:=qv_op (hv6 _ hx.m hy.m zd_le)
 obtain ⟨c6,d6,hv,hm6,hn6⟩:=hw6
 subst hv
 refine gl4 O O (.inr Y1) O ?_
 refine gC z6 (c_rat_right (by omega) hu.m hw.m (Nat.le_trans h3 (show 9000000≤20000000 by decide)) (Nat.le_trans h4 (show 9000000≤20000000 by decide))) O O O O fun v8 z8 hz8 hv8=>?_
 have hw8:=qv_op (hv8 _ hu.m hw.m zd_le)
 obtain ⟨c8,d8,hv,hm8,hn8⟩:=hw8
 subst hv
 refine gS O O O (fl_st4 rfl rfl P2 (lN (gS O O O (fl_st4 rfl rfl P1 (lN (fg_nil (fx_drwS (G1 2 O (gl2 O O (.inr Y2) O (G1 2 O (gl2 O O (.inr Y1) O ?_)))))))))))
 refine gC z8 (c_big_Mul (by omega) hm6.m hm8 om1 om2) O O O O fun v13 z13 hz13 hv13=>?_
 rw [valI_c,valI_c] at hv13
 obtain ⟨c13,hv,h13⟩:=hv13
 subst hv
 have h13:=h13.mono (zAq (hz6.trans hz8))
 refine G1 2 O (gl2 O O (.inr Y2) O (G1 2 O (gl2 O O (.inr Y1) O ?_)))
 refine gC z13 (c_big_Mul (by omega) hn6.m hn8.m on1 on2) O O O O fun v18 z18 hz18 hv18=>?_
 rw [valI_c,valI_c] at hv18
 obtain ⟨c18,hv,h18⟩:=hv18
 subst hv
 have h18:=h18.mono (zAq (hz6.trans (hz8.trans hz13)))
 refine gC z18 (c_rat_reduced (by omega) h13.m (h18.mono zd_le) p1 p2 d0) O O O O fun v19 z19 _ hv19=>?_
 rw [mulR] at hv19
 obtain ⟨c19,d19,hv,hm19,hn19⟩:=hv19
 subst hv
 have hm19:=hm19.mono (zAq (hz6.trans (hz8.trans (hz13.trans hz18))))
 have hn19:=hn19.mono (zAq (hz6.trans (hz8.trans (hz13.trans hz18))))
 refine gS O O O (fl_st4 rfl rfl rep0 (lN (fg_nil (xT (rQ (.inl rfl) (rc4 rfl mem0 rn) ?_)))))
 exact ⟨_,_,rfl,hm19,hn19⟩
theorem c_rat_Neg {k:Nat} (hk:10≤k) {z:Mem} {n1 n2:Bool} {c1 c2:C} {l1 l2:List UInt32} (hx:CZ 1 RW z c1 l1) (hy:CZ 1 RW z c2 l2) (h1:l1.length≤9000000) (h2:l2.length≤9000000):FC (E k) 87 [.agg [Cb n1,c1,Cb n2,c2]] z fun v z'=>QV (zd z z') v (-(valR ((n1,l1),(n2,l2)))):=by
 have em1:=Nat.le_trans (lenN (x:=((n1,l1),(n2,l2)))) h1
 have en1:=Nat.le_trans (lenD (x:=((n1,l1),(n2,l2)))) (Nat.succ_le_succ h2)
 have om1:=Nat.le_trans em1 (show 9000000≤20000000 by decide)
 have on1:=Nat.le_trans en1 (show 9000000+1≤20000000 by decide)
 refine fc_of (tS_get87) (by omega) (len1 rfl) fun B j hj=>?_
 refine xR ?_
 refine fl_bx rfl fun b1=>?_
 refine fl_al4 fun b2=>?_
 refine lN (xR (fl_ld4 rfl Y1 rfl ?_))
 refine lZ z (c_rat_right (by omega) hx hy (Nat.le_trans h1 (show 9000000≤20000000 by decide)) (Nat.le_trans h2 (show 9000000≤20000000 by decide))) rfl rfl fun v4 z4 hz4 hv4=>?_
 have hw4:=qv_op (hv4 _ hx.m hy.m zd_le)
 obtain ⟨c4,d4,hv,hm4,hn4⟩:=hw4
 subst hv
 refine fl_st4 rfl rfl P1 (lN (fx_drwS (G1 2 O (gl2 O O (.inr Y1) O ?_))))
 refine gC z4 (c_big_Neg (by omega) hm4 om1) O O O O fun v7 z7 hz7 hv7=>?_
 rw [valI_c] at hv7
 obtain ⟨c7,hv,h7⟩:=hv7
 subst hv
 have h7:=h7.mono (zAq (hz4))
 refine G1 2 O (gl2 O O (.inr Y1) O ?_)
 refine gC z7 (c_big_Abs (by omega) hn4.m on1) O O O O fun v10 z10 _ hv10=>?_
 rw [valI_c] at hv10
 obtain ⟨c10,hv,h10⟩:=hv10
 subst hv
 have h10:=h10.mono (zAq (hz4.trans hz7))
 refine gP rfl rfl trivial ?_
 refine fl_bd (cs:=[_,_,_,_]) rfl (lN ?_)
 refine gS O O O (fl_st4 rfl rfl rep0 (lN (fg_nil (xT (rQ (.inl rfl) (rc4 rfl mem0 rn) ?_)))))
 exact qv_fin (Rat.neg_num _).symm (by rw [Rat.neg_den];rfl) (h7.mono (zd_mono zI)) h10
theorem c_rat_add {k:Nat} (hk:9≤k) {z:Mem} {p q:Rat} {c1 c2 c3 c4:C} (hx:CZ 1 RW z c1 (toL p.num.natAbs)) (hy:CZ 1 RW z c2 (toL (p.den:Int).natAbs)) (hu:CZ 1 RW z c3 (toL q.num.natAbs)) (hw:CZ 1 RW z c4 (toL (q.den:Int).natAbs)) (h1:(toL p.num.natAbs).length≤9000001) (h2:(toL (p.den:Int).natAbs).length≤9000001) (h3:(toL q.num.natAbs).length≤9000001) (h4:(toL (q.den:Int).natAbs).length≤9000001):FC (E k) 85 [.agg [Cb (decide (p.num<0)),c1,Cb (decide ((p.den:Int)<0)),c2],.agg [Cb (decide (q.num<0)),c3,Cb (decide ((q.den:Int)<0)),c4]] z fun v z'=>QV (zd z z') v (p+q):=by
 have o1:=Nat.le_trans h1 (show 9000001≤20000000 by decide)
 have o2:=Nat.le_trans h2 (show 9000001≤20000000 by decide)
 have o3:=Nat.le_trans h3 (show 9000001≤20000000 by decide)
 have o4:=Nat.le_trans h4 (show 9000001≤20000000 by decide)
 have m1:=lenMul h1 h4
 have m2:=lenMul h3 h2
 have m3:=Nat.le_trans (lenMul h2 h4) (show 9000001+9000001≤20000000 by decide)
 have m4:=Nat.le_trans (lenAdd m1 m2) (show 9000001+9000001+1≤20000000 by decide)
 have m5:=Nat.le_trans (lenAdd h1 h3) (show 9000001+1≤20000000 by decide)
 have m1:=Nat.le_trans m1 (show 9000001+9000001≤20000000 by decide)
 have m2:=Nat.le_trans m2 (show 9000001+9000001≤20000000 by decide)
 have d0:=denR p q
 have d1:=den1 p
 refine fc_of (tS_get85) (by omega) (len1 rfl) fun B j hj=>?_
 refine xR ?_
 refine fl_bx rfl fun b2=>?_
 refine fl_bx rfl fun b3=>?_
 refine fl_al4 fun b4=>?_
 refine lN (R4 8 O (fl_ld2 rfl Y2 rfl (lF rfl (fl_ld2 rfl Y1 rfl ?_))))
 refine lZ z (c_big_Cmp (by omega) hy hw o2 o4) rfl rfl fun v9 z9 hz9 hv9=>?_
 rw [valI_c,valI_c] at hv9
 subst hv9
 refine R3 4 O ?_
 refine xD rfl (fun hc10=>?_) (fun hc10=>?_)
 ·refine fx_ss (fx_drwS (G1 2 O (gl2 O O (.inr Y2) O (G1 2 O (gl2 O O (.inr Y1) O ?_)))))
  refine gC z9 (c_big_Add (by omega) hx.m hu.m o1 o3) O O O O fun v15 z15 hz15 hv15=>?_
  rw [valI_c,valI_c] at hv15
  obtain ⟨c15,hv,h15⟩:=hv15
  subst hv
  have h15:=h15.mono (zAq (hz9))
  refine G1 2 O (gl2 O O (.inr Y2) O ?_)
  refine gC z15 (c_rat_reduced (by omega) (h15.mono zd_le) hy.m m5 o2 d1) O O O O fun v18 z18 _ hv18=>?_
  rw [addA hc10] at hv18
  obtain ⟨c18,d18,hv,hm18,hn18⟩:=hv18
  subst hv
  have hm18:=hm18.mono (zAq (hz9.trans hz15))
  have hn18:=hn18.mono (zAq (hz9.trans hz15))
  refine gS O O O (fl_st4 rfl rfl rep0 (lN (fg_nil (fx_rseq (rQ (.inl rfl) (rc4 rfl mem0 rn) ?_)))))
  exact ⟨_,_,rfl,hm18,hn18⟩
 refine fx_kseq (fx_drwS (G1 2 O (gl2 O O (.inr Y2) O (G1 2 O (gl2 O O (.inr Y1) O ?_)))))
 refine gC z9 (c_big_Mul (by omega) hx.m hw.m o1 o4) O O O O fun v23 z23 hz23 hv23=>?_
 rw [valI_c,valI_c] at hv23
 obtain ⟨c23,hv,h23⟩:=hv23
 subst hv
 have h23:=h23.mono (zAq (hz9))
 refine G1 2 O (gl2 O O (.inr Y1) O (G1 2 O (gl2 O O (.inr Y2) O ?_)))
 refine gC z23 (c_big_Mul (by omega) hu.m hy.m o3 o2) O O O O fun v28 z28 hz28 hv28=>?_
 rw [valI_c,valI_c] at hv28
 obtain ⟨c28,hv,h28⟩:=hv28
 subst hv
 have h28:=h28.mono (zAq (hz9.trans hz23))
 refine gC z28 (c_big_Add (by omega) h23.m (h28.mono zd_le) m1 m2) O O O O fun v29 z29 hz29 hv29=>?_
 rw [valI_c,valI_c] at hv29
 obtain ⟨c29,hv,h29⟩:=hv29
 subst hv
 have h29:=h29.mono (zAq (hz9.trans (hz23.trans hz28)))
 refine G1 2 O (gl2 O O (.inr Y2) O (G1 2 O (gl2 O O (.inr Y1) O ?_)))
 refine gC z29 (c_big_Mul (by omega) hy.m hw.m o2 o4) O O O O fun v34 z34 hz34 hv34=>?_
 rw [valI_c,valI_c] at hv34
 obtain ⟨c34,hv,h34⟩:=hv34
 subst hv
 have h34:=h34.mono (zAq (hz9.trans (hz23.trans (hz28.trans hz29))))
 refine gC z34 (c_rat_reduced (by omega) h29.m (h34.mono zd_le) m4 m3 d0) O O O O fun v35 z35 _ hv35=>?_
 rw [addB] at hv35
 obtain ⟨c35,d35,hv,hm35,hn35⟩:=hv35
 subst hv
 have hm35:=hm35.mono (zAq (hz9.trans (hz23.trans (hz28.trans (hz29.trans hz34)))))
 have hn35:=hn35.mono (zAq (hz9.trans (hz23.trans (hz28.trans (hz29.trans hz34)))))
 refine gS O O O (fl_st4 rfl rfl rep0 (lN (fg_nil (xT (rQ (.inl rfl) (rc4 rfl mem0 rn) ?_)))))
 exact ⟨_,_,rfl,hm35,hn35⟩
end Go.Proofs.YtlceligcgelbdaaGreat

/- The references' naturals in limbs of 16 bits, walked (1). -/
import Derived.WalkKit
import Derived.Orders
import Derived.Test.YtlceligcgelbdaaGreatJD2
set_option linter.unusedVariables false
set_option linter.unusedSimpArgs false
set_option maxRecDepth 100000
set_option maxHeartbeats 1000000
namespace Go.Proofs.YtlceligcgelbdaaGreat
open Go.CE Go.RowKit Go.Num
open Go.Eng (setL)
theorem bI_rem2 (a:Nat):binW .rem (.int .i64 (a:Nat)) (.int .i64 2)=some (.int .i64 ((a % 2:Nat):Int)):=b_rem' (by omega) (by omega) (by omega)
theorem bI_quo2 {a:Nat} (h:a<9223372036854775808):binW .quo (.int .i64 (a:Nat)) (.int .i64 2)=some (.int .i64 ((a / 2:Nat):Int)):=b_quo' (by omega) (by omega) (wI (by omega) (by omega))
theorem fl_bslH1 {call:Call'} {B:Base} {fs:Sf} {l:List I} {Q:Sf→Prop} {d ty n:Nat} {zero:List Value} {y:Go.Eng.Od} (hy:fs.ev y=Ai (n:Nat)) (hz:(repl 1 (zero.map fun v=>C.v v)).length=1) (hw:∀ b,FL call B l (fs.own d (Aw b 1) (blkE eN b ty [n])) Q):FL call B (⟨some d,none,.bslice ty 1 1 zero [(0,y)]⟩::l) fs Q:=by
 refine fl_bslice (cs:=cE eN [n]) ?_ hw
 obtain ⟨c,hc⟩:=List.length_eq_one_iff.1 hz
 rw [hc]
 simp only [fillSE,hy,AV.cells?]
 rfl
def Pr (l:List Nat) (o:List UInt32) (i:Nat):Prop:=∀ j,dig o j=hdig (l.take i) (2 * j)+65536 * hdig (l.take i) (2 * j+1)
theorem pr_init (l:List Nat) (n:Nat):Pr l (List.replicate n 0) 0:=fun j=>by
 simp only [List.take_zero,hdig,dig,List.getD_eq_getElem?_getD,List.getElem?_nil,List.getElem?_replicate]
 split<;>rfl
theorem hdig_takes {l:List Nat} {i x:Nat}:hdig (l.take i) x=if x<i then hdig l x else 0:=by
 by_cases h:x<i
 ·rw [if_pos h,hdig_take h]
 rw [if_neg h,hdig_ge (by rw [List.length_take];omega)]
theorem pr_low {l:List Nat} {o:List UInt32} {i:Nat} (h:Pr l o i) (h2:i % 2=1) (ok:okH l):dig o (i / 2)<65536:=by
 rw [h,hdig_takes,hdig_takes,if_pos (by omega),if_neg (by omega)]
 have:=hdig_l6 ok (2 * (i / 2))
 omega
theorem pr_even {l:List Nat} {o:List UInt32} {i:Nat} (h:Pr l o i) (h2:i % 2=0) (hi:i<l.length) (ho:i / 2<o.length) (h8:hdig l i<65536):Pr l (o.set (i / 2) (UInt32.ofNat (hdig l i))) (i+1):=fun j=>by
 rw [dig_set (by show _<4294967296;omega) ho,hdig_takes,hdig_takes]
 by_cases hj:j=i / 2
 ·rw [if_pos hj,if_pos (by omega),if_neg (by omega),show 2 * j=i by omega];rfl
 rw [if_neg hj,h,hdig_takes,hdig_takes]
 have e:∀ x,x≠i→(x<i↔x<i+1):=fun x hx=>by omega
 simp only [e (2 * j) (by omega),e (2 * j+1) (by omega)]
theorem pr_odd {l:List Nat} {o:List UInt32} {i:Nat} (h:Pr l o i) (h2:¬ i % 2=0) (hi:i<l.length) (ho:i / 2<o.length) (h7:dig o (i / 2)<65536) (h8:hdig l i<65536):Pr l (o.set (i / 2) (UInt32.ofNat (dig o (i / 2)+65536 * hdig l i))) (i+1):=fun j=>by
 rw [dig_set (by show _<4294967296;omega) ho,hdig_takes,hdig_takes]
 by_cases hj:j=i / 2
 ·have h3:=h j
  rw [hdig_takes,hdig_takes,if_pos (by omega),if_neg (by omega),Nat.mul_zero,Nat.add_zero] at h3
  rw [if_pos hj,if_pos (by omega),if_pos (by omega),← hj,h3,show 2 * j+1=i by omega]
 rw [if_neg hj,h,hdig_takes,hdig_takes]
 have e:∀ x,x≠i→(x<i↔x<i+1):=fun x hx=>by omega
 simp only [e (2 * j) (by omega),e (2 * j+1) (by omega)]
theorem pr_end {l:List Nat} {o:List UInt32} {i:Nat} (h:Pr l o i) (hl:o.length=(l.length+1) / 2) (hi:l.length≤i) (ok:okH l):o=pairs l:=dig_ext (by rw [hl,pairs_len]) fun j=>by
 rw [dig_pairs j ok,h,List.take_of_length_le hi]
theorem mr_k {x:Nat} {b o0 o:List Nat} {i k c:Nat} (h:Mr x b o0 o i k c) (hc:k<b.length∨0<c):k≤b.length:=by
 rcases Nat.lt_or_ge b.length k with h1 | h1
 ·have:=(h.kc h1).1;omega
 exact h1
theorem hless_len {n m : Nat} (h : ¬ ((toH n).length : Int) = ((toH m).length : Int)) : decide (((toH n).length : Int) < ((toH m).length : Int)) = decide (n < m) := decide_eq_decide.2 ⟨fun h => hlen_lt (by omega), fun h2 => by
  have:=hlen_le (Nat.le_of_lt h2);omega⟩
theorem hless_top {n m i : Nat} (he : ∀ j, i ≤ j → hdig (toH n) j = hdig (toH m) j) (h0 : 0 < i) (h : ¬ ((hdig (toH n) (i - 1) : Nat) : Int) = (hdig (toH m) (i - 1) : Nat)) : decide (((hdig (toH n) (i - 1) : Nat) : Int) < (hdig (toH m) (i - 1) : Nat)) = decide (n < m) := decide_eq_decide.2 ⟨fun h => hcmp_toH he h0 h, fun h2 => by
  rcases Int.lt_trichotomy ((hdig (toH n) (i - 1):Nat):Int) (hdig (toH m) (i - 1):Nat) with h3 | h3 | h3
  · exact h3
  · exact absurd h3 h
  · have:=hcmp_toH (fun j hj=>(he j hj).symm) h0 h3;omega⟩
theorem hless_no {n m i:Nat} (he:∀ j,i≤j→hdig (toH n) j=hdig (toH m) j) (h0:i=0):false=decide (n<m):=(decide_eq_false (by rw [hdig_eq fun j=>he j (by omega)];omega)).symm
theorem okH_one {x:Nat} (h:x<65536):okH [x]:=okH_snoc okH_nil h
theorem hv_one (x:Nat):Num.hv [x]=x:=by simp [Num.hv]
theorem okH_consr {x:Nat} {l:List Nat} (h:x<65536) (ok:okH l):okH ([x]++l):=fun y hy=>by
 rcases List.mem_append.1 hy with hy | hy
 ·rw [List.mem_singleton.1 hy];exact h
 exact ok y hy
theorem hv_consr (x r:Nat):Num.hv ([x]++toH r)=x+65536 * r:=by
 show x+65536 * Num.hv (toH r)=_
 rw [hv_toH]
theorem part_len {x B k:Nat} (h:x<65536 * B) (hk:(toH B).length<k):(toH x).length≤k:=by
 refine toH_len.2 ?_
 have h1:=toH_len.1 (Nat.le_of_lt_succ (show (toH B).length<k - 1+1 by omega))
 obtain ⟨j,rfl⟩:∃ j,k=j+1:=⟨k - 1,by omega⟩
 rw [Nat.add_sub_cancel] at h1
 rw [Nat.pow_succ]
 have:B * 65536≤Num.H ^ j * 65536:=Nat.mul_le_mul_right _ (Nat.le_of_lt h1)
 show x<Num.H ^ j * 65536
 omega
theorem div_rest (x B:Nat):x - x / B * B=x % B:=by
 have:=Nat.div_add_mod' x B
 omega
theorem c_ref03_cut {k:Nat} (hk:1≤k) {z:Mem} {v:AV} {l:List Nat} (ok:okH l) (hx:SZ 1 RN z v l):FC (E k) 273 [v] z fun v' _=>∀ zz,SZ 1 RN zz v l→SZ 1 RN zz v' (toH (hv l)):=by
 have hxl:=hx.le
 refine fc_of (tS_get273) (by omega) (len1 rfl) fun B j hj=>?_
 refine R5 4 O ?_
 refine fx_seq (fx_block ?_)
 refine fx_loop (fun n fs=>∃ (v':AV) (m:Nat),LI z [] [(0,v')] fs∧n=m∧(m≤l.length)∧(hv (l.take m)=hv l)∧(∀ zz,SZ 1 RN zz v l→SZ 1 RN zz v' (l.take m))) ?_ _ ⟨v,l.length,LI.m [] O,rfl,Nat.le_refl _,by rw [List.take_length],fun zz h=>by rw [List.take_length];exact h⟩ (kK (by omega))
 intro n fs ⟨v',m,hL0,hmz0,hm,hq,ht⟩
 refine hL0.open fun e zl0 hzl0=>?_
 refine R4 12 O (fl_lenN rfl (ht _ (hx.mono (hzl0))) (take_len hm) (R1 4 O ?_))
 refine fl_splitD 6 rfl (fun hg6=>?_) (fun hg6=>?_)
 ·refine R1 7 O (lD rfl (fl_lenN rfl (ht _ (hx.mono (hzl0))) (take_len hm) (lD rfl (lB rfl rfl (bI_sub (n:=m - 1) (by omega) (by omega)) (lD rfl ?_)))))
  refine fl_iadH rfl rfl (ht _ (hx.mono (hzl0))) (m - 1) (rfl) (by rw [take_len hm];omega) fun p11 hp11=>?_
  refine lD rfl (fl_ldP rfl hp11 (R3 8 O ?_))
  refine xD rfl (fun hc14=>?_) (fun hc14=>?_)
  ·refine fx_kseq (fx_block (xG (R1 7 O (fl_lenN rfl (ht _ (hx.mono (hzl0))) (take_len hm) (lB rfl rfl (bI_sub (n:=m - 1) (by omega) (by omega)) ?_)))))
   refine fl_slcS (i:=0) (j:=m - 1) rfl (ht _ (hx.mono (hzl0))) rfl ⟨_,rfl⟩ (by omega) (by rw [take_len hm];omega) ?_
   refine R0 3 O ?_
   exact lq_n (by omega) ⟨subV v' 0 (m - 1),m - 1,LI.m [] O,rfl,by omega,(trimH_step (by omega) hm (by omega)).trans hq,fun zz h=>by have:=(ht zz h).sub (i:=0) (j:=m - 1) (by omega) (by rw [take_len hm];omega);rwa [List.drop_zero,List.take_take,Nat.min_eq_left (by omega)] at this⟩
  refine fx_eseq (lq_e (sq_n (R5 14 O (xT (rI O ?_)))))
  intro zz h
  rw [← trimH_done ok hm hq (.inr (by omega))]
  exact ht zz h
 refine R3 1024 O (fx_eseq (lq_e (sq_n (R5 14 O (xT (rI O ?_))))))
 intro zz h
 rw [← trimH_done ok hm hq (.inl (by omega))]
 exact ht zz h
theorem c_ref03_halves {k:Nat} (hk:2≤k) {z:Mem} {v:AV} {l:List UInt32} (hx:SZ 1 RW z v l) (hl:l.length≤10000000000):FC (E k) 220 [v] z fun v' z'=>SZ 1 RN (zd z z') v' (toH (val l)):=by
 refine fc_of (tS_get220) (by omega) (len1 rfl) fun B j hj=>?_
 refine R4 64 O (fl_row0 3 1 (R0 2 O ?_))
 refine fx_seq (fx_block ?_)
 refine fx_loop (fun n fs=>∃ (i:Nat) (o:List Nat) (u:AV),LI z [rowE eN u 3 o] [(0,v),(3,u),(4,Az i)] fs∧n=l.length - i∧(i≤l.length)∧(o=halv (l.take i))) ?_ _ ⟨0,[],nilv,LI.m [] O,rfl,Nat.zero_le _,rfl⟩ (kK (by omega))
 intro n fs ⟨i,o,u,hL0,hmz0,hi,ho⟩
 refine hL0.open fun e zl0 _=>?_
 refine R4 24 O (fl_lenS rfl hx (R3 4 O ?_))
 refine xD rfl (fun hc8=>?_) (fun hc8=>?_)
 ·refine fx_kseq ?_
  refine fx_seq (fx_block ?_)
  refine fx_drw ?_
  have hoi:o.length=2 * i:=by rw [ho,halv_len,take_len hi]
  refine G1 11 O (gP rfl rfl trivial ?_)
  refine fl_iadW (zz:=zl0) rfl rfl hx.m (i) (rfl) (by omega) fun p14 hp14=>lN ?_
  refine glP O O hp14 ti (gP rfl rfl trivial ?_)
  refine lB rfl rfl ((bD_rem65 (dig_lt l i))) (lN ?_)
  refine gP rfl rfl trivial ?_
  refine fl_cvi rfl (wI (rfl) (by omega)) (lN ?_)
  refine G1 5 O (gP rfl rfl trivial ?_)
  refine fl_iadW (zz:=zl0) rfl rfl hx.m (i) (rfl) (by omega) fun p20 hp20=>lN ?_
  refine glP O O hp20 ti (gP rfl rfl trivial ?_)
  refine lB rfl rfl ((bD_quo65 (dig_lt l i))) (lN ?_)
  refine gP rfl rfl trivial ?_
  refine fl_cvi rfl (wI (rfl) (dq_lt l i)) (lN ?_)
  refine fg_own (k:=.cells 3 (cE eN [dig l i % 65536,dig l i / 65536])) (w:=fun b=>Aw b 2) rfl trivial rfl (fun _=>rfl) (fun st hst=>?_) (fun b24 hT24=>?_)
  ·simp only [stepE,fillS,AS.ev,hst 17 (by simp [Ins.sl,Od.sls,Od.sl]),hst 23 (by simp [Ins.sl,Od.sls,Od.sl])];rfl
  refine fg_app (i:=⟨_,_,.app _ _ _ _ _ _⟩) rfl trivial rfl rfl rfl rfl ?_
  refine fl_appBE (e:=eN) (s:=[dig l i % 65536,dig l i / 65536]) rfl rfl mem0 (fun _=>repS rep0) (by simp only [List.length_cons,List.length_nil];omega) (by simp only [List.length_cons,List.length_nil];omega) fun c25 hc25=>?_
  refine lN (G0 2 O (sq_n (xG (lC rfl (lB rfl rfl (bI_add (n:=i+1) (by omega) (by omega)) (fl_row0 3 1 (R0 2 O ?_)))))))
  exact lq_n (by omega) ⟨i+1,_,_,LI.m [_,_] O,rfl,by omega,halv_next ho (by omega)⟩
 refine fx_eseq (lq_e (sq_n (xR ?_)))
 obtain rfl:o=halv l:=by rw [ho,List.take_of_length_le (by omega)]
 have hhl:=halv_len l
 refine fl_frzRZ z zl0 (p:=[]) rfl rfl zI (by omega) fun zfo _ hfo=>?_
 refine lM rfl ?_
 refine lZ zfo (c_ref03_cut (by omega) (ok_halv l) (hfo.mono zd_le)) rfl rfl fun v27 z27 hz27 ht27=>?_
 refine R0 3 O (xT (rI O ?_))
 have hr:=ht27 _ (hfo.mono (zd_mono (hz27)))
 rwa [hv_halv] at hr
theorem c_ref03_limbs {k:Nat} (hk:1≤k) {z:Mem} {v:AV} {l:List Nat} (ok:okH l) (hx:SZ 1 RN z v l) (hl:l.length≤4000000000):FC (E k) 218 [v] z fun v' z'=>SZ 1 RW (zd z z') v' (pairs l):=by
 refine fc_of (tS_get218) (by omega) (len1 rfl) fun B j hj=>?_
 refine R4 24 O (fl_lenS rfl hx (lB rfl rfl (bI_add (n:=l.length+1) (by omega) (by omega)) (lB rfl rfl ((bI_quo2 (by omega))) ?_)))
 refine fl_mkW (n:=(l.length+1) / 2) rfl rfl (rfl) (by omega) (by omega) fun b9=>?_
 refine R3 16 O ?_
 refine fx_seq (fx_block ?_)
 refine fx_loop (fun n fs=>∃ (i:Nat) (o:List UInt32),LI z [blkE eW b9 117 o] [(0,v),(3,.c (.sl b9 0 ((l.length+1) / 2) 1)),(4,Az i)] fs∧n=l.length - i∧(i≤l.length)∧(o.length=(l.length+1) / 2)∧(Pr l o i)) ?_ _ ⟨0,_,LI.m [] O,rfl,Nat.zero_le _,by simp,pr_init _ _⟩ (kK (by omega))
 intro n fs ⟨i,o,hL0,hmz0,hi,hol,hP⟩
 refine hL0.open fun e zl0 _=>?_
 refine R4 24 O (fl_lenS rfl hx (R3 4 O ?_))
 refine xD rfl (fun hc13=>?_) (fun hc13=>?_)
 ·refine fx_kseq ?_
  refine fx_seq (fx_block ?_)
  refine xR ?_
  have h8:=hdig_l6 ok i
  refine lC rfl (lB rfl rfl ((bI_rem2 _)) (R0 2 O ?_))
  refine xD rfl (fun hc18=>?_) (fun hc18=>?_)
  ·refine xG (R1 4 O (lB rfl rfl ((bI_quo2 (by omega))) (R1 5 O ?_)))
   refine fl_iadH (zz:=zl0) rfl rfl hx.m (i) (rfl) (by omega) fun p24 hp24=>?_
   refine fl_ldP rfl hp24 (fl_cvi rfl (wD (rfl) (by omega)) (fl_iad rfl rfl (i / 2) (rfl) (by omega) (fl_setW (i / 2) (hdig l i) rfl rfl rep0 (rfl) (by omega) (by omega) (by omega) (lN (sq_n (xG (lC rfl (lB rfl rfl (bI_add (n:=i+1) (by omega) (by omega)) (R0 2 O ?_)))))))))
   exact lq_n (by omega) ⟨i+1,_,LI.m [] O,rfl,by omega,by rw [List.length_set];exact hol,pr_even hP (by omega) (by omega) (by omega) h8⟩
  refine fx_drw ?_
  have hd3:dig o (i / 2)<65536:=pr_low hP (by omega) ok
  refine G1 4 O (gP rfl rfl trivial ?_)
  refine lB rfl rfl ((bI_quo2 (by omega))) (lN ?_)
  refine G1 4 O (gP rfl rfl trivial ?_)
  refine lB rfl rfl ((bI_quo2 (by omega))) (lN ?_)
  refine gP rfl rfl trivial ?_
  refine fl_iad rfl rfl (i / 2) (rfl) (by omega) (lN ?_)
  refine fg_ldOW (i:=⟨_,_,.load _ _ _⟩) (i / 2) rfl rfl trivial rfl (.inr mem0) (by omega) (by omega) ?_
  refine G1 5 O (gP rfl rfl trivial ?_)
  refine fl_iadH (zz:=zl0) rfl rfl hx.m (i) (rfl) (by omega) fun p38 hp38=>lN ?_
  refine glP O O hp38 ti (gP rfl rfl trivial ?_)
  refine fl_cvi rfl (wD (rfl) (by omega)) (lN ?_)
  refine gP rfl rfl trivial ?_
  refine lB rfl rfl ((bD_mul65 h8)) (lN ?_)
  refine gP rfl rfl trivial ?_
  refine lB rfl rfl ((bD_add65 hd3 h8)) (lN ?_)
  refine gP rfl rfl trivial ?_
  refine fl_iad rfl rfl (i / 2) (rfl) (by omega) (lN ?_)
  refine gS O O O (fl_setW (i / 2) (dig o (i / 2)+65536 * hdig l i) rfl rfl rep0 (rfl) (by omega) (by omega) (by omega) (lN (fg_nil (sq_n (xG (lC rfl (lB rfl rfl (bI_add (n:=i+1) (by omega) (by omega)) (R0 2 O ?_))))))))
  exact lq_n (by omega) ⟨i+1,_,LI.m [] O,rfl,by omega,by rw [List.length_set];exact hol,pr_odd hP (by omega) (by omega) (by omega) hd3 h8⟩
 refine fx_eseq (lq_e (sq_n (R4 4 O ?_)))
 refine fl_frzBZ (n:=(l.length+1) / 2) z zl0 (p:=[]) rfl rfl zI (hol) (by omega) fun zf44 _ hf44=>?_
 refine R0 2 O (xT (rI O ?_))
 rw [pr_end hP hol (by omega) ok] at hf44
 exact hf44
theorem c_ref03_times {k:Nat} (hk:2≤k) {z:Mem} {u v:AV} {a b:List Nat} (oka:okH a) (okb:okH b) (hx:SZ 1 RN z u a) (hy:SZ 1 RN z v b) (hla:a.length≤1000000000) (hlb:b.length≤1000000000):FC (E k) 219 [u,v] z fun v' z'=>SZ 1 RN z' v' (toH (hv a * hv b)):=by
 refine fc_of (tS_get219) (by omega) (len1 rfl) fun B j hj=>?_
 refine R4 24 O (fl_lenS rfl hx (lM rfl (fl_lenS rfl hy (lB rfl rfl (bI_add (n:=a.length+b.length) (by omega) (by omega)) (lB rfl rfl (bI_add (n:=a.length+b.length+1) (by omega) (by omega)) ?_)))))
 refine fl_mkH (n:=a.length+b.length+1) rfl rfl (rfl) (by omega) (by omega) fun b16=>?_
 refine R3 16 O ?_
 refine fx_seq (fx_block ?_)
 refine fx_loop (fun n fs=>∃ (i:Nat) (o:List Nat),LI z [blkE eN b16 3 o] [(0,u),(1,v),(5,Aw b16 (a.length+b.length+1)),(6,Az i)] fs∧n=a.length - i∧(i≤a.length)∧(o.length=(a.length+b.length+1))∧(Mt a b o i)) ?_ _ ⟨0,_,LI.m [] O,rfl,Nat.zero_le _,by simp,Mt.init _⟩ (kK (by omega))
 intro n fs ⟨i,o,hL0,hmz0,hi,hol,hM⟩
 refine hL0.open fun e zl0 _=>?_
 refine R4 24 O (fl_lenS rfl hx (R3 4 O ?_))
 refine xD rfl (fun hc20=>?_) (fun hc20=>?_)
 ·refine fx_kseq ?_
  refine fx_seq (fx_block ?_)
  refine R5 16 O (fx_block ?_)
  refine fx_loop (fun n fs=>∃ (k:Nat) (cy:Nat) (o2:List Nat),LI zl0 [blkE eN b16 3 o2] [(0,u),(1,v),(5,Aw b16 (a.length+b.length+1)),(6,Az i),(7,Az cy),(8,Az k)] fs∧n=b.length+1 - k∧(Mr (hdig a i) b o o2 i k cy)) ?_ _ ⟨0,0,_,LI.m [] O,rfl,Mr.init hM.ok⟩ (kK (by omega))
  intro n fs ⟨k,cy,o2,hL1,hmz1,hm⟩
  refine hL1.open fun e zl1 _=>?_
  refine R4 24 O (fl_lenS rfl hy (R1 4 O ?_))
  refine fl_splitD 27 rfl (fun hg27=>?_) (fun hg27=>?_)
  ·refine R3 64 O ?_
   refine fx_seq (fx_block ?_)
   refine xR ?_
   have h7:=hm.cl
   have h8:=hdig_l6 hm.ok (i+k)
   have h9:hdig a i * hdig b k≤65535 * 65535:=Nat.mul_le_mul (Nat.le_of_lt_succ (hdig_l6 oka i)) (Nat.le_of_lt_succ (hdig_l6 okb k))
   have hl2:o2.length=a.length+b.length+1:=hm.len.trans hol
   have hkb:k≤b.length:=mr_k hm (by omega)
   refine R1 8 O (lB rfl rfl (bI_add (n:=i+k) (by omega) (by omega)) (fl_iad rfl rfl (i+k) (rfl) (by omega) (fl_ldOH (i+k) rfl mem0 (by omega) (by omega) (lC rfl (lB rfl rfl (bI_add (n:=(hdig o2 (i+k)+cy)) (by omega) (by omega)) (R2 48 O (fl_lenS rfl hy (R3 4 O ?_))))))))
   refine xD rfl (fun hc44=>?_) (fun hc44=>?_)
   ·refine fx_drwS (G1 10 O (gP rfl rfl trivial ?_))
    refine fl_iadH (zz:=zl1) rfl rfl hx.m (i) (rfl) (by omega) fun p48 hp48=>lN ?_
    refine glP O O hp48 ti (G1 5 O (gP rfl rfl trivial ?_))
    refine fl_iadH (zz:=zl1) rfl rfl hy.m (k) (rfl) (by omega) fun p52 hp52=>lN ?_
    refine glP O O hp52 ti (gP rfl rfl trivial ?_)
    refine lB rfl rfl (bI_mul (n:=hdig a i * hdig b k) ((Int.natCast_mul _ _).symm) (by omega)) (lN ?_)
    refine gP rfl rfl trivial ?_
    refine lB rfl rfl (bI_add (n:=(hdig o2 (i+k)+cy+hdig a i * hdig b k)) (by omega) (by omega)) (lN ?_)
    refine G0 2 O (R4 16 O (lB rfl rfl (bI_add (n:=i+k) (by omega) (by omega)) (lC rfl (lB rfl rfl ((bI_rem65 _)) (fl_iad rfl rfl (i+k) (rfl) (by omega) (fl_setH (i+k) ((hdig o2 (i+k)+cy+hdig a i * hdig b k) % 65536) rfl rfl rep0 (rfl) (by omega) (by omega) (lN (xG (lC rfl (lB rfl rfl ((bI_quo65 (by omega))) (R0 2 O (sq_n (xG (lC rfl (lB rfl rfl (bI_add (n:=k+1) (by omega) (by omega)) ?_)))))))))))))))
    refine R0 2 O ?_
    exact lq_n (by omega) ⟨k+1,(hdig o2 (i+k)+cy+hdig a i * hdig b k) / 65536,_,LI.m [] O,rfl,hm.step okb (hdig_l6 oka i) (by omega) rfl (by omega)⟩
   omega
  refine R3 16 O ?_
  refine xD rfl (fun hc30=>?_) (fun hc30=>?_)
  ·refine fx_kseq ?_
   refine fx_seq (fx_block ?_)
   refine xR ?_
   have h7:=hm.cl
   have h8:=hdig_l6 hm.ok (i+k)
   have h9:hdig a i * hdig b k≤65535 * 65535:=Nat.mul_le_mul (Nat.le_of_lt_succ (hdig_l6 oka i)) (Nat.le_of_lt_succ (hdig_l6 okb k))
   have hl2:o2.length=a.length+b.length+1:=hm.len.trans hol
   have hkb:k≤b.length:=mr_k hm (by omega)
   refine R1 8 O (lB rfl rfl (bI_add (n:=i+k) (by omega) (by omega)) (fl_iad rfl rfl (i+k) (rfl) (by omega) (fl_ldOH (i+k) rfl mem0 (by omega) (by omega) (lC rfl (lB rfl rfl (bI_add (n:=(hdig o2 (i+k)+cy)) (by omega) (by omega)) (R2 48 O (fl_lenS rfl hy (R3 4 O ?_))))))))
   refine xD rfl (fun hc44=>?_) (fun hc44=>?_)
   ·omega
   refine R4 32 O (lB rfl rfl (bI_add (n:=i+k) (by omega) (by omega)) (lC rfl (lB rfl rfl ((bI_rem65 _)) (fl_iad rfl rfl (i+k) (rfl) (by omega) (fl_setH (i+k) ((hdig o2 (i+k)+cy) % 65536) rfl rfl rep0 (rfl) (by omega) (by omega) (lN (xG (lC rfl (lB rfl rfl ((bI_quo65 (by omega))) (R0 2 O (sq_n (xG (lC rfl (lB rfl rfl (bI_add (n:=k+1) (by omega) (by omega)) (R0 2 O ?_)))))))))))))))
   exact lq_n (by omega) ⟨k+1,(hdig o2 (i+k)+cy) / 65536,_,LI.m [] O,rfl,(hm.last (by omega) hM.z rfl (by omega) (by omega)).1⟩
  refine fx_eseq (lq_e (sq_n (xG (lC rfl (lB rfl rfl (bI_add (n:=i+1) (by omega) (by omega)) (R0 2 O ?_))))))
  obtain rfl:cy=0:=by omega
  exact lq_n (by omega) ⟨i+1,o2,LI.m [] O,rfl,by omega,hm.len.trans hol,hM.next hm (by omega)⟩
 refine fx_eseq (lq_e (sq_n (R4 4 O ?_)))
 refine fl_frzBZ (n:=(a.length+b.length+1)) z zl0 (p:=[]) rfl rfl zI (hol) (by omega) fun zf65 _ hf65=>?_
 refine lZ zf65 (c_ref03_cut (by omega) hM.ok (hf65.mono zd_le)) rfl rfl fun v66 z66 hz66 ht66=>?_
 have hs66:=ht66 _ (hf65.mono (zd_le.trans (hz66)))
 rw [hM.val,hv_take_all (by omega)] at hs66
 refine R0 3 O (xT ?_)
 exact rI O hs66
theorem c_ref03_less {k:Nat} (hk:1≤k) {z:Mem} {u v:AV} {p1 p2:Nat} (hx:SZ 1 RN z u (toH p1)) (hy:SZ 1 RN z v (toH p2)):FC (E k) 313 [u,v] z fun v _=>v=Ab (decide (p1<p2)):=by
 have hxl:=hx.le
 refine fc_of (tS_get313) (by omega) (len1 rfl) fun B j hj=>?_
 refine R4 48 O (fl_lenS rfl hx (lM rfl (fl_lenS rfl hy (R3 4 O ?_))))
 refine fx_condN rfl (fun hc10=>?_) (fun hc10=>?_)
 ·refine R4 12 O (fl_lenS rfl hx (lM rfl (fl_lenS rfl hy (R0 4 O (fx_rseq ?_)))))
  exact rI O (cQ (hless_len hc10))
 refine R4 24 O (fl_lenS rfl hx (lB rfl rfl (b_sub' (r:=(((toH p1).length:Nat):Int) - 1) (wi64 (by omega))) (R0 2 O ?_)))
 refine fx_seq (fx_block ?_)
 refine fx_loop (fun n fs=>∃ (i:Nat),LI z [] [(0,u),(1,v),(5,Ai ((i:Int) - 1))] fs∧n=i∧(i≤(toH p1).length)∧(∀ j,i≤j→hdig (toH p1) j=hdig (toH p2) j)) ?_ _ ⟨(toH p1).length,LI.m [] O,rfl,Nat.le_refl _,fun j hj=>by rw [hdig_ge (by omega),hdig_ge (by omega)]⟩ (kK (by omega))
 intro n fs ⟨i,hL0,hmz0,hi,he⟩
 refine hL0.open fun e zl0 _=>?_
 refine R5 32 O ?_
 refine xD rfl (fun hc20=>?_) (fun hc20=>?_)
 ·refine fx_kseq ?_
  refine fx_seq (fx_block ?_)
  refine fx_drwS (G1 5 O (gP rfl rfl trivial ?_))
  refine fl_iadH (zz:=zl0) rfl rfl hx.m (i - 1) (by omega) (by omega) fun p25 hp25=>lN ?_
  refine glP O O hp25 ti (G1 5 O (gP rfl rfl trivial ?_))
  refine fl_iadH (zz:=zl0) rfl rfl hy.m (i - 1) (by omega) (by omega) fun p29 hp29=>lN ?_
  refine glP O O hp29 ti (G0 2 O ?_)
  refine fx_condN rfl (fun hc31=>?_) (fun hc31=>?_)
  ·refine fx_drwS (G1 5 O (gP rfl rfl trivial ?_))
   refine fl_iadH (zz:=zl0) rfl rfl hx.m (i - 1) (by omega) (by omega) fun p34 hp34=>lN ?_
   refine glP O O hp34 ti (G1 5 O (gP rfl rfl trivial ?_))
   refine fl_iadH (zz:=zl0) rfl rfl hy.m (i - 1) (by omega) (by omega) fun p38 hp38=>lN ?_
   refine glP O O hp38 ti (G0 4 O (xT (sq_r (lq_r (sq_r ?_)))))
   exact rI O (cQ (hless_top he (by omega) hc31))
  refine fx_skip (sq_n (xG (lC rfl ?_)))
  refine lB rfl rfl (b_sub' (r:=((i - 1:Nat):Int) - 1) (by rw [wi64 ⟨by omega,by omega⟩];omega)) ?_
  refine R0 2 O ?_
  exact lq_n (by omega) ⟨i - 1,LI.m [] O,rfl,by omega,heq_below (by omega) he (by omega) (by omega)⟩
 refine fx_eseq (lq_e (sq_n (R5 4 O (xT ?_))))
 exact rI O (cQ (hless_no he (by omega)))
theorem c_ref03_take {k:Nat} (hk:2≤k) {z:Mem} {u0 v:AV} {a b:List Nat} {q0:Nat} (oka:okH a) (okb:okH b) (hx:SZ 1 RN z u0 a) (hy:SZ 1 RN z v b) (hn:q0<65536) (hle:q0 * hv b≤hv a) (hla:a.length≤1000000000):FC (E k) 298 [u0,v,Az q0] z fun v' z'=>SZ 1 RN z' v' (toH (hv a - q0 * hv b)):=by
 refine fc_of (tS_get298) (by omega) (len1 rfl) fun B j hj=>?_
 refine R4 32 O (fl_row0 3 1 (R3 16 O ?_))
 refine fx_seq (fx_block ?_)
 refine fx_loop (fun n fs=>∃ (i:Nat) (o:List Nat) (u:AV) (cy:Nat),LI z [rowE eN u 3 o] [(0,u0),(1,v),(2,Az q0),(7,u),(8,Az cy),(9,Az i)] fs∧n=a.length - i∧(i≤a.length)∧(o.length=i)∧(okH o)∧(cy≤65535)∧(hv o+q0 * hv (b.take i)=hv (a.take i)+H ^ i * cy)) ?_ _ ⟨0,[],nilv,0,LI.m [] O,rfl,Nat.zero_le _,rfl,okH_nil,by omega,by simp [Num.hv]⟩ (kK (by omega))
 intro n fs ⟨i,o,u,cy,hL0,hmz0,hi,hol,oko,hcy,hv0⟩
 refine hL0.open fun e zl0 _=>?_
 refine R4 24 O (fl_lenS rfl hx (R3 4 O ?_))
 refine xD rfl (fun hc14=>?_) (fun hc14=>?_)
 ·refine fx_kseq ?_
  refine fx_seq (fx_block ?_)
  refine xR ?_
  have h8:=hdig_l6 oka i
  have h9:q0 * hdig b i≤65535 * 65535:=Nat.mul_le_mul (by omega) (Nat.le_of_lt_succ (hdig_l6 okb i))
  refine R1 5 O ?_
  refine fl_iadH (zz:=zl0) rfl rfl hx.m (i) (rfl) (by omega) fun p19 hp19=>?_
  refine fl_ldP rfl hp19 (lC rfl (lB rfl rfl (b_sub' (r:=(hdig a i:Int) - (cy:Int)) (wi64 (by omega))) (R2 48 O (fl_lenS rfl hy (R0 2 O ?_)))))
  refine fx_join (fun fs=>∃ (x:Int),LI zl0 [rowE eN u 3 o] [(0,u0),(1,v),(2,Az q0),(7,u),(9,Az i),(10,Ai x)] fs∧(x+((q0 * hdig b i:Nat):Int)+(cy:Int)=(hdig a i:Int))) ?_ fun fs hJ=>?_
  ·refine xD rfl (fun hc26=>?_) (fun hc26=>?_)
   ·refine xG (R1 20 O ?_)
    refine fl_iadH (zz:=zl0) rfl rfl hy.m (i) (rfl) (by omega) fun p31 hp31=>?_
    refine fl_ldP rfl hp31 (lB rfl rfl (bI_mul (n:=q0 * hdig b i) ((Int.natCast_mul _ _).symm) (by omega)) (lB rfl rfl (b_sub' (r:=(hdig a i:Int) - (cy:Int) - ((q0 * hdig b i:Nat):Int)) (wi64 (by omega))) (R0 2 O ?_)))
    exact sq_n ⟨_,LI.m [] O,by omega⟩
   refine fx_skip ?_
   have h9:hdig b i=0:=hdig_ge (by omega)
   have h8:q0 * hdig b i=0:=by rw [h9,Nat.mul_zero]
   exact sq_n ⟨_,LI.m [] O,by omega⟩
  obtain ⟨x,hJ26,hxv⟩:=hJ
  refine hJ26.open fun e zj26 _=>?_
  refine R5 64 O ?_
  refine fx_join (fun fs=>∃ (d:Nat) (c2:Nat),LI zj26 [rowE eN u 3 o] [(0,u0),(1,v),(2,Az q0),(7,u),(8,Az c2),(9,Az i),(10,Az d)] fs∧(d<65536)∧(c2≤65535)∧(d+q0 * hdig b i+cy=hdig a i+65536 * c2)) ?_ fun fs hJ=>?_
  ·refine xD rfl (fun hc36=>?_) (fun hc36=>?_)
   ·refine R4 4 O ?_
    refine lB rfl rfl (b_sub' (r:=((65535+q0 * hdig b i+cy - hdig a i:Nat):Int)) (by rw [wi64 ⟨by omega,by omega⟩];omega)) ?_
    refine lB rfl rfl ((bI_quo65 (by omega))) (R0 2 O (xG (R1 4 O (lB rfl rfl (bI_mul (n:=65536 * ((65535+q0 * hdig b i+cy - hdig a i) / 65536)) (by omega) (by omega)) (lB rfl rfl (bI_add (n:=hdig a i+65536 * ((65535+q0 * hdig b i+cy - hdig a i) / 65536) - q0 * hdig b i - cy) (by omega) (by omega)) (R0 2 O ?_))))))
    exact sq_n ⟨_,_,LI.m [] O,(by omega:hdig a i+65536 * ((65535+q0 * hdig b i+cy - hdig a i) / 65536) - q0 * hdig b i - cy<65536),by omega,by omega⟩
   refine fx_skip ?_
   obtain rfl:x=((hdig a i - q0 * hdig b i - cy:Nat):Int):=by omega
   exact sq_n ⟨hdig a i - q0 * hdig b i - cy,0,LI.m [] O,by omega,by omega,by omega⟩
  obtain ⟨d,c2,hJ36,hd,hc2,hdv⟩:=hJ
  refine hJ36.open fun e zj36 _=>?_
  refine xG (R1 5 O ?_)
  refine fl_push (e:=eN) (a:=d) rfl (rfl) rfl (fun _=>rfl) (fun _=>rep0) (by omega) (by omega) fun b46 c47 hc47=>?_
  refine R0 2 O (sq_n (xG (lC rfl (lB rfl rfl (bI_add (n:=i+1) (by omega) (by omega)) (R0 2 O ?_)))))
  exact lq_n (by omega) ⟨i+1,_,_,c2,LI.m [_] O,rfl,by omega,by rw [List.length_append,hol];rfl,okH_snoc oko hd,hc2,htk_step hol hv0 hdv⟩
 refine fx_eseq (lq_e (sq_n (xR ?_)))
 refine fl_frzRZ z zl0 (p:=[]) rfl rfl zI (by omega) fun zfo _ hfo=>?_
 refine lM rfl ?_
 refine lZ zfo (c_ref03_cut (by omega) oko (hfo.mono zd_le)) rfl rfl fun v49 z49 hz49 ht49=>?_
 have hs49:=ht49 _ (hfo.mono (zd_le.trans (hz49)))
 refine R0 3 O (xT (rI O ?_))
 obtain rfl:i=a.length:=by omega
 rw [htk_end oka oko hol hle hv0] at hs49
 exact hs49
theorem c_ref03_often {k:Nat} (hk:3≤k) {z:Mem} {u v:AV} {aa bb:Nat} (hx:SZ 1 RN z u (toH aa)) (hy:SZ 1 RN z v (toH bb)) (hlt:aa<65536 * bb) (hlb:(toH bb).length≤1000000000):FC (E k) 297 [u,v] z fun v _=>v=Az (aa / bb):=by
 refine fc_of (tS_get297) (by omega) (len1 rfl) fun B j hj=>?_
 refine R5 32 O ?_
 refine fx_seq (fx_block ?_)
 refine fx_loop (fun n fs=>∃ (low:Nat) (high:Nat),LI z [] [(0,u),(1,v),(5,Az low),(6,Az high)] fs∧n=high - low∧(low * bb≤aa)∧(aa<high * bb)∧(low<high)∧(high≤65536)) ?_ _ ⟨0,65536,LI.m [] O,rfl,by omega,hlt,by omega,by omega⟩ (kK (by omega))
 intro n fs ⟨low,high,hL0,hmz0,h1,h2,h3,h4⟩
 refine hL0.open fun e zl0 _=>?_
 refine R4 16 O (lB rfl rfl (bI_sub (n:=high - low) (by omega) (by omega)) (R3 4 O ?_))
 refine xD rfl (fun hc11=>?_) (fun hc11=>?_)
 ·refine fx_kseq (fx_block (R4 8 O (lB rfl rfl (bI_add (n:=low+high) (by omega) (by omega)) (lB rfl rfl ((bI_quo2 (by omega))) (R2 44 O ?_)))))
  refine fl_bslH1 rfl rfl fun b19=>?_
  refine fl_frzBZ (n:=1) z zl0 (p:=[]) rfl rfl zI (rfl) (by omega) fun zf19 _ hf19=>?_
  refine lZ zf19 (c_ref03_times (by omega) (ok_toH bb) (okH_one (by omega)) hy.m (hf19.mono zd_le) hlb (by simp)) rfl rfl fun v20 z20 _ hs20=>?_
  rw [hv_toH,hv_one] at hs20
  refine lE z20 (c_ref03_less (by omega) hx.m hs20) O O fun z21 _=>?_
  refine lN ?_
  refine xD rfl (fun hc21=>?_) (fun hc21=>?_)
  ·refine xG (R0 4 O ?_)
   exact lq_n (by omega) ⟨low,(low+high) / 2,LI.m [] O,rfl,h1,by rw [Nat.mul_comm];exact hc21,by omega,by omega⟩
  refine xG (R0 4 O ?_)
  exact lq_n (by omega) ⟨(low+high) / 2,high,LI.m [] O,rfl,by rw [Nat.mul_comm];exact Nat.le_of_not_lt hc21,h2,by omega,by omega⟩
 refine fx_eseq (lq_e (sq_n (R5 8 O (xT (rI O ?_)))))
 rw [often_end h1 h2 (by omega)]
 rfl
theorem c_ref03_parts {k:Nat} (hk:4≤k) {z:Mem} {u v:AV} {a:List Nat} {bb:Nat} (oka:okH a) (hx:SZ 1 RN z u a) (hy:SZ 1 RN z v (toH bb)) (hB:0<bb) (hla:a.length≤1000000000) (hlb:(toH bb).length<1000000000):FC (E k) 267 [u,v] z fun v' z'=>∃ q r,v'=.tup [q,r]∧SZ 1 RN z' q (toH (hv a / bb))∧SZ 1 RN z' r (toH (hv a % bb)):=by
 refine fc_of (tS_get267) (by omega) (len1 rfl) fun B j hj=>?_
 refine R4 48 O (fl_lenS rfl hx ?_)
 refine fl_mkH (n:=a.length) rfl rfl (rfl) (by omega) (by omega) fun b12=>?_
 refine R2 96 O (fl_lenS rfl hx (lB rfl rfl (b_sub' (r:=((a.length:Nat):Int) - 1) (wi64 (by omega))) (R0 2 O ?_)))
 refine fx_seq (fx_block ?_)
 refine fx_loop (fun n fs=>∃ (i:Nat) (r:Nat) (w:AV) (o:List Nat) (zi:Mem),LZ z zi [blkE eN b12 3 o] [(0,u),(1,v),(6,Aw b12 a.length),(7,w),(8,Ai ((i:Int) - 1))] fs∧n=i∧(i≤a.length)∧(o.length=a.length)∧(okH o)∧(SZ 1 RN zi w (toH r))∧(r<bb)∧(hv (a.drop i)=hv (o.drop i) * bb+r)) ?_ _ ⟨a.length,0,nilv,_,_,LZ.m [] O,rfl,Nat.le_refl _,by simp,okH_rep _,by rw [toH_zero];exact .nil,hB,by simp [Num.hv]⟩ (kK (by omega))
 intro n fs ⟨i,r,w,o,zi,hL0,hmz0,hi,hol,oko,hw,hr,hv0⟩
 refine hL0.open fun e _=>?_
 refine R5 32 O ?_
 refine xD rfl (fun hc17=>?_) (fun hc17=>?_)
 ·refine fx_kseq ?_
  refine fx_seq (fx_block ?_)
  refine xR ?_
  have hX:(hdig a (i - 1)+65536 * r)<65536 * bb:=part_lt (hdig_l6 oka _) hr
  have hq1:(hdig a (i - 1)+65536 * r) / bb<65536:=(Nat.div_lt_iff_lt_mul hB).2 hX
  have hq2:hdig (o.set (i - 1) ((hdig a (i - 1)+65536 * r) / bb)) (i - 1)=(hdig a (i - 1)+65536 * r) / bb:=by rw [hdig_set (by omega),if_pos rfl]
  have hX2:(toH (hdig a (i - 1)+65536 * r)).length≤1000000000:=part_len hX hlb
  have hrl:(toH r).length≤(toH bb).length:=hlen_le (Nat.le_of_lt hr)
  refine R1 5 O ?_
  refine fl_iadH (zz:=zi) rfl rfl hx.m (i - 1) (by omega) (by omega) fun p22 hp22=>?_
  refine fl_ldP rfl hp22 ?_
  refine fl_bslH1 rfl rfl fun b24=>?_
  refine R2 24 O (fl_asrowE (p:=[]) rfl (rfl) ?_)
  refine fl_appE  rfl rfl hw (fun _=>rep0) (by simp only [List.length_singleton];omega) (by simp only [List.length_singleton];omega) fun c27 hc27=>?_
  refine fl_frzRZ z zi (p:=[]) rfl rfl zI (by simp only [List.length_append,List.length_singleton];omega) fun zf27 _ hf27=>?_
  refine lZ zf27 (c_ref03_cut (by omega) (okH_consr (hdig_l6 oka _) (ok_toH r)) (hf27.mono zd_le)) rfl rfl fun v28 z28 hz28 ht28=>?_
  have hs28:=ht28 _ (hf27.mono (zd_le.trans (hz28)))
  rw [hv_consr] at hs28
  refine R2 113 O ?_
  refine lE z28 (c_ref03_often (by omega) hs28 hy.m hX (Nat.le_of_lt hlb)) O O fun z33 _=>?_
  refine fl_iad rfl rfl (i - 1) (by omega) (by omega) (fl_setH (i - 1) ((hdig a (i - 1)+65536 * r) / bb) rfl rfl rep0 (rfl) (by omega) (by omega) (lN (xG (R1 19 O (fl_iad rfl rfl (i - 1) (by omega) (by omega) ?_)))))
  refine fl_ldOH (i - 1) rfl mem0 (by omega) (by rw [List.length_set];omega) ?_
  refine lZ z33 (c_ref03_take (by omega) (ok_toH _) (ok_toH bb) hs28.m hy.m (by rw [hq2];exact hq1) (by rw [hq2,hv_toH,hv_toH];exact Nat.div_mul_le_self _ _) hX2) rfl rfl fun v41 z41 _ hs41=>?_
  rw [hq2,hv_toH,hv_toH,div_rest] at hs41
  refine R0 3 O (sq_n (xG (lC rfl ?_)))
  refine lB rfl rfl (b_sub' (r:=((i - 1:Nat):Int) - 1) (by rw [wi64 ⟨by omega,by omega⟩];omega)) ?_
  refine R0 2 O ?_
  exact lq_n (by omega) ⟨i - 1,(hdig a (i - 1)+65536 * r) % bb,_,_,_,LZ.m [] O,rfl,by omega,by rw [List.length_set];exact hol,okH_set oko hq1,hs41,Nat.mod_lt _ hB,parts_step (by omega) hi (by omega) hv0 rfl⟩
 refine fx_eseq (lq_e (sq_n (R4 4 O ?_)))
 refine fl_frzBZ (n:=a.length) z zi (p:=[]) rfl rfl zI (hol) (by omega) fun zf42 _ hf42=>?_
 refine lZ zf42 (c_ref03_cut (by omega) oko (hf42.mono zd_le)) rfl rfl fun v43 z43 hz43 ht43=>?_
 have hs43:=ht43 _ (hf42.mono (zd_le.trans (hz43)))
 refine R0 15 O (xT (rQ (.inl rfl) (rt rfl (rt rfl rn)) ?_))
 obtain rfl:i=0:=by omega
 rw [List.drop_zero,List.drop_zero] at hv0
 obtain ⟨e1,e2⟩:=parts_end hr hv0
 refine ⟨_,_,rfl,?_,?_⟩
 ·rw [e1];exact hs43
 rw [e2];exact hw.m
open Go.CE Go.RowKit Go.Num
open Go.Eng (setL)
theorem of_rem (n:Int):binW .rem (.int .i64 n) (.int .i64 4294967296)=some (.int .i64 (n.tmod 4294967296)):=by
 simp [binW,Go.Eng.binV,Go.Eng.need]
theorem of_t (n:Int):(n.tmod 4294967296=((n.natAbs % 4294967296:Nat):Int)∧n.tdiv 4294967296=((n.natAbs / 4294967296:Nat):Int))∨(n.tmod 4294967296 = -((n.natAbs % 4294967296:Nat):Int)∧n.tdiv 4294967296 = -((n.natAbs / 4294967296:Nat):Int)):=by
 obtain ⟨k,rfl | rfl⟩:=n.eq_nat_or_neg
 ·left
  rw [Int.natAbs_natCast]
  exact ⟨(Int.ofNat_tmod k 4294967296).symm,(Int.ofNat_tdiv k 4294967296).symm⟩
 right
 rw [Int.natAbs_neg,Int.natAbs_natCast,Int.neg_tmod,Int.neg_tdiv]
 exact ⟨congrArg Neg.neg (Int.ofNat_tmod k 4294967296).symm,congrArg Neg.neg (Int.ofNat_tdiv k 4294967296).symm⟩
theorem of_m1 (n:Int):(if -(n.tmod 4294967296) > n.tmod 4294967296 then -(n.tmod 4294967296) else n.tmod 4294967296)=((n.natAbs % 4294967296:Nat):Int):=by
 rcases of_t n with ⟨h,_⟩ | ⟨h,_⟩<;>rw [h]<;>split<;>omega
theorem of_m2 (n:Int):(if -(n.tdiv 4294967296) > n.tdiv 4294967296 then -(n.tdiv 4294967296) else n.tdiv 4294967296)=((n.natAbs / 4294967296:Nat):Int):=by
 rcases of_t n with ⟨_,h⟩ | ⟨_,h⟩<;>rw [h]<;>split<;>omega
theorem of_b1 (n:Int) : -9223372036854775808≤0 - n.tmod 4294967296∧0 - n.tmod 4294967296<9223372036854775808:=by
 rcases of_t n with ⟨h,_⟩ | ⟨h,_⟩<;>rw [h]<;>omega
theorem of_b2 {n:Int} (h1 : -9223372036854775808≤n) (h2:n<9223372036854775808) : -9223372036854775808≤0 - n.tdiv 4294967296∧0 - n.tdiv 4294967296<9223372036854775808:=by
 rcases of_t n with ⟨_,h⟩ | ⟨_,h⟩<;>rw [h]<;>omega
theorem of_b3 {n:Int} (h1 : -9223372036854775808≤n) (h2:n<9223372036854775808) : -9223372036854775808≤n.tdiv 4294967296∧n.tdiv 4294967296<9223372036854775808:=by
 have:=of_b2 h1 h2;rcases of_t n with ⟨_,h⟩ | ⟨_,h⟩<;>rw [h]<;>omega
theorem of_quo {n:Int} (h1 : -9223372036854775808≤n) (h2:n<9223372036854775808):binW .quo (.int .i64 n) (.int .i64 4294967296)=some (.int .i64 (n.tdiv 4294967296)):=by
 have:IntKind.i64.wrap (n.tdiv 4294967296)=n.tdiv 4294967296:=wi64 (of_b3 h1 h2)
 simp [binW,Go.Eng.binV,Go.Eng.need,this]
theorem sgn_m' {a:Int} (h:a<0) : -1=a.sign:=(Int.sign_eq_neg_one_of_neg h).symm
theorem sgn_p' {a:Int} (h:0<a):1=a.sign:=(Int.sign_eq_one_of_pos h).symm
theorem sgn_m {a b:Int} (ha:a<0) (hb:¬ b<0) : -1=(a - b).sign:=(Int.sign_eq_neg_one_of_neg (by omega)).symm
theorem sgn_p {a b:Int} (ha:¬ a<0) (hb:b<0):1=(a - b).sign:=(Int.sign_eq_one_of_pos (by omega)).symm
theorem cmp_neg {a b:Int} (ha:a<0) (hb:b<0):cmp3 b.natAbs a.natAbs=(a - b).sign:=by
 unfold cmp3
 split
 ·exact sgn_m' (by omega)
 split
 ·exact sgn_p' (by omega)
 rw [show a - b=0 by omega];rfl
theorem cmp_pos {a b:Int} (ha:¬ a<0) (hb:¬ b<0):cmp3 a.natAbs b.natAbs=(a - b).sign:=by
 unfold cmp3
 split
 ·exact sgn_m' (by omega)
 split
 ·exact sgn_p' (by omega)
 rw [show a - b=0 by omega];rfl
theorem sub_e {A B:Nat} {v:AV} {zz:Mem} {L:List UInt32} (h:(A<B→v=.tup [nilv,Ai 2])∧(B≤A→∃ v',v=.tup [v',Ai 0]∧SZ 1 RW zz v' L)):∃ (c:C) (e:Int),v=.tup [.c c,Ai e]∧(e=0↔B≤A)∧(B≤A→SZ 1 RW zz (.c c) L):=by
 rcases Nat.lt_or_ge A B with h1 | h1
 ·exact ⟨_,2,h.1 h1,⟨fun h=>absurd h (by decide),fun h=>absurd h (by omega)⟩,fun h=>absurd h (by omega)⟩
 obtain ⟨v',h2,h3⟩:=h.2 h1
 obtain ⟨c,rfl,_⟩:=h3.one
 exact ⟨c,0,h2,⟨fun _=>h1,fun _=>rfl⟩,fun _=>h3⟩
theorem lenS {a b k:Nat} (h1:(toL a).length≤k) (h2:(toL b).length≤k):(toL (a+b)).length≤k+1:=by
 refine toL_len.2 ?_
 have h3:=toL_len.1 h1
 have h4:=toL_len.1 h2
 have h7:Num.W ^ k * 2≤Num.W ^ k * Num.W:=Nat.mul_le_mul_left _ (by decide)
 rw [Nat.pow_succ]
 generalize Num.W ^ k * Num.W=X at *
 generalize Num.W ^ k=Y at *
 omega
theorem lenL3 {m:Nat}:(toL m).length=((toH m).length+1) / 2:=by rw [← pairs_toH,pairs_len]
theorem hlenL {m k:Nat} (h:(toL m).length≤k):(toH m).length≤2 * k:=by
 rw [lenL3] at h
 omega
theorem hlenM {a b k j:Nat} (h1:(toH a).length≤k) (h2:(toH b).length≤j):(toH (a * b)).length≤k+j:=by
 refine toH_len.2 ?_
 rw [Nat.pow_add]
 exact Nat.mul_lt_mul'' (toH_len.1 h1) (toH_len.1 h2)
theorem c_ref03_Right {k:Nat} (hk:1≤k) {z:Mem} {n:Bool} {c:C} {l:List UInt32} (hx:CZ 1 RW z c l):FC (E k) 233 [.agg [Cb n,c]] z fun v _=>v=Ab (rightI (n,l)):=by
 have hxl:=hx.le
 refine fc_of (tS_get233) (by omega) (len1 rfl) fun B j hj=>?_
 refine xR ?_
 refine fl_bx rfl fun b1=>?_
 refine R2 16 O (fl_ld1 rfl mem0 rfl (fl_lenS rfl hx (R3 4 O ?_)))
 refine xD rfl (fun hc6=>?_) (fun hc6=>?_)
 ·refine R4 8 O (fl_ld1 rfl mem0 rfl (R0 4 O (fx_rseq (rI O ?_))))
  have hl:l=[]:=List.eq_nil_of_length_eq_zero (by omega)
  subst hl
  rw [right_nil]
  rfl
 refine R4 8 O (fl_ld1 rfl mem0 rfl (lF rfl (fl_ld1 rfl mem0 rfl (fl_lenS rfl hx (lB rfl rfl (bI_sub (n:=l.length - 1) (by omega) (by omega)) ?_)))))
 refine fl_iadW rfl rfl hx (l.length - 1) (rfl) (by omega) fun p16 hp16=>?_
 refine fl_ldP rfl hp16 (R0 4 O (xT (rI O ?_)))
 rw [right_cons (by omega)]
 rfl
theorem c_ref03_plain {k:Nat} (hk:2≤k) {z:Mem} {n:Bool} {c:C} {l:List UInt32} (hx:CZ 1 RW z c l):FC (E k) 215 [.agg [Cb n,c]] z fun v _=>∃ c',v=.agg [Cb (decide (valI (n,l)<0)),c']∧∀ zz,CZ 1 RW zz c l→CZ 1 RW zz c' (toL (valI (n,l)).natAbs):=by
 refine fc_of (tS_get215) (by omega) (len1 rfl) fun B j hj=>?_
 refine xR ?_
 refine fl_bx rfl fun b1=>?_
 refine fl_al2 fun b2=>?_
 refine lN (R4 4 O (fl_ld2 rfl Y1 rfl ?_))
 refine lE z (c_ref03_Right (by omega) hx) O O fun z4 _=>?_
 refine R3 4 O ?_
 refine fx_condB rfl (fun hc5=>?_) (fun hc5=>?_)
 ·refine R4 4 O (fl_bd (cs:=[_,_]) rfl (fl_st2 rfl rfl rep0 (lN (fx_rseq (rQ (.inl rfl) (rc2 rfl mem0 rn) ?_)))))
  have h0:=of_no (n:=n) (l:=l) (by simpa using hc5)
  rw [h0]
  exact ⟨_,rfl,fun zz h=>by rw [show toL (0:Int).natAbs=[] from toL_zero];exact .nil⟩
 refine R4 4 O (fl_ld2 rfl Y1 rfl (fl_st2 rfl rfl rep0 (lN (xT (rQ (.inl rfl) (rc2 rfl mem0 rn) ?_)))))
 obtain ⟨e1,e2⟩:=of_ok (n:=n) (l:=l) (by simpa using hc5)
 refine ⟨c,?_,fun zz h=>by rw [← e2];exact h⟩
 rw [← e1]
 rfl
theorem c_ref03_made {k:Nat} (hk:4≤k) {z:Mem} {b:Bool} {c:C} {l:List UInt32} (hx:CZ 1 RW z c l) (h1:l.length≤1000000000):FC (E k) 210 [Ab b,.c c] z fun v z'=>IV (zd z z') v (sgn b (val l)):=by
 have hll:=len_canon (l:=l)
 refine fc_of (tS_get210) (by omega) (len1 rfl) fun B j hj=>?_
 refine xR ?_
 refine fl_al2 fun b4=>?_
 refine lN (R4 4 O ?_)
 refine lZ z (c_ref01_Trim (by omega) hx h1) rfl rfl fun v7 z7 _ h7=>?_
 obtain ⟨c7,rfl,_⟩:=h7.one
 refine R2 17 O ?_
 refine fl_splitB 9 rfl (fun hg9=>?_) (fun hg9=>?_)
 ·refine lD rfl (lM rfl (lD rfl (fl_lenS rfl (h7.mono zd_le) (R1 12 O (fl_bd (cs:=[_,_]) rfl (fl_st2 rfl rfl rep0 (lN (xT (rQ (.inl rfl) (rc2 rfl mem0 rn) ?_)))))))))
  exact iv_fin rfl (by rw [sgn_lt,hg9];rfl) h7
 refine R1 48 O (fl_bd (cs:=[_,_]) rfl (fl_st2 rfl rfl rep0 (lN (xT (rQ (.inl rfl) (rc2 rfl mem0 rn) ?_)))))
 exact iv_fin rfl (by rw [sgn_lt,hg9];rfl) h7
theorem c_ref03_Of {k:Nat} (hk:5≤k) {z:Mem} {n:Int} (h1 : -9223372036854775808≤n) (h2:n<9223372036854775808):FC (E k) 127 [Ai n] z fun v z'=>IV (zd z z') v n:=by
 refine fc_of (tS_get127) (by omega) (len1 rfl) fun B j hj=>?_
 refine xR ?_
 refine fl_al2 fun b2=>?_
 refine lN (R4 4 O (lB rfl rfl ((of_rem n)) (lC rfl (lB rfl rfl ((of_quo h1 h2)) (R2 128 O ?_)))))
 refine fl_un rfl (u_neg (r := -(n.tmod 4294967296)) (by rw [wi64 (of_b1 n)];omega)) ?_
 refine fl_mx (m:=((n.natAbs % 4294967296:Nat):Int)) rfl rfl (of_m1 n) (fl_cvi rfl (wD (rfl) (by omega)) (R1 4 O ?_))
 refine fl_un rfl (u_neg (r := -(n.tdiv 4294967296)) (by rw [wi64 (of_b2 h1 h2)];omega)) ?_
 refine fl_mx (m:=((n.natAbs / 4294967296:Nat):Int)) rfl rfl (of_m2 n) (fl_cvi rfl (wD (rfl) (by omega)) ?_)
 refine fl_bsl2 rfl rfl (Nat.mod_lt _ (by decide)) (by omega) rfl fun b21=>?_
 refine fl_frzBZ (n:=2) z z (p:=[]) rfl rfl zI (rfl) (by omega) fun zf21 hzf21 hf21=>?_
 refine lZ zf21 (c_ref03_made (by omega) (hf21.mono zd_le) (by simp)) rfl rfl fun v22 z22 _ hv22=>?_
 rw [val_two (by omega),of_sgn] at hv22
 obtain ⟨c22,rfl,h22⟩:=hv22
 have h22:=h22.mono (zAq (hzf21))
 refine fl_st2 rfl rfl rep0 (lN (xT (rQ (.inl rfl) (rc2 rfl mem0 rn) ?_)))
 exact ⟨_,rfl,h22⟩
theorem c_ref03_Cmp {k:Nat} (hk:4≤k) {z:Mem} {n1:Bool} {c1:C} {l1:List UInt32} (hx:CZ 1 RW z c1 l1) {n2:Bool} {c2:C} {l2:List UInt32} (hy:CZ 1 RW z c2 l2) (h1:l1.length≤100000000) (h2:l2.length≤100000000):FC (E k) 266 [.agg [Cb n1,c1],.agg [Cb n2,c2]] z fun v _=>v=.c (.v (.int .i64 (valI (n1,l1) - valI (n2,l2)).sign)):=by
 have e1:=Nat.le_trans (lenI (n:=n1) (l:=l1)) h1
 have e2:=Nat.le_trans (lenI (n:=n2) (l:=l2)) h2
 refine fc_of (tS_get266) (by omega) (len1 rfl) fun B j hj=>?_
 refine xR ?_
 refine fl_bx rfl fun b2=>?_
 refine fl_bx rfl fun b3=>?_
 refine R2 4 O (fl_ld2 rfl Y1 rfl ?_)
 refine lZ z (c_ref03_plain (by omega) hx) rfl rfl fun v6 z6 _ hv6=>?_
 obtain ⟨c6,rfl,hq6⟩:=hv6
 have h6:=hq6 _ (hx.mono (zJ z6))
 refine fl_st2 rfl rfl P1 (lN (xR (fl_ld2 rfl mem0 rfl ?_)))
 refine lZ z6 (c_ref03_plain (by omega) hy.m) rfl rfl fun v8 z8 _ hv8=>?_
 obtain ⟨c8,rfl,hq8⟩:=hv8
 have h8:=hq8 _ (hy.mono (zJ z8))
 refine fl_st2 rfl rfl rep0 (lN ?_)
 refine fx_seq (fx_block ?_)
 refine R4 4 O (fl_ld1 rfl Y1 rfl (lC rfl ?_))
 refine fl_splitD 12 rfl (fun hg12=>?_) (fun hg12=>?_)
 ·refine lD rfl (lF rfl (lD rfl (fl_ld1 rfl mem0 rfl (R0 12 O ?_))))
  refine fx_condN rfl (fun hc9=>?_) (fun hc9=>?_)
  ·refine R5 4 O (xT (sq_r ?_))
   exact rI O (congrArg (fun x=>AV.c (Ci x)) (sgn_m (by omega) (by omega)))
  refine R4 4 O (fl_ld1 rfl mem0 rfl (lC rfl ?_))
  refine fl_splitD 20 rfl (fun hg20=>?_) (fun hg20=>?_)
  ·refine lD rfl (lF rfl (lD rfl (fl_ld1 rfl Y1 rfl (R0 12 O ?_))))
   refine fx_condN rfl (fun hc17=>?_) (fun hc17=>?_)
   ·omega
   refine R4 4 O (fl_ld1 rfl Y1 rfl (R0 2 O ?_))
   refine xD rfl (fun hc25=>?_) (fun hc25=>?_)
   ·refine R4 4 O (fl_ld1 rfl mem0 rfl (lF rfl (fl_ld1 rfl Y1 rfl ?_)))
    refine lZ z8 (c_ref01_Cmp (by omega) h8 h6.m (by omega) (by omega)) rfl rfl fun v32 z32 _ hv32=>?_
    rw [val_toL,val_toL] at hv32
    refine R0 3 O (xT (sq_r (rI O ?_)))
    rw [cmp_neg (by omega) (by omega)] at hv32
    exact hv32
   omega
  omega
 refine R2 272 O (fl_ld1 rfl mem0 rfl (lC rfl ?_))
 refine fl_splitD 20 rfl (fun hg20=>?_) (fun hg20=>?_)
 ·refine lD rfl (lF rfl (lD rfl (fl_ld1 rfl Y1 rfl (R0 12 O ?_))))
  refine fx_condN rfl (fun hc17=>?_) (fun hc17=>?_)
  ·refine R5 4 O (xT (sq_r ?_))
   exact rI O (congrArg (fun x=>AV.c (Ci x)) (sgn_p (by omega) (by omega)))
  omega
 refine R2 272 O (fl_ld1 rfl Y1 rfl (R0 2 O ?_))
 refine xD rfl (fun hc25=>?_) (fun hc25=>?_)
 ·omega
 refine fx_skip (sq_n (R4 4 O (fl_ld1 rfl Y1 rfl (lF rfl (fl_ld1 rfl mem0 rfl ?_)))))
 refine lZ z8 (c_ref01_Cmp (by omega) h6.m h8 (by omega) (by omega)) rfl rfl fun v37 z37 _ hv37=>?_
 rw [val_toL,val_toL] at hv37
 refine R0 3 O (xT (rI O ?_))
 rw [cmp_pos (by omega) (by omega)] at hv37
 exact hv37
theorem c_ref03_Sign {k:Nat} (hk:5≤k) {z:Mem} {n:Bool} {c:C} {l:List UInt32} (hx:CZ 1 RW z c l) (h1:l.length≤100000000):FC (E k) 211 [.agg [Cb n,c]] z fun v _=>v=.c (.v (.int .i64 (valI (n,l)).sign)):=by
 refine fc_of (tS_get211) (by omega) (len1 rfl) fun B j hj=>?_
 refine xR ?_
 refine fl_bx rfl fun b1=>?_
 refine R2 4 O (fl_ld2 rfl mem0 rfl (fl_bd (cs:=[_,_]) rfl ?_))
 refine lZ z (c_ref03_Cmp (n2:=false) (l2:=[]) (by omega) hx .nil h1 (by simp)) rfl rfl fun v5 z5 _ hv5=>?_
 refine R0 3 O (xT (rI O ?_))
 rw [show valI (false,[])=0 from rfl,Int.sub_zero] at hv5
 exact hv5
theorem c_ref03_Neg {k:Nat} (hk:5≤k) {z:Mem} {n:Bool} {c:C} {l:List UInt32} (hx:CZ 1 RW z c l) (h1:l.length≤100000000):FC (E k) 212 [.agg [Cb n,c]] z fun v z'=>IV (zd z z') v (-valI (n,l)):=by
 have e1:=Nat.le_trans (lenI (n:=n) (l:=l)) h1
 refine fc_of (tS_get212) (by omega) (len1 rfl) fun B j hj=>?_
 refine xR ?_
 refine fl_bx rfl fun b1=>?_
 refine fl_al2 fun b2=>?_
 refine lN (fx_drwS (gl2 O O (.inr Y1) O ?_))
 refine gC z (c_ref03_plain (by omega) hx) O O O O fun v4 z4 hz4 hv4=>?_
 obtain ⟨c4,rfl,hq4⟩:=hv4
 have h4:=hq4 _ (hx.mono (zJ z4))
 refine gP rfl rfl trivial ?_
 refine fl_fld1 rfl rfl (lN ?_)
 refine G1 2 O (gl2 O O (.inr Y1) O ?_)
 refine gC z4 (c_ref03_plain (by omega) hx.m) O O O O fun v8 z8 hz8 hv8=>?_
 obtain ⟨c8,rfl,hq8⟩:=hv8
 have h8:=hq8 _ (hx.mono (zJ z8))
 refine gP rfl rfl trivial ?_
 refine fl_fld1 rfl rfl (lN ?_)
 refine gC z8 (c_ref03_made (by omega) h8 (by omega)) O O O O fun v10 z10 _ hv10=>?_
 rw [val_toL,neg_sgn] at hv10
 obtain ⟨c10,rfl,h10⟩:=hv10
 have h10:=h10.mono (zAq (hz4.trans hz8))
 refine gS O O O (fl_st2 rfl rfl rep0 (lN (fg_nil (xT (rQ (.inl rfl) (rc2 rfl mem0 rn) ?_)))))
 exact ⟨_,rfl,h10⟩
theorem c_ref03_Add {k:Nat} (hk:5≤k) {z:Mem} {n1:Bool} {c1:C} {l1:List UInt32} (hx:CZ 1 RW z c1 l1) {n2:Bool} {c2:C} {l2:List UInt32} (hy:CZ 1 RW z c2 l2) (h1:l1.length≤100000000) (h2:l2.length≤100000000):FC (E k) 133 [.agg [Cb n1,c1],.agg [Cb n2,c2]] z fun v z'=>IV (zd z z') v (valI (n1,l1)+valI (n2,l2)):=by
 have e1:=Nat.le_trans (lenI (n:=n1) (l:=l1)) h1
 have e2:=Nat.le_trans (lenI (n:=n2) (l:=l2)) h2
 refine fc_of (tS_get133) (by omega) (len1 rfl) fun B j hj=>?_
 refine xR ?_
 refine fl_bx rfl fun b2=>?_
 refine fl_bx rfl fun b3=>?_
 refine fl_al2 fun b4=>?_
 refine lN (xR (fl_ld2 rfl Y2 rfl ?_))
 refine lZ z (c_ref03_plain (by omega) hx) rfl rfl fun v8 z8 hz8 hv8=>?_
 obtain ⟨c8,rfl,hq8⟩:=hv8
 have h8:=hq8 _ (hx.mono (zJ z8))
 refine fl_st2 rfl rfl P2 (lN (xR (fl_ld2 rfl Y1 rfl ?_)))
 refine lZ z8 (c_ref03_plain (by omega) hy.m) rfl rfl fun v10 z10 hz10 hv10=>?_
 obtain ⟨c10,rfl,hq10⟩:=hv10
 have h10:=hq10 _ (hy.mono (zJ z10))
 refine fl_st2 rfl rfl P1 (lN (R4 8 O (fl_ld1 rfl Y2 rfl (lF rfl (fl_ld1 rfl Y1 rfl (fl_binB rfl rfl (b_eqlB _ _) (lN (fx_cseq ?_))))))))
 refine xD rfl (fun hc15=>?_) (fun hc15=>?_)
 ·refine fx_ss (fx_drwS (G1 2 O (gl1 O O (.inr Y2) O (G1 2 O (gl1 O O (.inr Y2) O (G1 2 O (gl1 O O (.inr Y1) O ?_)))))))
  refine gC z10 (c_ref01_Add (by omega) h8.m h10 (by omega) (by omega)) O O O O fun v22 z22 hz22 h22=>?_
  rw [val_toL,val_toL] at h22
  obtain ⟨c22,rfl,_⟩:=h22.one
  have h22:=h22.mono (zAq (hz8.trans hz10))
  have hl22:(toL ((valI (n1,l1)).natAbs+(valI (n2,l2)).natAbs)).length≤1000000000:=Nat.le_trans (lenS e1 e2) (by omega)
  refine gC z22 (c_ref03_made (by omega) (h22.mono zd_le) (by omega)) O O O O fun v23 z23 _ hv23=>?_
  rw [val_toL,plus_same hc15] at hv23
  obtain ⟨c23,rfl,h23⟩:=hv23
  have h23:=h23.mono (zAq (hz8.trans (hz10.trans hz22)))
  refine gS O O O (fl_st2 rfl rfl rep0 (lN (fg_nil (fx_rseq (rQ (.inl rfl) (rc2 rfl mem0 rn) ?_)))))
  exact ⟨_,rfl,h23⟩
 refine R4 8 O (fl_ld1 rfl Y2 rfl (lF rfl (fl_ld1 rfl Y1 rfl ?_)))
 refine lZ z10 (c_ref01_Sub (by omega) h8.m h10 (by omega) (by omega)) rfl rfl fun v29 z29 hz29 hv29=>?_
 rw [val_toL,val_toL] at hv29
 obtain ⟨c29,e29,rfl,he29,hs29⟩:=sub_e hv29
 refine R3 1177 O ?_
 refine xD rfl (fun hc33=>?_) (fun hc33=>?_)
 ·refine R4 4 O ?_
  have hs29:=hs29 (he29.1 hc33)
  have hs29:=hs29.mono (zAq (hz8.trans hz10))
  refine lF rfl (fl_ld1 rfl Y2 rfl (lM rfl ?_))
  have hl29:=len_le (Nat.sub_le (valI (n1,l1)).natAbs (valI (n2,l2)).natAbs)
  refine lZ z29 (c_ref03_made (by omega) (hs29.mono zd_le) (by omega)) rfl rfl fun v37 z37 _ hv37=>?_
  rw [val_toL,plus_ge hc15 (he29.1 hc33)] at hv37
  obtain ⟨c37,rfl,h37⟩:=hv37
  have h37:=h37.mono (zAq (hz8.trans (hz10.trans hz29)))
  refine fl_st2 rfl rfl rep0 (lN (fx_rseq (rQ (.inl rfl) (rc2 rfl mem0 rn) ?_)))
  exact ⟨_,rfl,h37⟩
 refine R4 4 O ?_
 have hlt:¬ (valI (n2,l2)).natAbs≤(valI (n1,l1)).natAbs:=fun h=>hc33 (he29.2 h)
 have hl43:=len_le (Nat.sub_le (valI (n2,l2)).natAbs (valI (n1,l1)).natAbs)
 refine lF rfl (fl_ld1 rfl Y1 rfl (lF rfl (fl_ld1 rfl Y2 rfl ?_)))
 refine lZ z29 (c_ref01_Sub (by omega) h10.m h8.m (by omega) (by omega)) rfl rfl fun v43 z43 hz43 ⟨_,hv43⟩=>?_
 rw [val_toL,val_toL] at hv43
 obtain ⟨w43,rfl,hr43⟩:=hv43 (by omega)
 obtain ⟨c43,rfl,_⟩:=hr43.one
 have hr43:=hr43.mono (zAq (hz8.trans (hz10.trans hz29)))
 refine R2 73 O (fl_ld1 rfl Y1 rfl (lM rfl ?_))
 refine lZ z43 (c_ref03_made (by omega) (hr43.mono zd_le) (by omega)) rfl rfl fun v49 z49 _ hv49=>?_
 rw [val_toL,plus_lt hc15 (by omega)] at hv49
 obtain ⟨c49,rfl,h49⟩:=hv49
 have h49:=h49.mono (zAq (hz8.trans (hz10.trans (hz29.trans hz43))))
 refine fl_st2 rfl rfl rep0 (lN (xT (rQ (.inl rfl) (rc2 rfl mem0 rn) ?_)))
 exact ⟨_,rfl,h49⟩
theorem c_ref03_Sub {k:Nat} (hk:6≤k) {z:Mem} {n1:Bool} {c1:C} {l1:List UInt32} (hx:CZ 1 RW z c1 l1) {n2:Bool} {c2:C} {l2:List UInt32} (hy:CZ 1 RW z c2 l2) (h1:l1.length≤100000000) (h2:l2.length≤100000000):FC (E k) 268 [.agg [Cb n1,c1],.agg [Cb n2,c2]] z fun v z'=>IV (zd z z') v (valI (n1,l1) - valI (n2,l2)):=by
 have e1:=Nat.le_trans (lenI (n:=n1) (l:=l1)) h1
 have e2:=Nat.le_trans (lenI (n:=n2) (l:=l2)) h2
 refine fc_of (tS_get268) (by omega) (len1 rfl) fun B j hj=>?_
 refine xR ?_
 refine fl_bx rfl fun b2=>?_
 refine fl_bx rfl fun b3=>?_
 refine fl_al2 fun b4=>?_
 refine lN (fx_drwS (gl2 O O (.inr Y2) O (gl2 O O (.inr Y1) O ?_)))
 refine gC z (c_ref03_Neg (by omega) hy h2) O O O O fun v7 z7 hz7 hv7=>?_
 obtain ⟨c7,rfl,h7⟩:=hv7
 refine gC z7 (c_ref03_Add (by omega) hx.m (h7.mono zd_le) h1 (by rw [Int.natAbs_neg];exact e2)) O O O O fun v8 z8 _ hv8=>?_
 rw [valI_c,← Int.sub_eq_add_neg] at hv8
 obtain ⟨c8,rfl,h8⟩:=hv8
 have h8:=h8.mono (zAq (hz7))
 refine gS O O O (fl_st2 rfl rfl rep0 (lN (fg_nil (xT (rQ (.inl rfl) (rc2 rfl mem0 rn) ?_)))))
 exact ⟨_,rfl,h8⟩
theorem c_ref03_Mul {k:Nat} (hk:5≤k) {z:Mem} {n1:Bool} {c1:C} {l1:List UInt32} (hx:CZ 1 RW z c1 l1) {n2:Bool} {c2:C} {l2:List UInt32} (hy:CZ 1 RW z c2 l2) (h1:l1.length≤100000000) (h2:l2.length≤100000000):FC (E k) 134 [.agg [Cb n1,c1],.agg [Cb n2,c2]] z fun v z'=>IV (zd z z') v (valI (n1,l1) * valI (n2,l2)):=by
 have e1:=Nat.le_trans (lenI (n:=n1) (l:=l1)) h1
 have e2:=Nat.le_trans (lenI (n:=n2) (l:=l2)) h2
 refine fc_of (tS_get134) (by omega) (len1 rfl) fun B j hj=>?_
 refine xR ?_
 refine fl_bx rfl fun b2=>?_
 refine fl_bx rfl fun b3=>?_
 refine fl_al2 fun b4=>?_
 refine lN (xR (fl_ld2 rfl Y2 rfl ?_))
 refine lZ z (c_ref03_plain (by omega) hx) rfl rfl fun v6 z6 hz6 hv6=>?_
 obtain ⟨c6,rfl,hq6⟩:=hv6
 have h6:=hq6 _ (hx.mono (zJ z6))
 refine fl_st2 rfl rfl P2 (lN (xR (fl_ld2 rfl Y1 rfl ?_)))
 refine lZ z6 (c_ref03_plain (by omega) hy.m) rfl rfl fun v8 z8 hz8 hv8=>?_
 obtain ⟨c8,rfl,hq8⟩:=hv8
 have h8:=hq8 _ (hy.mono (zJ z8))
 refine fl_st2 rfl rfl P1 (lN (fx_drwS (G1 2 O (gl1 O O (.inr Y2) O (G1 2 O (gl1 O O (.inr Y1) O (gP rfl rfl trivial ?_)))))))
 refine fl_binB rfl rfl (b_neqB _ _) (lN ?_)
 refine G1 2 O (gl1 O O (.inr Y2) O ?_)
 refine gC z8 (c_ref03_halves (by omega) h6.m (by omega)) O O O O fun v16 z16 hz16 h16=>?_
 have h16:=h16.mono (zAq (hz6.trans hz8))
 rw [val_toL] at h16
 refine G1 2 O (gl1 O O (.inr Y1) O ?_)
 refine gC z16 (c_ref03_halves (by omega) h8.m (by omega)) O O O O fun v19 z19 hz19 h19=>?_
 have h19:=h19.mono (zAq (hz6.trans (hz8.trans hz16)))
 rw [val_toL] at h19
 have f1:=hlenL e1
 have f2:=hlenL e2
 refine gC z19 (c_ref03_times (by omega) (ok_toH _) (ok_toH _) h16.m (h19.mono zd_le) (by omega) (by omega)) O O O O fun v20 z20 hz20 h20=>?_
 rw [hv_toH,hv_toH] at h20
 have f3:=hlenM f1 f2
 refine gC z20 (c_ref03_limbs (by omega) (ok_toH _) h20 (by omega)) O O O O fun v21 z21 hz21 h21=>?_
 rw [pairs_toH] at h21
 obtain ⟨c21,rfl,_⟩:=h21.one
 have h21:=h21.mono (zAq (hz6.trans (hz8.trans (hz16.trans (hz19.trans hz20)))))
 have f4:=lenL3 (m:=(valI (n1,l1)).natAbs * (valI (n2,l2)).natAbs)
 refine gC z21 (c_ref03_made (by omega) (h21.mono zd_le) (by omega)) O O O O fun v22 z22 _ hv22=>?_
 rw [val_toL,mul_sgn] at hv22
 obtain ⟨c22,rfl,h22⟩:=hv22
 have h22:=h22.mono (zAq (hz6.trans (hz8.trans (hz16.trans (hz19.trans (hz20.trans hz21))))))
 refine gS O O O (fl_st2 rfl rfl rep0 (lN (fg_nil (xT (rQ (.inl rfl) (rc2 rfl mem0 rn) ?_)))))
 exact ⟨_,rfl,h22⟩
end Go.Proofs.YtlceligcgelbdaaGreat

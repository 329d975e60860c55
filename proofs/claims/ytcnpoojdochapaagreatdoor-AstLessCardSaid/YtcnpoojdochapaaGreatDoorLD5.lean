/- Sums of money, shares and limits, walked. -/
import Derived.WalkKit
import Derived.Orders
import Derived.Test.YtcnpoojdochapaaGreatDoorLD4
set_option linter.unusedVariables false
set_option linter.unusedSimpArgs false
set_option maxRecDepth 100000
set_option maxHeartbeats 1000000
namespace Go.Proofs.YtcnpoojdochapaaGreatDoor
open Go.CE Go.RowKit Go.Num
open Go.Eng (setL)
theorem by_n {n d:Int} (hd:d≠0) (h1 : -9223372036854775808≤n) (h2:n<9223372036854775808):(toL (Rat.divInt n d).num.natAbs).length≤1000000000:=Nat.le_trans (len_le (divInt_le hd).1) (Nat.le_trans (len64 h1 h2) (by decide))
theorem by_d {n d:Int} (hd:d≠0) (h1 : -9223372036854775808≤d) (h2:d<9223372036854775808):(toL ((Rat.divInt n d).den:Int).natAbs).length≤1000000000:=Nat.le_trans (len_le (b:=d.natAbs) (by rw [Int.natAbs_natCast];exact (divInt_le hd).2)) (Nat.le_trans (len64 h1 h2) (by decide))
def RQ:RT RawR:=fun z cs x=>∃ c d,cs=[.v (.bool x.1.1),c,.v (.bool x.2.1),d]∧CZ 1 RW z c x.1.2∧CZ 1 RW z d x.2.2
instance:RMono RQ:=⟨⟨fun hz ⟨c,d,h,g0,g1⟩=>⟨c,d,h,g0.mono hz,g1.mono hz⟩,fun ⟨c,d,h,g0,g1⟩=>by rw [h];simp [sameL,sB,g0.refl,g1.refl]⟩⟩
theorem fl_ldA4 {call:Call'} {B:Base} {fs:Sf} {l:List I} {Q:Sf→Prop} {d:Nat} {x:Go.Eng.Od} {b p:Nat} {c0 c1 c2 c3:C} (hx:fs.ev x=.c (.ptr b p)) (ha:At fs.z b p [c0,c1,c2,c3]) (hw:FL call B l (fs.put d (.agg [c0,c1,c2,c3])) Q):FL call B (⟨some d,none,.load true 4 x⟩::l) fs Q:=fl_ldA (off:=0) hx ha rfl (by simp) rfl hw
theorem rq_one {z:Mem} {b ty:Nat} {n1 n2:Bool} {c1 c2:C} {l1 l2:List UInt32} (h:z b (.cells ty [.v (.bool n1),c1,.v (.bool n2),c2])) (hx:CZ 1 RW z c1 l1) (hy:CZ 1 RW z c2 l2):SZ 4 RQ z (.c (.sl b 0 1 4)) [((n1,l1),(n2,l2))]:=CL.sz (CL.one rfl ⟨c1,c2,rfl,hx,hy⟩) rfl (by decide) h
def maxF (q:Rat) (l:List Rat):Rat:=l.foldl (fun o y=>if o<y then y else o) q
theorem maxF_succ {q:Rat} {l:List Rat} {i:Nat} (h:i<l.length):maxF q (l.take (i+1))=if maxF q (l.take i)<l[i] then l[i] else maxF q (l.take i):=by
 unfold maxF
 rw [List.take_add_one,List.getElem?_eq_getElem h,List.foldl_append]
 rfl
theorem max_a {q v:Rat} {xs:List RawR} {i:Nat} (h:i<xs.length) (hq:q=maxF v ((xs.map Num.valR).take i)) (hc:q<Num.valR xs[i]):Num.valR xs[i]=maxF v ((xs.map Num.valR).take (i+1)):=by
 rw [maxF_succ (by rw [List.length_map];exact h),← hq,List.getElem_map,if_pos hc]
theorem max_b {q v:Rat} {xs:List RawR} {i:Nat} (h:i<xs.length) (hq:q=maxF v ((xs.map Num.valR).take i)) (hc:¬ q<Num.valR xs[i]):q=maxF v ((xs.map Num.valR).take (i+1)):=by
 rw [maxF_succ (by rw [List.length_map];exact h),← hq,List.getElem_map,if_neg hc]
theorem cmp_lt {p q:Rat}:(p.num * (q.den:Int) - q.num * (p.den:Int)).sign<0↔p<q:=sign_neg'.trans (by rw [Rat.lt_iff];omega)
theorem cmp_gt {p q:Rat}:(p.num * (q.den:Int) - q.num * (p.den:Int)).sign > 0↔q<p:=sign_pos'.trans (by rw [Rat.lt_iff];omega)
theorem cmp_le {p q:Rat}:(p.num * (q.den:Int) - q.num * (p.den:Int)).sign≤0↔p≤q:=by
 have h:=sign_pos' (a:=p.num * (q.den:Int) - q.num * (p.den:Int))
 rw [Rat.le_iff];omega
theorem len0n:(toL ((0:Int):Rat).num.natAbs).length≤9000001:=by rw [show toL ((0:Int):Rat).num.natAbs=[] from toL_zero];decide
theorem len0d:(toL (((0:Int):Rat).den:Int).natAbs).length≤9000001:=Nat.le_trans (m:=1) (toL_len.2 (by decide)) (by decide)
theorem add0 (q:Rat):q+((0:Int):Rat)=q:=Rat.add_zero q
theorem c_fil_limbs {k:Nat} (hk:1≤k) {z:Mem} {v:AV} {l:List UInt32} (hx:SZ 1 RW z v l) (hl:l.length≤1000000000):FC (E k) 31 [v] z fun v' z'=>SZ 1 RW (zd z z') v' l:=by
 refine fc_of (tS_get31) (by omega) (len1 rfl) fun B j hj=>?_
 refine xR (lC rfl (lN (xR (lC rfl (lN (xR (fl_row0 221 1 ?_)))))))
 refine lC rfl (lM rfl ?_)
 refine fl_appE (r:=[]) rfl rfl hx (fun _=>rep0) (by simp only [List.length_nil];omega) (by simp only [List.length_nil];omega) fun c6 hc6=>?_
 refine fl_frzRZ z z (p:=[]) rfl rfl (zle.refl _) (by simp only [List.length_append,List.length_nil];omega) fun zf6 hzf6 hf6=>?_
 refine lC rfl (lN (xT (rQ (.inl rfl) (rt rfl rn) ?_)))
 exact hf6
theorem c_fil_OfRat {k:Nat} (hk:2≤k) {z:Mem} {n1 n2:Bool} {c1 c2:C} {l1 l2:List UInt32} (hx:CZ 1 RW z c1 l1) (hy:CZ 1 RW z c2 l2) (h1:l1.length≤1000000000) (h2:l2.length≤1000000000):FC (E k) 24 [.agg [.v (.bool n1),c1,.v (.bool n2),c2]] z fun v z'=>∃ c d,v=.agg [.v (.bool n1),c,.v (.bool n2),d]∧CZ 1 RW (zd z z') c l1∧CZ 1 RW (zd z z') d l2:=by
 refine fc_of (tS_get24) (by omega) (len1 rfl) fun B j hj=>?_
 refine xR ?_
 refine fl_bx rfl fun b1=>?_
 refine fl_al4 fun b2=>?_
 refine lN (fx_drwS (gP rfl rfl trivial ?_))
 refine lF rfl (lN ?_)
 refine gP rfl rfl trivial ?_
 refine lF rfl (lN ?_)
 refine fg_ld1 (i:=⟨_,_,.load _ _ _⟩) rfl rfl trivial rfl (.inr (memS mem0)) rfl (by simp [sameA,sameL,sI,sB,sameC_nil,hx.refl,hy.refl]) ?_
 refine gP rfl rfl trivial ?_
 refine lF rfl (lN ?_)
 refine gP rfl rfl trivial ?_
 refine lF rfl (lN ?_)
 refine fg_ld1 (i:=⟨_,_,.load _ _ _⟩) rfl rfl trivial rfl (.inr (memS mem0)) rfl (by simp [sameA,sameL,sI,sB,sameC_nil,hx.refl,hy.refl]) ?_
 refine gZ z (i:=⟨_,_,.call _ _⟩) (c_fil_limbs (by omega) hx h1) rfl rfl trivial rfl rfl rfl rfl fun v9 z9 hz9 h9=>?_
 obtain ⟨c9,rfl,_⟩:=h9.one
 have h9:CZ 1 RW _ c9 _:=h9
 refine gP rfl rfl trivial ?_
 refine fl_bd (cs:=[_,_]) rfl (lN ?_)
 refine gP rfl rfl trivial ?_
 refine lF rfl (lN ?_)
 refine gP rfl rfl trivial ?_
 refine lF rfl (lN ?_)
 refine fg_ld1 (i:=⟨_,_,.load _ _ _⟩) rfl rfl trivial rfl (.inr (memS mem0)) rfl (by simp [sameA,sameL,sI,sB,sameC_nil,hx.refl,hy.refl,h9.refl]) ?_
 refine gP rfl rfl trivial ?_
 refine lF rfl (lN ?_)
 refine gP rfl rfl trivial ?_
 refine lF rfl (lN ?_)
 refine fg_ld1 (i:=⟨_,_,.load _ _ _⟩) rfl rfl trivial rfl (.inr (memS mem0)) rfl (by simp [sameA,sameL,sI,sB,sameC_nil,hx.refl,hy.refl,h9.refl]) ?_
 refine gZ z9 (i:=⟨_,_,.call _ _⟩) (c_fil_limbs (by omega) (hy.mono (hz9)) h2) rfl rfl trivial rfl rfl rfl rfl fun v17 z17 hz17 h17=>?_
 obtain ⟨c17,rfl,_⟩:=h17.one
 have h17:=h17.mono (zA (hz9))
 have h17:CZ 1 RW _ c17 _:=h17
 refine gP rfl rfl trivial ?_
 refine fl_bd (cs:=[_,_]) rfl (lN ?_)
 refine gP rfl rfl trivial ?_
 refine fl_bd (cs:=[_,_,_,_]) rfl (lN ?_)
 refine fg_store (i:=⟨_,_,.store _ _ _⟩) rfl trivial rfl rfl rfl rfl ?_
 refine fl_st4 rfl rfl rep0 (lN (fg_nil (xT (rQ (.inl rfl) (rc4 rfl mem0 rn) ?_))))
 exact ⟨_,_,rfl,(h9.mono (zd_mono (hz17))),h17⟩
theorem c_fil_By {k:Nat} (hk:10≤k) {z:Mem} {n d:Int} (h1 : -9223372036854775808≤n) (h2:n<9223372036854775808) (h3 : -9223372036854775808≤d) (h4:d<9223372036854775808) (hd:d≠0):FC (E k) 26 [.c (.v (.int .i64 n)),.c (.v (.int .i64 d))] z fun v z'=>QV (zd z z') v (Rat.divInt n d):=by
 refine fc_of (tS_get26) (by omega) (len1 rfl) fun B j hj=>?_
 refine xR ?_
 refine fl_al4 fun b4=>?_
 refine lN (xR (lC rfl (lC rfl ?_)))
 refine lZ z (c_ref04_Of (by omega) h1 h2 h3 h4 hd) rfl rfl fun v10 z10 hz10 hv10=>?_
 obtain ⟨w10,hv,hq10⟩:=hv10
 subst hv
 have hq10:=qv_op hq10
 obtain ⟨c10,d10,hv,hm10,hn10⟩:=hq10
 subst hv
 refine lM rfl (fl_ext rfl rfl (fl_ext rfl rfl ?_))
 refine fl_al4 fun b5=>?_
 refine fl_st4 rfl rfl rep0 (lM rfl (lN (xR (fl_ld4 rfl mem0 rfl ?_))))
 refine lZ z10 (c_fil_OfRat (by omega) (hm10.mono zd_le) (hn10.mono zd_le) (by_n hd h1 h2) (by_d hd h3 h4)) rfl rfl fun v14 z14 hz14 hv14=>?_
 obtain ⟨c14,d14,hv,hm14,hn14⟩:=hv14
 subst hv
 have hm14:=hm14.mono (zA (hz10))
 have hn14:=hn14.mono (zA (hz10))
 refine fl_st4 rfl rfl (repS rep0) (lN (xT (rQ (.inl rfl) (rc4 rfl (memS mem0) rn) ?_)))
 exact qv_eq rfl rfl hm14 hn14
theorem c_fil_money {k:Nat} (hk:11≤k) {z:Mem} {n:Int} (h1 : -9223372036854775808≤n) (h2:n<9223372036854775808):FC (E k) 84 [.c (.v (.int .i64 n))] z fun v z'=>QV (zd z z') v (Rat.divInt n 100):=by
 refine fc_of (tS_get84) (by omega) (len1 rfl) fun B j hj=>?_
 refine xR ?_
 refine fl_al4 fun b2=>?_
 refine lN (xR (lC rfl ?_))
 refine lZ z (c_fil_By (d:=100) (by omega) h1 h2 (by decide) (by decide) (by decide)) rfl rfl fun v4 z4 hz4 hv4=>?_
 have hv4:=qv_op hv4
 obtain ⟨c4,d4,hv,hm4,hn4⟩:=hv4
 subst hv
 refine fl_st4 rfl rfl rep0 (lN (xT (rQ (.inl rfl) (rc4 rfl mem0 rn) ?_)))
 exact qv_eq rfl rfl hm4 hn4
theorem c_fil_share {k:Nat} (hk:11≤k) {z:Mem} {n:Int} (h1 : -9223372036854775808≤n) (h2:n<9223372036854775808):FC (E k) 85 [.c (.v (.int .i64 n))] z fun v z'=>QV (zd z z') v (Rat.divInt n 10000):=by
 refine fc_of (tS_get85) (by omega) (len1 rfl) fun B j hj=>?_
 refine xR ?_
 refine fl_al4 fun b2=>?_
 refine lN (xR (lC rfl ?_))
 refine lZ z (c_fil_By (d:=10000) (by omega) h1 h2 (by decide) (by decide) (by decide)) rfl rfl fun v4 z4 hz4 hv4=>?_
 have hv4:=qv_op hv4
 obtain ⟨c4,d4,hv,hm4,hn4⟩:=hv4
 subst hv
 refine fl_st4 rfl rfl rep0 (lN (xT (rQ (.inl rfl) (rc4 rfl mem0 rn) ?_)))
 exact qv_eq rfl rfl hm4 hn4
theorem c_rat_than_more {k:Nat} (hk:11≤k) {z:Mem} {n1 n2:Bool} {c1 c2:C} {l1 l2:List UInt32} (hx:CZ 1 RW z c1 l1) (hy:CZ 1 RW z c2 l2) (h1:l1.length≤2000000) (h2:l2.length≤2000000) {n3 n4:Bool} {c3 c4:C} {l3 l4:List UInt32} (hu:CZ 1 RW z c3 l3) (hw:CZ 1 RW z c4 l4) (h3:l3.length≤2000000) (h4:l4.length≤2000000):FC (E k) 110 [.agg [.v (.bool n1),c1,.v (.bool n2),c2],.agg [.v (.bool n3),c3,.v (.bool n4),c4]] z fun v _=>v=.c (.v (.bool (decide ((valR ((n1,l1),(n2,l2)))<(valR ((n3,l3),(n4,l4))))))):=by
 refine fc_of (tS_get110) (by omega) (len1 rfl) fun B j hj=>?_
 refine xR ?_
 refine fl_bx rfl fun b2=>?_
 refine fl_bx rfl fun b3=>?_
 refine lC rfl (lN (xR (fl_ld4 rfl mem0 rfl (lF rfl (fl_ld4 rfl (memS mem0) rfl ?_)))))
 refine lZ z (c_rat_Cmp (by omega) hu hw (Nat.le_trans h3 (show 2000000≤9000000 by decide)) (Nat.le_trans h4 (show 2000000≤9000000 by decide)) hx hy (Nat.le_trans h1 (show 2000000≤9000000 by decide)) (Nat.le_trans h2 (show 2000000≤9000000 by decide))) rfl rfl fun v8 z8 hz8 hv8=>?_
 subst hv8
 refine lB rfl rfl (b_gtr _ _ _) (lC rfl (lN (xT (rQ (.inl rfl) (rt rfl rn) ?_))))
 exact congrArg (fun b=>AV.c (.v (.bool b))) (decide_eq_decide.2 cmp_gt)
theorem c_rat_Max_1 {k:Nat} (hk:1≤k) {z:Mem} {n1 n2:Bool} {c1 c2:C}:FC (E k) 109 [.agg [.v (.bool n1),c1,.v (.bool n2),c2]] z fun v _=>v=.c (.fn 110 [(true,[.v (.bool n1),c1,.v (.bool n2),c2])] []):=by
 refine fc_of (tS_get109) (by omega) (len1 rfl) fun B j hj=>?_
 refine xR ?_
 refine fl_bx rfl fun b1=>?_
 refine lC rfl (lN (xR (fl_ld4 rfl mem0 rfl (fl_mkf rfl rfl (lM rfl (lN (xT ?_)))))))
 refine rQ (.inl rfl) (rt rfl rn) ?_
 rfl
theorem c_rat_best {k:Nat} (hk:12≤k) {z:Mem} {n1 n2:Bool} {c1 c2:C} {l1 l2:List UInt32} (hx:CZ 1 RW z c1 l1) (hy:CZ 1 RW z c2 l2) (h1:l1.length≤1000000) (h2:l2.length≤1000000) {w:AV} {xs:List RawR} (hr:SZ 4 RQ z w xs) (hxs:∀ x,x∈xs→x.1.2.length≤1000000∧x.2.2.length≤1000000):FC (E k) 108 [.agg [.v (.bool n1),c1,.v (.bool n2),c2],w,.c (.fn 109 [] [])] z fun v z'=>QV z' v (maxF (valR ((n1,l1),(n2,l2))) (xs.map Num.valR)):=by
 have hxl:=hr.le
 have em1:(toL (valR ((n1,l1),(n2,l2))).num.natAbs).length≤1000000+1:=Nat.le_succ_of_le (Nat.le_trans lenN h1)
 have en1:(toL ((valR ((n1,l1),(n2,l2))).den:Int).natAbs).length≤1000000+1:=Nat.le_trans lenD (Nat.succ_le_succ h2)
 refine fc_of (tS_get108) (by omega) (len1 rfl) fun B j hj=>?_
 refine xR ?_
 refine fl_bx rfl fun b3=>?_
 refine fl_al4 fun b6=>?_
 refine lN (xR (fl_ld4 rfl (memS mem0) rfl ?_))
 refine lZ z (c_rat_right (by omega) hx hy (Nat.le_trans h1 (show 1000000≤20000000 by decide)) (Nat.le_trans h2 (show 1000000≤20000000 by decide))) rfl rfl fun v11 z11 hz11 hv11=>?_
 have hw11:=qv_op (hv11 _ (hx.mono (hz11)) (hy.mono (hz11)) zd_le)
 obtain ⟨c11,d11,hv,hm11,hn11⟩:=hw11
 subst hv
 refine lZ z11 (c_rat_Whole (n:=0) (by omega) (by decide) (by decide)) rfl rfl fun v12 z12 hz12 hv12=>?_
 have hv12:=qv_op hv12
 obtain ⟨c12,d12,hv,hm12,hn12⟩:=hv12
 subst hv
 have hm12:=hm12.mono (zA (hz11))
 have hn12:=hn12.mono (zA (hz11))
 refine lZ z12 (c_rat_add (by omega) (hm11.mono (hz12)) (hn11.mono (hz12)) (hm12.mono zd_le) (hn12.mono zd_le) (Nat.le_trans em1 (show 1000000+1≤9000001 by decide)) (Nat.le_trans en1 (show 1000000+1≤9000001 by decide)) len0n len0d) rfl rfl fun v13 z13 hz13 hv13=>?_
 rw [add0] at hv13
 have hv13:=qv_op hv13
 obtain ⟨c13,d13,hv,hm13,hn13⟩:=hv13
 subst hv
 have hm13:=hm13.mono (zA (hz11.trans hz12))
 have hn13:=hn13.mono (zA (hz11.trans hz12))
 refine fl_al4 fun b7=>?_
 refine fl_st4 rfl rfl rep0 (lN (fx_ss (xR (lM rfl (fl_lenS rfl (hr.mono (hz11.trans (hz12.trans hz13))) (lC rfl (lN ?_)))))))
 refine fx_seq (fx_block ?_)
 refine fx_loop (fun n fs=>∃ (i:Nat) (q:Rat) (cq:C) (dq:C) (zi:Mem),LZ z13 zi [.blk b7 (.cells 26 [.v (.bool (decide ((q).num<0))),cq,.v (.bool (decide ((((q).den:Nat):Int)<0))),dq]),.blk b6 (.cells 26 [.v (.bool false),.v (.slice none 0 0),.v (.bool false),.v (.slice none 0 0)]),.blk b3 (.cells 26 [.v (.bool n1),c1,.v (.bool n2),c2])] [(2,.c (.fn 109 [] [])),(6,.c (.ptr b6 0)),(7,.c (.ptr b7 0)),(14,w),(15,.c (.v (.int .i64 ((xs.length:Nat):Int)))),(16,.c (.v (.int .i64 ((i:Nat):Int))))] fs∧n=xs.length - i∧(i≤xs.length)∧(CZ 1 RW zi cq (toL q.num.natAbs))∧(CZ 1 RW zi dq (toL (q.den:Int).natAbs))∧((toL q.num.natAbs).length≤1000000+1)∧((toL (q.den:Int).natAbs).length≤1000000+1)∧(q=(maxF (valR ((n1,l1),(n2,l2))) ((xs.map Num.valR).take i)))) ?_ _ ⟨0,(valR ((n1,l1),(n2,l2))),_,_,_,LZ.mk [] (zle.refl _) (atc rfl (atc rfl (atc rfl (atc rfl (atc rfl (atc rfl atn)))))),rfl,Nat.zero_le _,(hm13.mono zd_le),(hn13.mono zd_le),em1,en1,rfl⟩ (by show _<18446744073709551616;omega)
 intro n fs hI
 obtain ⟨i,q,cq,dq,zi,hL0,hmz0,hi,hcq,hdq,hl1,hl2,hqm⟩:=hI
 refine hL0.open fun e hzi=>?_
 refine xR (lB rfl rfl (b_lss _ _ _) (lN (fx_cseq ?_)))
 refine xD rfl (fun hc17=>?_) (fun hc17=>?_)
 ·refine fx_kseq ?_
  refine fx_seq (fx_block ?_)
  refine xR ?_
  refine fl_iadS rfl rfl (hr.mono (hz11.trans (hz12.trans (hz13.trans hzi)))) i rfl _ (List.getElem?_eq_getElem (by omega)) fun b18 p18 cs18 at18 hR18=>?_
  obtain ⟨ci,di,hcs,hci,hdi⟩:=hR18
  subst hcs
  refine fl_ldA4 rfl at18 ?_
  have hxi:=hxs _ (List.getElem_mem (show i<xs.length by omega))
  refine fl_al4 fun b9=>?_
  refine fl_st4 rfl rfl rep0 (lN (fx_drwS ?_))
  have lv1:(toL (valR xs[i]).num.natAbs).length≤1000000+1:=Nat.le_succ_of_le (Nat.le_trans lenN hxi.1)
  have lv2:(toL ((valR xs[i]).den:Int).natAbs).length≤1000000+1:=Nat.le_trans lenD (Nat.succ_le_succ hxi.2)
  refine gP rfl rfl trivial ?_
  refine lC rfl (lN ?_)
  refine fg_ld4 (i:=⟨_,_,.load _ _ _⟩) rfl rfl trivial rfl (.inr (memS mem0)) rfl (by simp [sameA,sameL,sI,sB,sameC_nil,hx.refl,hy.refl,hcq.refl,hdq.refl,hm11.refl,hn11.refl,hm12.refl,hn12.refl,hm13.refl,hn13.refl,hci.refl,hdi.refl]) ?_
  refine gP rfl rfl trivial ?_
  refine fl_bd (cs:=[_,_,_,_]) rfl (lN ?_)
  refine fg_callvZ zi (i:=⟨_,_,.callv _ _⟩) rfl (c_rat_Max_1 (by omega)) rfl rfl trivial rfl rfl rfl rfl fun v23 z23 hz23 hv23=>?_
  subst hv23
  refine fg_ld4 (i:=⟨_,_,.load _ _ _⟩) rfl rfl trivial rfl (.inr mem0) rfl (by simp [sameA,sameL,sI,sB,sameC_nil,hx.refl,hy.refl,hcq.refl,hdq.refl,hm11.refl,hn11.refl,hm12.refl,hn12.refl,hm13.refl,hn13.refl,hci.refl,hdi.refl]) ?_
  refine fg_callvZ z23 (i:=⟨_,_,.callv _ _⟩) rfl (c_rat_than_more (by omega) (hcq.mono (hz23)) (hdq.mono (hz23)) (Nat.le_trans hl1 (by decide)) (Nat.le_trans hl2 (by decide)) (hci.mono (hz23)) (hdi.mono (hz23)) (Nat.le_trans hxi.1 (by decide)) (Nat.le_trans hxi.2 (by decide))) rfl rfl trivial rfl rfl rfl rfl fun v25 z25 hz25 hv25=>?_
  rw [valR_c] at hv25
  subst hv25
  refine fg_nil ?_
  refine xD rfl (fun hc25=>?_) (fun hc25=>?_)
  ·refine xG (fl_ld4 rfl mem0 rfl ?_)
   refine lZ z25 (c_rat_right (by omega) (hci.mono (hz23.trans hz25)) (hdi.mono (hz23.trans hz25)) (Nat.le_trans hxi.1 (show 1000000≤20000000 by decide)) (Nat.le_trans hxi.2 (show 1000000≤20000000 by decide))) rfl rfl fun v27 z27 hz27 hv27=>?_
   have hw27:=qv_op (hv27 _ (hci.mono (hz23.trans (hz25.trans hz27))) (hdi.mono (hz23.trans (hz25.trans hz27))) zd_le)
   obtain ⟨c27,d27,hv,hm27,hn27⟩:=hw27
   subst hv
   refine lZ z27 (c_rat_Whole (n:=0) (by omega) (by decide) (by decide)) rfl rfl fun v28 z28 hz28 hv28=>?_
   have hv28:=qv_op hv28
   obtain ⟨c28,d28,hv,hm28,hn28⟩:=hv28
   subst hv
   have hm28:=hm28.mono (zA (hz11.trans (hz12.trans (hz13.trans (hzi.trans (hz23.trans (hz25.trans hz27)))))))
   have hn28:=hn28.mono (zA (hz11.trans (hz12.trans (hz13.trans (hzi.trans (hz23.trans (hz25.trans hz27)))))))
   refine lZ z28 (c_rat_add (by omega) (hm27.mono (hz28)) (hn27.mono (hz28)) (hm28.mono zd_le) (hn28.mono zd_le) (Nat.le_trans lv1 (show 1000000+1≤9000001 by decide)) (Nat.le_trans lv2 (show 1000000+1≤9000001 by decide)) len0n len0d) rfl rfl fun v29 z29 hz29 hv29=>?_
   rw [add0] at hv29
   have hv29:=qv_op hv29
   obtain ⟨c29,d29,hv,hm29,hn29⟩:=hv29
   subst hv
   have hm29:=hm29.mono (zA (hz11.trans (hz12.trans (hz13.trans (hzi.trans (hz23.trans (hz25.trans (hz27.trans hz28))))))))
   have hn29:=hn29.mono (zA (hz11.trans (hz12.trans (hz13.trans (hzi.trans (hz23.trans (hz25.trans (hz27.trans hz28))))))))
   refine fl_st4 rfl rfl (repS rep0) (lN (sq_n (xG (lB rfl rfl (bI_add (n:=i+1) (by omega) (by omega)) (lC rfl (lN ?_))))))
   exact lq_n (by omega) ⟨i+1,(valR xs[i]),c29,d29,_,LZ.mk [_] (hzi.trans (hz23.trans (hz25.trans (hz27.trans (hz28.trans hz29))))) (atc rfl (atc rfl (atc rfl (atc rfl (atc rfl (atc rfl atn)))))),rfl,by omega,(hm29.mono zd_le),(hn29.mono zd_le),lv1,lv2,max_a (by omega) hqm hc25⟩
  ·refine fx_skip (sq_n (xG (lB rfl rfl (bI_add (n:=i+1) (by omega) (by omega)) (lC rfl (lN ?_)))))
   exact lq_n (by omega) ⟨i+1,q,cq,dq,_,LZ.mk [_] (hzi.trans (hz23.trans hz25)) (atc rfl (atc rfl (atc rfl (atc rfl (atc rfl (atc rfl atn)))))),rfl,by omega,(hcq.mono (hz23.trans hz25)),(hdq.mono (hz23.trans hz25)),hl1,hl2,max_b (by omega) hqm hc25⟩
 ·refine fx_eseq (lq_e (sq_n (xR (fl_ld4 rfl mem0 rfl (fl_st4 rfl rfl (repS rep0) (lN (xT ?_)))))))
  refine rQ (.inl rfl) (rc4 rfl (memS mem0) rn) ?_
  rw [List.take_of_length_le (by rw [List.length_map];omega)] at hqm
  exact qv_eq hqm rfl hcq hdq
theorem c_rat_Max {k:Nat} (hk:13≤k) {z:Mem} {n1 n2:Bool} {c1 c2:C} {l1 l2:List UInt32} (hx:CZ 1 RW z c1 l1) (hy:CZ 1 RW z c2 l2) (h1:l1.length≤1000000) (h2:l2.length≤1000000) {w:AV} {xs:List RawR} (hr:SZ 4 RQ z w xs) (hxs:∀ x,x∈xs→x.1.2.length≤1000000∧x.2.2.length≤1000000):FC (E k) 41 [.agg [.v (.bool n1),c1,.v (.bool n2),c2],w] z fun v z'=>QV z' v (maxF (valR ((n1,l1),(n2,l2))) (xs.map Num.valR)):=by
 refine fc_of (tS_get41) (by omega) (len1 rfl) fun B j hj=>?_
 refine xR ?_
 refine fl_bx rfl fun b2=>?_
 refine fl_al4 fun b4=>?_
 refine lN (xR (fl_ld4 rfl (memS mem0) rfl (lM rfl ?_)))
 refine lZ z (c_rat_best (by omega) hx hy h1 h2 hr hxs) rfl rfl fun v7 z7 hz7 hv7=>?_
 have hv7:=qv_op hv7
 obtain ⟨c7,d7,hv,hm7,hn7⟩:=hv7
 subst hv
 refine fl_st4 rfl rfl rep0 (lN (xT (rQ (.inl rfl) (rc4 rfl mem0 rn) ?_)))
 exact qv_eq rfl rfl hm7 hn7
open Go.CE Go.RowKit Go.Num
open Go.Eng (setL)
def unitsS (x:RawR) (m:Nat):Bool:=rightR x && decide (m % (Num.valR x).den=0)
abbrev topQ:Rat:=((1000000000000000:Int):Rat) * ((1000000000000000:Int):Rat)
def moneyS (x:RawR):Bool:=unitsS x 100 && (decide (Num.valR x<topQ) && decide (-Num.valR x<topQ))
def shareS (x:RawR):Bool:=unitsS x 1000000 && (decide (0≤Num.valR x) && decide (Num.valR x≤1))
theorem right_den {x y:RawI} (h:rightR (x,y)=true):valI y≠0:=by
 obtain ⟨_,_,h3,_⟩:=rightR_parts h
 show valI y≠0
 have:0<valI y:=h3
 omega
theorem units_no {x:RawR} {m:Nat} (h:rightR x=false):false=unitsS x m:=by simp [unitsS,h]
theorem units_ok {x y:RawI} {m:Nat} (h:rightR (x,y)=true):decide ((((m:Nat):Int).fmod (valI y)).sign=0)=unitsS (x,y) m:=by
 have e:=(num_of_right h).2
 have e2:valI y=((Num.valR (x,y)).den:Int):=e.symm
 rw [unitsS,h,Bool.true_and,e2]
 refine decide_eq_decide.2 ?_
 rw [Int.sign_eq_zero_iff_zero,Int.fmod_eq_emod_of_nonneg _ (Int.natCast_nonneg _)]
 omega
theorem topn:(toL ((1000000000000000:Int):Rat).num.natAbs).length≤9000000:=Nat.le_trans (m:=2) (toL_len.2 (by decide)) (by decide)
theorem topd:(toL (((1000000000000000:Int):Rat).den:Int).natAbs).length≤9000000:=Nat.le_trans (m:=2) (toL_len.2 (by decide)) (by decide)
theorem one1:(toL ((1:Int):Rat).num.natAbs).length≤9000000:=Nat.le_trans (m:=2) (toL_len.2 (by decide)) (by decide)
theorem one2:(toL (((1:Int):Rat).den:Int).natAbs).length≤9000000:=Nat.le_trans (m:=2) (toL_len.2 (by decide)) (by decide)
theorem topQ_eq:topQ=((1000000000000000000000000000000:Int):Rat):=by rw [topQ,← Rat.intCast_mul];rfl
theorem tt1:(toL topQ.num.natAbs).length≤9000000:=by rw [topQ_eq];exact Nat.le_trans (m:=4) (toL_len.2 (by decide)) (by decide)
theorem tt2:(toL (topQ.den:Int).natAbs).length≤9000000:=by rw [topQ_eq];exact Nat.le_trans (m:=2) (toL_len.2 (by decide)) (by decide)
theorem maxF1 {a b:Rat}:maxF a [b]=if a<b then b else a:=rfl
theorem max2n {q:Rat} {k:Nat} (h:(toL q.num.natAbs).length≤k):(toL (if q < -q then -q else q).num.natAbs).length≤k:=by
 split
 ·rw [Rat.neg_num,Int.natAbs_neg];exact h
 ·exact h
theorem max2d {q:Rat} {k:Nat} (h:(toL (q.den:Int).natAbs).length≤k):(toL ((if q < -q then -q else q).den:Int).natAbs).length≤k:=by
 split
 ·rw [Rat.neg_den];exact h
 ·exact h
theorem rlt {a b c:Rat} (h1:a≤b) (h2:b<c):a<c:=Rat.not_le.1 fun h=>Rat.not_le.2 h2 (Rat.le_trans h h1)
theorem max_lt {q t:Rat}:(if q < -q then -q else q)<t↔q<t∧-q<t:=by
 split
 ·rename_i h
  exact ⟨fun g=>⟨rlt (Rat.le_of_lt h) g,g⟩,fun g=>g.2⟩
 ·rename_i h
  exact ⟨fun g=>⟨g,rlt (Rat.not_lt.1 h) g⟩,fun g=>g.1⟩
theorem money_no {x:RawR} (h:unitsS x 100=false):false=moneyS x:=by simp [moneyS,h]
theorem money_ok {x:RawR} (h:unitsS x 100=true):decide (((if Num.valR x < -Num.valR x then -Num.valR x else Num.valR x).num * (topQ.den:Int) - topQ.num * ((if Num.valR x < -Num.valR x then -Num.valR x else Num.valR x).den:Int)).sign<0)=moneyS x:=by
 rw [moneyS,h,Bool.true_and,← Bool.decide_and]
 exact decide_eq_decide.2 (cmp_lt.trans max_lt)
theorem sgn_ge {q:Rat}:q.num.sign ≥ 0↔0≤q:=by
 have:=sign_neg' (a:=q.num)
 rw [← Rat.num_nonneg]
 omega
theorem share_n1 {x:RawR} (h:unitsS x 1000000=false):false=shareS x:=by simp [shareS,h]
theorem share_n2 {x:RawR} (h:¬ (Num.valR x).num.sign ≥ 0):false=shareS x:=by
 rw [sgn_ge] at h
 simp [shareS,h]
theorem share_ok {x:RawR} {y:Int} (h:unitsS x 1000000=true) (h2:(Num.valR x).num.sign ≥ 0) (h3:y≤0↔Num.valR x≤((1:Int):Rat)):decide (y≤0)=shareS x:=by
 rw [sgn_ge] at h2
 rw [shareS,h,Bool.true_and,decide_eq_true h2,Bool.true_and]
 exact decide_eq_decide.2 h3
theorem len2 {n:Int} (h1 : -9223372036854775808≤n) (h2:n<9223372036854775808):(toL n.natAbs).length≤2:=toL_len.2 (by show _<4294967296 ^ 2;omega)
theorem c_ast_units {k:Nat} (hk:9≤k) {z:Mem} {n1 n2:Bool} {c1 c2:C} {l1 l2:List UInt32} (hx:CZ 1 RW z c1 l1) (hy:CZ 1 RW z c2 l2) (h1:l1.length≤1000) (h2:l2.length≤1000) {m:Nat} (hm:m<1000000000):FC (E k) 37 [.agg [.v (.bool n1),c1,.v (.bool n2),c2],.c (.v (.int .i64 ((m:Nat):Int)))] z fun v _=>v=.c (.v (.bool (unitsS ((n1,l1),(n2,l2)) m))):=by
 refine fc_of (tS_get37) (by omega) (len1 rfl) fun B j hj=>?_
 refine xR ?_
 refine fl_bx rfl fun b2=>?_
 refine lC rfl (lN (fx_ss (xR (fl_ld4 rfl mem0 rfl ?_))))
 refine lZ z (c_rat_Right (by omega) hx hy (Nat.le_trans h1 (show 1000≤20000000 by decide)) (Nat.le_trans h2 (show 1000≤20000000 by decide))) rfl rfl fun v9 z9 hz9 hv9=>?_
 subst hv9
 refine fl_un rfl (u_not _) (lN (fx_cseq ?_))
 refine fx_condB rfl (fun hc10=>?_) (fun hc10=>?_)
 ·refine fx_ss (xR (lC rfl (lN (fx_rseq (rQ (.inl rfl) (rt rfl rn) ?_)))))
  exact congrArg (fun b=>AV.c (.v (.bool b))) (units_no (by simpa using hc10))
 ·refine fx_kseq (fx_drwS ?_)
  have hrr:rightR ((n1,l1),(n2,l2))=true:=by simpa using hc10
  have hb:=right_den hrr
  refine gP rfl rfl trivial ?_
  refine lC rfl (lN ?_)
  refine gZ z9 (i:=⟨_,_,.call _ _⟩) (c_big_Of (n:=(m:Nat)) (by omega) (by omega) (by omega)) rfl rfl trivial rfl rfl rfl rfl fun v13 z13 hz13 hv13=>?_
  obtain ⟨c13,hv,h13⟩:=hv13
  subst hv
  have h13:=h13.mono (zA (hz9))
  refine gP rfl rfl trivial ?_
  refine lF rfl (lN ?_)
  refine fg_ld2 (i:=⟨_,_,.load _ _ _⟩) rfl rfl trivial rfl (.inr mem0) rfl (by simp [sameA,sameL,sI,sB,sameC_nil,hx.refl,hy.refl,h13.refl]) ?_
  refine gZ z13 (i:=⟨_,_,.call _ _⟩) (c_big_DivMod (by omega) (h13.mono zd_le) (hy.mono (hz9.trans hz13)) (Nat.le_trans (len2 (n:=(m:Nat)) (by omega) (by omega)) (by decide)) (Nat.le_trans h2 (by decide)) hb) rfl rfl trivial rfl rfl rfl rfl fun v16 z16 hz16 hv16=>?_
  rw [valI_c] at hv16
  obtain ⟨v1,v2,hv,hp16,hr16⟩:=hv16
  subst hv
  obtain ⟨c16,hv,h16⟩:=hp16
  subst hv
  obtain ⟨d16,hv,g16⟩:=hr16
  subst hv
  have h16:=h16.mono (zA (hz9.trans hz13))
  have g16:=g16.mono (zA (hz9.trans hz13))
  refine gP rfl rfl trivial ?_
  refine lM rfl (lN ?_)
  refine gP rfl rfl trivial ?_
  refine fl_ext rfl rfl (lN ?_)
  refine gP rfl rfl trivial ?_
  refine fl_ext rfl rfl (lN ?_)
  refine gP rfl rfl trivial ?_
  refine fl_ext rfl rfl (lN ?_)
  refine fg_own (k:=.cells 24 [.v ((.bool false)),.v ((.slice none 0 0))]) (w:=fun b=>.c (.ptr b 0)) rfl trivial rfl (fun _=>rfl) (fun st hst=>rfl) (fun b5 hT5=>?_)
  refine fg_own (k:=.cells 24 [.v ((.bool false)),.v ((.slice none 0 0))]) (w:=fun b=>.c (.ptr b 0)) rfl trivial rfl (fun _=>rfl) (fun st hst=>rfl) (fun b6 hT6=>?_)
  refine fg_store (i:=⟨_,_,.store _ _ _⟩) rfl trivial rfl rfl rfl rfl ?_
  refine fl_st2 rfl rfl (repS rep0) (lN ?_)
  refine fg_store (i:=⟨_,_,.store _ _ _⟩) rfl trivial rfl rfl rfl rfl ?_
  refine fl_st2 rfl rfl rep0 (lN (gP rfl rfl trivial ?_))
  refine lM rfl (lN ?_)
  refine fg_nil (xR (lM rfl (lB rfl rfl (b_eql _ _ _) (lC rfl ?_))))
  refine fl_splitD 22 rfl (fun hg22=>?_) (fun hg22=>?_)
  ·refine lD rfl (fl_ld2 rfl mem0 rfl (lD rfl ?_))
   refine lZ z16 (c_big_Sign (by omega) (g16.mono zd_le)) rfl rfl fun v24 z24 hz24 hv24=>?_
   rw [valI_c] at hv24
   subst hv24
   refine lD rfl (lB rfl rfl (b_eql _ _ _) (lP rfl rfl (lM rfl (lN (xT (rQ (.inl rfl) (rt rfl rn) ?_))))))
   exact congrArg (fun b=>AV.c (.v (.bool b))) (units_ok hrr)
  ·exact absurd rfl hg22
theorem c_ast_IsMoney {k:Nat} (hk:14≤k) {z:Mem} {n1 n2:Bool} {c1 c2:C} {l1 l2:List UInt32} (hx:CZ 1 RW z c1 l1) (hy:CZ 1 RW z c2 l2) (h1:l1.length≤1000) (h2:l2.length≤1000):FC (E k) 11 [.agg [.v (.bool n1),c1,.v (.bool n2),c2]] z fun v _=>v=.c (.v (.bool (moneyS ((n1,l1),(n2,l2))))):=by
 have em1:=Nat.le_trans (lenN (x:=((n1,l1),(n2,l2)))) h1
 have en1:=Nat.le_trans (lenD (x:=((n1,l1),(n2,l2)))) (Nat.succ_le_succ h2)
 refine fc_of (tS_get11) (by omega) (len1 rfl) fun B j hj=>?_
 refine xR ?_
 refine fl_bx rfl fun b1=>?_
 refine lC rfl (lN (fx_ss (xR (fl_ld4 rfl mem0 rfl ?_))))
 refine lZ z (c_ast_units (m:=100) (by omega) hx hy h1 h2 (by decide)) rfl rfl fun v5 z5 hz5 hv5=>?_
 subst hv5
 refine fl_un rfl (u_not _) (lN (fx_cseq ?_))
 refine fx_condB rfl (fun hc6=>?_) (fun hc6=>?_)
 ·refine fx_ss (xR (lC rfl (lN (fx_rseq (rQ (.inl rfl) (rt rfl rn) ?_)))))
  exact congrArg (fun b=>AV.c (.v (.bool b))) (money_no (by simpa using hc6))
 ·refine fx_kseq (xR ?_)
  refine lZ z5 (c_rat_Whole (n:=1000000000000000) (by omega) (by decide) (by decide)) rfl rfl fun v7 z7 hz7 hv7=>?_
  have hv7:=qv_op hv7
  obtain ⟨c7,d7,hv,hm7,hn7⟩:=hv7
  subst hv
  have hm7:=hm7.mono (zA (hz5))
  have hn7:=hn7.mono (zA (hz5))
  refine fl_al4 fun b3=>?_
  refine fl_st4 rfl rfl rep0 (lN (xR (fl_ld4 rfl mem0 rfl (fl_ld4 rfl mem0 rfl ?_))))
  refine lZ z7 (c_rat_Mul (by omega) (hm7.mono zd_le) (hn7.mono zd_le) topn topd (hm7.mono zd_le) (hn7.mono zd_le) topn topd) rfl rfl fun v10 z10 hz10 hv10=>?_
  rw [valR_c] at hv10
  have hv10:=qv_op hv10
  obtain ⟨c10,d10,hv,hm10,hn10⟩:=hv10
  subst hv
  have hm10:=hm10.mono (zA (hz5.trans hz7))
  have hn10:=hn10.mono (zA (hz5.trans hz7))
  refine fl_st4 rfl rfl rep0 (lN (fx_drwS ?_))
  refine fg_ld4 (i:=⟨_,_,.load _ _ _⟩) rfl rfl trivial rfl (.inr (memS mem0)) rfl (by simp [sameA,sameL,sI,sB,sameC_nil,hx.refl,hy.refl,hm7.refl,hn7.refl,hm10.refl,hn10.refl]) ?_
  refine fg_ld4 (i:=⟨_,_,.load _ _ _⟩) rfl rfl trivial rfl (.inr (memS mem0)) rfl (by simp [sameA,sameL,sI,sB,sameC_nil,hx.refl,hy.refl,hm7.refl,hn7.refl,hm10.refl,hn10.refl]) ?_
  refine gZ z10 (i:=⟨_,_,.call _ _⟩) (c_rat_Neg (by omega) (hx.mono (hz5.trans (hz7.trans hz10))) (hy.mono (hz5.trans (hz7.trans hz10))) (Nat.le_trans h1 (show 1000≤9000000 by decide)) (Nat.le_trans h2 (show 1000≤9000000 by decide))) rfl rfl trivial rfl rfl rfl rfl fun v13 z13 hz13 hv13=>?_
  have hv13:=qv_op hv13
  obtain ⟨c13,d13,hv,hm13,hn13⟩:=hv13
  subst hv
  have hm13:=hm13.mono (zA (hz5.trans (hz7.trans hz10)))
  have hn13:=hn13.mono (zA (hz5.trans (hz7.trans hz10)))
  refine fg_own (k:=.cells 26 [.v (.bool (decide ((-(Num.valR ((n1,l1),(n2,l2)))).num<0))),c13,.v (.bool (decide ((((-(Num.valR ((n1,l1),(n2,l2)))).den:Nat):Int)<0))),d13]) (w:=fun b=>.c (.sl b 0 1 4)) rfl trivial rfl (fun _=>rfl) (fun st hst=>?_) (fun b14 hT14=>?_)
  ·simp only [stepE,fillS,AS.ev,hst 13 (by simp [Ins.sl,Od.sls,Od.sl])];rfl
  refine fg_frzZ z13 (p:=[]) rfl rfl rfl (fun _ h=>h) fun zfg14 hzfg14 g14=>?_
  have hrow:=rq_one (n1:=decide ((-(Num.valR ((n1,l1),(n2,l2)))).num<0)) (n2:=decide (((-(Num.valR ((n1,l1),(n2,l2)))).den:Int)<0)) g14 (hm13.mono (zd_le.trans (hzfg14))) (hn13.mono (zd_le.trans (hzfg14)))
  have nn1:(toL (-(Num.valR ((n1,l1),(n2,l2)))).num.natAbs).length≤1000000:=by rw [Rat.neg_num,Int.natAbs_neg];exact Nat.le_trans em1 (by decide)
  have nn2:(toL ((-(Num.valR ((n1,l1),(n2,l2)))).den:Int).natAbs).length≤1000000:=by rw [Rat.neg_den];exact Nat.le_trans en1 (by decide)
  refine gZ zfg14 (i:=⟨_,_,.call _ _⟩) (c_rat_Max (by omega) (hx.mono (hz5.trans (hz7.trans (hz10.trans (hz13.trans hzfg14))))) (hy.mono (hz5.trans (hz7.trans (hz10.trans (hz13.trans hzfg14))))) (Nat.le_trans h1 (show 1000≤1000000 by decide)) (Nat.le_trans h2 (show 1000≤1000000 by decide)) hrow (by intro x hx;rw [List.mem_singleton.1 hx];exact ⟨nn1,nn2⟩)) rfl rfl trivial rfl rfl rfl rfl fun v15 z15 hz15 hv15=>?_
  rw [show List.map Num.valR [((decide ((-(Num.valR ((n1,l1),(n2,l2)))).num<0),toL (-(Num.valR ((n1,l1),(n2,l2)))).num.natAbs),(decide (((-(Num.valR ((n1,l1),(n2,l2)))).den:Int)<0),toL ((-(Num.valR ((n1,l1),(n2,l2)))).den:Int).natAbs))]=[-(Num.valR ((n1,l1),(n2,l2)))] from by rw [List.map_singleton,valR_c],maxF1] at hv15
  have hv15:=qv_op hv15
  obtain ⟨c15,d15,hv,hm15,hn15⟩:=hv15
  subst hv
  have mx1:=max2n (q:=(Num.valR ((n1,l1),(n2,l2)))) (k:=9000000) (Nat.le_trans em1 (by decide))
  have mx2:=max2d (q:=(Num.valR ((n1,l1),(n2,l2)))) (k:=9000000) (Nat.le_trans en1 (by decide))
  refine fg_ld4 (i:=⟨_,_,.load _ _ _⟩) rfl rfl trivial rfl (.inr mem0) rfl (by simp [sameA,sameL,sI,sB,sameC_nil,hx.refl,hy.refl,hm7.refl,hn7.refl,hm10.refl,hn10.refl,hm13.refl,hn13.refl,hm15.refl,hn15.refl]) ?_
  refine gZ z15 (i:=⟨_,_,.call _ _⟩) (c_rat_Cmp (by omega) hm15 hn15 mx1 mx2 (hm10.mono (zd_le.trans (hz13.trans (hzfg14.trans hz15)))) (hn10.mono (zd_le.trans (hz13.trans (hzfg14.trans hz15)))) tt1 tt2) rfl rfl trivial rfl rfl rfl rfl fun v17 z17 hz17 hv17=>?_
  rw [valR_c,valR_c] at hv17
  subst hv17
  refine gP rfl rfl trivial ?_
  refine lB rfl rfl (b_lss _ _ _) (lN ?_)
  refine gP rfl rfl trivial ?_
  refine lC rfl (lN ?_)
  refine fg_nil (xT (rQ (.inl rfl) (rt rfl rn) ?_))
  exact congrArg (fun b=>AV.c (.v (.bool b))) (money_ok (by simpa using hc6))
theorem c_ast_IsShare {k:Nat} (hk:11≤k) {z:Mem} {n1 n2:Bool} {c1 c2:C} {l1 l2:List UInt32} (hx:CZ 1 RW z c1 l1) (hy:CZ 1 RW z c2 l2) (h1:l1.length≤1000) (h2:l2.length≤1000):FC (E k) 13 [.agg [.v (.bool n1),c1,.v (.bool n2),c2]] z fun v _=>v=.c (.v (.bool (shareS ((n1,l1),(n2,l2))))):=by
 refine fc_of (tS_get13) (by omega) (len1 rfl) fun B j hj=>?_
 refine xR ?_
 refine fl_bx rfl fun b1=>?_
 refine lC rfl (lN (fx_drwS ?_))
 refine fg_ld4 (i:=⟨_,_,.load _ _ _⟩) rfl rfl trivial rfl (.inr mem0) rfl (by simp [sameA,sameL,sI,sB,sameC_nil,hx.refl,hy.refl]) ?_
 refine gZ z (i:=⟨_,_,.call _ _⟩) (c_ast_units (m:=1000000) (by omega) hx hy h1 h2 (by decide)) rfl rfl trivial rfl rfl rfl rfl fun v4 z4 hz4 hv4=>?_
 subst hv4
 refine gP rfl rfl trivial ?_
 refine lM rfl (lN ?_)
 refine fg_splitB 5 rfl (fun hg5=>?_) (fun hg5=>?_)
 ·refine fg_ld4 (i:=⟨_,_,.load _ _ _⟩) rfl rfl rfl rfl (.inr mem0) rfl (by simp [sameA,sameL,sI,sB,sameC_nil,hx.refl,hy.refl]) ?_
  refine gZ z4 (i:=⟨_,_,.call _ _⟩) (c_rat_Sign (by omega) (hx.mono (hz4)) (hy.mono (hz4)) (Nat.le_trans h1 (show 1000≤20000000 by decide)) (Nat.le_trans h2 (show 1000≤20000000 by decide))) rfl rfl rfl rfl rfl rfl rfl fun v7 z7 hz7 hv7=>?_
  subst hv7
  refine gP rfl rfl rfl ?_
  refine lB rfl rfl (b_geq _ _ _) (lN ?_)
  refine gP rfl rfl trivial ?_
  refine lP rfl rfl (lN ?_)
  refine gP rfl rfl trivial ?_
  refine lM rfl (lN ?_)
  refine fg_splitD 10 rfl (fun hg10=>?_) (fun hg10=>?_)
  ·refine fg_ld4 (i:=⟨_,_,.load _ _ _⟩) rfl rfl rfl rfl (.inr mem0) rfl (by simp [sameA,sameL,sI,sB,sameC_nil,hx.refl,hy.refl]) ?_
   refine gZ z7 (i:=⟨_,_,.call _ _⟩) (c_rat_Whole (n:=1) (by omega) (by decide) (by decide)) rfl rfl rfl rfl rfl rfl rfl fun v12 z12 hz12 hv12=>?_
   have hv12:=qv_op hv12
   obtain ⟨c12,d12,hv,hm12,hn12⟩:=hv12
   subst hv
   have hm12:=hm12.mono (zA (hz4.trans hz7))
   have hn12:=hn12.mono (zA (hz4.trans hz7))
   refine gZ z12 (i:=⟨_,_,.call _ _⟩) (c_rat_Cmp (by omega) (hx.mono (hz4.trans (hz7.trans hz12))) (hy.mono (hz4.trans (hz7.trans hz12))) (Nat.le_trans h1 (show 1000≤9000000 by decide)) (Nat.le_trans h2 (show 1000≤9000000 by decide)) (hm12.mono zd_le) (hn12.mono zd_le) one1 one2) rfl rfl rfl rfl rfl rfl rfl fun v13 z13 hz13 hv13=>?_
   rw [valR_c] at hv13
   subst hv13
   refine gP rfl rfl rfl ?_
   refine lB rfl rfl (b_leq _ _ _) (lN ?_)
   refine gP rfl rfl trivial ?_
   refine lP rfl rfl (lN ?_)
   refine gP rfl rfl trivial ?_
   refine lM rfl (lN ?_)
   refine fg_nil (xT (rQ (.inl rfl) (rt rfl rn) ?_))
   exact congrArg (fun b=>AV.c (.v (.bool b))) (share_ok hg5 hg10 cmp_le)
  ·refine fg_off rfl rfl (.inl rfl) (fg_off rfl rfl (.inl rfl) (fg_off rfl rfl (.inl rfl) (fg_off rfl rfl (.inl rfl) (gP rfl rfl trivial ?_))))
   refine lP rfl rfl (lN ?_)
   refine gP rfl rfl trivial ?_
   refine lM rfl (lN ?_)
   refine fg_nil (xT (rQ (.inl rfl) (rt rfl rn) ?_))
   exact congrArg (fun b=>AV.c (.v (.bool b))) (share_n2 hg10)
 ·refine fg_off rfl rfl (.inl rfl) (fg_off rfl rfl (.inl rfl) (fg_off rfl rfl (.inl rfl) (gP rfl rfl trivial ?_)))
  refine lP rfl rfl (lN ?_)
  refine gP rfl rfl trivial ?_
  refine lM rfl (lN ?_)
  refine fg_off rfl rfl (.inl rfl) (fg_off rfl rfl (.inl rfl) (fg_off rfl rfl (.inl rfl) (fg_off rfl rfl (.inl rfl) (gP rfl rfl trivial ?_))))
  refine lP rfl rfl (lN ?_)
  refine gP rfl rfl trivial ?_
  refine lM rfl (lN ?_)
  refine fg_nil (xT (rQ (.inl rfl) (rt rfl rn) ?_))
  exact congrArg (fun b=>AV.c (.v (.bool b))) (share_n1 hg5)
end Go.Proofs.YtcnpoojdochapaaGreatDoor

/- The reference's rules, walked. -/
import Derived.WalkKit
import Derived.Orders
import Derived.Test.YtlceligcgelbdaaGreatNF3
set_option linter.unusedVariables false
set_option linter.unusedSimpArgs false
set_option maxRecDepth 100000
set_option maxHeartbeats 1000000
namespace Go.Proofs.YtlceligcgelbdaaGreat
open Go.CE Go.RowKit Go.Num
open Go.Eng (setL)
def eB (n:Int):Value:=.int .u8 n
instance:RMono (RE eB):=⟨fun _ h=>h⟩
theorem am_no {k0:Int} {l:List Int} {i:Nat} {a:Int} (h:¬ k0∈l.take i) (ha:l[i]? = some a) (hn:¬ a=k0):¬ k0∈l.take (i+1):=by
 rw [tk_some ha,List.mem_append]
 rintro (g | g)
 ·exact h g
 simp at g;exact hn g.symm
theorem am_yes {k0:Int} {l:List Int} {i:Nat} {a:Int} (ha:l[i]? = some a) (h:a=k0):true=decide (k0∈l):=(decide_eq_true (h ▸ List.mem_of_getElem? ha)).symm
theorem bk_a {k:Int} {t:Rat} (h:k∈[1,3,8,10]):t=bk k t:=by
 simp at h
 unfold bk
 rw [if_pos (by omega)]
theorem bk_b {k:Int} {t:Rat} (g:¬ k∈[1,3,8,10]) (h:k∈[2,4,5,6,7,9,11]) : -t=bk k t:=by
 simp at h g
 unfold bk
 rw [if_neg (by omega),if_pos (by omega)]
theorem bk_c {k:Int} {t:Rat} (g:¬ k∈[1,3,8,10]) (h:¬ k∈[2,4,5,6,7,9,11]):0=bk k t:=by
 simp at h g
 unfold bk
 rw [if_neg (by omega),if_neg (by omega)]
theorem c_ref17_zero {k:Nat} (hk:7≤k) {z:Mem}  : FC (E k) 139 [] z fun v z'=>QV (zd z z') v 0:=by
 refine fc_of (tS_get139) (by omega) (len1 rfl) fun B j hj=>?_
 refine xR ?_
 refine fl_al4 fun b0=>?_
 refine lN ?_
 refine xR ?_
 refine lZ z (c_ref04_Whole (n:=0) (by omega) (by decide) (by decide)) rfl rfl fun v1 z1 _ hv1=>?_
 have hv1:=qv_op hv1
 obtain ⟨c1,d1,hv,hm1,hn1⟩:=hv1
 subst hv
 refine fl_st4 rfl rfl rep0 ?_
 refine lN ?_
 refine xT ?_
 refine rQ (.inl rfl) (rc4 rfl mem0 rn) ?_
 exact qv_eq rfl rfl hm1 hn1
theorem c_ref17_among {k:Nat} (hk:1≤k) {z:Mem} {k0:Int} {v:AV} {l:List Int} (hx:SZ 1 (RE eB) z v l):FC (E k) 232 [.c (Cu k0),v] z fun u _=>u=bool_ (decide (k0∈l)):=by
 have hxl:=hx.le
 refine fc_of (tS_get232) (by omega) (len1 rfl) fun B j hj=>?_
 refine R5 32 O ?_
 refine fx_seq (fx_block ?_)
 refine fx_loop (fun n fs=>∃ (i:Nat),LI z [] [(0,.c (Cu k0)),(1,v),(5,Az i)] fs∧n=l.length - i∧(i≤l.length)∧(¬ k0∈l.take i)) ?_ _ ⟨0,LI.m [] O,rfl,Nat.zero_le _,by simp⟩ (kK (by omega))
 intro n fs ⟨i,hL0,hmz0,hi,hno⟩
 refine hL0.open fun e zl0 _=>?_
 refine R4 24 O ?_
 refine fl_lenS rfl hx ?_
 refine R3 4 O ?_
 refine xD rfl (fun hc9=>?_) (fun hc9=>?_)
 ·refine fx_kseq ?_
  refine fx_seq (fx_block ?_)
  refine R4 10 O ?_
  refine fl_iadE (zz:=zl0) (e:=eB) rfl rfl hx.m i rfl (by omega) fun p14 hp14=>?_
  refine fl_ldP rfl hp14 ?_
  refine R0 4 O ?_
  refine xD rfl (fun hc17=>?_) (fun hc17=>?_)
  ·refine R5 4 O ?_
   refine xT ?_
   refine sq_r ?_
   refine lq_r ?_
   refine sq_r ?_
   exact rI O (congrArg bool_ (am_yes (List.getElem?_eq_getElem (by omega)) hc17))
  refine fx_skip ?_
  refine sq_n ?_
  refine xG ?_
  refine lC rfl ?_
  refine lB rfl rfl (bI_add (n:=i+1) (by omega) (by omega)) ?_
  refine R0 2 O ?_
  exact lq_n (by omega) ⟨i+1,LI.m [] O,rfl,by omega,am_no hno (List.getElem?_eq_getElem (by omega)) hc17⟩
 refine fx_eseq ?_
 refine lq_e ?_
 refine sq_n ?_
 refine R5 4 O ?_
 refine xT ?_
 refine rI O ?_
 rw [List.take_of_length_le (by omega)] at hno
 exact congrArg bool_ (decide_eq_false hno).symm
theorem c_ref17_book {k:Nat} (hk:9≤k) {z:Mem} {x:PIt} {c0 c1 c2 c3:C} (y0:CZ 1 RW z c0 x.arg.nm) (y1:CZ 1 RW z c1 x.arg.dm) (y2:CZ 1 RW z c2 x.tot.nm) (y3:CZ 1 RW z c3 x.tot.dm) (h0:x.arg.nm.length≤999∧x.arg.dm.length≤999) (h1:x.tot.nm.length≤999∧x.tot.dm.length≤999):FC (E k) 140 [.agg [Cu x.kind,Cb x.arg.n,c0,Cb x.arg.d,c1,Cb x.tot.n,c2,Cb x.tot.d,c3]] z fun v z'=>QV z' v (bk x.kind (rv x.tot)):=by
 refine fc_of (tS_get140) (by omega) (len1 rfl) fun B j hj=>?_
 refine xR ?_
 refine fl_bx rfl fun b1=>?_
 refine fl_al4 fun b2=>?_
 refine lN ?_
 refine R4 4 O ?_
 refine fl_ld4 rfl Y1 rfl ?_
 refine lZ z (c_ref04_Plain (by omega) y2 y3 (Nat.le_trans h1.1 (by decide)) (Nat.le_trans h1.2 (by decide))) rfl rfl fun v6 z6 hz6 hv6=>?_
 have hw6:=qv_op (hv6 _ y2.m y3.m zd_le)
 obtain ⟨c6,d6,hv,hm6,hn6⟩:=hw6
 subst hv
 refine fl_al4 fun b3=>?_
 refine fl_st4 rfl rfl rep0 ?_
 refine lN ?_
 refine R4 8 O ?_
 refine fl_ld1 rfl Y2 rfl ?_
 refine fl_bslice (cs:=[Cu 1,Cu 3,Cu 8,Cu 10]) rfl fun b9=>?_
 refine fl_frzZ z6 (p:=[]) rfl rfl rfl (fun _ h=>h) fun zff9 hzff9 f9=>?_
 refine lE zff9 (c_ref17_among (by omega) ((cE_cl (e:=eB) (l:=[1,3,8,10])).sz rfl (by decide) f9)) O O fun z10 hz10=>?_
 refine lN ?_
 refine fx_cseq ?_
 refine xD rfl (fun hc10=>?_) (fun hc10=>?_)
 ·refine R4 4 O ?_
  refine fl_ld4 rfl mem0 rfl ?_
  refine fl_st4 rfl rfl P1 ?_
  refine lN ?_
  refine fx_rseq ?_
  refine rQ (.inl rfl) (rc4 rfl Y1 rn) ?_
  exact qv_eq (bk_a hc10) rfl hm6.m hn6.m
 refine R4 16 O ?_
 refine fl_ld1 rfl Y2 rfl ?_
 refine fl_bslice (cs:=[Cu 2,Cu 4,Cu 5,Cu 6,Cu 7,Cu 9,Cu 11]) (by kernel_rfl) fun b14=>?_
 refine fl_frzZ z10 (p:=[]) rfl rfl rfl (fun _ h=>h) fun zff14 hzff14 f14=>?_
 refine lE zff14 (c_ref17_among (by omega) ((cE_cl (e:=eB) (l:=[2,4,5,6,7,9,11])).sz rfl (by decide) f14)) O O fun z15 hz15=>?_
 refine lN ?_
 refine fx_cseq ?_
 refine xD rfl (fun hc15=>?_) (fun hc15=>?_)
 ·refine R4 4 O ?_
  refine fl_ld4 rfl mem0 rfl ?_
  refine lZ z15 (c_ref04_Neg (by omega) hm6.m hn6.m (Nat.le_trans (lenN (x:=((x.tot.n,x.tot.nm),(x.tot.d,x.tot.dm)))) (Nat.le_trans h1.1 (by decide))) (Nat.le_trans (lenD (x:=((x.tot.n,x.tot.nm),(x.tot.d,x.tot.dm)))) (Nat.le_trans (Nat.succ_le_succ h1.2) (by decide)))) rfl rfl fun v17 z17 _ hv17=>?_
  have hw17:=hv17 _ hm6.m hn6.m zd_le
  rw [valR_c] at hw17
  have hw17:=qv_op hw17
  obtain ⟨c17,d17,hv,hm17,hn17⟩:=hw17
  subst hv
  refine fl_st4 rfl rfl P1 ?_
  refine lN ?_
  refine fx_rseq ?_
  refine rQ (.inl rfl) (rc4 rfl Y1 rn) ?_
  exact qv_eq (bk_b hc10 hc15) rfl hm17 hn17
 refine R4 4 O ?_
 refine lZ z15 (c_ref17_zero (by omega)) rfl rfl fun v18 z18 _ hv18=>?_
 have hw18:=qv_op hv18
 obtain ⟨c18,d18,hv,hm18,hn18⟩:=hw18
 subst hv
 have hm18:=hm18.mono (zAq (hz6.trans (hzff9.trans (hz10.trans (hzff14.trans hz15)))))
 have hn18:=hn18.mono (zAq (hz6.trans (hzff9.trans (hz10.trans (hzff14.trans hz15)))))
 refine fl_st4 rfl rfl P1 ?_
 refine lN ?_
 refine xT ?_
 refine rQ (.inl rfl) (rc4 rfl Y1 rn) ?_
 exact qv_eq (bk_c hc10 hc15) rfl (hm18.mono zd_le) (hn18.mono zd_le)
open Go.CE Go.RowKit Go.Num
open Go.Eng (setL)
theorem ml_lb {p q:Rat} {a b:Nat} (h:LB a p) (g:LB b q):LB (a+b) (p * q):=mul_lb h.1 h.2 g.1 g.2
theorem sb_lb {p q:Rat} {a b:Nat} (h:LB a p) (g:LB b q):LB (a+b+1) (p - q):=by
 rw [Rat.sub_eq_add_neg]
 exact add_len h.1 h.2 (lb_neg g).1 (lb_neg g).2
theorem lb_s2 {p q:Rat} {i:Nat} (h:LB (1+i * 4001) p) (g:LB 4000 q):LB (1+(i+1) * 4001) (p+q):=by
 have:=add_len h.1 h.2 g.1 g.2
 exact ⟨Nat.le_trans this.1 (by omega),Nat.le_trans this.2 (by omega)⟩
theorem bk_lb {k:Int} {x:PRat} (h:x.nm.length≤999∧x.dm.length≤999):LB 4000 (bk k (rv x)):=by
 have lt:LB 4000 (rv x):=⟨Nat.le_trans lenN (Nat.le_trans h.1 (by decide)),Nat.le_trans lenD (Nat.le_trans (Nat.succ_le_succ h.2) (by decide))⟩
 unfold bk
 split
 ·exact lt
 split
 ·exact lb_neg lt
 exact lb_0 _
theorem c_ref17_base {k:Nat} (hk:12≤k) {z:Mem} {x:PIt} {c0 c1 c2 c3:C} (y0:CZ 1 RW z c0 x.arg.nm) (y1:CZ 1 RW z c1 x.arg.dm) (y2:CZ 1 RW z c2 x.tot.nm) (y3:CZ 1 RW z c3 x.tot.dm) (h0:x.arg.nm.length≤999∧x.arg.dm.length≤999) (h1:x.tot.nm.length≤999∧x.tot.dm.length≤999):FC (E k) 141 [.agg [Cu x.kind,Cb x.arg.n,c0,Cb x.arg.d,c1,Cb x.tot.n,c2,Cb x.tot.d,c3]] z fun v z'=>∃ q:Rat,QV z' v q∧LB 4000 q:=by
 have lt:LB 1000 (Num.valR ((x.tot.n,x.tot.nm),(x.tot.d,x.tot.dm))):=⟨Nat.le_trans lenN (Nat.le_trans h1.1 (by decide)),Nat.le_trans lenD (Nat.succ_le_succ h1.2)⟩
 have la:LB 1000 (Num.valR ((x.arg.n,x.arg.nm),(x.arg.d,x.arg.dm))):=⟨Nat.le_trans lenN (Nat.le_trans h0.1 (by decide)),Nat.le_trans lenD (Nat.succ_le_succ h0.2)⟩
 refine fc_of (tS_get141) (by omega) (len1 rfl) fun B j hj=>?_
 refine xR ?_
 refine fl_bx rfl fun b1=>?_
 refine fl_al4 fun b2=>?_
 refine lN ?_
 refine R4 4 O ?_
 refine fl_ld4 rfl Y1 rfl ?_
 refine lZ z (c_ref04_Plain (by omega) y2 y3 (Nat.le_trans h1.1 (by decide)) (Nat.le_trans h1.2 (by decide))) rfl rfl fun v7 z7 hz7 hv7=>?_
 have hw7:=qv_op (hv7 _ y2.m y3.m zd_le)
 obtain ⟨c7,d7,hv,hm7,hn7⟩:=hw7
 subst hv
 refine fl_al4 fun b3=>?_
 refine fl_st4 rfl rfl rep0 ?_
 refine lN ?_
 refine R4 4 O ?_
 refine fl_ld4 rfl Y2 rfl ?_
 refine lZ z7 (c_ref04_Plain (by omega) y0.m y1.m (Nat.le_trans h0.1 (by decide)) (Nat.le_trans h0.2 (by decide))) rfl rfl fun v10 z10 hz10 hv10=>?_
 have hw10:=qv_op (hv10 _ y0.m y1.m zd_le)
 obtain ⟨c10,d10,hv,hm10,hn10⟩:=hw10
 subst hv
 refine fl_al4 fun b4=>?_
 refine fl_st4 rfl rfl rep0 ?_
 refine lN ?_
 refine R4 8 O ?_
 refine fl_ld1 rfl Y3 rfl ?_
 refine lN ?_
 refine fx_seq (fx_block ?_)
 refine R5 32 O ?_
 refine xD rfl (fun hc13=>?_) (fun hc13=>?_)
 ·refine fx_kseq ?_
  refine xD rfl (fun hc13=>?_) (fun hc13=>?_)
  ·refine xR ?_
   refine fl_ld4 rfl Y1 rfl ?_
   refine fl_st4 rfl rfl P2 ?_
   refine lN ?_
   refine xT ?_
   refine sq_r ?_
   refine rQ (.inl rfl) (rc4 rfl Y2 rn) ?_
   exact ⟨_,⟨_,_,rfl,hm7.m,hn7.m⟩,lb_up lt⟩
  contradiction
 refine R5 8 O ?_
 refine xD rfl (fun hc13=>?_) (fun hc13=>?_)
 ·refine xR ?_
  refine fl_ld4 rfl Y1 rfl ?_
  refine fl_st4 rfl rfl P2 ?_
  refine lN ?_
  refine xT ?_
  refine sq_r ?_
  refine rQ (.inl rfl) (rc4 rfl Y2 rn) ?_
  exact ⟨_,⟨_,_,rfl,hm7.m,hn7.m⟩,lb_up lt⟩
 refine R5 32 O ?_
 refine xD rfl (fun hc17=>?_) (fun hc17=>?_)
 ·refine fx_kseq ?_
  refine xD rfl (fun hc17=>?_) (fun hc17=>?_)
  ·refine xR ?_
   refine fl_ld4 rfl Y1 rfl ?_
   refine lZ z10 (c_ref04_Neg (by omega) hm7.m hn7.m (g_1 lt (by decide)) (g_2 lt (by decide))) rfl rfl fun v21 z21 hz21 hv21=>?_
   have hw21:=hv21 _ hm7.m hn7.m zd_le
   rw [valR_c] at hw21
   have hw21:=qv_op hw21
   obtain ⟨c21,d21,hv,hm21,hn21⟩:=hw21
   subst hv
   refine fl_st4 rfl rfl P2 ?_
   refine lN ?_
   refine xT ?_
   refine sq_r ?_
   refine rQ (.inl rfl) (rc4 rfl Y2 rn) ?_
   exact ⟨_,⟨_,_,rfl,hm21,hn21⟩,lb_up (lb_neg lt)⟩
  contradiction
 refine R5 8 O ?_
 refine xD rfl (fun hc17=>?_) (fun hc17=>?_)
 ·refine xR ?_
  refine fl_ld4 rfl Y1 rfl ?_
  refine lZ z10 (c_ref04_Neg (by omega) hm7.m hn7.m (g_1 lt (by decide)) (g_2 lt (by decide))) rfl rfl fun v21 z21 hz21 hv21=>?_
  have hw21:=hv21 _ hm7.m hn7.m zd_le
  rw [valR_c] at hw21
  have hw21:=qv_op hw21
  obtain ⟨c21,d21,hv,hm21,hn21⟩:=hw21
  subst hv
  refine fl_st4 rfl rfl P2 ?_
  refine lN ?_
  refine xT ?_
  refine sq_r ?_
  refine rQ (.inl rfl) (rc4 rfl Y2 rn) ?_
  exact ⟨_,⟨_,_,rfl,hm21,hn21⟩,lb_up (lb_neg lt)⟩
 refine R5 8 O ?_
 refine xD rfl (fun hc22=>?_) (fun hc22=>?_)
 ·refine fx_drwS ?_
  refine gl4 O O (.inr Y1) O ?_
  refine gl4 O O Ht O ?_
  refine gC z10 (c_ref04_Mul (by omega) hm7.m hn7.m (g_1 lt (by decide)) (g_2 lt (by decide)) hm10 hn10 (g_1 la (by decide)) (g_2 la (by decide))) O O O O fun v26 z26 hz26 hv26=>?_
  rw [valR_c,valR_c] at hv26
  have hw26:=qv_op hv26
  obtain ⟨c26,d26,hv,hm26,hn26⟩:=hw26
  subst hv
  have hm26:=hm26.mono (zAq (hz7.trans hz10))
  have hn26:=hn26.mono (zAq (hz7.trans hz10))
  refine gl4 O O (.inr Y1) O ?_
  refine gC z26 (c_ref04_Sub (by omega) (hm26.mono zd_le) (hn26.mono zd_le) (g_1 (ml_lb lt la) (by decide)) (g_2 (ml_lb lt la) (by decide)) hm7.m hn7.m (g_1 lt (by decide)) (g_2 lt (by decide))) O O O O fun v28 z28 _ hv28=>?_
  rw [valR_c,valR_c] at hv28
  have hw28:=qv_op hv28
  obtain ⟨c28,d28,hv,hm28,hn28⟩:=hw28
  subst hv
  have hm28:=hm28.mono (zAq (hz7.trans (hz10.trans hz26)))
  have hn28:=hn28.mono (zAq (hz7.trans (hz10.trans hz26)))
  refine gS O O O ?_
  refine fl_st4 rfl rfl P2 ?_
  refine lN ?_
  refine fg_nil ?_
  refine xT ?_
  refine sq_r ?_
  refine rQ (.inl rfl) (rc4 rfl Y2 rn) ?_
  exact ⟨_,⟨_,_,rfl,(hm28.mono zd_le),(hn28.mono zd_le)⟩,lb_up (sb_lb (ml_lb lt la) lt)⟩
 refine R5 8 O ?_
 refine xD rfl (fun hc29=>?_) (fun hc29=>?_)
 ·refine R4 4 O ?_
  refine fl_ld4 rfl Y1 rfl ?_
  refine fl_ld4 rfl mem0 rfl ?_
  refine lE z10 (c_ref04_Cmp (by omega) hm7.m hn7.m (g_1 lt (by decide)) (g_2 lt (by decide)) hm10 hn10 (g_1 la (by decide)) (g_2 la (by decide))) O O fun z33 _=>?_
  refine R3 4 O ?_
  refine xD rfl (fun hc34=>?_) (fun hc34=>?_)
  ·refine R4 4 O ?_
   refine fl_ld4 rfl mem0 rfl ?_
   refine lZ z33 (c_ref04_Neg (by omega) hm10.m hn10.m (g_1 la (by decide)) (g_2 la (by decide))) rfl rfl fun v36 z36 _ hv36=>?_
   have hw36:=hv36 _ hm10.m hn10.m zd_le
   rw [valR_c] at hw36
   have hw36:=qv_op hw36
   obtain ⟨c36,d36,hv,hm36,hn36⟩:=hw36
   subst hv
   refine fl_st4 rfl rfl P2 ?_
   refine lN ?_
   refine fx_rseq ?_
   refine sq_r ?_
   refine rQ (.inl rfl) (rc4 rfl Y2 rn) ?_
   exact ⟨_,⟨_,_,rfl,hm36,hn36⟩,lb_up (lb_neg la)⟩
  refine R4 4 O ?_
  refine fl_ld4 rfl Y1 rfl ?_
  refine lZ z33 (c_ref04_Neg (by omega) hm7.m hn7.m (g_1 lt (by decide)) (g_2 lt (by decide))) rfl rfl fun v38 z38 _ hv38=>?_
  have hw38:=hv38 _ hm7.m hn7.m zd_le
  rw [valR_c] at hw38
  have hw38:=qv_op hw38
  obtain ⟨c38,d38,hv,hm38,hn38⟩:=hw38
  subst hv
  refine fl_st4 rfl rfl P2 ?_
  refine lN ?_
  refine xT ?_
  refine sq_r ?_
  refine rQ (.inl rfl) (rc4 rfl Y2 rn) ?_
  exact ⟨_,⟨_,_,rfl,hm38,hn38⟩,lb_up (lb_neg lt)⟩
 refine fx_skip ?_
 refine sq_n ?_
 refine xR ?_
 refine lZ z10 (c_ref17_zero (by omega)) rfl rfl fun v39 z39 _ hv39=>?_
 have hw39:=qv_op hv39
 obtain ⟨c39,d39,hv,hm39,hn39⟩:=hw39
 subst hv
 have hm39:=hm39.mono (zAq (hz7.trans hz10))
 have hn39:=hn39.mono (zAq (hz7.trans hz10))
 refine fl_st4 rfl rfl P2 ?_
 refine lN ?_
 refine xT ?_
 refine rQ (.inl rfl) (rc4 rfl Y2 rn) ?_
 exact ⟨_,⟨_,_,rfl,(hm39.mono zd_le),(hn39.mono zd_le)⟩,lb_0 _⟩
theorem c_ref17_depreciation {k:Nat} (hk:8≤k) {z:Mem} {x:PIt} {c0 c1 c2 c3:C} (y0:CZ 1 RW z c0 x.arg.nm) (y1:CZ 1 RW z c1 x.arg.dm) (y2:CZ 1 RW z c2 x.tot.nm) (y3:CZ 1 RW z c3 x.tot.dm) (h0:x.arg.nm.length≤999∧x.arg.dm.length≤999) (h1:x.tot.nm.length≤999∧x.tot.dm.length≤999):FC (E k) 142 [.agg [Cu x.kind,Cb x.arg.n,c0,Cb x.arg.d,c1,Cb x.tot.n,c2,Cb x.tot.d,c3]] z fun v z'=>∃ q:Rat,QV z' v q∧LB 4000 q:=by
 have lt:LB 1000 (Num.valR ((x.tot.n,x.tot.nm),(x.tot.d,x.tot.dm))):=⟨Nat.le_trans lenN (Nat.le_trans h1.1 (by decide)),Nat.le_trans lenD (Nat.succ_le_succ h1.2)⟩
 have la:LB 1000 (Num.valR ((x.arg.n,x.arg.nm),(x.arg.d,x.arg.dm))):=⟨Nat.le_trans lenN (Nat.le_trans h0.1 (by decide)),Nat.le_trans lenD (Nat.succ_le_succ h0.2)⟩
 refine fc_of (tS_get142) (by omega) (len1 rfl) fun B j hj=>?_
 refine xR ?_
 refine fl_bx rfl fun b1=>?_
 refine fl_al4 fun b2=>?_
 refine lN ?_
 refine R4 8 O ?_
 refine fl_ld1 rfl Y1 rfl ?_
 refine R3 4 O ?_
 refine xD rfl (fun hc5=>?_) (fun hc5=>?_)
 ·refine R4 8 O ?_
  refine fl_ld4 rfl Y1 rfl ?_
  refine lZ z (c_ref04_Plain (by omega) y2 y3 (Nat.le_trans h1.1 (by decide)) (Nat.le_trans h1.2 (by decide))) rfl rfl fun v8 z8 _ hv8=>?_
  have hw8:=qv_op (hv8 _ y2.m y3.m zd_le)
  obtain ⟨c8,d8,hv,hm8,hn8⟩:=hw8
  subst hv
  refine fl_st4 rfl rfl rep0 ?_
  refine lN ?_
  refine fx_rseq ?_
  refine rQ (.inl rfl) (rc4 rfl mem0 rn) ?_
  exact ⟨_,⟨_,_,rfl,hm8,hn8⟩,lb_up lt⟩
 refine R4 4 O ?_
 refine lZ z (c_ref17_zero (by omega)) rfl rfl fun v9 z9 _ hv9=>?_
 have hw9:=qv_op hv9
 obtain ⟨c9,d9,hv,hm9,hn9⟩:=hw9
 subst hv
 refine fl_st4 rfl rfl rep0 ?_
 refine lN ?_
 refine xT ?_
 refine rQ (.inl rfl) (rc4 rfl mem0 rn) ?_
 exact ⟨_,⟨_,_,rfl,(hm9.mono zd_le),(hn9.mono zd_le)⟩,lb_0 _⟩
theorem c_ref17_interest {k:Nat} (hk:9≤k) {z:Mem} {x:PIt} {c0 c1 c2 c3:C} (y0:CZ 1 RW z c0 x.arg.nm) (y1:CZ 1 RW z c1 x.arg.dm) (y2:CZ 1 RW z c2 x.tot.nm) (y3:CZ 1 RW z c3 x.tot.dm) (h0:x.arg.nm.length≤999∧x.arg.dm.length≤999) (h1:x.tot.nm.length≤999∧x.tot.dm.length≤999):FC (E k) 143 [.agg [Cu x.kind,Cb x.arg.n,c0,Cb x.arg.d,c1,Cb x.tot.n,c2,Cb x.tot.d,c3]] z fun v z'=>∃ q:Rat,QV z' v q∧LB 4000 q:=by
 have lt:LB 1000 (Num.valR ((x.tot.n,x.tot.nm),(x.tot.d,x.tot.dm))):=⟨Nat.le_trans lenN (Nat.le_trans h1.1 (by decide)),Nat.le_trans lenD (Nat.succ_le_succ h1.2)⟩
 have la:LB 1000 (Num.valR ((x.arg.n,x.arg.nm),(x.arg.d,x.arg.dm))):=⟨Nat.le_trans lenN (Nat.le_trans h0.1 (by decide)),Nat.le_trans lenD (Nat.succ_le_succ h0.2)⟩
 refine fc_of (tS_get143) (by omega) (len1 rfl) fun B j hj=>?_
 refine xR ?_
 refine fl_bx rfl fun b1=>?_
 refine fl_al4 fun b2=>?_
 refine lN ?_
 refine R4 8 O ?_
 refine fl_ld1 rfl Y1 rfl ?_
 refine lN ?_
 refine fx_seq (fx_block ?_)
 refine R5 8 O ?_
 refine xD rfl (fun hc5=>?_) (fun hc5=>?_)
 ·refine R4 4 O ?_
  refine fl_ld4 rfl Y1 rfl ?_
  refine lZ z (c_ref04_Plain (by omega) y2 y3 (Nat.le_trans h1.1 (by decide)) (Nat.le_trans h1.2 (by decide))) rfl rfl fun v9 z9 _ hv9=>?_
  have hw9:=qv_op (hv9 _ y2.m y3.m zd_le)
  obtain ⟨c9,d9,hv,hm9,hn9⟩:=hw9
  subst hv
  refine lZ z9 (c_ref04_Neg (by omega) hm9 hn9 (g_1 lt (by decide)) (g_2 lt (by decide))) rfl rfl fun v10 z10 _ hv10=>?_
  have hw10:=hv10 _ hm9.m hn9.m zd_le
  rw [valR_c] at hw10
  have hw10:=qv_op hw10
  obtain ⟨c10,d10,hv,hm10,hn10⟩:=hw10
  subst hv
  refine fl_st4 rfl rfl rep0 ?_
  refine lN ?_
  refine xT ?_
  refine sq_r ?_
  refine rQ (.inl rfl) (rc4 rfl mem0 rn) ?_
  exact ⟨_,⟨_,_,rfl,hm10,hn10⟩,lb_up (lb_neg lt)⟩
 refine R5 8 O ?_
 refine xD rfl (fun hc11=>?_) (fun hc11=>?_)
 ·refine R4 4 O ?_
  refine fl_ld4 rfl Y1 rfl ?_
  refine lZ z (c_ref04_Plain (by omega) y2 y3 (Nat.le_trans h1.1 (by decide)) (Nat.le_trans h1.2 (by decide))) rfl rfl fun v15 z15 _ hv15=>?_
  have hw15:=qv_op (hv15 _ y2.m y3.m zd_le)
  obtain ⟨c15,d15,hv,hm15,hn15⟩:=hw15
  subst hv
  refine fl_st4 rfl rfl rep0 ?_
  refine lN ?_
  refine xT ?_
  refine sq_r ?_
  refine rQ (.inl rfl) (rc4 rfl mem0 rn) ?_
  exact ⟨_,⟨_,_,rfl,hm15,hn15⟩,lb_up lt⟩
 refine fx_skip ?_
 refine sq_n ?_
 refine xR ?_
 refine lZ z (c_ref17_zero (by omega)) rfl rfl fun v16 z16 _ hv16=>?_
 have hw16:=qv_op hv16
 obtain ⟨c16,d16,hv,hm16,hn16⟩:=hw16
 subst hv
 refine fl_st4 rfl rfl rep0 ?_
 refine lN ?_
 refine xT ?_
 refine rQ (.inl rfl) (rc4 rfl mem0 rn) ?_
 exact ⟨_,⟨_,_,rfl,(hm16.mono zd_le),(hn16.mono zd_le)⟩,lb_0 _⟩
theorem c_ref17_Of {k:Nat} (hk:13≤k) {z:Mem} {v:AV} {l:List PIt} (hx:SZ 9 RIt z v l) (hl:l.length≤1000) (hs:∀ a,a∈l→(a.arg.nm.length≤999∧a.arg.dm.length≤999)∧(a.tot.nm.length≤999∧a.tot.dm.length≤999)):FC (E k) 67 [v] z fun u z'=>∃ (BB S D I:Rat) (e0 e1 e2 e3 e4 e5 e6 e7:C),BB=bookL l∧u=.agg [Cb (decide ((BB:Rat).num<0)),e0,Cb (decide ((((BB:Rat).den:Nat):Int)<0)),e1,Cb (decide ((S:Rat).num<0)),e2,Cb (decide ((((S:Rat).den:Nat):Int)<0)),e3,Cb (decide ((D:Rat).num<0)),e4,Cb (decide ((((D:Rat).den:Nat):Int)<0)),e5,Cb (decide ((I:Rat).num<0)),e6,Cb (decide ((((I:Rat).den:Nat):Int)<0)),e7]∧CZ 1 RW z' e0 (toL (BB:Rat).num.natAbs)∧CZ 1 RW z' e1 (toL (((BB:Rat).den:Nat):Int).natAbs)∧CZ 1 RW z' e2 (toL (S:Rat).num.natAbs)∧CZ 1 RW z' e3 (toL (((S:Rat).den:Nat):Int).natAbs)∧CZ 1 RW z' e4 (toL (D:Rat).num.natAbs)∧CZ 1 RW z' e5 (toL (((D:Rat).den:Nat):Int).natAbs)∧CZ 1 RW z' e6 (toL (I:Rat).num.natAbs)∧CZ 1 RW z' e7 (toL (((I:Rat).den:Nat):Int).natAbs):=by
 have hxl:=hx.le
 refine fc_of (tS_get67) (by omega) (len1 rfl) fun B j hj=>?_
 refine xR ?_
 refine fl_alloc fun b2=>?_
 refine lN ?_
 refine xR ?_
 refine lZ z (c_ref17_zero (by omega)) rfl rfl fun v5 z5 hz5 hv5=>?_
 have hw5:=qv_op hv5
 obtain ⟨c5,d5,hv,hm5,hn5⟩:=hw5
 subst hv
 refine lZ z5 (c_ref17_zero (by omega)) rfl rfl fun v6 z6 hz6 hv6=>?_
 have hw6:=qv_op hv6
 obtain ⟨c6,d6,hv,hm6,hn6⟩:=hw6
 subst hv
 have hm6:=hm6.mono (zAq (hz5))
 have hn6:=hn6.mono (zAq (hz5))
 refine lZ z6 (c_ref17_zero (by omega)) rfl rfl fun v7 z7 hz7 hv7=>?_
 have hw7:=qv_op hv7
 obtain ⟨c7,d7,hv,hm7,hn7⟩:=hw7
 subst hv
 have hm7:=hm7.mono (zAq (hz5.trans hz6))
 have hn7:=hn7.mono (zAq (hz5.trans hz6))
 refine lZ z7 (c_ref17_zero (by omega)) rfl rfl fun v8 z8 hz8 hv8=>?_
 have hw8:=qv_op hv8
 obtain ⟨c8,d8,hv,hm8,hn8⟩:=hw8
 subst hv
 have hm8:=hm8.mono (zAq (hz5.trans (hz6.trans hz7)))
 have hn8:=hn8.mono (zAq (hz5.trans (hz6.trans hz7)))
 refine fl_bd (cs:=[_,_,_,_,_,_,_,_,_,_,_,_,_,_,_,_]) rfl ?_
 refine fl_alloc fun b3=>?_
 refine fl_stAll rfl rfl rfl rfl rep0 ?_
 refine lN ?_
 refine R5 8 O ?_
 refine fx_seq (fx_block ?_)
 refine fx_loop (fun n fs=>∃ (i:Nat) (BB:Rat) (S:Rat) (D:Rat) (I:Rat) (a0:C) (a1:C) (a2:C) (a3:C) (a4:C) (a5:C) (a6:C) (a7:C) (zz:Mem),LZ z8 zz [.blk b3 (.cells 165 [Cb (decide ((BB:Rat).num<0)),a0,Cb (decide ((((BB:Rat).den:Nat):Int)<0)),a1,Cb (decide ((S:Rat).num<0)),a2,Cb (decide ((((S:Rat).den:Nat):Int)<0)),a3,Cb (decide ((D:Rat).num<0)),a4,Cb (decide ((((D:Rat).den:Nat):Int)<0)),a5,Cb (decide ((I:Rat).num<0)),a6,Cb (decide ((((I:Rat).den:Nat):Int)<0)),a7]),.blk b2 (.cells 165 [Cb false,Cz,Cb false,Cz,Cb false,Cz,Cb false,Cz,Cb false,Cz,Cb false,Cz,Cb false,Cz,Cb false,Cz])] [(0,v),(2,Ap b2),(3,Ap b3),(4,Az i)] fs∧n=l.length - i∧(i≤l.length)∧(BB=bookL (l.take i))∧(CZ 1 RW zz a0 (toL BB.num.natAbs))∧(CZ 1 RW zz a2 (toL S.num.natAbs))∧(CZ 1 RW zz a4 (toL D.num.natAbs))∧(CZ 1 RW zz a6 (toL I.num.natAbs))∧(CZ 1 RW zz a1 (toL (BB.den:Int).natAbs))∧(CZ 1 RW zz a3 (toL (S.den:Int).natAbs))∧(CZ 1 RW zz a5 (toL (D.den:Int).natAbs))∧(CZ 1 RW zz a7 (toL (I.den:Int).natAbs))∧(LB (1+i * 4001) BB)∧(LB (1+i * 4001) S)∧(LB (1+i * 4001) D)∧(LB (1+i * 4001) I)) ?_ _ ⟨0,0,0,0,0,c5,d5,c6,d6,c7,d7,c8,d8,_,LZ.m [] O,rfl,Nat.zero_le _,rfl,hm5.m,hm6.m,hm7.m,(hm8.mono zd_le),hn5.m,hn6.m,hn7.m,(hn8.mono zd_le),lb_0 _,lb_0 _,lb_0 _,lb_0 _⟩ (kK (by omega))
 intro n fs ⟨i,BB,S,D,I,a0,a1,a2,a3,a4,a5,a6,a7,zz,hL0,hmz0,hi,hB,m0,m1,m2,m3,n0,n1,n2,n3,g0,g1,g2,g3⟩
 refine hL0.open fun e hzz=>?_
 refine R4 24 O ?_
 refine fl_lenS rfl hx ?_
 refine R3 4 O ?_
 refine xD rfl (fun hc13=>?_) (fun hc13=>?_)
 ·refine fx_kseq ?_
  refine fx_seq (fx_block ?_)
  refine fx_drw ?_
  obtain ⟨a,ha⟩:=at_lt (l:=l) (i:=i) (by omega)
  have hsa:=hs a (List.mem_of_getElem? ha)
  have lbk:=bk_lb (k:=a.kind) hsa.2
  refine G1 2 O ?_
  refine gl4 O O Ht O ?_
  refine G1 5 O ?_
  refine gP rfl rfl trivial ?_
  refine fl_iadS rfl rfl hx i rfl a ha fun b20 p20 cs at20 hR=>lN ?_
  obtain ⟨t20a,t20b,t20c,t20d,hcs,w20a,w20b,w20c,w20d⟩:=hR
  subst hcs
  refine fg_ldA (i:=⟨_,_,.load _ _ _⟩) (off:=0) rfl rfl trivial rfl at20 ti rfl (by simp) rfl sR ?_
  refine gC zz (c_ref17_book (by omega) w20a.m w20b.m w20c.m w20d.m hsa.1 hsa.2) O O O O fun v22 z22 hz22 hv22=>?_
  have hw22:=qv_op hv22
  obtain ⟨c22,d22,hv,hm22,hn22⟩:=hw22
  subst hv
  refine gC z22 (c_ref04_Add (by omega) m0.m n0.m (g_1 g0 (by omega)) (g_2 g0 (by omega)) hm22 hn22 (g_1 lbk (by decide)) (g_2 lbk (by decide))) O O O O fun v23 z23 hz23 hv23=>?_
  rw [valR_c,valR_c] at hv23
  have hw23:=qv_op hv23
  obtain ⟨c23,d23,hv,hm23,hn23⟩:=hw23
  subst hv
  have hm23:=hm23.mono (zAq (hz5.trans (hz6.trans (hz7.trans (hz8.trans (hzz.trans hz22))))))
  have hn23:=hn23.mono (zAq (hz5.trans (hz6.trans (hz7.trans (hz8.trans (hzz.trans hz22))))))
  refine G1 2 O ?_
  refine gl4 O O Ht O ?_
  refine G1 5 O ?_
  refine gP rfl rfl trivial ?_
  refine fl_iadS rfl rfl hx i rfl a ha fun b28 p28 cs at28 hR=>lN ?_
  obtain ⟨t28a,t28b,t28c,t28d,hcs,w28a,w28b,w28c,w28d⟩:=hR
  subst hcs
  refine fg_ldA (i:=⟨_,_,.load _ _ _⟩) (off:=0) rfl rfl trivial rfl at28 ti rfl (by simp) rfl sR ?_
  refine gC z23 (c_ref17_base (by omega) w28a.m w28b.m w28c.m w28d.m hsa.1 hsa.2) O O O O fun v30 z30 hz30 hv30=>?_
  obtain ⟨q30,hw30,lb30⟩:=hv30
  replace hw30:=qv_op hw30
  obtain ⟨c30,d30,hv,hm30,hn30⟩:=hw30
  subst hv
  refine gC z30 (c_ref04_Add (by omega) m1.m n1.m (g_1 g1 (by omega)) (g_2 g1 (by omega)) hm30 hn30 (g_1 lb30 (by decide)) (g_2 lb30 (by decide))) O O O O fun v31 z31 hz31 hv31=>?_
  rw [valR_c,valR_c] at hv31
  have hw31:=qv_op hv31
  obtain ⟨c31,d31,hv,hm31,hn31⟩:=hw31
  subst hv
  have hm31:=hm31.mono (zAq (hz5.trans (hz6.trans (hz7.trans (hz8.trans (hzz.trans (hz22.trans (hz23.trans hz30))))))))
  have hn31:=hn31.mono (zAq (hz5.trans (hz6.trans (hz7.trans (hz8.trans (hzz.trans (hz22.trans (hz23.trans hz30))))))))
  refine G1 2 O ?_
  refine gl4 O O Ht O ?_
  refine G1 5 O ?_
  refine gP rfl rfl trivial ?_
  refine fl_iadS rfl rfl hx i rfl a ha fun b36 p36 cs at36 hR=>lN ?_
  obtain ⟨t36a,t36b,t36c,t36d,hcs,w36a,w36b,w36c,w36d⟩:=hR
  subst hcs
  refine fg_ldA (i:=⟨_,_,.load _ _ _⟩) (off:=0) rfl rfl trivial rfl at36 ti rfl (by simp) rfl sR ?_
  refine gC z31 (c_ref17_depreciation (by omega) w36a.m w36b.m w36c.m w36d.m hsa.1 hsa.2) O O O O fun v38 z38 hz38 hv38=>?_
  obtain ⟨q38,hw38,lb38⟩:=hv38
  replace hw38:=qv_op hw38
  obtain ⟨c38,d38,hv,hm38,hn38⟩:=hw38
  subst hv
  refine gC z38 (c_ref04_Add (by omega) m2.m n2.m (g_1 g2 (by omega)) (g_2 g2 (by omega)) hm38 hn38 (g_1 lb38 (by decide)) (g_2 lb38 (by decide))) O O O O fun v39 z39 hz39 hv39=>?_
  rw [valR_c,valR_c] at hv39
  have hw39:=qv_op hv39
  obtain ⟨c39,d39,hv,hm39,hn39⟩:=hw39
  subst hv
  have hm39:=hm39.mono (zAq (hz5.trans (hz6.trans (hz7.trans (hz8.trans (hzz.trans (hz22.trans (hz23.trans (hz30.trans (hz31.trans hz38))))))))))
  have hn39:=hn39.mono (zAq (hz5.trans (hz6.trans (hz7.trans (hz8.trans (hzz.trans (hz22.trans (hz23.trans (hz30.trans (hz31.trans hz38))))))))))
  refine G1 2 O ?_
  refine gl4 O O Ht O ?_
  refine G1 5 O ?_
  refine gP rfl rfl trivial ?_
  refine fl_iadS rfl rfl hx i rfl a ha fun b44 p44 cs at44 hR=>lN ?_
  obtain ⟨t44a,t44b,t44c,t44d,hcs,w44a,w44b,w44c,w44d⟩:=hR
  subst hcs
  refine fg_ldA (i:=⟨_,_,.load _ _ _⟩) (off:=0) rfl rfl trivial rfl at44 ti rfl (by simp) rfl sR ?_
  refine gC z39 (c_ref17_interest (by omega) w44a.m w44b.m w44c.m w44d.m hsa.1 hsa.2) O O O O fun v46 z46 hz46 hv46=>?_
  obtain ⟨q46,hw46,lb46⟩:=hv46
  replace hw46:=qv_op hw46
  obtain ⟨c46,d46,hv,hm46,hn46⟩:=hw46
  subst hv
  refine gC z46 (c_ref04_Add (by omega) m3.m n3.m (g_1 g3 (by omega)) (g_2 g3 (by omega)) hm46 hn46 (g_1 lb46 (by decide)) (g_2 lb46 (by decide))) O O O O fun v47 z47 _ hv47=>?_
  rw [valR_c,valR_c] at hv47
  have hw47:=qv_op hv47
  obtain ⟨c47,d47,hv,hm47,hn47⟩:=hw47
  subst hv
  have hm47:=hm47.mono (zAq (hz5.trans (hz6.trans (hz7.trans (hz8.trans (hzz.trans (hz22.trans (hz23.trans (hz30.trans (hz31.trans (hz38.trans (hz39.trans hz46))))))))))))
  have hn47:=hn47.mono (zAq (hz5.trans (hz6.trans (hz7.trans (hz8.trans (hzz.trans (hz22.trans (hz23.trans (hz30.trans (hz31.trans (hz38.trans (hz39.trans hz46))))))))))))
  refine gP rfl rfl trivial ?_
  refine fl_bd (cs:=[_,_,_,_,_,_,_,_,_,_,_,_,_,_,_,_]) rfl (lN ?_)
  refine gS O O O ?_
  refine fl_stAll rfl rfl rfl rfl rep0 ?_
  refine lN ?_
  refine fg_nil ?_
  refine sq_n ?_
  refine xG ?_
  refine lC rfl ?_
  refine lB rfl rfl (bI_add (n:=i+1) (by omega) (by omega)) ?_
  refine R0 2 O ?_
  exact lq_n (by omega) ⟨i+1,(BB+bk a.kind (rv a.tot)),(S+q30),(D+q38),(I+q46),c23,d23,c31,d31,c39,d39,c47,d47,_,LZ.m [] O,rfl,by omega,by rw [bl_step ha,← hB],hm23.m,hm31.m,hm39.m,(hm47.mono zd_le),hn23.m,hn31.m,hn39.m,(hn47.mono zd_le),lb_s2 g0 lbk,lb_s2 g1 lb30,lb_s2 g2 lb38,lb_s2 g3 lb46⟩
 refine fx_eseq ?_
 refine lq_e ?_
 refine sq_n ?_
 refine xR ?_
 refine fl_ldAll rfl mem0 rfl ?_
 refine fl_stAll rfl rfl rfl rfl P1 ?_
 refine lN ?_
 refine xT ?_
 refine rQ (.inl rfl) (rcAll rfl Y1 rfl rn) ?_
 rw [List.take_of_length_le (by omega)] at hB
 exact ⟨_,_,_,_,_,_,_,_,_,_,_,_,hB,rfl,m0,n0,m1,n1,m2,n2,m3,n3⟩
open Go.CE Go.RowKit Go.Num
open Go.Eng (setL)
theorem bl_app {l:List PIt} {x:PIt}:bookL (l++[x])=bookL l+bk x.kind (rv x.tot):=by rw [bookL,List.foldl_append];rfl
theorem one_it {x:PIt} (h:x.arg.nm.length≤999∧x.arg.dm.length≤999) (g:x.tot.nm.length≤999∧x.tot.dm.length≤999):∀ a,a∈[x]→(a.arg.nm.length≤999∧a.arg.dm.length≤999)∧(a.tot.nm.length≤999∧a.tot.dm.length≤999):=fun a ha=>by
 simp at ha;subst ha;exact ⟨h,g⟩
theorem c_ref21_Book {k:Nat} (hk:14≤k) {z:Mem} {v w:AV} {cs:List PClass} {l:List PEn} (hx:SZ 6 RClass z v cs) (he:SZ 6 REn z w l) (hl:l.length≤1000) (hcs:∀ a,a∈cs→a.arg.nm.length≤999∧a.arg.dm.length≤999) (hs:∀ a,a∈l→a.am.nm.length≤999∧a.am.dm.length≤999):FC (E k) 22 [v,w] z fun u z'=>QV z' u (bookL (itemsL cs l)):=by
 have hxl:=hx.le
 have hel:=he.le
 refine fc_of (tS_get22) (by omega) (len1 rfl) fun B j hj=>?_
 refine xR ?_
 refine fl_al4 fun b4=>?_
 refine lN ?_
 refine xR ?_
 refine lZ z (c_ref04_Whole (n:=0) (by omega) (by decide) (by decide)) rfl rfl fun v9 z9 hz9 hv9=>?_
 have hv9:=qv_op hv9
 obtain ⟨c9,d9,hv,hm9,hn9⟩:=hv9
 subst hv
 refine fl_al4 fun b5=>?_
 refine fl_st4 rfl rfl rep0 ?_
 refine lN ?_
 refine R5 8 O ?_
 refine fx_seq (fx_block ?_)
 refine fx_loop (fun n fs=>∃ (i:Nat) (q:Rat) (cq:C) (dq:C) (zz:Mem),LZ z9 zz [.blk b5 (.cells 51 [Cb (decide ((q:Rat).num<0)),cq,Cb (decide ((((q:Rat).den:Nat):Int)<0)),dq]),.blk b4 (.cells 51 [Cb false,Cz,Cb false,Cz])] [(0,v),(1,w),(4,Ap b4),(5,Ap b5),(6,Az i)] fs∧n=l.length - i∧(i≤l.length)∧(q=bookL (itemsL cs (l.take i)))∧(CZ 1 RW zz cq (toL q.num.natAbs))∧(CZ 1 RW zz dq (toL (q.den:Int).natAbs))∧(LB (1+i * 4001) q)) ?_ _ ⟨0,(((0:Int):Rat)),c9,d9,_,LZ.m [] O,rfl,Nat.zero_le _,rfl,(hm9.mono zd_le),(hn9.mono zd_le),lb_0 _⟩ (kK (by omega))
 intro n fs ⟨i,q,cq,dq,zz,hL0,hmz0,hi,hq,hcq,hdq,hLq⟩
 refine hL0.open fun e hzz=>?_
 refine R4 24 O ?_
 refine fl_lenS rfl he ?_
 refine R3 4 O ?_
 refine xD rfl (fun hc13=>?_) (fun hc13=>?_)
 ·refine fx_kseq ?_
  refine fx_seq (fx_block ?_)
  refine R4 10 O ?_
  obtain ⟨a,ha⟩:=at_lt (l:=l) (i:=i) (by omega)
  refine fl_iadS (zz:=zz) rfl rfl he.m i rfl a ha fun b18 p18 cs at18 hR=>?_
  obtain ⟨c18,d18,hcs,q18,r18⟩:=hR
  subst hcs
  refine lF rfl ?_
  refine fl_ldA (off:=1) rfl at18 rfl (by simp) rfl ?_
  refine R2 32 O ?_
  refine fl_splitD 23 rfl (fun hg23=>?_) (fun hg23=>?_)
  ·refine R1 6 O ?_
   refine lD rfl ?_
   refine fl_lenS rfl hx ?_
   refine R0 4 O ?_
   refine xD rfl (fun hc28=>?_) (fun hc28=>?_)
   ·refine fx_drwS ?_
    obtain ⟨cl,hcl⟩:=at_lt (l:=cs) (i:=a.cls.toNat) (by omega)
    have hci:0≤a.cls:=by omega
    have lbB0:=bk_lb (k:=cl.kind) (x:=a.am) (hs a (List.mem_of_getElem? ha))
    refine G1 5 O ?_
    refine gP rfl rfl trivial ?_
    refine fl_iadS rfl rfl hx a.cls.toNat (by omega) cl hcl fun b31 p31 cs at31 hR=>lN ?_
    obtain ⟨c31,d31,hcs,q31,r31⟩:=hR
    subst hcs
    refine G1 2 O ?_
    refine fg_ldA (i:=⟨_,_,.load _ _ _⟩) (off:=1) rfl rfl trivial rfl at31 ti rfl (by simp) rfl sR ?_
    refine G1 5 O ?_
    refine gP rfl rfl trivial ?_
    refine fl_iadS rfl rfl hx a.cls.toNat (by omega) cl hcl fun b36 p36 cs at36 hR=>lN ?_
    obtain ⟨c36,d36,hcs,q36,r36⟩:=hR
    subst hcs
    refine G1 2 O ?_
    refine fg_ldA (i:=⟨_,_,.load _ _ _⟩) (off:=2) rfl rfl trivial rfl at36 ti rfl (by simp) rfl sR ?_
    refine G1 5 O ?_
    refine gP rfl rfl trivial ?_
    refine fl_iadS rfl rfl he i rfl a ha fun b41 p41 cs at41 hR=>lN ?_
    obtain ⟨c41,d41,hcs,q41,r41⟩:=hR
    subst hcs
    refine G1 2 O ?_
    refine fg_ldA (i:=⟨_,_,.load _ _ _⟩) (off:=2) rfl rfl trivial rfl at41 ti rfl (by simp) rfl sR ?_
    refine gP rfl rfl trivial ?_
    refine fl_bd (cs:=[Cu cl.kind,Cb cl.arg.n,c36,Cb cl.arg.d,d36,Cb a.am.n,c41,Cb a.am.d,d41]) rfl (lN ?_)
    refine fg_own (k:=.cells 170 [Cu cl.kind,Cb cl.arg.n,c36,Cb cl.arg.d,d36,Cb a.am.n,c41,Cb a.am.d,d41]) (w:=fun b=>.c (.sl b 0 1 9)) rfl trivial rfl (fun _=>rfl) (fun st hst=>?_) (fun b45 hT45=>?_)
    ·simp only [stepE,fillS,AS.ev,hst 44 (by simp [Ins.sl,Od.sls,Od.sl])];rfl
    refine fg_frzZ zz (p:=[]) rfl rfl rfl (fun _ h=>h) fun zff45 hzff45 f45=>?_
    refine gC zff45 (c_ref17_Of (by omega) (CL.sz (CL.one (R:=RIt) (a:=⟨cl.kind,cl.arg,a.am⟩) rfl ⟨_,_,_,_,rfl,q36.m,r36.m,q41.m,r41.m⟩) rfl (len1 rfl) f45) (len1 rfl) (one_it (hcs cl (List.mem_of_getElem? hcl)) (hs a (List.mem_of_getElem? ha)))) O O O O fun v46 z46 hz46 ⟨BB,S,D,I,e0,e1,e2,e3,e4,e5,e6,e7,hB46,hv46,k0_,k1_,k2_,k3_,k4_,k5_,k6_,k7_⟩=>?_
    subst hv46
    refine gA O O (fun b8 hT8=>?_)
    refine gS O O O ?_
    refine fl_stAll rfl rfl rfl rfl rep0 ?_
    refine lN ?_
    refine fg_nil ?_
    refine xG ?_
    have hB1:BB=bk cl.kind (rv a.am):=hB46.trans (Rat.zero_add _)
    have lbB:LB 4000 BB:=hB1 ▸ lbB0
    refine fl_ld4 rfl Y1 rfl ?_
    refine lF rfl ?_
    refine fl_ld4 rfl mem0 rfl ?_
    refine lZ z46 (c_ref04_Add (by omega) hcq.m hdq.m (g_1 hLq (by omega)) (g_2 hLq (by omega)) k0_ k1_ (g_1 lbB (by decide)) (g_2 lbB (by decide))) rfl rfl fun v50 z50 _ hv50=>?_
    rw [valR_c,valR_c] at hv50
    have hw50:=qv_op hv50
    obtain ⟨c50,d50,hv,hm50,hn50⟩:=hw50
    subst hv
    have hm50:=hm50.mono (zAq (hz9.trans (hzz.trans (hzff45.trans hz46))))
    have hn50:=hn50.mono (zAq (hz9.trans (hzz.trans (hzff45.trans hz46))))
    refine fl_st4 rfl rfl P1 ?_
    refine lN ?_
    refine sq_n ?_
    refine xG ?_
    refine lC rfl ?_
    refine lB rfl rfl (bI_add (n:=i+1) (by omega) (by omega)) ?_
    refine R0 2 O ?_
    exact lq_n (by omega) ⟨i+1,(q+BB),c50,d50,_,LZ.m [_] O,rfl,by omega,by rw [it_yes ha hcl hci,bl_app,← hq,hB1],(hm50.mono zd_le),(hn50.mono zd_le),lb_s2 hLq lbB⟩
   refine fx_skip ?_
   refine sq_n ?_
   refine xG ?_
   refine lC rfl ?_
   refine lB rfl rfl (bI_add (n:=i+1) (by omega) (by omega)) ?_
   refine R0 2 O ?_
   exact lq_n (by omega) ⟨i+1,q,cq,dq,_,LZ.m [] O,rfl,by omega,by rw [it_no ha (fun h=>hc28 h.2)];exact hq,hcq,hdq,lb_up hLq (by omega)⟩
  refine R3 64 O ?_
  refine fx_skip ?_
  refine sq_n ?_
  refine xG ?_
  refine lC rfl ?_
  refine lB rfl rfl (bI_add (n:=i+1) (by omega) (by omega)) ?_
  refine R0 2 O ?_
  exact lq_n (by omega) ⟨i+1,q,cq,dq,_,LZ.m [] O,rfl,by omega,by rw [it_no ha (fun h=>hg23 h.1)];exact hq,hcq,hdq,lb_up hLq (by omega)⟩
 refine fx_eseq ?_
 refine lq_e ?_
 refine sq_n ?_
 refine xR ?_
 refine fl_ld4 rfl mem0 rfl ?_
 refine fl_st4 rfl rfl P1 ?_
 refine lN ?_
 refine xT ?_
 refine rQ (.inl rfl) (rc4 rfl Y1 rn) ?_
 rw [List.take_of_length_le (by omega)] at hq
 exact qv_eq hq rfl hcq hdq
end Go.Proofs.YtlceligcgelbdaaGreat

/- Sums; how great things are; the reference's copies; what is the same, walked. -/
import Derived.WalkKit
import Derived.Orders
import Derived.Test.YtlceligcgelbdaaGreatND4
set_option linter.unusedVariables false
set_option linter.unusedSimpArgs false
set_option maxRecDepth 100000
set_option maxHeartbeats 1000000
namespace Go.Proofs.YtlceligcgelbdaaGreat
open Go.CE Go.RowKit
structure PRat where
 n:Bool
 nm:List UInt32
 d:Bool
 dm:List UInt32
def RRat:RT PRat:=fun z cs a=>∃ c0 c1,cs=[.v (.bool a.n),c0,.v (.bool a.d),c1]∧CZ 1 RW z c0 a.nm∧CZ 1 RW z c1 a.dm
theorem mk_rat {z:Mem} {a:PRat} {c0 c1:C} (g0:CZ 1 RW z c0 a.nm) (g1:CZ 1 RW z c1 a.dm):RRat z [.v (.bool a.n),c0,.v (.bool a.d),c1] a:=⟨c0,c1,rfl,g0,g1⟩
instance:RMono RRat:=⟨fun hz ⟨c0,c1,h,g0,g1⟩=>⟨c0,c1,h,g0.mono hz,g1.mono hz⟩⟩
structure PClass where
 name:ByteArray
 kind:Int
 arg:PRat
def RClass:RT PClass:=fun z cs a=>∃ c0 c1,cs=[.v (.string a.name),.v (.int .u8 a.kind),.v (.bool a.arg.n),c0,.v (.bool a.arg.d),c1]∧CZ 1 RW z c0 a.arg.nm∧CZ 1 RW z c1 a.arg.dm
theorem mk_class {z:Mem} {a:PClass} {c0 c1:C} (g0:CZ 1 RW z c0 a.arg.nm) (g1:CZ 1 RW z c1 a.arg.dm):RClass z [.v (.string a.name),.v (.int .u8 a.kind),.v (.bool a.arg.n),c0,.v (.bool a.arg.d),c1] a:=⟨c0,c1,rfl,g0,g1⟩
instance:RMono RClass:=⟨fun hz ⟨c0,c1,h,g0,g1⟩=>⟨c0,c1,h,g0.mono hz,g1.mono hz⟩⟩
open Go.CE Go.RowKit
theorem at_lt {α:Type} {l:List α} {i:Nat} (h:i<l.length):∃ a,l[i]? = some a:=⟨_,List.getElem?_eq_getElem h⟩
open Go.CE Go.RowKit Go.Num
open Go.Eng (setL)
def minF (q:Rat) (l:List Rat):Rat:=l.foldl (fun o y=>if y<o then y else o) q
theorem minF_succ {q:Rat} {l:List Rat} {i:Nat} (h:i<l.length):minF q (l.take (i+1))=if l[i]<minF q (l.take i) then l[i] else minF q (l.take i):=by
 unfold minF
 rw [List.take_add_one,List.getElem?_eq_getElem h,List.foldl_append]
 rfl
theorem min_a {q v:Rat} {xs:List RawR} {i:Nat} (h:i<xs.length) (hq:q=minF v ((xs.map Num.valR).take i)) (hc:Num.valR xs[i]<q):Num.valR xs[i]=minF v ((xs.map Num.valR).take (i+1)):=by
 rw [minF_succ (by rw [List.length_map];exact h),← hq,List.getElem_map,if_pos hc]
theorem min_b {q v:Rat} {xs:List RawR} {i:Nat} (h:i<xs.length) (hq:q=minF v ((xs.map Num.valR).take i)) (hc:¬ Num.valR xs[i]<q):q=minF v ((xs.map Num.valR).take (i+1)):=by
 rw [minF_succ (by rw [List.length_map];exact h),← hq,List.getElem_map,if_neg hc]
theorem c_rat_Add {k:Nat} (hk:10≤k) {z:Mem} {n1 n2:Bool} {c1 c2:C} {l1 l2:List UInt32} (hx:CZ 1 RW z c1 l1) (hy:CZ 1 RW z c2 l2) (h1:l1.length≤9000000) (h2:l2.length≤9000000) {n3 n4:Bool} {c3 c4:C} {l3 l4:List UInt32} (hu:CZ 1 RW z c3 l3) (hw:CZ 1 RW z c4 l4) (h3:l3.length≤9000000) (h4:l4.length≤9000000):FC (E k) 36 [.agg [Cb n1,c1,Cb n2,c2],.agg [Cb n3,c3,Cb n4,c4]] z fun v z'=>QV (zd z z') v ((valR ((n1,l1),(n2,l2)))+(valR ((n3,l3),(n4,l4)))):=by
 have em1:=Nat.le_trans (lenN (x:=((n1,l1),(n2,l2)))) h1
 have en1:=Nat.le_trans (lenD (x:=((n1,l1),(n2,l2)))) (Nat.succ_le_succ h2)
 have em2:=Nat.le_trans (lenN (x:=((n3,l3),(n4,l4)))) h3
 have en2:=Nat.le_trans (lenD (x:=((n3,l3),(n4,l4)))) (Nat.succ_le_succ h4)
 have om1:=Nat.le_trans em1 (show 9000000≤20000000 by decide)
 have om2:=Nat.le_trans em2 (show 9000000≤20000000 by decide)
 have on1:=Nat.le_trans en1 (show 9000000+1≤20000000 by decide)
 have on2:=Nat.le_trans en2 (show 9000000+1≤20000000 by decide)
 refine fc_of (tS_get36) (by omega) (len1 rfl) fun B j hj=>?_
 refine xR ?_
 refine fl_bx rfl fun b2=>?_
 refine fl_bx rfl fun b3=>?_
 refine fl_al4 fun b4=>?_
 refine lN ?_
 refine fx_drwS ?_
 refine gl4 O O (.inr Y2) O ?_
 refine gC z (c_rat_right (by omega) hx hy (Nat.le_trans h1 (show 9000000≤20000000 by decide)) (Nat.le_trans h2 (show 9000000≤20000000 by decide))) O O O O fun v6 z6 hz6 hv6=>?_
 have hw6:=qv_op (hv6 _ hx.m hy.m zd_le)
 obtain ⟨c6,d6,hv,hm6,hn6⟩:=hw6
 subst hv
 refine gl4 O O (.inr Y1) O ?_
 refine gC z6 (c_rat_right (by omega) hu.m hw.m (Nat.le_trans h3 (show 9000000≤20000000 by decide)) (Nat.le_trans h4 (show 9000000≤20000000 by decide))) O O O O fun v8 z8 hz8 hv8=>?_
 have hw8:=qv_op (hv8 _ hu.m hw.m zd_le)
 obtain ⟨c8,d8,hv,hm8,hn8⟩:=hw8
 subst hv
 refine gC z8 (c_rat_add (by omega) hm6.m hn6.m hm8 hn8 (Nat.le_succ_of_le em1) en1 (Nat.le_succ_of_le em2) en2) O O O O fun v9 z9 _ hv9=>?_
 obtain ⟨c9,d9,hv,hm9,hn9⟩:=hv9
 subst hv
 have hm9:=hm9.mono (zAq (hz6.trans hz8))
 have hn9:=hn9.mono (zAq (hz6.trans hz8))
 refine gS O O O ?_
 refine fl_st4 rfl rfl rep0 ?_
 refine lN ?_
 refine fg_nil ?_
 refine xT ?_
 refine rQ (.inl rfl) (rc4 rfl mem0 rn) ?_
 exact ⟨_,_,rfl,hm9,hn9⟩
theorem c_rat_Sum {k:Nat} (hk:10≤k) {z:Mem} {v:AV} {x:PRat} (hx:SZ 4 RRat z v [x]) (h1:x.nm.length≤9000000) (h2:x.dm.length≤9000000):FC (E k) 37 [v] z fun v z'=>QV (zd z z') v (valR ((x.n,x.nm),(x.d,x.dm))):=by
 have em:=Nat.le_trans (lenN (x:=((x.n,x.nm),(x.d,x.dm)))) h1
 have en:=Nat.le_trans (lenD (x:=((x.n,x.nm),(x.d,x.dm)))) (Nat.succ_le_succ h2)
 refine fc_of (tS_get37) (by omega) (len1 rfl) fun B j hj=>?_
 refine xR ?_
 refine fl_al4 fun b2=>?_
 refine lN ?_
 refine xR ?_
 refine lZ z (c_rat_Whole (by omega) (by decide) (by decide)) rfl rfl fun v6 z6 hz6 hv6=>?_
 obtain ⟨c6,d6,hv,hm6,hn6⟩:=hv6
 subst hv
 refine fl_al4 fun b3=>?_
 refine fl_st4 rfl rfl rep0 ?_
 refine lN ?_
 refine R4 12 O ?_
 refine fl_lenS rfl hx ?_
 refine R0 2 O ?_
 refine fx_seq (fx_block ?_)
 refine fx_loop (fun n fs=>∃ (i:Nat) (q:Rat) (c3:C) (d3:C) (zz:Mem),LZ z6 zz [.blk b3 (.cells 35 [Cb (decide (q.num<0)),c3,Cb (decide ((q.den:Int)<0)),d3]),.blk b2 (.cells 35 [Cb false,Cz,Cb false,Cz])] [(2,Ap b2),(3,Ap b3),(7,v),(8,Az ([x].length)),(9,Az i)] fs∧n=1 - i∧(i≤1)∧(q=if i=0 then 0 else valR ((x.n,x.nm),(x.d,x.dm)))∧(CZ 1 RW (zd z zz) c3 (toL q.num.natAbs))∧(CZ 1 RW (zd z zz) d3 (toL (q.den:Int).natAbs))) ?_ _ ⟨0,0,_,_,_,LZ.m [] O,rfl,by omega,rfl,hm6,hn6⟩ (kK (by omega))
 intro n fs ⟨i,q,c3,d3,zz,hL0,hmz0,hi,hq,hqm,hqn⟩
 refine hL0.open fun e hzz=>?_
 refine R5 8 O ?_
 refine xD rfl (fun hc10=>?_) (fun hc10=>?_)
 ·refine fx_kseq ?_
  refine fx_seq (fx_block ?_)
  refine xR ?_
  have hi0:i=0:=by have:=hc10;simp only [List.length_cons,List.length_nil] at this;omega
  have hq0:q=0:=by rw [hq,if_pos hi0]
  have hql:(toL q.num.natAbs).length≤9000001:=by rw [hq0,show toL (0:Rat).num.natAbs=[] from toL_zero];simp
  have hqd:(toL (q.den:Int).natAbs).length≤9000001:=by rw [hq0];exact Nat.le_trans (m:=1) (toL_len.2 (by decide)) (by omega)
  refine fl_iadS (zz:=zz) rfl rfl hx.m i rfl x (by rw [hi0];rfl) fun b11 p11 cs at11 hR=>?_
  obtain ⟨c11,d11,hcs,qm,qn⟩:=hR
  subst hcs
  refine fl_ldA (off:=0) rfl at11 rfl (by simp) rfl ?_
  refine fl_al4 fun b5=>?_
  refine fl_st4 rfl rfl rep0 ?_
  refine lN ?_
  refine fx_drw ?_
  refine gl4 O O (.inr Y1) O ?_
  refine gl4 O O Ht O ?_
  refine gC zz (c_rat_right (by omega) qm qn (Nat.le_trans h1 (show 9000000≤20000000 by decide)) (Nat.le_trans h2 (show 9000000≤20000000 by decide))) O O O O fun v15 z15 hz15 hv15=>?_
  have hw15:=qv_op (hv15 _ qm.m qn.m zd_le)
  obtain ⟨c15,d15,hv,hm15,hn15⟩:=hw15
  subst hv
  refine gC z15 (c_rat_add (by omega) hqm.m hqn.m hm15 hn15 hql hqd (Nat.le_succ_of_le em) en) O O O O fun v16 z16 _ hv16=>?_
  rw [hq0,Rat.zero_add] at hv16
  obtain ⟨c16,d16,hv,hm16,hn16⟩:=hv16
  subst hv
  have hm16:=hm16.mono (zAq (hz6.trans (hzz.trans hz15)))
  have hn16:=hn16.mono (zAq (hz6.trans (hzz.trans hz15)))
  refine gS O O O ?_
  refine fl_st4 rfl rfl P1 ?_
  refine lN ?_
  refine fg_nil ?_
  refine sq_n ?_
  refine xG ?_
  refine lB rfl rfl (bI_add (n:=i+1) (by omega) (by omega)) ?_
  refine R0 2 O ?_
  exact lq_n (by omega) ⟨i+1,valR ((x.n,x.nm),(x.d,x.dm)),_,_,_,LZ.m [_] O,rfl,by omega,by rw [if_neg (by omega)],hm16,hn16⟩
 refine fx_eseq ?_
 refine lq_e ?_
 refine sq_n ?_
 refine xR ?_
 refine fl_ld4 rfl mem0 rfl ?_
 refine fl_st4 rfl rfl P1 ?_
 refine lN ?_
 refine xT ?_
 refine rQ (.inl rfl) (rc4 rfl Y1 rn) ?_
 rw [if_neg (show ¬ i=0 by have:=hc10;simp only [List.length_cons,List.length_nil] at this;omega)] at hq
 subst hq
 exact ⟨_,_,rfl,hqm,hqn⟩
theorem c_rat_Sub {k:Nat} (hk:11≤k) {z:Mem} {n1 n2:Bool} {c1 c2:C} {l1 l2:List UInt32} (hx:CZ 1 RW z c1 l1) (hy:CZ 1 RW z c2 l2) (h1:l1.length≤9000000) (h2:l2.length≤9000000) {n3 n4:Bool} {c3 c4:C} {l3 l4:List UInt32} (hu:CZ 1 RW z c3 l3) (hw:CZ 1 RW z c4 l4) (h3:l3.length≤9000000) (h4:l4.length≤9000000):FC (E k) 35 [.agg [Cb n1,c1,Cb n2,c2],.agg [Cb n3,c3,Cb n4,c4]] z fun v z'=>QV (zd z z') v ((valR ((n1,l1),(n2,l2))) - (valR ((n3,l3),(n4,l4)))):=by
 have em1:=Nat.le_trans (lenN (x:=((n1,l1),(n2,l2)))) h1
 have en1:=Nat.le_trans (lenD (x:=((n1,l1),(n2,l2)))) (Nat.succ_le_succ h2)
 have em2:=Nat.le_trans (lenN (x:=((n3,l3),(n4,l4)))) h3
 have en2:=Nat.le_trans (lenD (x:=((n3,l3),(n4,l4)))) (Nat.succ_le_succ h4)
 have om1:=Nat.le_trans em1 (show 9000000≤20000000 by decide)
 have om2:=Nat.le_trans em2 (show 9000000≤20000000 by decide)
 have on1:=Nat.le_trans en1 (show 9000000+1≤20000000 by decide)
 have on2:=Nat.le_trans en2 (show 9000000+1≤20000000 by decide)
 have ng1:(toL (-(valR ((n3,l3),(n4,l4)))).num.natAbs).length≤9000001:=by rw [Rat.neg_num,Int.natAbs_neg];exact Nat.le_succ_of_le em2
 have ng2:(toL ((-(valR ((n3,l3),(n4,l4)))).den:Int).natAbs).length≤9000001:=by rw [Rat.neg_den];exact en2
 refine fc_of (tS_get35) (by omega) (len1 rfl) fun B j hj=>?_
 refine xR ?_
 refine fl_bx rfl fun b2=>?_
 refine fl_bx rfl fun b3=>?_
 refine fl_al4 fun b4=>?_
 refine lN ?_
 refine fx_drwS ?_
 refine gl4 O O (.inr Y2) O ?_
 refine gC z (c_rat_right (by omega) hx hy (Nat.le_trans h1 (show 9000000≤20000000 by decide)) (Nat.le_trans h2 (show 9000000≤20000000 by decide))) O O O O fun v6 z6 hz6 hv6=>?_
 have hw6:=qv_op (hv6 _ hx.m hy.m zd_le)
 obtain ⟨c6,d6,hv,hm6,hn6⟩:=hw6
 subst hv
 refine gl4 O O (.inr Y1) O ?_
 refine gC z6 (c_rat_Neg (by omega) hu.m hw.m h3 h4) O O O O fun v8 z8 hz8 hv8=>?_
 obtain ⟨c8,d8,hv,hm8,hn8⟩:=hv8
 subst hv
 have hm8:=hm8.mono (zAq (hz6))
 have hn8:=hn8.mono (zAq (hz6))
 refine gC z8 (c_rat_add (by omega) hm6.m hn6.m (hm8.mono zd_le) (hn8.mono zd_le) (Nat.le_succ_of_le em1) en1 ng1 ng2) O O O O fun v9 z9 _ hv9=>?_
 rw [← Rat.sub_eq_add_neg] at hv9
 obtain ⟨c9,d9,hv,hm9,hn9⟩:=hv9
 subst hv
 have hm9:=hm9.mono (zAq (hz6.trans hz8))
 have hn9:=hn9.mono (zAq (hz6.trans hz8))
 refine gS O O O ?_
 refine fl_st4 rfl rfl rep0 ?_
 refine lN ?_
 refine fg_nil ?_
 refine xT ?_
 refine rQ (.inl rfl) (rc4 rfl mem0 rn) ?_
 exact ⟨_,_,rfl,hm9,hn9⟩
theorem c_rat_than_less {k:Nat} (hk:11≤k) {z:Mem} {n1 n2:Bool} {c1 c2:C} {l1 l2:List UInt32} (hx:CZ 1 RW z c1 l1) (hy:CZ 1 RW z c2 l2) (h1:l1.length≤2000000) (h2:l2.length≤2000000) {n3 n4:Bool} {c3 c4:C} {l3 l4:List UInt32} (hu:CZ 1 RW z c3 l3) (hw:CZ 1 RW z c4 l4) (h3:l3.length≤2000000) (h4:l4.length≤2000000):FC (E k) 276 [.agg [Cb n1,c1,Cb n2,c2],.agg [Cb n3,c3,Cb n4,c4]] z fun v _=>v=Ab (decide ((valR ((n3,l3),(n4,l4)))<(valR ((n1,l1),(n2,l2))))):=by
 refine fc_of (tS_get276) (by omega) (len1 rfl) fun B j hj=>?_
 refine xR ?_
 refine fl_bx rfl fun b2=>?_
 refine fl_bx rfl fun b3=>?_
 refine R2 4 O ?_
 refine fl_ld4 rfl mem0 rfl ?_
 refine lF rfl ?_
 refine fl_ld4 rfl Y1 rfl ?_
 refine lE z (c_rat_Cmp (by omega) hu hw (Nat.le_trans h3 (show 2000000≤9000000 by decide)) (Nat.le_trans h4 (show 2000000≤9000000 by decide)) hx hy (Nat.le_trans h1 (show 2000000≤9000000 by decide)) (Nat.le_trans h2 (show 2000000≤9000000 by decide))) O O fun z8 _=>?_
 refine R0 4 O ?_
 refine xT ?_
 exact rI O (cQ (decide_eq_decide.2 cmp_lt))
theorem c_rat_Min_1 {k:Nat} (hk:12≤k) {z:Mem} {n1 n2:Bool} {c1 c2:C}:FC (E k) 275 [.agg [Cb n1,c1,Cb n2,c2]] z fun v _=>v=.c (.fn 276 [(true,[Cb n1,c1,Cb n2,c2])] []):=by
 refine fc_of (tS_get275) (by omega) (len1 rfl) fun B j hj=>?_
 refine xR ?_
 refine fl_bx rfl fun b1=>?_
 refine R2 4 O ?_
 refine fl_ld4 rfl mem0 rfl ?_
 refine fl_mkf rfl rfl ?_
 refine R0 3 O ?_
 refine xT ?_
 refine rI O ?_
 rfl
theorem c_rat_best {k:Nat} (hk:13≤k) {z:Mem} {n1 n2:Bool} {c1 c2:C} {l1 l2:List UInt32} (hx:CZ 1 RW z c1 l1) (hy:CZ 1 RW z c2 l2) (h1:l1.length≤1000000) (h2:l2.length≤1000000) {w:AV} {xs:List RawR} (hr:SZ 4 RQ z w xs) (hxs:∀ x,x∈xs→x.1.2.length≤1000000∧x.2.2.length≤1000000):FC (E k) 274 [.agg [Cb n1,c1,Cb n2,c2],w,.c (.fn 275 [] [])] z fun v z'=>QV z' v (minF (valR ((n1,l1),(n2,l2))) (xs.map Num.valR)):=by
 have hxl:=hr.le
 have em1:(toL (valR ((n1,l1),(n2,l2))).num.natAbs).length≤1000000+1:=Nat.le_succ_of_le (Nat.le_trans lenN h1)
 have en1:(toL ((valR ((n1,l1),(n2,l2))).den:Int).natAbs).length≤1000000+1:=Nat.le_trans lenD (Nat.succ_le_succ h2)
 refine fc_of (tS_get274) (by omega) (len1 rfl) fun B j hj=>?_
 refine xR ?_
 refine fl_bx rfl fun b3=>?_
 refine fl_al4 fun b6=>?_
 refine lN ?_
 refine xR ?_
 refine fl_ld4 rfl Y1 rfl ?_
 refine lZ z (c_rat_right (by omega) hx hy (Nat.le_trans h1 (show 1000000≤20000000 by decide)) (Nat.le_trans h2 (show 1000000≤20000000 by decide))) rfl rfl fun v11 z11 hz11 hv11=>?_
 have hw11:=qv_op (hv11 _ hx.m hy.m zd_le)
 obtain ⟨c11,d11,hv,hm11,hn11⟩:=hw11
 subst hv
 refine lZ z11 (c_rat_Whole (n:=0) (by omega) (by decide) (by decide)) rfl rfl fun v12 z12 hz12 hv12=>?_
 have hv12:=qv_op hv12
 obtain ⟨c12,d12,hv,hm12,hn12⟩:=hv12
 subst hv
 have hm12:=hm12.mono (zAq (hz11))
 have hn12:=hn12.mono (zAq (hz11))
 refine lZ z12 (c_rat_add (by omega) hm11.m hn11.m (hm12.mono zd_le) (hn12.mono zd_le) (Nat.le_trans em1 (show 1000000+1≤9000001 by decide)) (Nat.le_trans en1 (show 1000000+1≤9000001 by decide)) len0n len0d) rfl rfl fun v13 z13 hz13 hv13=>?_
 rw [add0] at hv13
 have hv13:=qv_op hv13
 obtain ⟨c13,d13,hv,hm13,hn13⟩:=hv13
 subst hv
 have hm13:=hm13.mono (zAq (hz11.trans hz12))
 have hn13:=hn13.mono (zAq (hz11.trans hz12))
 refine fl_al4 fun b7=>?_
 refine fl_st4 rfl rfl rep0 ?_
 refine lN ?_
 refine R4 12 O ?_
 refine fl_lenS rfl hr ?_
 refine R0 2 O ?_
 refine fx_seq (fx_block ?_)
 refine fx_loop (fun n fs=>∃ (i:Nat) (q:Rat) (cq:C) (dq:C) (zi:Mem),LZ z13 zi [.blk b7 (.cells 35 [Cb (decide ((q).num<0)),cq,Cb (decide ((((q).den:Nat):Int)<0)),dq]),.blk b6 (.cells 35 [Cb false,Cz,Cb false,Cz]),.blk b3 (.cells 35 [Cb n1,c1,Cb n2,c2])] [(2,.c (.fn 275 [] [])),(6,Ap b6),(7,Ap b7),(14,w),(15,Az xs.length),(16,Az i)] fs∧n=xs.length - i∧(i≤xs.length)∧(CZ 1 RW zi cq (toL q.num.natAbs))∧(CZ 1 RW zi dq (toL (q.den:Int).natAbs))∧((toL q.num.natAbs).length≤1000000+1)∧((toL (q.den:Int).natAbs).length≤1000000+1)∧(q=(minF (valR ((n1,l1),(n2,l2))) ((xs.map Num.valR).take i)))) ?_ _ ⟨0,(valR ((n1,l1),(n2,l2))),_,_,_,LZ.m [] O,rfl,Nat.zero_le _,(hm13.mono zd_le),(hn13.mono zd_le),em1,en1,rfl⟩ (kK (by omega))
 intro n fs ⟨i,q,cq,dq,zi,hL0,hmz0,hi,hcq,hdq,hl1,hl2,hqm⟩
 refine hL0.open fun e hzi=>?_
 refine R5 8 O ?_
 refine xD rfl (fun hc17=>?_) (fun hc17=>?_)
 ·refine fx_kseq ?_
  refine fx_seq (fx_block ?_)
  refine xR ?_
  refine fl_iadS (zz:=zi) rfl rfl hr.m i rfl _ (List.getElem?_eq_getElem (by omega)) fun b18 p18 cs18 at18 hR18=>?_
  obtain ⟨ci,di,hcs,hci,hdi⟩:=hR18
  subst hcs
  refine fl_ldA4 rfl at18 ?_
  have hxi:=hxs _ (List.getElem_mem (show i<xs.length by omega))
  refine fl_al4 fun b9=>?_
  refine fl_st4 rfl rfl rep0 ?_
  refine lN ?_
  refine fx_drwS ?_
  have lv1:(toL (valR xs[i]).num.natAbs).length≤1000000+1:=Nat.le_succ_of_le (Nat.le_trans lenN hxi.1)
  have lv2:(toL ((valR xs[i]).den:Int).natAbs).length≤1000000+1:=Nat.le_trans lenD (Nat.succ_le_succ hxi.2)
  refine G1 2 O ?_
  refine gl4 O O (.inr Y1) O ?_
  refine gP rfl rfl trivial ?_
  refine fl_bd (cs:=[_,_,_,_]) rfl (lN ?_)
  refine fg_callvZ zi (i:=⟨_,_,.callv _ _⟩) rfl (c_rat_Min_1 (by omega)) rfl rfl trivial rfl rfl rfl rfl fun v23 z23 hz23 hv23=>?_
  subst hv23
  refine gl4 O O Ht O ?_
  refine fg_callvZ z23 (i:=⟨_,_,.callv _ _⟩) rfl (c_rat_than_less (by omega) hcq.m hdq.m (Nat.le_trans hl1 (by decide)) (Nat.le_trans hl2 (by decide)) hci.m hdi.m (Nat.le_trans hxi.1 (by decide)) (Nat.le_trans hxi.2 (by decide))) rfl rfl trivial rfl rfl rfl rfl fun v25 z25 hz25 hv25=>?_
  rw [valR_c] at hv25
  subst hv25
  refine fg_nil ?_
  refine xD rfl (fun hc25=>?_) (fun hc25=>?_)
  ·refine xG ?_
   refine fl_ld4 rfl mem0 rfl ?_
   refine lZ z25 (c_rat_right (by omega) hci.m hdi.m (Nat.le_trans hxi.1 (show 1000000≤20000000 by decide)) (Nat.le_trans hxi.2 (show 1000000≤20000000 by decide))) rfl rfl fun v27 z27 hz27 hv27=>?_
   have hw27:=qv_op (hv27 _ hci.m hdi.m zd_le)
   obtain ⟨c27,d27,hv,hm27,hn27⟩:=hw27
   subst hv
   refine lZ z27 (c_rat_Whole (n:=0) (by omega) (by decide) (by decide)) rfl rfl fun v28 z28 hz28 hv28=>?_
   have hv28:=qv_op hv28
   obtain ⟨c28,d28,hv,hm28,hn28⟩:=hv28
   subst hv
   have hm28:=hm28.mono (zAq (hz11.trans (hz12.trans (hz13.trans (hzi.trans (hz23.trans (hz25.trans hz27)))))))
   have hn28:=hn28.mono (zAq (hz11.trans (hz12.trans (hz13.trans (hzi.trans (hz23.trans (hz25.trans hz27)))))))
   refine lZ z28 (c_rat_add (by omega) hm27.m hn27.m (hm28.mono zd_le) (hn28.mono zd_le) (Nat.le_trans lv1 (show 1000000+1≤9000001 by decide)) (Nat.le_trans lv2 (show 1000000+1≤9000001 by decide)) len0n len0d) rfl rfl fun v29 z29 _ hv29=>?_
   rw [add0] at hv29
   have hv29:=qv_op hv29
   obtain ⟨c29,d29,hv,hm29,hn29⟩:=hv29
   subst hv
   have hm29:=hm29.mono (zAq (hz11.trans (hz12.trans (hz13.trans (hzi.trans (hz23.trans (hz25.trans (hz27.trans hz28))))))))
   have hn29:=hn29.mono (zAq (hz11.trans (hz12.trans (hz13.trans (hzi.trans (hz23.trans (hz25.trans (hz27.trans hz28))))))))
   refine fl_st4 rfl rfl P1 ?_
   refine lN ?_
   refine sq_n ?_
   refine xG ?_
   refine lB rfl rfl (bI_add (n:=i+1) (by omega) (by omega)) ?_
   refine R0 2 O ?_
   exact lq_n (by omega) ⟨i+1,(valR xs[i]),c29,d29,_,LZ.m [_] O,rfl,by omega,(hm29.mono zd_le),(hn29.mono zd_le),lv1,lv2,min_a (by omega) hqm hc25⟩
  refine fx_skip ?_
  refine sq_n ?_
  refine xG ?_
  refine lB rfl rfl (bI_add (n:=i+1) (by omega) (by omega)) ?_
  refine R0 2 O ?_
  exact lq_n (by omega) ⟨i+1,q,cq,dq,_,LZ.m [_] O,rfl,by omega,hcq.m,hdq.m,hl1,hl2,min_b (by omega) hqm hc25⟩
 refine fx_eseq ?_
 refine lq_e ?_
 refine sq_n ?_
 refine xR ?_
 refine fl_ld4 rfl mem0 rfl ?_
 refine fl_st4 rfl rfl P1 ?_
 refine lN ?_
 refine xT ?_
 refine rQ (.inl rfl) (rc4 rfl Y1 rn) ?_
 rw [List.take_of_length_le (by rw [List.length_map];omega)] at hqm
 exact qv_eq hqm rfl hcq hdq
theorem c_rat_Min {k:Nat} (hk:14≤k) {z:Mem} {n1 n2:Bool} {c1 c2:C} {l1 l2:List UInt32} (hx:CZ 1 RW z c1 l1) (hy:CZ 1 RW z c2 l2) (h1:l1.length≤1000000) (h2:l2.length≤1000000) {w:AV} {xs:List RawR} (hr:SZ 4 RQ z w xs) (hxs:∀ x,x∈xs→x.1.2.length≤1000000∧x.2.2.length≤1000000):FC (E k) 228 [.agg [Cb n1,c1,Cb n2,c2],w] z fun v z'=>QV z' v (minF (valR ((n1,l1),(n2,l2))) (xs.map Num.valR)):=by
 refine fc_of (tS_get228) (by omega) (len1 rfl) fun B j hj=>?_
 refine xR ?_
 refine fl_bx rfl fun b2=>?_
 refine fl_al4 fun b4=>?_
 refine lN ?_
 refine xR ?_
 refine fl_ld4 rfl Y1 rfl ?_
 refine lM rfl ?_
 refine lZ z (c_rat_best (by omega) hx hy h1 h2 hr hxs) rfl rfl fun v7 z7 _ hv7=>?_
 have hv7:=qv_op hv7
 obtain ⟨c7,d7,hv,hm7,hn7⟩:=hv7
 subst hv
 refine fl_st4 rfl rfl rep0 ?_
 refine lN ?_
 refine xT ?_
 refine rQ (.inl rfl) (rc4 rfl mem0 rn) ?_
 exact qv_eq rfl rfl hm7 hn7
open Go.CE Go.RowKit Go.Num
open Go.Eng (setL)
abbrev bool_ (b:Bool):AV:=Ab b
structure PEn where
 ent:Int
 cls:Int
 am:PRat
def REn:RT PEn:=fun z cs a=>∃ c0 c1,cs=[Ci a.ent,Ci a.cls,Cb a.am.n,c0,Cb a.am.d,c1]∧CZ 1 RW z c0 a.am.nm∧CZ 1 RW z c1 a.am.dm
theorem mk_en {z:Mem} {a:PEn} {c0 c1:C} (g0:CZ 1 RW z c0 a.am.nm) (g1:CZ 1 RW z c1 a.am.dm):REn z [Ci a.ent,Ci a.cls,Cb a.am.n,c0,Cb a.am.d,c1] a:=⟨c0,c1,rfl,g0,g1⟩
instance:RMono REn:=⟨fun hz ⟨c0,c1,h,g0,g1⟩=>⟨c0,c1,h,g0.mono hz,g1.mono hz⟩⟩
abbrev Sr (x:PRat):Prop:=x.nm.length≤4∧x.dm.length≤4
theorem tk_all {α:Type} {P:α→Prop} {l:List α} {i:Nat} {a:α} (ha:l[i]? = some a) (h:∀ x,x∈l.take i→P x) (g:P a):∀ x,x∈l.take (i+1)→P x:=fun x hx=>by
 rw [List.take_add_one,ha] at hx
 rcases List.mem_append.1 hx with hx | hx
 ·exact h x hx
 simp at hx;subst hx;exact g
theorem c_law21_short {k:Nat} (hk:1≤k) {z:Mem} {n1 n2:Bool} {c1 c2:C} {l1 l2:List UInt32} (hx:CZ 1 RW z c1 l1) (hy:CZ 1 RW z c2 l2):FC (E k) 14 [.agg [Cb n1,c1,Cb n2,c2]] z fun u _=>∃ b:Bool,u=bool_ b∧(b=true→l1.length≤4∧l2.length≤4):=by
 refine fc_of (tS_get14) (by omega) (len1 rfl) fun B j hj=>?_
 refine xR ?_
 refine fl_bx rfl fun b1=>?_
 refine R2 16 O ?_
 refine fl_ld1 rfl mem0 rfl ?_
 refine fl_lenS rfl hx ?_
 refine R1 4 O ?_
 refine fl_splitD 8 rfl (fun hg8=>?_) (fun hg8=>?_)
 ·refine R1 4 O ?_
  refine lD rfl ?_
  refine fl_ld1 rfl mem0 rfl ?_
  refine lD rfl ?_
  refine fl_lenS rfl hy ?_
  refine R0 12 O ?_
  refine xT ?_
  refine rI O ?_
  refine ⟨_,rfl,fun h=>?_⟩
  have h5:=of_decide_eq_true h
  omega
 refine R0 192 O ?_
 refine xT ?_
 refine rI O ?_
 refine ⟨_,rfl,fun h=>?_⟩
 exact absurd h (by decide)
theorem c_law21_little {k:Nat} (hk:2≤k) {z:Mem} {v:AV} {l:List PEn} (hx:SZ 6 REn z v l):FC (E k) 12 [v] z fun u _=>∃ b:Bool,u=bool_ b∧(b=true→l.length≤20∧∀ a,a∈l→Sr a.am):=by
 have hxl:=hx.le
 refine fc_of (tS_get12) (by omega) (len1 rfl) fun B j hj=>?_
 refine R5 32 O ?_
 refine fx_seq (fx_block ?_)
 refine fx_loop (fun n fs=>∃ (i:Nat),LI z [] [(0,v),(3,Az i)] fs∧n=l.length - i∧(i≤l.length)∧(∀ a,a∈l.take i→Sr a.am)) ?_ _ ⟨0,LI.m [] O,rfl,Nat.zero_le _,fun a ha=>by simp at ha⟩ (kK (by omega))
 intro n fs ⟨i,hL0,hmz0,hi,hs⟩
 refine hL0.open fun e zl0 _=>?_
 refine R4 24 O ?_
 refine fl_lenS rfl hx ?_
 refine R1 4 O ?_
 refine fl_splitD 8 rfl (fun hg8=>?_) (fun hg8=>?_)
 ·refine R3 16 O ?_
  refine xD rfl (fun hc11=>?_) (fun hc11=>?_)
  ·refine fx_kseq ?_
   refine fx_seq (fx_block ?_)
   refine xR ?_
   obtain ⟨a,ha⟩:=at_lt (l:=l) (i:=i) (by omega)
   refine R1 5 O ?_
   refine fl_iadS (zz:=zl0) rfl rfl hx.m i rfl a ha fun b16 p16 cs at16 hR=>?_
   obtain ⟨c16,d16,hcs,q16,r16⟩:=hR
   subst hcs
   refine lF rfl ?_
   refine fl_ldA (off:=2) rfl at16 rfl (by simp) rfl ?_
   refine lZ zl0 (c_law21_short (by omega) q16 r16) rfl rfl fun v19 z19 _ ⟨w19,hv19,hs19⟩=>?_
   subst hv19
   refine R0 2 O ?_
   refine fx_condB rfl (fun hc20=>?_) (fun hc20=>?_)
   ·refine R5 4 O ?_
    refine xT ?_
    refine sq_r ?_
    refine lq_r ?_
    refine sq_r ?_
    refine rI O ?_
    refine ⟨_,rfl,fun h=>?_⟩
    exact absurd h (by decide)
   refine fx_skip ?_
   refine sq_n ?_
   refine xG ?_
   refine lC rfl ?_
   refine lB rfl rfl (bI_add (n:=i+1) (by omega) (by omega)) ?_
   refine R0 2 O ?_
   exact lq_n (by omega) ⟨i+1,LI.m [] O,rfl,by omega,tk_all ha hs (hs19 (by simpa using hc20))⟩
  refine fx_eseq ?_
  refine lq_e ?_
  refine sq_n ?_
  refine R4 6 O ?_
  refine fl_lenS rfl hx ?_
  refine R0 4 O ?_
  refine xT ?_
  refine rI O ?_
  refine ⟨_,rfl,fun h=>?_⟩
  have h5:=of_decide_eq_true h
  exact ⟨by omega,fun a ha=>hs a (by rw [List.take_of_length_le (by omega)];exact ha)⟩
 refine R3 32 O ?_
 refine fx_eseq ?_
 refine lq_e ?_
 refine sq_n ?_
 refine R4 6 O ?_
 refine fl_lenS rfl hx ?_
 refine R0 4 O ?_
 refine xT ?_
 refine rI O ?_
 refine ⟨_,rfl,fun h=>?_⟩
 have h5:=of_decide_eq_true h
 exact ⟨by omega,fun a ha=>hs a (by rw [List.take_of_length_le (by omega)];exact ha)⟩
theorem c_law21_small {k:Nat} (hk:2≤k) {z:Mem} {ct:C} {t:List (List PRat)} (hx:CZ 1 (RC 4 RRat) z ct t):FC (E k) 11 [.agg [ct]] z fun u _=>∃ b:Bool,u=bool_ b∧(b=true→t.length≤6∧∀ r,r∈t→r.length≤12∧∀ x,x∈r→Sr x):=by
 have hxl:=hx.le
 refine fc_of (tS_get11) (by omega) (len1 rfl) fun B j hj=>?_
 refine xR ?_
 refine fl_bx rfl fun b1=>?_
 refine R3 16 O ?_
 refine fx_seq (fx_block ?_)
 refine fx_loop (fun n fs=>∃ (i:Nat),LI z [.blk b1 (.cells 24 [ct])] [(1,Ap b1),(3,Az i)] fs∧n=t.length - i∧(i≤t.length)∧(i≤6)∧(∀ r,r∈t.take i→r.length≤12∧∀ x,x∈r→Sr x)) ?_ _ ⟨0,LI.m [] O,rfl,Nat.zero_le _,Nat.zero_le _,fun a ha=>by simp at ha⟩ (kK (by omega))
 intro n fs ⟨i,hL0,hmz0,hi,hi6,hs⟩
 refine hL0.open fun e zl0 _=>?_
 refine R4 16 O ?_
 refine fl_ld1 rfl mem0 rfl ?_
 refine fl_lenS rfl hx ?_
 refine R3 4 O ?_
 refine xD rfl (fun hc9=>?_) (fun hc9=>?_)
 ·refine fx_kseq ?_
  refine fx_seq (fx_block ?_)
  refine R4 4 O ?_
  obtain ⟨r,hr⟩:=at_lt (l:=t) (i:=i) (by omega)
  refine R1 8 O ?_
  refine fl_splitD 14 rfl (fun hg14=>?_) (fun hg14=>?_)
  ·refine R3 8192 O ?_
   refine fx_rseq ?_
   refine sq_r ?_
   refine lq_r ?_
   refine sq_r ?_
   refine rI O ?_
   refine ⟨_,rfl,fun h=>?_⟩
   exact absurd h (by decide)
  refine lD rfl ?_
  refine lF rfl ?_
  refine lD rfl ?_
  refine fl_ld1 rfl mem0 rfl ?_
  refine lD rfl ?_
  refine lC rfl ?_
  refine lD rfl ?_
  refine fl_iadS (zz:=zl0) rfl rfl hx.m i rfl r hr fun b18 p18 cs at18 hR=>?_
  obtain ⟨c18,hcs,q18⟩:=hR
  subst hcs
  refine lD rfl ?_
  refine fl_ldA (off:=0) rfl at18 rfl (by simp) rfl ?_
  refine lD rfl ?_
  refine fl_lenS rfl q18 ?_
  refine R3 8 O ?_
  refine xD rfl (fun hc22=>?_) (fun hc22=>?_)
  ·refine R5 8 O ?_
   refine fx_rseq ?_
   refine sq_r ?_
   refine lq_r ?_
   refine sq_r ?_
   refine rI O ?_
   refine ⟨_,rfl,fun h=>?_⟩
   exact absurd h (by decide)
  refine R4 4 O ?_
  have hrl:=q18.le
  refine R0 2 O ?_
  refine fx_block ?_
  refine fx_loop (fun n fs=>∃ (jj:Nat),LI zl0 [.blk b1 (.cells 24 [ct])] [(1,Ap b1),(3,Az i),(4,Az jj)] fs∧n=r.length - jj∧(jj≤r.length)∧(∀ x,x∈r.take jj→Sr x)) ?_ _ ⟨0,LI.m [] O,rfl,Nat.zero_le _,fun a ha=>by simp at ha⟩ (kK (by omega))
  intro n fs ⟨jj,hL1,hmz1,hj5,ht⟩
  refine hL1.open fun e zl1 _=>?_
  refine R4 16 O ?_
  refine fl_ld1 rfl mem0 rfl ?_
  refine lC rfl ?_
  refine fl_iadS (zz:=zl1) rfl rfl hx.m i rfl r hr fun b27 p27 cs at27 hR=>?_
  obtain ⟨c27,hcs,q27⟩:=hR
  subst hcs
  refine fl_ldA (off:=0) rfl at27 rfl (by simp) rfl ?_
  refine fl_lenS rfl q27 ?_
  refine R3 4 O ?_
  refine xD rfl (fun hc30=>?_) (fun hc30=>?_)
  ·refine fx_kseq ?_
   refine fx_seq (fx_block ?_)
   refine xR ?_
   obtain ⟨y,hy⟩:=at_lt (l:=r) (i:=jj) (by omega)
   refine lF rfl ?_
   refine fl_ld1 rfl mem0 rfl ?_
   refine lC rfl ?_
   refine fl_iadS (zz:=zl1) rfl rfl hx.m i rfl r hr fun b36 p36 cs at36 hR=>?_
   obtain ⟨c36,hcs,q36⟩:=hR
   subst hcs
   refine fl_ldA (off:=0) rfl at36 rfl (by simp) rfl ?_
   refine lC rfl ?_
   refine fl_iadS rfl rfl q36 jj rfl y hy fun b39 p39 cs at39 hR=>?_
   obtain ⟨c39,d39,hcs,q39,r39⟩:=hR
   subst hcs
   refine fl_ldA (off:=0) rfl at39 rfl (by simp) rfl ?_
   refine lZ zl1 (c_law21_short (by omega) q39 r39) rfl rfl fun v41 z41 _ ⟨w41,hv41,hs41⟩=>?_
   subst hv41
   refine R0 2 O ?_
   refine fx_condB rfl (fun hc42=>?_) (fun hc42=>?_)
   ·refine R5 4 O ?_
    refine xT ?_
    refine sq_r ?_
    refine lq_r ?_
    refine sq_r ?_
    refine lq_r ?_
    refine sq_r ?_
    refine rI O ?_
    refine ⟨_,rfl,fun h=>?_⟩
    exact absurd h (by decide)
   refine fx_skip ?_
   refine sq_n ?_
   refine xG ?_
   refine lC rfl ?_
   refine lB rfl rfl (bI_add (n:=jj+1) (by omega) (by omega)) ?_
   have hrl:=q18.le
   refine R0 2 O ?_
   exact lq_n (by omega) ⟨jj+1,LI.m [] O,rfl,by omega,tk_all hy ht (hs41 (by simpa using hc42))⟩
  refine fx_eseq ?_
  refine lq_e ?_
  refine sq_n ?_
  refine xG ?_
  refine lC rfl ?_
  refine lB rfl rfl (bI_add (n:=i+1) (by omega) (by omega)) ?_
  refine R0 2 O ?_
  exact lq_n (by omega) ⟨i+1,LI.m [] O,rfl,by omega,by omega,tk_all hr hs ⟨by omega,fun x hx5=>ht x (by rw [List.take_of_length_le (by omega)];exact hx5)⟩⟩
 refine fx_eseq ?_
 refine lq_e ?_
 refine sq_n ?_
 refine R5 4 O ?_
 refine xT ?_
 exact rI O ⟨_,rfl,fun _=>⟨by omega,fun r hr=>hs r (by rw [List.take_of_length_le (by omega)];exact hr)⟩⟩
open Go.CE Go.RowKit Go.Num
open Go.Eng (setL)
theorem fl_frzN {α:Type} {size:Nat} {R:RT α} [RMono R] {call:Call'} {B:Base} {fs:Sf} {l:List I} {Q:Sf→Prop} {u:AV} {ty n:Nat} {cs:List C} {r:List α} {p q:List HA} {z0:Mem} (e:fs.H=p++.row u ty size n cs::q) (hz0:zle z0 fs.z) (hc:CL size R (zd z0 fs.z) cs r) (hn:r.length=n) (hm:n≤9223372036854775807)
    (hw:∀ z',zle fs.z z'→SZ size R (zd z0 z') u r→FL call B l (fs.frz z' (p++q)) Q):FL call B l fs Q:=fun st rf=>by
  obtain ⟨g1,g2⟩:=rf.hold.h (.row u ty size n cs) (by rw [e];simp)
  rcases g2 with ⟨h0,rfl⟩ | ⟨b,rfl,h3⟩
  · have hr0 : r = [] := List.eq_nil_of_length_eq_zero (by omega)
    subst hr0
    refine hw fs.z zI .nil st ?_
    have hsub:(p++q).Sublist fs.H:=by rw [e];exact (List.Sublist.refl p).append (List.sublist_cons_self _ _)
    exact ⟨rf.env,rf.hold.sub hsub,rf.le,rf.old,fun b hb=>rf.own b ((fps_sub hsub).subset hb),rf.zle,rf.zin⟩
  · have h1 := rf.frz (p := p) (q := q) (b := b) (k := .cells ty cs) (a := .row (.c (.sl b 0 n size)) ty size n cs) e rfl (fun m hm => by
      obtain ⟨_,hm⟩:=hm
      rcases hm with ⟨_,hm⟩ | ⟨b',hb',hm⟩
      · cases hm
      · injection hb' with hb';injection hb' with hb';subst hb';exact hm)
    have hnb:∀ k',¬ z0 b k':=fun k' hb=>(rf.hold.z b k' (hz0 b k' hb)).2.2 (by rw [e,fps_app,fps_cons];simp [HA.fp])
    exact hw _ ⟨fun _ _ h=>.inl h⟩ ((hc.mono (zd_mono ⟨fun _ _ h=>.inl h⟩)).sz hn hm ⟨.inr ⟨rfl,rfl⟩,hnb,rfl⟩) st h1
theorem fl_stC {call:Call'} {B:Base} {fs:Sf} {l:List I} {Q:Sf→Prop} {x y:Go.Eng.Od} {b ty:Nat} {c0 c:C} {H':List HA} (hx:fs.ev x=Ap b) (hy:fs.ev y=.c c) (hr:Rep1 fs.H (.blk b (.cells ty [c0])) (.blk b (.cells ty [c])) H') (hw:FL call B l (fs.heap H') Q):FL call B (⟨none,none,.store 1 x y⟩::l) fs Q:=fl_st hx hy rfl hr rfl (Nat.le_refl _) hw
theorem rcAll {fs:Sf} {i b ty size:Nat} {cs:List C} {rs:List RR} {vs:List AV} (hp:fs.e i=Ap b) (hm:HA.blk b (.cells ty cs)∈fs.H) (hs:cs.length=size) (t:ResL fs rs vs):ResL fs (.c i true size::rs) (.agg cs::vs):=rc hp hm (by omega) (by rw [List.drop_zero,List.take_of_length_le (by omega)];rfl) t
theorem tk_some {α:Type} {l:List α} {i:Nat} {a:α} (h:l[i]? = some a):l.take (i+1)=l.take i++[a]:=by rw [List.take_add_one,h];rfl
theorem c_law21_refEntries {k:Nat} (hk:3≤k) {z:Mem} {v:AV} {l:List PEn} (hx:SZ 6 REn z v l) (hl:l.length≤1000) (hs:∀ a,a∈l→a.am.nm.length≤1000000∧a.am.dm.length≤1000000):FC (E k) 19 [v] z fun u z'=>SZ 6 REn (zd z z') u l:=by
 have hxl:=hx.le
 refine fc_of (tS_get19) (by omega) (len1 rfl) fun B j hj=>?_
 refine R4 16 O ?_
 refine fl_row0 151 6 ?_
 refine lN ?_
 refine R5 8 O ?_
 refine fx_seq (fx_block ?_)
 refine fx_loop (fun n fs=>∃ (i:Nat) (u:AV) (csx:List C) (zz:Mem),LZ z zz [.row u 151 6 i csx] [(0,v),(3,u),(4,Az i)] fs∧n=l.length - i∧(i≤l.length)∧(CL 6 REn (zd z zz) csx (l.take i))) ?_ _ ⟨0,nilv,[],_,LZ.m [] O,rfl,Nat.zero_le _,CL.nil⟩ (kK (by omega))
 intro n fs ⟨i,u,csx,zz,hL0,hmz0,hi,hcl⟩
 refine hL0.open fun e hzz=>?_
 refine R4 24 O ?_
 refine fl_lenS rfl hx ?_
 refine R3 4 O ?_
 refine xD rfl (fun hc8=>?_) (fun hc8=>?_)
 ·refine fx_kseq ?_
  refine fx_seq (fx_block ?_)
  refine fx_drw ?_
  obtain ⟨a,ha⟩:=at_lt (l:=l) (i:=i) (by omega)
  have hsm:=hs a (List.mem_of_getElem? ha)
  refine G1 11 O ?_
  refine gP rfl rfl trivial ?_
  refine fl_iadS (zz:=zz) rfl rfl hx.m i rfl a ha fun b14 p14 cs at14 hR=>lN ?_
  obtain ⟨c14,d14,hcs,q14,r14⟩:=hR
  subst hcs
  refine G1 2 O ?_
  refine fg_ldA (i:=⟨_,_,.load _ _ _⟩) (off:=0) rfl rfl trivial rfl at14 ti rfl (by simp) rfl sR ?_
  refine G1 5 O ?_
  refine gP rfl rfl trivial ?_
  refine fl_iadS (zz:=zz) rfl rfl hx.m i rfl a ha fun b19 p19 cs at19 hR=>lN ?_
  obtain ⟨c19,d19,hcs,q19,r19⟩:=hR
  subst hcs
  refine G1 2 O ?_
  refine fg_ldA (i:=⟨_,_,.load _ _ _⟩) (off:=1) rfl rfl trivial rfl at19 ti rfl (by simp) rfl sR ?_
  refine G1 5 O ?_
  refine gP rfl rfl trivial ?_
  refine fl_iadS (zz:=zz) rfl rfl hx.m i rfl a ha fun b24 p24 cs at24 hR=>lN ?_
  obtain ⟨c24,d24,hcs,q24,r24⟩:=hR
  subst hcs
  refine G1 2 O ?_
  refine fg_ldA (i:=⟨_,_,.load _ _ _⟩) (off:=2) rfl rfl trivial rfl at24 ti rfl (by simp) rfl sR ?_
  refine gC zz (c_fil_RefRat (by omega) q24.m r24.m (by have:=hsm.1;omega) (by have:=hsm.2;omega)) O O O O fun v27 z27 _ hv27=>?_
  obtain ⟨c27,d27,hv,hm27,hn27⟩:=hv27
  subst hv
  have hm27:=hm27.mono (zAq (hzz))
  have hn27:=hn27.mono (zAq (hzz))
  refine gP rfl rfl trivial ?_
  refine fl_bd (cs:=[Ci a.ent,Ci a.cls,Cb a.am.n,c27,Cb a.am.d,d27]) rfl (lN ?_)
  refine fg_own (k:=.cells 151 [Ci a.ent,Ci a.cls,Cb a.am.n,c27,Cb a.am.d,d27]) (w:=fun b=>.c (.sl b 0 1 6)) rfl trivial rfl (fun _=>rfl) (fun st hst=>?_) (fun b29 hT29=>?_)
  ·simp only [stepE,fillS,AS.ev,hst 28 (by simp [Ins.sl,Od.sls,Od.sl])];rfl
  refine fg_app (i:=⟨_,_,.app _ _ _ _ _ _⟩) rfl trivial rfl rfl rfl rfl ?_
  refine fl_appB (n:=i) (m:=1) (cs:=csx) rfl rfl mem0 rfl (fun _=>repS rep0) (by omega) (by omega) fun c30 hc30=>lN ?_
  refine G0 2 O ?_
  refine sq_n ?_
  refine xG ?_
  refine lC rfl ?_
  refine lB rfl rfl (bI_add (n:=i+1) (by omega) (by omega)) ?_
  refine R0 2 O ?_
  exact lq_n (by omega) ⟨i+1,_,_,_,LZ.m [_] O,rfl,by omega,by rw [tk_some ha];exact ((hcl.mono (zd_mono zI))).append (CL.one rfl (mk_en hm27 hn27))⟩
 refine fx_eseq ?_
 refine lq_e ?_
 refine sq_n ?_
 refine R5 14 O ?_
 refine fx_frzN (z0:=z) (p:=[]) rfl zI (hcl) (by rw [List.length_take];omega) (by omega) fun zr _ hsr=>?_
 refine xT ?_
 refine rI O ?_
 rw [List.take_of_length_le (by omega)] at hsr
 exact hsr
theorem c_law21_classes {k:Nat} (hk:3≤k) {z:Mem} {v:AV} {l:List PClass} (hx:SZ 6 RClass z v l) (hl:l.length≤1000) (hs:∀ a,a∈l→a.arg.nm.length≤1000000∧a.arg.dm.length≤1000000):FC (E k) 23 [v] z fun u z'=>SZ 6 RClass (zd z z') u l:=by
 have hxl:=hx.le
 refine fc_of (tS_get23) (by omega) (len1 rfl) fun B j hj=>?_
 refine R4 16 O ?_
 refine fl_row0 168 6 ?_
 refine lN ?_
 refine R5 8 O ?_
 refine fx_seq (fx_block ?_)
 refine fx_loop (fun n fs=>∃ (i:Nat) (u:AV) (csx:List C) (zz:Mem),LZ z zz [.row u 168 6 i csx] [(0,v),(3,u),(4,Az i)] fs∧n=l.length - i∧(i≤l.length)∧(CL 6 RClass (zd z zz) csx (l.take i))) ?_ _ ⟨0,nilv,[],_,LZ.m [] O,rfl,Nat.zero_le _,CL.nil⟩ (kK (by omega))
 intro n fs ⟨i,u,csx,zz,hL0,hmz0,hi,hcl⟩
 refine hL0.open fun e hzz=>?_
 refine R4 24 O ?_
 refine fl_lenS rfl hx ?_
 refine R3 4 O ?_
 refine xD rfl (fun hc8=>?_) (fun hc8=>?_)
 ·refine fx_kseq ?_
  refine fx_seq (fx_block ?_)
  refine fx_drw ?_
  obtain ⟨a,ha⟩:=at_lt (l:=l) (i:=i) (by omega)
  have hsm:=hs a (List.mem_of_getElem? ha)
  refine G1 11 O ?_
  refine gP rfl rfl trivial ?_
  refine fl_iadS (zz:=zz) rfl rfl hx.m i rfl a ha fun b14 p14 cs at14 hR=>lN ?_
  obtain ⟨c14,d14,hcs,q14,r14⟩:=hR
  subst hcs
  refine G1 2 O ?_
  refine fg_ldA (i:=⟨_,_,.load _ _ _⟩) (off:=0) rfl rfl trivial rfl at14 ti rfl (by simp) rfl sR ?_
  refine G1 5 O ?_
  refine gP rfl rfl trivial ?_
  refine fl_iadS (zz:=zz) rfl rfl hx.m i rfl a ha fun b19 p19 cs at19 hR=>lN ?_
  obtain ⟨c19,d19,hcs,q19,r19⟩:=hR
  subst hcs
  refine G1 2 O ?_
  refine fg_ldA (i:=⟨_,_,.load _ _ _⟩) (off:=1) rfl rfl trivial rfl at19 ti rfl (by simp) rfl sR ?_
  refine G1 5 O ?_
  refine gP rfl rfl trivial ?_
  refine fl_iadS (zz:=zz) rfl rfl hx.m i rfl a ha fun b24 p24 cs at24 hR=>lN ?_
  obtain ⟨c24,d24,hcs,q24,r24⟩:=hR
  subst hcs
  refine G1 2 O ?_
  refine fg_ldA (i:=⟨_,_,.load _ _ _⟩) (off:=2) rfl rfl trivial rfl at24 ti rfl (by simp) rfl sR ?_
  refine gC zz (c_fil_RefRat (by omega) q24.m r24.m (by have:=hsm.1;omega) (by have:=hsm.2;omega)) O O O O fun v27 z27 _ hv27=>?_
  obtain ⟨c27,d27,hv,hm27,hn27⟩:=hv27
  subst hv
  have hm27:=hm27.mono (zAq (hzz))
  have hn27:=hn27.mono (zAq (hzz))
  refine gP rfl rfl trivial ?_
  refine fl_bd (cs:=[Cs a.name,Cu a.kind,Cb a.arg.n,c27,Cb a.arg.d,d27]) rfl (lN ?_)
  refine fg_own (k:=.cells 168 [Cs a.name,Cu a.kind,Cb a.arg.n,c27,Cb a.arg.d,d27]) (w:=fun b=>.c (.sl b 0 1 6)) rfl trivial rfl (fun _=>rfl) (fun st hst=>?_) (fun b29 hT29=>?_)
  ·simp only [stepE,fillS,AS.ev,hst 28 (by simp [Ins.sl,Od.sls,Od.sl])];rfl
  refine fg_app (i:=⟨_,_,.app _ _ _ _ _ _⟩) rfl trivial rfl rfl rfl rfl ?_
  refine fl_appB (n:=i) (m:=1) (cs:=csx) rfl rfl mem0 rfl (fun _=>repS rep0) (by omega) (by omega) fun c30 hc30=>lN ?_
  refine G0 2 O ?_
  refine sq_n ?_
  refine xG ?_
  refine lC rfl ?_
  refine lB rfl rfl (bI_add (n:=i+1) (by omega) (by omega)) ?_
  refine R0 2 O ?_
  exact lq_n (by omega) ⟨i+1,_,_,_,LZ.m [_] O,rfl,by omega,by rw [tk_some ha];exact ((hcl.mono (zd_mono zI))).append (CL.one rfl (mk_class hm27 hn27))⟩
 refine fx_eseq ?_
 refine lq_e ?_
 refine sq_n ?_
 refine R5 14 O ?_
 refine fx_frzN (z0:=z) (p:=[]) rfl zI (hcl) (by rw [List.length_take];omega) (by omega) fun zr _ hsr=>?_
 refine xT ?_
 refine rI O ?_
 rw [List.take_of_length_le (by omega)] at hsr
 exact hsr
theorem c_law21_refTable {k:Nat} (hk:3≤k) {z:Mem} {ct:C} {t:List (List PRat)} (hx:CZ 1 (RC 4 RRat) z ct t) (hT:t.length≤1000) (hR:∀ r,r∈t→r.length≤1000∧∀ x,x∈r→x.nm.length≤1000000∧x.dm.length≤1000000):FC (E k) 15 [.agg [ct]] z fun u z'=>∃ c,u=.agg [c]∧CZ 1 (RC 4 RRat) (zd z z') c t:=by
 refine fc_of (tS_get15) (by omega) (len1 rfl) fun B j hj=>?_
 refine xR ?_
 refine fl_bx rfl fun b1=>?_
 refine fl_alloc fun b2=>?_
 refine lN ?_
 refine xR ?_
 refine fl_alloc fun b3=>?_
 refine lN ?_
 refine R4 4 O ?_
 refine fl_row0 152 1 ?_
 refine R0 2 O ?_
 refine fx_seq (fx_block ?_)
 refine fx_loop (fun n fs=>∃ (i:Nat) (cu:C) (cso:List C) (zz:Mem),LZ z zz [.row (.c cu) 152 1 i cso,.blk b3 (.cells 40 [cu]),.blk b2 (.cells 40 [Cz]),.blk b1 (.cells 24 [ct])] [(1,Ap b1),(2,Ap b2),(3,Ap b3),(4,Az i)] fs∧n=t.length - i∧(i≤t.length)∧(CL 1 (RC 4 RRat) (zd z zz) cso (t.take i))) ?_ _ ⟨0,Cz,[],_,LZ.m [] O,rfl,Nat.zero_le _,CL.nil⟩ (kK (by omega))
 intro n fs ⟨i,cu,cso,zz,hL0,hmz0,hi,hcl⟩
 refine hL0.open fun e hzz=>?_
 refine R4 16 O ?_
 refine fl_ld1 rfl Y3 rfl ?_
 refine fl_lenS rfl hx ?_
 refine R3 4 O ?_
 refine xD rfl (fun hc11=>?_) (fun hc11=>?_)
 ·refine fx_kseq ?_
  refine fx_seq (fx_block ?_)
  refine xR ?_
  obtain ⟨r,hr⟩:=at_lt (l:=t) (i:=i) (by omega)
  have hrl:=hR r (List.mem_of_getElem? hr)
  refine lC rfl ?_
  refine fl_row0 51 4 ?_
  refine lN ?_
  refine R5 8 O ?_
  refine fx_seq (fx_block ?_)
  refine fx_loop (fun n fs=>∃ (jj:Nat) (cw:C) (csw:List C) (zy:Mem),LZ zz zy [.row (.c cw) 51 4 jj csw,.row (.c cu) 152 1 i cso,.blk b3 (.cells 40 [cu]),.blk b2 (.cells 40 [Cz]),.blk b1 (.cells 24 [ct])] [(1,Ap b1),(2,Ap b2),(3,Ap b3),(4,Az i),(5,.c cw),(6,Az jj)] fs∧n=r.length - jj∧(jj≤r.length)∧(CL 4 RRat (zd z zy) csw (r.take jj))) ?_ _ ⟨0,Cz,[],_,LZ.m [] O,rfl,Nat.zero_le _,CL.nil⟩ (kK (by omega))
  intro n fs ⟨jj,cw,csw,zy,hL1,hmz1,hj5,hcw⟩
  refine hL1.open fun e hzy=>?_
  refine R4 16 O ?_
  refine fl_ld1 rfl Y4 rfl ?_
  refine lC rfl ?_
  refine fl_iadS (zz:=zy) rfl rfl hx.m i rfl r hr fun b18 p18 cs at18 hR=>?_
  obtain ⟨c18,hcs,q18⟩:=hR
  subst hcs
  refine fl_ldA (off:=0) rfl at18 rfl (by simp) rfl ?_
  refine fl_lenS rfl q18 ?_
  refine R3 4 O ?_
  refine xD rfl (fun hc21=>?_) (fun hc21=>?_)
  ·refine fx_kseq ?_
   refine fx_seq (fx_block ?_)
   refine xG ?_
   obtain ⟨y,hy⟩:=at_lt (l:=r) (i:=jj) (by omega)
   have hsm:=hrl.2 y (List.mem_of_getElem? hy)
   refine R1 4 O ?_
   refine fl_ld1 rfl Y4 rfl ?_
   refine lC rfl ?_
   refine fl_iadS (zz:=zy) rfl rfl hx.m i rfl r hr fun b28 p28 cs at28 hR=>?_
   obtain ⟨c28,hcs,q28⟩:=hR
   subst hcs
   refine fl_ldA (off:=0) rfl at28 rfl (by simp) rfl ?_
   refine lC rfl ?_
   refine fl_iadS rfl rfl q28 jj rfl y hy fun b31 p31 cs at31 hR=>?_
   obtain ⟨c31,d31,hcs,q31,r31⟩:=hR
   subst hcs
   refine fl_ldA (off:=0) rfl at31 rfl (by simp) rfl ?_
   refine lZ zy (c_fil_RefRat (by omega) q31 r31 (by have:=hsm.1;omega) (by have:=hsm.2;omega)) rfl rfl fun v33 z33 _ hv33=>?_
   obtain ⟨c33,d33,hv,hm33,hn33⟩:=hv33
   subst hv
   have hm33:=hm33.mono (zAq (hzz.trans hzy))
   have hn33:=hn33.mono (zAq (hzz.trans hzy))
   refine fl_bslice rfl fun b34=>?_
   refine fl_appB (n:=jj) (m:=1) (cs:=csw) rfl rfl mem0 rfl (fun _=>repS rep0) (by omega) (by omega) fun c35 hc35=>?_
   refine R0 2 O ?_
   refine sq_n ?_
   refine xG ?_
   refine lC rfl ?_
   refine lB rfl rfl (bI_add (n:=jj+1) (by omega) (by omega)) ?_
   refine R0 2 O ?_
   exact lq_n (by omega) ⟨jj+1,c35,_,_,LZ.m [_] O,rfl,by omega,by rw [tk_some hy];exact ((hcw.mono (zd_mono zI))).append (CL.one rfl (mk_rat hm33 hn33))⟩
  refine fx_eseq ?_
  refine lq_e ?_
  refine sq_n ?_
  refine xG ?_
  refine fl_frzN (z0:=z) (p:=[]) rfl zI (hcw) (by rw [List.length_take];omega) (by omega) fun zw _ hsw0=>?_
  refine lF rfl ?_
  have hsw:=hsw0
  rw [List.take_of_length_le (by omega)] at hsw
  refine fl_ld1 rfl Y1 rfl ?_
  refine lC rfl ?_
  refine fl_bslice rfl fun b39=>?_
  refine fl_appB (n:=i) (m:=1) (cs:=cso) rfl rfl mem0 rfl (fun _=>repS rep0) (by omega) (by omega) fun c40 hc40=>?_
  refine lF rfl ?_
  refine fl_stC rfl rfl P2 ?_
  refine lN ?_
  refine sq_n ?_
  refine xG ?_
  refine lC rfl ?_
  refine lB rfl rfl (bI_add (n:=i+1) (by omega) (by omega)) ?_
  refine R0 2 O ?_
  exact lq_n (by omega) ⟨i+1,c40,_,_,LZ.m [_] O,rfl,by omega,by rw [tk_some hr];exact ((hcl.mono (zd_mono zI))).append (CL.one rfl ⟨_,rfl,hsw⟩)⟩
 refine fx_eseq ?_
 refine lq_e ?_
 refine sq_n ?_
 refine xR ?_
 refine fl_ldAll rfl Y1 rfl ?_
 refine fl_stAll rfl rfl rfl rfl P2 ?_
 refine lN ?_
 refine fx_frzN (z0:=z) (p:=[]) rfl zI (hcl) (by rw [List.length_take];omega) (by omega) fun zr _ hsr=>?_
 refine xT ?_
 refine rQ (.inl rfl) (rcAll rfl Y1 rfl rn) ?_
 rw [List.take_of_length_le (by omega)] at hsr
 exact ⟨_,rfl,hsr⟩
open Go.CE Go.RowKit Go.Num
open Go.Eng (setL)
theorem neqI {k:IntKind} {n:Int}:binW .neq (.int k n) (.int k n)=some (.bool false):=by rw [b_neq];simp
theorem eqlB1 (a:Bool):Go.Eng.binBV .eql (.bool a) (.bool a)=some (.bool true):=by cases a<;>rfl
theorem c_fil_row {k:Nat} (hk:1≤k) {z:Mem} {u v:AV} {l:List UInt32} (hx:SZ 1 RW z u l) (hy:SZ 1 RW z v l):FC (E k) 65 [u,v] z fun u _=>u=bool_ true:=by
 have hxl:=hx.le
 refine fc_of (tS_get65) (by omega) (len1 rfl) fun B j hj=>?_
 refine R4 48 O ?_
 refine fl_lenS rfl hx ?_
 refine lM rfl ?_
 refine fl_lenS rfl hy ?_
 refine lB rfl rfl neqI ?_
 refine lN ?_
 refine R5 64 O ?_
 refine fx_seq (fx_block ?_)
 refine fx_loop (fun n fs=>∃ (i:Nat),LI z [] [(0,u),(1,v),(5,Az i)] fs∧n=l.length - i∧(i≤l.length)) ?_ _ ⟨0,LI.m [] O,rfl,Nat.zero_le _⟩ (kK (by omega))
 intro n fs ⟨i,hL0,hmz0,hi⟩
 refine hL0.open fun e zl0 _=>?_
 refine R4 24 O ?_
 refine fl_lenS rfl hx ?_
 refine R3 4 O ?_
 refine xD rfl (fun hc14=>?_) (fun hc14=>?_)
 ·refine fx_kseq ?_
  refine fx_seq (fx_block ?_)
  refine fx_drwS ?_
  refine G1 5 O ?_
  refine gP rfl rfl trivial ?_
  refine fl_iadW rfl rfl hx (i) (rfl) (by omega) fun p19 hp19=>lN ?_
  refine glP O O hp19 ti ?_
  refine G1 5 O ?_
  refine gP rfl rfl trivial ?_
  refine fl_iadW rfl rfl hy (i) (rfl) (by omega) fun p23 hp23=>lN ?_
  refine glP O O hp23 ti ?_
  refine gP rfl rfl trivial ?_
  refine lB rfl rfl neqI (lN ?_)
  refine fg_nil ?_
  refine fx_condF rfl ?_
  refine fx_skip ?_
  refine sq_n ?_
  refine xG ?_
  refine lC rfl ?_
  refine lB rfl rfl (bI_add (n:=i+1) (by omega) (by omega)) ?_
  refine R0 2 O ?_
  exact lq_n (by omega) ⟨i+1,LI.m [] O,rfl,by omega⟩
 refine fx_eseq ?_
 refine lq_e ?_
 refine sq_n ?_
 refine R5 4 O ?_
 refine xT ?_
 refine rI O ?_
 rfl
theorem c_fil_IsRat {k:Nat} (hk:2≤k) {z:Mem} {n1 n2:Bool} {c1 c2 d1 d2:C} {l1 l2:List UInt32} (hx:CZ 1 RW z c1 l1) (hy:CZ 1 RW z c2 l2) (gx:CZ 1 RW z d1 l1) (gy:CZ 1 RW z d2 l2):FC (E k) 20 [.agg [Cb n1,c1,Cb n2,c2],.agg [Cb n1,d1,Cb n2,d2]] z fun u _=>u=bool_ true:=by
 refine fc_of (tS_get20) (by omega) (len1 rfl) fun B j hj=>?_
 refine xR ?_
 refine fl_bx rfl fun b2=>?_
 refine fl_bx rfl fun b3=>?_
 refine R2 16 O ?_
 refine fl_ld1 rfl Y1 rfl ?_
 refine R1 4 O ?_
 refine fl_ld1 rfl mem0 rfl ?_
 refine fl_binB rfl rfl (eqlB1 _) ?_
 refine R1 8 O ?_
 refine lD rfl ?_
 refine fl_ld1 rfl Y1 rfl ?_
 refine R1 4 O ?_
 refine lD rfl ?_
 refine fl_ld1 rfl mem0 rfl ?_
 refine lD rfl ?_
 refine fl_binB rfl rfl (eqlB1 _) ?_
 refine R1 18 O ?_
 refine lD rfl ?_
 refine fl_ld1 rfl Y1 rfl ?_
 refine R1 4 O ?_
 refine lD rfl ?_
 refine fl_ld1 rfl mem0 rfl ?_
 refine lD rfl ?_
 refine lE z (c_fil_row (by omega) hx gx) O O fun z28 _=>?_
 refine R1 18 O ?_
 refine lD rfl ?_
 refine fl_ld1 rfl Y1 rfl ?_
 refine R1 4 O ?_
 refine lD rfl ?_
 refine fl_ld1 rfl mem0 rfl ?_
 refine lD rfl ?_
 refine lE z28 (c_fil_row (by omega) hy.m gy.m) O O fun z37 _=>?_
 refine R0 6 O ?_
 refine xT ?_
 refine rI O ?_
 rfl
theorem c_law21_is {k:Nat} (hk:3≤k) {z:Mem} {ct cr:C} {t:List (List PRat)} (hx:CZ 1 (RC 4 RRat) z ct t) (hy:CZ 1 (RC 4 RRat) z cr t):FC (E k) 16 [.agg [ct],.agg [cr]] z fun u _=>u=bool_ true:=by
 have hxl:=hx.le
 refine fc_of (tS_get16) (by omega) (len1 rfl) fun B j hj=>?_
 refine xR ?_
 refine fl_bx rfl fun b2=>?_
 refine fl_bx rfl fun b3=>?_
 refine R2 16 O ?_
 refine fl_ld1 rfl Y1 rfl ?_
 refine fl_lenS rfl hx ?_
 refine lF rfl ?_
 refine fl_ld1 rfl mem0 rfl ?_
 refine fl_lenS rfl hy ?_
 refine lB rfl rfl neqI ?_
 refine lN ?_
 refine R5 64 O ?_
 refine fx_seq (fx_block ?_)
 refine fx_loop (fun n fs=>∃ (i:Nat),LI z [.blk b3 (.cells 40 [cr]),.blk b2 (.cells 24 [ct])] [(2,Ap b2),(3,Ap b3),(5,Az i)] fs∧n=t.length - i∧(i≤t.length)) ?_ _ ⟨0,LI.m [] O,rfl,Nat.zero_le _⟩ (kK (by omega))
 intro n fs ⟨i,hL0,hmz0,hi⟩
 refine hL0.open fun e zl0 _=>?_
 refine R4 16 O ?_
 refine fl_ld1 rfl Y1 rfl ?_
 refine fl_lenS rfl hx ?_
 refine R3 4 O ?_
 refine xD rfl (fun hc18=>?_) (fun hc18=>?_)
 ·refine fx_kseq ?_
  refine fx_seq (fx_block ?_)
  refine fx_ss ?_
  refine fx_drwS ?_
  obtain ⟨r,hr⟩:=at_lt (l:=t) (i:=i) (by omega)
  refine G1 2 O ?_
  refine gl1 O O (.inr Y1) O ?_
  refine G1 2 O ?_
  refine gP rfl rfl trivial ?_
  refine fl_iadS rfl rfl hx i rfl r hr fun b24 p24 cs at24 hR=>lN ?_
  obtain ⟨c24,hcs,q24⟩:=hR
  subst hcs
  refine fg_ldA (i:=⟨_,_,.load _ _ _⟩) (off:=0) rfl rfl trivial rfl at24 ti rfl (by simp) rfl sR ?_
  refine gP rfl rfl trivial ?_
  refine fl_lenS rfl q24 (lN ?_)
  refine G1 2 O ?_
  refine gl1 O O Ht O ?_
  refine G1 2 O ?_
  refine gP rfl rfl trivial ?_
  refine fl_iadS rfl rfl hy i rfl r hr fun b30 p30 cs at30 hR=>lN ?_
  obtain ⟨c30,hcs,q30⟩:=hR
  subst hcs
  refine fg_ldA (i:=⟨_,_,.load _ _ _⟩) (off:=0) rfl rfl trivial rfl at30 ti rfl (by simp) rfl sR ?_
  refine gP rfl rfl trivial ?_
  refine fl_lenS rfl q30 (lN ?_)
  refine gP rfl rfl trivial ?_
  refine lB rfl rfl neqI (lN ?_)
  refine fg_nil ?_
  refine R4 16 O ?_
  have hrl:=q24.le
  refine R0 2 O ?_
  refine fx_block ?_
  refine fx_loop (fun n fs=>∃ (jj:Nat),LI zl0 [.blk b3 (.cells 40 [cr]),.blk b2 (.cells 24 [ct])] [(2,Ap b2),(3,Ap b3),(5,Az i),(6,Az jj)] fs∧n=r.length - jj∧(jj≤r.length)) ?_ _ ⟨0,LI.m [] O,rfl,Nat.zero_le _⟩ (kK (by omega))
  intro n fs ⟨jj,hL1,hmz1,hj5⟩
  refine hL1.open fun e zl1 _=>?_
  refine R4 16 O ?_
  refine fl_ld1 rfl Y1 rfl ?_
  refine lC rfl ?_
  refine fl_iadS (zz:=zl1) rfl rfl hx.m i rfl r hr fun b38 p38 cs at38 hR=>?_
  obtain ⟨c38,hcs,q38⟩:=hR
  subst hcs
  refine fl_ldA (off:=0) rfl at38 rfl (by simp) rfl ?_
  refine fl_lenS rfl q38 ?_
  refine R3 4 O ?_
  refine xD rfl (fun hc41=>?_) (fun hc41=>?_)
  ·refine fx_kseq ?_
   refine fx_seq (fx_block ?_)
   refine fx_drwS ?_
   obtain ⟨y,hyy⟩:=at_lt (l:=r) (i:=jj) (by omega)
   refine G1 2 O ?_
   refine gl1 O O (.inr Y1) O ?_
   refine G1 2 O ?_
   refine gP rfl rfl trivial ?_
   refine fl_iadS rfl rfl hx i rfl r hr fun b47 p47 cs at47 hR=>lN ?_
   obtain ⟨c47,hcs,q47⟩:=hR
   subst hcs
   refine fg_ldA (i:=⟨_,_,.load _ _ _⟩) (off:=0) rfl rfl trivial rfl at47 ti rfl (by simp) rfl sR ?_
   refine G1 2 O ?_
   refine gP rfl rfl trivial ?_
   refine fl_iadS rfl rfl q47 jj rfl y hyy fun b50 p50 cs at50 hR=>lN ?_
   obtain ⟨c50,d50,hcs,q50,r50⟩:=hR
   subst hcs
   refine fg_ldA (i:=⟨_,_,.load _ _ _⟩) (off:=0) rfl rfl trivial rfl at50 ti rfl (by simp) rfl sR ?_
   refine G1 2 O ?_
   refine gl1 O O Ht O ?_
   refine G1 2 O ?_
   refine gP rfl rfl trivial ?_
   refine fl_iadS rfl rfl hy i rfl r hr fun b55 p55 cs at55 hR=>lN ?_
   obtain ⟨c55,hcs,q55⟩:=hR
   subst hcs
   refine fg_ldA (i:=⟨_,_,.load _ _ _⟩) (off:=0) rfl rfl trivial rfl at55 ti rfl (by simp) rfl sR ?_
   refine G1 2 O ?_
   refine gP rfl rfl trivial ?_
   refine fl_iadS rfl rfl q55 jj rfl y hyy fun b58 p58 cs at58 hR=>lN ?_
   obtain ⟨c58,d58,hcs,q58,r58⟩:=hR
   subst hcs
   refine fg_ldA (i:=⟨_,_,.load _ _ _⟩) (off:=0) rfl rfl trivial rfl at58 ti rfl (by simp) rfl sR ?_
   refine gE zl1 (c_fil_IsRat (by omega) q50.m r50.m q58.m r58.m) O O O O fun z60 _=>?_
   refine G0 2 O ?_
   refine fx_condF rfl ?_
   refine fx_skip ?_
   refine sq_n ?_
   refine xG ?_
   refine lC rfl ?_
   refine lB rfl rfl (bI_add (n:=jj+1) (by omega) (by omega)) ?_
   have hrl:=q24.le
   refine R0 2 O ?_
   exact lq_n (by omega) ⟨jj+1,LI.m [] O,rfl,by omega⟩
  refine fx_eseq ?_
  refine lq_e ?_
  refine sq_n ?_
  refine xG ?_
  refine lC rfl ?_
  refine lB rfl rfl (bI_add (n:=i+1) (by omega) (by omega)) ?_
  refine R0 2 O ?_
  exact lq_n (by omega) ⟨i+1,LI.m [] O,rfl,by omega⟩
 refine fx_eseq ?_
 refine lq_e ?_
 refine sq_n ?_
 refine R5 4 O ?_
 refine xT ?_
 refine rI O ?_
 rfl
theorem c_law21_same {k:Nat} (hk:3≤k) {z:Mem} {u v:AV} {l:List PEn} (hx:SZ 6 REn z u l) (hy:SZ 6 REn z v l):FC (E k) 60 [u,v] z fun u _=>u=bool_ true:=by
 have hxl:=hx.le
 refine fc_of (tS_get60) (by omega) (len1 rfl) fun B j hj=>?_
 refine R4 48 O ?_
 refine fl_lenS rfl hx ?_
 refine lM rfl ?_
 refine fl_lenS rfl hy ?_
 refine lB rfl rfl neqI ?_
 refine lN ?_
 refine R5 64 O ?_
 refine fx_seq (fx_block ?_)
 refine fx_loop (fun n fs=>∃ (i:Nat),LI z [] [(0,u),(1,v),(5,Az i)] fs∧n=l.length - i∧(i≤l.length)) ?_ _ ⟨0,LI.m [] O,rfl,Nat.zero_le _⟩ (kK (by omega))
 intro n fs ⟨i,hL0,hmz0,hi⟩
 refine hL0.open fun e zl0 _=>?_
 refine R4 24 O ?_
 refine fl_lenS rfl hx ?_
 refine R3 4 O ?_
 refine xD rfl (fun hc14=>?_) (fun hc14=>?_)
 ·refine fx_kseq ?_
  refine fx_seq (fx_block ?_)
  refine fx_drwS ?_
  obtain ⟨a,ha⟩:=at_lt (l:=l) (i:=i) (by omega)
  refine G1 5 O ?_
  refine gP rfl rfl trivial ?_
  refine fl_iadS rfl rfl hx i rfl a ha fun b19 p19 cs at19 hR=>lN ?_
  obtain ⟨c19,d19,hcs,q19,r19⟩:=hR
  subst hcs
  refine G1 2 O ?_
  refine fg_ldA (i:=⟨_,_,.load _ _ _⟩) (off:=0) rfl rfl trivial rfl at19 ti rfl (by simp) rfl sR ?_
  refine G1 5 O ?_
  refine gP rfl rfl trivial ?_
  refine fl_iadS rfl rfl hy i rfl a ha fun b24 p24 cs at24 hR=>lN ?_
  obtain ⟨c24,d24,hcs,q24,r24⟩:=hR
  subst hcs
  refine G1 2 O ?_
  refine fg_ldA (i:=⟨_,_,.load _ _ _⟩) (off:=0) rfl rfl trivial rfl at24 ti rfl (by simp) rfl sR ?_
  refine gP rfl rfl trivial ?_
  refine lB rfl rfl neqI (lN ?_)
  refine G1 10 O ?_
  refine gP rfl rfl rfl ?_
  refine fl_iadS rfl rfl hx i rfl a ha fun b31 p31 cs at31 hR=>lN ?_
  obtain ⟨c31,d31,hcs,q31,r31⟩:=hR
  subst hcs
  refine G1 2 O ?_
  refine fg_ldA (i:=⟨_,_,.load _ _ _⟩) (off:=1) rfl rfl rfl rfl at31 ti rfl (by simp) rfl sR ?_
  refine G1 5 O ?_
  refine gP rfl rfl rfl ?_
  refine fl_iadS rfl rfl hy i rfl a ha fun b36 p36 cs at36 hR=>lN ?_
  obtain ⟨c36,d36,hcs,q36,r36⟩:=hR
  subst hcs
  refine G1 2 O ?_
  refine fg_ldA (i:=⟨_,_,.load _ _ _⟩) (off:=1) rfl rfl rfl rfl at36 ti rfl (by simp) rfl sR ?_
  refine gP rfl rfl rfl ?_
  refine lB rfl rfl neqI (lN ?_)
  refine G1 22 O ?_
  refine gP rfl rfl rfl ?_
  refine fl_iadS rfl rfl hx i rfl a ha fun b44 p44 cs at44 hR=>lN ?_
  obtain ⟨c44,d44,hcs,q44,r44⟩:=hR
  subst hcs
  refine G1 2 O ?_
  refine fg_ldA (i:=⟨_,_,.load _ _ _⟩) (off:=2) rfl rfl rfl rfl at44 ti rfl (by simp) rfl sR ?_
  refine G1 5 O ?_
  refine gP rfl rfl rfl ?_
  refine fl_iadS rfl rfl hy i rfl a ha fun b49 p49 cs at49 hR=>lN ?_
  obtain ⟨c49,d49,hcs,q49,r49⟩:=hR
  subst hcs
  refine G1 2 O ?_
  refine fg_ldA (i:=⟨_,_,.load _ _ _⟩) (off:=2) rfl rfl rfl rfl at49 ti rfl (by simp) rfl sR ?_
  refine gE zl0 (c_fil_IsRat (by omega) q44.m r44.m q49.m r49.m) O O O O fun z52 _=>?_
  refine G0 4 O ?_
  refine fx_condF rfl ?_
  refine fx_skip ?_
  refine sq_n ?_
  refine xG ?_
  refine lC rfl ?_
  refine lB rfl rfl (bI_add (n:=i+1) (by omega) (by omega)) ?_
  refine R0 2 O ?_
  exact lq_n (by omega) ⟨i+1,LI.m [] O,rfl,by omega⟩
 refine fx_eseq ?_
 refine lq_e ?_
 refine sq_n ?_
 refine R5 4 O ?_
 refine xT ?_
 refine rI O ?_
 rfl
end Go.Proofs.YtlceligcgelbdaaGreat

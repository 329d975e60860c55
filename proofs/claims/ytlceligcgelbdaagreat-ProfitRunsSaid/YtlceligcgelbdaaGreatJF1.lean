/- Sums; how great things are; what is the same, walked. -/
import Derived.WalkKit
import Derived.Orders
import Derived.Test.YtlceligcgelbdaaGreatJD4
set_option linter.unusedVariables false
set_option linter.unusedSimpArgs false
set_option maxRecDepth 100000
set_option maxHeartbeats 1000000
namespace Go.Proofs.YtlceligcgelbdaaGreat
open Go.CE Go.RowKit
structure PRat where
 n:Bool
 nm:List UInt32
 d:Bool
 dm:List UInt32
def RRat:RT PRat:=fun z cs a=>∃ c0 c1,cs=[.v (.bool a.n),c0,.v (.bool a.d),c1]∧CZ 1 RW z c0 a.nm∧CZ 1 RW z c1 a.dm
abbrev kR (a:PRat) (c0 c1:C):List C:=[.v (.bool a.n),c0,.v (.bool a.d),c1]
open Go.CE Go.RowKit
theorem at_lt {α:Type} {l:List α} {i:Nat} (h:i<l.length):∃ a,l[i]? = some a:=⟨_,List.getElem?_eq_getElem h⟩
theorem b_eqlS (a b:ByteArray):binW .eql (.string a) (.string b)=some (.bool (decide (a=b))):=by
 show some (Value.bool (bsame a.data.toList b.data.toList))=_
 rw [bsame_eq]
 congr 2
 rw [Bool.eq_iff_iff]
 simp only [beq_iff_eq,decide_eq_true_eq]
 constructor
 ·intro h
  apply ByteArray.ext
  exact Array.ext' h
 intro h;rw [h]
theorem b_neqS (a b:ByteArray):binW .neq (.string a) (.string b)=some (.bool (!decide (a=b))):=by
 have:=b_eqlS a b
 simp only [binW,binS,Option.some.injEq,Value.bool.injEq] at this ⊢
 rw [this]
open Go.CE Go.RowKit Go.Num
open Go.Eng (setL)
theorem c_rat_Add {k:Nat} (hk:10≤k) {z:Mem} {n1 n2:Bool} {c1 c2:C} {l1 l2:List UInt32} (hx:CZ 1 RW z c1 l1) (hy:CZ 1 RW z c2 l2) (h1:l1.length≤9000000) (h2:l2.length≤9000000) {n3 n4:Bool} {c3 c4:C} {l3 l4:List UInt32} (hu:CZ 1 RW z c3 l3) (hw:CZ 1 RW z c4 l4) (h3:l3.length≤9000000) (h4:l4.length≤9000000):FC (E k) 36 [.agg [Cb n1,c1,Cb n2,c2],.agg [Cb n3,c3,Cb n4,c4]] z fun v z'=>QV (zd z z') v ((valR ((n1,l1),(n2,l2)))+(valR ((n3,l3),(n4,l4)))):=by
 have em1:=Nat.le_trans (lenN (x:=((n1,l1),(n2,l2)))) h1
 have en1:=Nat.le_trans (lenD (x:=((n1,l1),(n2,l2)))) (Nat.succ_le_succ h2)
 have em2:=Nat.le_trans (lenN (x:=((n3,l3),(n4,l4)))) h3
 have en2:=Nat.le_trans (lenD (x:=((n3,l3),(n4,l4)))) (Nat.succ_le_succ h4)
 have om1:=Nat.le_trans em1 (show 9000000≤20000000 by decide)
 have om2:=Nat.le_trans em2 (show 9000000≤20000000 by decide)
 have on1:=Nat.le_trans en1 (show 9000000+1≤20000000 by decide)
 have on2:=Nat.le_trans en2 (show 9000000+1≤20000000 by decide)
 refine fc_of (tS_get36) (by omega) (len1 rfl) fun B j hj=>?_
 refine xR ?_
 refine fl_bx rfl fun b2=>?_
 refine fl_bx rfl fun b3=>?_
 refine fl_al4 fun b4=>?_
 refine lN ?_
 refine fx_drwS ?_
 refine gl4 O O (.inr Y2) O ?_
 refine gC z (c_rat_right (by omega) hx hy (Nat.le_trans h1 (show 9000000≤20000000 by decide)) (Nat.le_trans h2 (show 9000000≤20000000 by decide))) O O O O fun v6 z6 hz6 hv6=>?_
 have hw6:=qv_op (hv6 _ hx.m hy.m zd_le)
 obtain ⟨c6,d6,hv,hm6,hn6⟩:=hw6
 subst hv
 refine gl4 O O (.inr Y1) O ?_
 refine gC z6 (c_rat_right (by omega) hu.m hw.m (Nat.le_trans h3 (show 9000000≤20000000 by decide)) (Nat.le_trans h4 (show 9000000≤20000000 by decide))) O O O O fun v8 z8 hz8 hv8=>?_
 have hw8:=qv_op (hv8 _ hu.m hw.m zd_le)
 obtain ⟨c8,d8,hv,hm8,hn8⟩:=hw8
 subst hv
 refine gC z8 (c_rat_add (by omega) hm6.m hn6.m hm8 hn8 (Nat.le_succ_of_le em1) en1 (Nat.le_succ_of_le em2) en2) O O O O fun v9 z9 _ hv9=>?_
 obtain ⟨c9,d9,hv,hm9,hn9⟩:=hv9
 subst hv
 have hm9:=hm9.mono (zAq (hz6.trans hz8))
 have hn9:=hn9.mono (zAq (hz6.trans hz8))
 refine gS O O O ?_
 refine fl_st4 rfl rfl rep0 ?_
 refine lN ?_
 refine fg_nil ?_
 refine xT ?_
 refine rQ (.inl rfl) (rc4 rfl mem0 rn) ?_
 exact ⟨_,_,rfl,hm9,hn9⟩
theorem c_rat_Sub {k:Nat} (hk:11≤k) {z:Mem} {n1 n2:Bool} {c1 c2:C} {l1 l2:List UInt32} (hx:CZ 1 RW z c1 l1) (hy:CZ 1 RW z c2 l2) (h1:l1.length≤9000000) (h2:l2.length≤9000000) {n3 n4:Bool} {c3 c4:C} {l3 l4:List UInt32} (hu:CZ 1 RW z c3 l3) (hw:CZ 1 RW z c4 l4) (h3:l3.length≤9000000) (h4:l4.length≤9000000):FC (E k) 35 [.agg [Cb n1,c1,Cb n2,c2],.agg [Cb n3,c3,Cb n4,c4]] z fun v z'=>QV (zd z z') v ((valR ((n1,l1),(n2,l2))) - (valR ((n3,l3),(n4,l4)))):=by
 have em1:=Nat.le_trans (lenN (x:=((n1,l1),(n2,l2)))) h1
 have en1:=Nat.le_trans (lenD (x:=((n1,l1),(n2,l2)))) (Nat.succ_le_succ h2)
 have em2:=Nat.le_trans (lenN (x:=((n3,l3),(n4,l4)))) h3
 have en2:=Nat.le_trans (lenD (x:=((n3,l3),(n4,l4)))) (Nat.succ_le_succ h4)
 have om1:=Nat.le_trans em1 (show 9000000≤20000000 by decide)
 have om2:=Nat.le_trans em2 (show 9000000≤20000000 by decide)
 have on1:=Nat.le_trans en1 (show 9000000+1≤20000000 by decide)
 have on2:=Nat.le_trans en2 (show 9000000+1≤20000000 by decide)
 have ng1:(toL (-(valR ((n3,l3),(n4,l4)))).num.natAbs).length≤9000001:=by rw [Rat.neg_num,Int.natAbs_neg];exact Nat.le_succ_of_le em2
 have ng2:(toL ((-(valR ((n3,l3),(n4,l4)))).den:Int).natAbs).length≤9000001:=by rw [Rat.neg_den];exact en2
 refine fc_of (tS_get35) (by omega) (len1 rfl) fun B j hj=>?_
 refine xR ?_
 refine fl_bx rfl fun b2=>?_
 refine fl_bx rfl fun b3=>?_
 refine fl_al4 fun b4=>?_
 refine lN ?_
 refine fx_drwS ?_
 refine gl4 O O (.inr Y2) O ?_
 refine gC z (c_rat_right (by omega) hx hy (Nat.le_trans h1 (show 9000000≤20000000 by decide)) (Nat.le_trans h2 (show 9000000≤20000000 by decide))) O O O O fun v6 z6 hz6 hv6=>?_
 have hw6:=qv_op (hv6 _ hx.m hy.m zd_le)
 obtain ⟨c6,d6,hv,hm6,hn6⟩:=hw6
 subst hv
 refine gl4 O O (.inr Y1) O ?_
 refine gC z6 (c_rat_Neg (by omega) hu.m hw.m h3 h4) O O O O fun v8 z8 hz8 hv8=>?_
 obtain ⟨c8,d8,hv,hm8,hn8⟩:=hv8
 subst hv
 have hm8:=hm8.mono (zAq (hz6))
 have hn8:=hn8.mono (zAq (hz6))
 refine gC z8 (c_rat_add (by omega) hm6.m hn6.m (hm8.mono zd_le) (hn8.mono zd_le) (Nat.le_succ_of_le em1) en1 ng1 ng2) O O O O fun v9 z9 _ hv9=>?_
 rw [← Rat.sub_eq_add_neg] at hv9
 obtain ⟨c9,d9,hv,hm9,hn9⟩:=hv9
 subst hv
 have hm9:=hm9.mono (zAq (hz6.trans hz8))
 have hn9:=hn9.mono (zAq (hz6.trans hz8))
 refine gS O O O ?_
 refine fl_st4 rfl rfl rep0 ?_
 refine lN ?_
 refine fg_nil ?_
 refine xT ?_
 refine rQ (.inl rfl) (rc4 rfl mem0 rn) ?_
 exact ⟨_,_,rfl,hm9,hn9⟩
open Go.CE Go.RowKit Go.Num
open Go.Eng (setL)
abbrev bool_ (b:Bool):AV:=Ab b
theorem tk_all {α:Type} {P:α→Prop} {l:List α} {i:Nat} {a:α} (ha:l[i]? = some a) (h:∀ x,x∈l.take i→P x) (g:P a):∀ x,x∈l.take (i+1)→P x:=fun x hx=>by
 rw [List.take_add_one,ha] at hx
 rcases List.mem_append.1 hx with hx | hx
 ·exact h x hx
 simp at hx;subst hx;exact g
open Go.CE Go.RowKit Go.Num
open Go.Eng (setL)
theorem rcAll {fs:Sf} {i b ty size:Nat} {cs:List C} {rs:List RR} {vs:List AV} (hp:fs.e i=Ap b) (hm:HA.blk b (.cells ty cs)∈fs.H) (hs:cs.length=size) (t:ResL fs rs vs):ResL fs (.c i true size::rs) (.agg cs::vs):=rc hp hm (by omega) (by rw [List.drop_zero,List.take_of_length_le (by omega)];rfl) t
theorem tk_some {α:Type} {l:List α} {i:Nat} {a:α} (h:l[i]? = some a):l.take (i+1)=l.take i++[a]:=by rw [List.take_add_one,h];rfl
open Go.CE Go.RowKit Go.Num
open Go.Eng (setL)
theorem neqI {k:IntKind} {n:Int}:binW .neq (.int k n) (.int k n)=some (.bool false):=by rw [b_neq];simp
theorem eqlB1 (a:Bool):Go.Eng.binBV .eql (.bool a) (.bool a)=some (.bool true):=by cases a<;>rfl
theorem c_fil_row {k:Nat} (hk:1≤k) {z:Mem} {u v:AV} {l:List UInt32} (hx:SZ 1 RW z u l) (hy:SZ 1 RW z v l):FC (E k) 65 [u,v] z fun u _=>u=bool_ true:=by
 have hxl:=hx.le
 refine fc_of (tS_get65) (by omega) (len1 rfl) fun B j hj=>?_
 refine R4 48 O ?_
 refine fl_lenS rfl hx ?_
 refine lM rfl ?_
 refine fl_lenS rfl hy ?_
 refine lB rfl rfl neqI ?_
 refine lN ?_
 refine R5 64 O ?_
 refine fx_seq (fx_block ?_)
 refine fx_loop (fun n fs=>∃ (i:Nat),LI z [] [(0,u),(1,v),(5,Az i)] fs∧n=l.length - i∧(i≤l.length)) ?_ _ ⟨0,LI.m [] O,rfl,Nat.zero_le _⟩ (kK (by omega))
 intro n fs ⟨i,hL0,hmz0,hi⟩
 refine hL0.open fun e zl0 _=>?_
 refine R4 24 O ?_
 refine fl_lenS rfl hx ?_
 refine R3 4 O ?_
 refine xD rfl (fun hc14=>?_) (fun hc14=>?_)
 ·refine fx_kseq ?_
  refine fx_seq (fx_block ?_)
  refine fx_drwS ?_
  refine G1 5 O ?_
  refine gP rfl rfl trivial ?_
  refine fl_iadW rfl rfl hx (i) (rfl) (by omega) fun p19 hp19=>lN ?_
  refine glP O O hp19 ti ?_
  refine G1 5 O ?_
  refine gP rfl rfl trivial ?_
  refine fl_iadW rfl rfl hy (i) (rfl) (by omega) fun p23 hp23=>lN ?_
  refine glP O O hp23 ti ?_
  refine gP rfl rfl trivial ?_
  refine lB rfl rfl neqI (lN ?_)
  refine fg_nil ?_
  refine fx_condF rfl ?_
  refine fx_skip ?_
  refine sq_n ?_
  refine xG ?_
  refine lC rfl ?_
  refine lB rfl rfl (bI_add (n:=i+1) (by omega) (by omega)) ?_
  refine R0 2 O ?_
  exact lq_n (by omega) ⟨i+1,LI.m [] O,rfl,by omega⟩
 refine fx_eseq ?_
 refine lq_e ?_
 refine sq_n ?_
 refine R5 4 O ?_
 refine xT ?_
 refine rI O ?_
 rfl
theorem c_fil_IsRat {k:Nat} (hk:2≤k) {z:Mem} {n1 n2:Bool} {c1 c2 d1 d2:C} {l1 l2:List UInt32} (hx:CZ 1 RW z c1 l1) (hy:CZ 1 RW z c2 l2) (gx:CZ 1 RW z d1 l1) (gy:CZ 1 RW z d2 l2):FC (E k) 20 [.agg [Cb n1,c1,Cb n2,c2],.agg [Cb n1,d1,Cb n2,d2]] z fun u _=>u=bool_ true:=by
 refine fc_of (tS_get20) (by omega) (len1 rfl) fun B j hj=>?_
 refine xR ?_
 refine fl_bx rfl fun b2=>?_
 refine fl_bx rfl fun b3=>?_
 refine R2 16 O ?_
 refine fl_ld1 rfl Y1 rfl ?_
 refine R1 4 O ?_
 refine fl_ld1 rfl mem0 rfl ?_
 refine fl_binB rfl rfl (eqlB1 _) ?_
 refine R1 8 O ?_
 refine lD rfl ?_
 refine fl_ld1 rfl Y1 rfl ?_
 refine R1 4 O ?_
 refine lD rfl ?_
 refine fl_ld1 rfl mem0 rfl ?_
 refine lD rfl ?_
 refine fl_binB rfl rfl (eqlB1 _) ?_
 refine R1 18 O ?_
 refine lD rfl ?_
 refine fl_ld1 rfl Y1 rfl ?_
 refine R1 4 O ?_
 refine lD rfl ?_
 refine fl_ld1 rfl mem0 rfl ?_
 refine lD rfl ?_
 refine lE z (c_fil_row (by omega) hx gx) O O fun z28 _=>?_
 refine R1 18 O ?_
 refine lD rfl ?_
 refine fl_ld1 rfl Y1 rfl ?_
 refine R1 4 O ?_
 refine lD rfl ?_
 refine fl_ld1 rfl mem0 rfl ?_
 refine lD rfl ?_
 refine lE z28 (c_fil_row (by omega) hy.m gy.m) O O fun z37 _=>?_
 refine R0 6 O ?_
 refine xT ?_
 refine rI O ?_
 rfl
end Go.Proofs.YtlceligcgelbdaaGreat

/- The reference's digits, walked. -/
import Derived.WalkKit
import Derived.Orders
import Derived.Test.YtlceligcgelbdaaGreatJD1
set_option linter.unusedVariables false
set_option linter.unusedSimpArgs false
set_option maxRecDepth 100000
set_option maxHeartbeats 1000000
namespace Go.Proofs.YtlceligcgelbdaaGreat
open Go.CE Go.RowKit Go.Num
open Go.Eng (setL)
theorem hdig_ge {l:List Nat} {i:Nat} (h:l.length≤i):hdig l i=0:=by
 simp [hdig,List.getD_eq_getElem?_getD,List.getElem?_eq_none h]
theorem hdig_take {l:List Nat} {m i:Nat} (h:i<m):hdig (l.take m) i=hdig l i:=by
 simp [hdig,List.getD_eq_getElem?_getD,List.getElem?_take,h]
theorem okH_take {l:List Nat} (h:okH l) (m:Nat):okH (l.take m):=fun x hx=>h x (List.mem_of_mem_take hx)
theorem trimH_step {l:List Nat} {m:Nat} (h0:0<m) (hm:m≤l.length) (h:hdig (l.take m) (m - 1)=0):hv (l.take (m - 1))=hv (l.take m):=by
 obtain ⟨k,rfl⟩:∃ k,m=k+1:=⟨m - 1,by omega⟩
 rw [Nat.add_sub_cancel] at h ⊢
 rw [hdig_take (by omega)] at h
 rw [hv_take_succ,h]
 simp
theorem canonH_dig {l:List Nat} (h:l.length=0∨hdig l (l.length - 1)≠0):canonH l:=by
 by_cases hl:l=[]
 ·exact .inl hl
 have hp:0<l.length:=List.length_pos_iff.2 hl
 rcases h with h | h
 ·omega
 refine .inr ⟨l.dropLast,l.getLast hl,(List.dropLast_concat_getLast hl).symm,fun e=>h ?_⟩
 rw [hdig,List.getD_eq_getElem?_getD,List.getElem?_eq_getElem (by omega),Option.getD_some,← List.getLast_eq_getElem hl,e]
theorem trimH_done {l:List Nat} {m:Nat} (ok:okH l) (hm:m≤l.length) (hq:hv (l.take m)=hv l) (h:m=0∨hdig (l.take m) (m - 1)≠0):l.take m=toH (hv l):=by
 rw [← hq,toH_hv (okH_take ok m)]
 apply canonH_dig
 rcases h with rfl | h
 ·exact .inl (by simp)
 rw [take_len hm];exact .inr h
theorem c_ref01_at {k:Nat} (hk:1≤k) {z:Mem} {v:AV} {l:List Nat} {i:Nat} (hx:SZ 1 RN z v l):FC (E k) 270 [v,Az i] z fun w _=>w=Az (hdig l i):=by
 refine fc_of (tS_get270) (by omega) (len1 rfl) fun B j hj=>?_
 refine R4 96 O (fl_lenS rfl hx (R3 4 O ?_))
 refine xD rfl (fun hc8=>?_) (fun hc8=>?_)
 ·refine R4 20 O ?_
  refine fl_iadH rfl rfl hx (i) (rfl) (by omega) fun p11 hp11=>?_
  refine fl_ldP rfl hp11 (R0 2 O (fx_rseq (rI O ?_)))
  rfl
 refine R5 8 O (xT (rI O ?_))
 rw [hdig_ge (by omega)]
 rfl
theorem c_ref01_cut {k:Nat} (hk:1≤k) {z:Mem} {v:AV} {l:List Nat} (ok:okH l) (hx:SZ 1 RN z v l):FC (E k) 299 [v] z fun v' _=>∀ zz,SZ 1 RN zz v l→SZ 1 RN zz v' (toH (hv l)):=by
 have hxl:=hx.le
 refine fc_of (tS_get299) (by omega) (len1 rfl) fun B j hj=>?_
 refine R5 4 O ?_
 refine fx_seq (fx_block ?_)
 refine fx_loop (fun n fs=>∃ (v':AV) (m:Nat),LI z [] [(0,v')] fs∧n=m∧(m≤l.length)∧(hv (l.take m)=hv l)∧(∀ zz,SZ 1 RN zz v l→SZ 1 RN zz v' (l.take m))) ?_ _ ⟨v,l.length,LI.m [] O,rfl,Nat.le_refl _,by rw [List.take_length],fun zz h=>by rw [List.take_length];exact h⟩ (kK (by omega))
 intro n fs ⟨v',m,hL0,hmz0,hm,hq,ht⟩
 refine hL0.open fun e zl0 hzl0=>?_
 refine R4 12 O (fl_lenN rfl (ht _ (hx.mono (hzl0))) (take_len hm) (R1 4 O ?_))
 refine fl_splitD 6 rfl (fun hg6=>?_) (fun hg6=>?_)
 ·refine R1 7 O (lD rfl (fl_lenN rfl (ht _ (hx.mono (hzl0))) (take_len hm) (lD rfl (lB rfl rfl (bI_sub (n:=m - 1) (by omega) (by omega)) (lD rfl ?_)))))
  refine fl_iadH rfl rfl (ht _ (hx.mono (hzl0))) (m - 1) (rfl) (by rw [take_len hm];omega) fun p11 hp11=>?_
  refine lD rfl (fl_ldP rfl hp11 (R3 8 O ?_))
  refine xD rfl (fun hc14=>?_) (fun hc14=>?_)
  ·refine fx_kseq (fx_block (xG (R1 7 O (fl_lenN rfl (ht _ (hx.mono (hzl0))) (take_len hm) (lB rfl rfl (bI_sub (n:=m - 1) (by omega) (by omega)) ?_)))))
   refine fl_slcS (i:=0) (j:=m - 1) rfl (ht _ (hx.mono (hzl0))) rfl ⟨_,rfl⟩ (by omega) (by rw [take_len hm];omega) ?_
   refine R0 3 O ?_
   exact lq_n (by omega) ⟨subV v' 0 (m - 1),m - 1,LI.m [] O,rfl,by omega,(trimH_step (by omega) hm (by omega)).trans hq,fun zz h=>by have:=(ht zz h).sub (i:=0) (j:=m - 1) (by omega) (by rw [take_len hm];omega);rwa [List.drop_zero,List.take_take,Nat.min_eq_left (by omega)] at this⟩
  refine fx_eseq (lq_e (sq_n (R5 14 O (xT (rI O ?_)))))
  intro zz h
  rw [← trimH_done ok hm hq (.inr (by omega))]
  exact ht zz h
 refine R3 1024 O (fx_eseq (lq_e (sq_n (R5 14 O (xT (rI O ?_))))))
 intro zz h
 rw [← trimH_done ok hm hq (.inl (by omega))]
 exact ht zz h
end Go.Proofs.YtlceligcgelbdaaGreat
namespace Go.Num
def pairs:List Nat→List UInt32
 | []=>[]
 | [a]=>[UInt32.ofNat a]
 | a::b::r=>UInt32.ofNat (a+65536 * b)::pairs r
theorem okH_tail {a:Nat} {l:List Nat} (h:okH (a::l)):okH l:=fun x hx=>h x (List.mem_cons_of_mem _ hx)
theorem okH_head {a:Nat} {l:List Nat} (h:okH (a::l)):a<65536:=h a (List.mem_cons_self ..)
theorem val_pairs:∀ {l:List Nat},okH l→val (pairs l)=hv l
 | [],_=>rfl
 | [a],ok=>by
  have ha:=okH_head ok
  show (UInt32.ofNat a).toNat+W * 0=a+H * 0
  rw [ofNat_toNat (by show a<4294967296;omega)]
  rfl
 | a::b::r,ok=>by
  have ha:=okH_head ok
  have hb:=okH_head (okH_tail ok)
  show (UInt32.ofNat (a+65536 * b)).toNat+W * val (pairs r)=a+H * (b+H * hv r)
  rw [ofNat_toNat (by show _<4294967296;omega),val_pairs (okH_tail (okH_tail ok))]
  show a+65536 * b+4294967296 * hv r=a+65536 * (b+65536 * hv r)
  omega
theorem pairs_len:∀ (l:List Nat),(pairs l).length=(l.length+1) / 2
 | []=>rfl
 | [a]=>by simp [pairs]
 | a::b::r=>by
  simp only [pairs,List.length_cons,pairs_len r]
  omega
theorem dig_pairs:∀ {l:List Nat} (j:Nat),okH l→dig (pairs l) j=hdig l (2 * j)+65536 * hdig l (2 * j+1)
 | [],j,_=>by simp [pairs,dig,hdig]
 | [a],0,ok=>by
  have ha:=okH_head ok
  show (UInt32.ofNat a).toNat=a+65536 * 0
  rw [ofNat_toNat (by show a<4294967296;omega)]
  rfl
 | [a],j+1,ok=>by simp [pairs,dig,hdig]
 | a::b::r,0,ok=>by
  have ha:=okH_head ok
  have hb:=okH_head (okH_tail ok)
  show (UInt32.ofNat (a+65536 * b)).toNat=a+65536 * b
  rw [ofNat_toNat (by show _<4294967296;omega)]
 | a::b::r,j+1,ok=>dig_pairs (l:=r) j (okH_tail (okH_tail ok))
theorem hdig_top {l:List Nat} (h:canonH l) (hl:0<l.length):hdig l (l.length - 1)≠0:=by
 rcases h with rfl | ⟨r,x,rfl,hx⟩
 ·simp at hl
 intro e
 rw [hdig,List.getD_eq_getElem?_getD] at e
 simp at e
 exact hx e
theorem pairs_toH (n:Nat):pairs (toH n)=toL n:=by
  have ok:=ok_toH n
  have hc:=canon_toH n
  have e:val (pairs (toH n))=n:=by rw [val_pairs ok,hv_toH]
  conv=>rhs;rw [← e]
  apply toL_eq
  apply canon_dig
  rcases Nat.eq_zero_or_pos (toH n).length with h | h
  · left;rw [List.eq_nil_of_length_eq_zero h];rfl
  · right
    rw [dig_pairs _ ok,pairs_len]
    have ht:=hdig_top hc h
    rcases Nat.mod_two_eq_zero_or_one (toH n).length with hm | hm
    · rw [show 2 * (((toH n).length + 1) / 2 - 1) + 1 = (toH n).length - 1 by omega]
      omega
    · rw [show 2 * (((toH n).length + 1) / 2 - 1) = (toH n).length - 1 by omega]
      omega
end Go.Num
namespace Go.Proofs.YtlceligcgelbdaaGreat
open Go.CE Go.RowKit Go.Num
open Go.Eng (setL)
theorem hdig_l6 {l:List Nat} (ok:okH l) (i:Nat):hdig l i<65536:=hdig_lt ok i
theorem bD_mul65 {x:Nat} (h:x<65536):binW .mul (.int .u32 65536) (.int .u32 (x:Nat))=some (.int .u32 ((65536 * x:Nat):Int)):=by
 rw [b_mul,wu32 ⟨by omega,by omega⟩,Int.natCast_mul]
 rfl
theorem bD_add65 {x y:Nat} (h:x<65536) (h2:y<65536):binW .add (.int .u32 (x:Nat)) (.int .u32 ((65536 * y:Nat):Int))=some (.int .u32 ((x+65536 * y:Nat):Int)):=bD_add (by omega) (by omega)
theorem pairs_next {c:List Nat} {i:Nat} {o:List UInt32} (ok:okH c) (h:o=(pairs c).take i) (hi:i<(pairs c).length):o++[UInt32.ofNat (hdig c (2 * i)+65536 * hdig c (2 * i+1))]=(pairs c).take (i+1):=by
 rw [h,List.take_add_one,List.getElem?_eq_getElem hi,← dig_pairs i ok]
 simp [dig,List.getD_eq_getElem?_getD,List.getElem?_eq_getElem hi]
theorem c_ref01_limbs {k:Nat} (hk:2≤k) {z:Mem} {v:AV} {l:List Nat} (ok:okH l) (hx:SZ 1 RN z v l) (hl:l.length≤10000000000):FC (E k) 271 [v] z fun v' z'=>SZ 1 RW (zd z z') v' (toL (hv l)):=by
 have okc:=ok_toH (hv l)
 have hcl:(toH (hv l)).length≤l.length:=toH_len.2 (hv_lt ok)
 have hpl:=pairs_len (toH (hv l))
 have hol:(toL (hv l)).length=((toH (hv l)).length+1) / 2:=by rw [← pairs_toH,pairs_len]
 refine fc_of (tS_get271) (by omega) (len1 rfl) fun B j hj=>?_
 refine R4 96 O ?_
 refine lZ z (c_ref01_cut (by omega) ok hx) rfl rfl fun v7 z7 hz7 ht7=>?_
 have hs7:=ht7 _ (hx.mono (hz7))
 refine R2 9 O (fl_row0 117 1 (R0 2 O ?_))
 refine fx_seq (fx_block ?_)
 refine fx_loop (fun n fs=>∃ (i:Nat) (o:List UInt32) (u:AV),LI z7 [rowE eW u 117 o] [(0,v7),(3,u),(4,Az (2 * i))] fs∧n=(pairs (toH (hv l))).length - i∧(i≤(pairs (toH (hv l))).length)∧(o=(pairs (toH (hv l))).take i)) ?_ _ ⟨0,[],nilv,LI.m [] O,rfl,Nat.zero_le _,rfl⟩ (kK (by omega))
 intro n fs ⟨i,o,u,hL0,hmz0,hi,ho⟩
 refine hL0.open fun e zl0 _=>?_
 refine R4 24 O (fl_lenS rfl hs7 (R3 4 O ?_))
 refine xD rfl (fun hc11=>?_) (fun hc11=>?_)
 ·refine fx_kseq ?_
  refine fx_seq (fx_block ?_)
  refine R4 32 O (lB rfl rfl (bI_add (n:=2 * i+1) (by omega) (by omega)) (lM rfl (fl_lenS rfl hs7 (R0 2 O ?_))))
  refine fx_join (fun fs=>LI zl0 [rowE eW u 117 o] [(0,v7),(3,u),(4,Az (2 * i)),(5,Az (hdig (toH (hv l)) (2 * i+1)))] fs) ?_ fun fs hJ=>?_
  ·refine xD rfl (fun hc18=>?_) (fun hc18=>?_)
   ·refine xG (R1 5 O (lB rfl rfl (bI_add (n:=2 * i+1) (by omega) (by omega)) ?_))
    refine fl_iadH (zz:=zl0) rfl rfl hs7.m (2 * i+1) (rfl) (by omega) fun p22 hp22=>?_
    refine fl_ldP rfl hp22 (R0 2 O ?_)
    exact sq_n (LI.m [] O)
   refine fx_skip ?_
   rw [show hdig (toH (hv l)) (2 * i+1)=0 from hdig_ge (by omega)]
   exact sq_n (LI.m [] O)
  have hJ18:=hJ
  refine hJ18.open fun e zj18 _=>?_
  refine xG (R1 11 O ?_)
  refine fl_iadH (zz:=zj18) rfl rfl hs7.m (2 * i) (rfl) (by omega) fun p27 hp27=>?_
  refine fl_ldP rfl hp27 ?_
  refine fl_cvi rfl (wD (rfl) (by have:=hdig_l6 okc (2 * i);omega)) ?_
  refine lC rfl ?_
  refine fl_cvi rfl (wD (rfl) (by have:=hdig_l6 okc (2 * i+1);omega)) ?_
  refine lB rfl rfl ((bD_mul65 (hdig_l6 okc (2 * i+1)))) (lB rfl rfl ((bD_add65 (hdig_l6 okc (2 * i)) (hdig_l6 okc (2 * i+1)))) ?_)
  have hoi:o.length=i:=by rw [ho];exact take_len hi
  refine fl_push (e:=eW) (a:=(UInt32.ofNat (hdig (toH (hv l)) (2 * i)+65536 * hdig (toH (hv l)) (2 * i+1)))) rfl (by have h8:=hdig_l6 okc (2 * i);have h9:=hdig_l6 okc (2 * i+1);rw [eW,Go.Num.ofNat_toNat (by show _<4294967296;omega)]) rfl (fun _=>rfl) (fun _=>rep0) (by omega) (by omega) fun b34 c35 hc35=>?_
  refine R0 2 O (sq_n (xG (lC rfl (lB rfl rfl (bI_add (n:=2 * (i+1)) (by omega) (by omega)) (fl_row0 117 1 (R0 2 O ?_))))))
  exact lq_n (by omega) ⟨i+1,_,_,LI.m [_,_] O,rfl,by omega,pairs_next okc ho (by omega)⟩
 refine fx_eseq (lq_e (sq_n (R4 6 O ?_)))
 obtain rfl:o=toL (hv l):=by rw [ho,List.take_of_length_le (by omega),pairs_toH]
 refine fl_frzRZ z zl0 (p:=[]) rfl rfl zI (by omega) fun zfo _ hfo=>?_
 refine R0 3 O (xT ?_)
 exact rI O hfo
open Go.CE Go.RowKit Go.Num
open Go.Eng (setL Od)
theorem dq_lt (l:List UInt32) (i:Nat):dig l i / 65536<9223372036854775808:=by
 have:dig l i<4294967296:=dig_lt l i
 omega
theorem bD_rem65 {a:Nat} (h:a<4294967296):binW .rem (.int .u32 (a:Nat)) (.int .u32 65536)=some (.int .u32 ((a % 65536:Nat):Int)):=b_rem' (by omega) (by omega) (by omega)
theorem bD_quo65 {a:Nat} (h:a<4294967296):binW .quo (.int .u32 (a:Nat)) (.int .u32 65536)=some (.int .u32 ((a / 65536:Nat):Int)):=b_quo' (by omega) (by omega) (wD (by omega) (by omega))
theorem halv_len (l:List UInt32):(halv l).length=2 * l.length:=by
 induction l with
 | nil=>rfl
 | cons x l ih=>simp only [halv,List.length_cons,ih];omega
theorem halv_app (a b:List UInt32):halv (a++b)=halv a++halv b:=by
 induction a with
 | nil=>rfl
 | cons x a ih=>simp [halv,ih]
theorem halv_next {l:List UInt32} {i:Nat} {o:List Nat} (h:o=halv (l.take i)) (hi:i<l.length):o++[dig l i % 65536,dig l i / 65536]=halv (l.take (i+1)):=by
 rw [h,List.take_add_one,List.getElem?_eq_getElem hi,halv_app]
 simp [halv,dig,List.getD_eq_getElem?_getD,List.getElem?_eq_getElem hi]
theorem fl_appBE {call:Call'} {B:Base} {fs:Sf} {l:List I} {Q:Sf→Prop} {d:Nat} {α:Type} {e:α→Value} {ty ty' bytes b:Nat} {zero:List Value} {x y:Od} {u:AV} {r s:List α} {H':AV→List HA} (hx:fs.ev x=u) (hy:fs.ev y=Aw b s.length) (hm:HA.blk b (.cells ty' (cE e s))∈fs.H) (hr:∀ u',Rep1 fs.H (rowE e u ty r) (rowE e u' ty (r++s)) (H' u')) (hb:(r.length+s.length) * bytes≤140737488355328) (hn:r.length+s.length≤9223372036854775807)
  (hw:∀ c':C,sameC c' c'=true→FL call B l (fs.res d (.c c') fs.z (H' (.c c'))) Q):FL call B (⟨some d,none,.app ty 1 bytes zero x y⟩::l) fs Q:=
 fl_appB (n:=r.length) (cs:=cE e r) (news:=cE e s) hx hy hm (by rw [cE_len,Nat.mul_one]) (fun u'=>by have h:=hr u';simp only [rowE,List.length_append,← cE_app] at h;exact h) hb hn hw
theorem c_ref01_halves {k:Nat} (hk:2≤k) {z:Mem} {v:AV} {l:List UInt32} (hx:SZ 1 RW z v l) (hl:l.length≤10000000000):FC (E k) 269 [v] z fun v' z'=>SZ 1 RN (zd z z') v' (toH (val l)):=by
 refine fc_of (tS_get269) (by omega) (len1 rfl) fun B j hj=>?_
 refine R4 64 O (fl_row0 3 1 (R0 2 O ?_))
 refine fx_seq (fx_block ?_)
 refine fx_loop (fun n fs=>∃ (i:Nat) (o:List Nat) (u:AV),LI z [rowE eN u 3 o] [(0,v),(3,u),(4,Az i)] fs∧n=l.length - i∧(i≤l.length)∧(o=halv (l.take i))) ?_ _ ⟨0,[],nilv,LI.m [] O,rfl,Nat.zero_le _,rfl⟩ (kK (by omega))
 intro n fs ⟨i,o,u,hL0,hmz0,hi,ho⟩
 refine hL0.open fun e zl0 _=>?_
 refine R4 24 O (fl_lenS rfl hx (R3 4 O ?_))
 refine xD rfl (fun hc8=>?_) (fun hc8=>?_)
 ·refine fx_kseq ?_
  refine fx_seq (fx_block ?_)
  refine fx_drw ?_
  have hoi:o.length=2 * i:=by rw [ho,halv_len,take_len hi]
  refine G1 11 O (gP rfl rfl trivial ?_)
  refine fl_iadW (zz:=zl0) rfl rfl hx.m (i) (rfl) (by omega) fun p14 hp14=>lN ?_
  refine glP O O hp14 ti (gP rfl rfl trivial ?_)
  refine lB rfl rfl ((bD_rem65 (dig_lt l i))) (lN ?_)
  refine gP rfl rfl trivial ?_
  refine fl_cvi rfl (wI (rfl) (by omega)) (lN ?_)
  refine G1 5 O (gP rfl rfl trivial ?_)
  refine fl_iadW (zz:=zl0) rfl rfl hx.m (i) (rfl) (by omega) fun p20 hp20=>lN ?_
  refine glP O O hp20 ti (gP rfl rfl trivial ?_)
  refine lB rfl rfl ((bD_quo65 (dig_lt l i))) (lN ?_)
  refine gP rfl rfl trivial ?_
  refine fl_cvi rfl (wI (rfl) (dq_lt l i)) (lN ?_)
  refine fg_own (k:=.cells 3 (cE eN [dig l i % 65536,dig l i / 65536])) (w:=fun b=>Aw b 2) rfl trivial rfl (fun _=>rfl) (fun st hst=>?_) (fun b24 hT24=>?_)
  ·simp only [stepE,fillS,AS.ev,hst 17 (by simp [Ins.sl,Od.sls,Od.sl]),hst 23 (by simp [Ins.sl,Od.sls,Od.sl])];rfl
  refine fg_app (i:=⟨_,_,.app _ _ _ _ _ _⟩) rfl trivial rfl rfl rfl rfl ?_
  refine fl_appBE (e:=eN) (s:=[dig l i % 65536,dig l i / 65536]) rfl rfl mem0 (fun _=>repS rep0) (by simp only [List.length_cons,List.length_nil];omega) (by simp only [List.length_cons,List.length_nil];omega) fun c25 hc25=>?_
  refine lN (G0 2 O (sq_n (xG (lC rfl (lB rfl rfl (bI_add (n:=i+1) (by omega) (by omega)) (fl_row0 3 1 (R0 2 O ?_)))))))
  exact lq_n (by omega) ⟨i+1,_,_,LI.m [_,_] O,rfl,by omega,halv_next ho (by omega)⟩
 refine fx_eseq (lq_e (sq_n (xR ?_)))
 obtain rfl:o=halv l:=by rw [ho,List.take_of_length_le (by omega)]
 have hhl:=halv_len l
 refine fl_frzRZ z zl0 (p:=[]) rfl rfl zI (by omega) fun zfo _ hfo=>?_
 refine lM rfl ?_
 refine lZ zfo (c_ref01_cut (by omega) (ok_halv l) (hfo.mono zd_le)) rfl rfl fun v27 z27 hz27 ht27=>?_
 refine R0 3 O (xT (rI O ?_))
 have hr:=ht27 _ (hfo.mono (zd_mono (hz27)))
 rwa [hv_halv] at hr
end Go.Proofs.YtlceligcgelbdaaGreat
namespace Go.Num
open Go.Proofs.YtlceligcgelbdaaGreat
theorem hv_split (l:List Nat) (i:Nat):hv l=hv (l.take i)+H ^ i * hv (l.drop i):=by
 rcases Nat.le_total i l.length with h | h
 ·conv=>lhs;rw [← List.take_append_drop i l,hv_append,List.length_take,Nat.min_eq_left h]
 rw [List.take_of_length_le h,List.drop_eq_nil_of_le h];simp [hv]
theorem hdig_drop (l:List Nat) (i j:Nat):hdig (l.drop i) j=hdig l (i+j):=by
 simp [hdig,List.getD_eq_getElem?_getD]
theorem hv_zero {y:List Nat} (h:∀ j,hdig y j=0):hv y=0:=by
 induction y with
 | nil=>rfl
 | cons a r ih =>
  have h0:a=0:=h 0
  have h1:=ih fun j=>h (j+1)
  simp only [hv,h0,h1,Nat.mul_zero]
theorem hv_ext {x y:List Nat} (h:∀ j,hdig x j=hdig y j):hv x=hv y:=by
 induction x generalizing y with
 | nil=>exact (hv_zero fun j=>(h j).symm).symm
 | cons a r ih =>
  cases y with
  | nil=>exact hv_zero h
  | cons b s =>
   have h0:a=b:=h 0
   have h1:=ih fun j=>h (j+1)
   simp only [hv,h0,h1]
theorem hv_drop_ext {x y:List Nat} {i:Nat} (h:∀ j,i≤j→hdig x j=hdig y j):hv (x.drop i)=hv (y.drop i):=hv_ext fun j=>by
 rw [hdig_drop,hdig_drop];exact h _ (by omega)
theorem htake_lt {l:List Nat} (ok:okH l) (i:Nat):hv (l.take i)<H ^ i:=by
 refine Nat.lt_of_lt_of_le (hv_lt (okH_take ok i)) (Nat.pow_le_pow_right (by decide) ?_)
 rw [List.length_take];omega
theorem hv_take_all {l:List Nat} {m:Nat} (h:l.length≤m):hv (l.take m)=hv l:=by rw [List.take_of_length_le h]
theorem hcmp_lt {x y:List Nat} (ok:okH x) {i:Nat} (he:∀ j,i+1≤j→hdig x j=hdig y j) (hd:hdig x i<hdig y i):hv x<hv y:=by
 have e:=hv_drop_ext he
 have h1:=htake_lt ok i
 rw [hv_split x (i+1),hv_split y (i+1),e,hv_take_succ,hv_take_succ]
 have h2:H ^ i * (hdig x i+1)≤H ^ i * hdig y i:=Nat.mul_le_mul_left _ hd
 rw [Nat.mul_add,Nat.mul_one] at h2
 omega
theorem okH_snoc {o:List Nat} {x:Nat} (ok:okH o) (h:x<65536):okH (o++[x]):=fun y hy=>by
 rcases List.mem_append.1 hy with hy | hy
 ·exact ok y hy
 rw [List.mem_singleton.1 hy];exact h
theorem okH_nil:okH []:=fun y hy=>absurd hy List.not_mem_nil
theorem hlen {l:List Nat}:okH l→(toH (hv l)).length≤l.length:=fun ok=>toH_len.2 (hv_lt ok)
theorem hadd_step {x y o:List Nat} {i c n:Nat} (hl:o.length=i) (h:hv o+H ^ i * c=hv (x.take i)+hv (y.take i)) (hn:n=hdig x i+hdig y i+c):hv (o++[n % 65536])+H ^ (i+1) * (n / 65536)=hv (x.take (i+1))+hv (y.take (i+1)):=by
 rw [hv_snoc,hl,hv_take_succ,hv_take_succ]
 have e:n=n % 65536+65536 * (n / 65536):=by omega
 have e2:H ^ i * n=H ^ i * (n % 65536)+H ^ (i+1) * (n / 65536):=by
  conv=>lhs;rw [e,Nat.mul_add,← Nat.mul_assoc]
  rw [Nat.pow_succ]
 rw [hn,Nat.mul_add,Nat.mul_add,← hn] at e2
 omega
theorem hsub_step {x y o:List Nat} {i c c' d:Nat} (hl:o.length=i) (h:hv o+hv (y.take i)=hv (x.take i)+H ^ i * c) (hd:d+hdig y i+c=hdig x i+65536 * c'):hv (o++[d])+hv (y.take (i+1))=hv (x.take (i+1))+H ^ (i+1) * c':=by
 rw [hv_snoc,hl,hv_take_succ,hv_take_succ,Nat.pow_succ,Nat.mul_assoc]
 have e:H ^ i * (d+hdig y i+c)=H ^ i * (hdig x i+65536 * c'):=by rw [hd]
 rw [Nat.mul_add,Nat.mul_add,Nat.mul_add] at e
 show _=_+H ^ i * (65536 * c')
 omega
theorem hsub_end {o x y L c:Nat} (ho:o<L) (hle:y≤x) (h:o+y=x+L * c):o=x - y:=by
 rcases Nat.eq_zero_or_pos c with rfl | hc
 ·rw [Nat.mul_zero] at h;omega
 have:L * 1≤L * c:=Nat.mul_le_mul_left _ hc
 omega
theorem htake_small {b:List Nat} {L:Nat} (h:hv b<H ^ L):hv (b.take L)=hv b:=by
 have e:=hv_split b L
 rcases Nat.eq_zero_or_pos (hv (b.drop L)) with h0 | h0
 ·rw [h0,Nat.mul_zero] at e;omega
 have:H ^ L * 1≤H ^ L * hv (b.drop L):=Nat.mul_le_mul_left _ h0
 omega
theorem hlen_lt {a b:Nat} (h:(toH a).length<(toH b).length):a<b:=by
 rcases Nat.lt_or_ge a b with h1 | h1
 ·exact h1
 have:=toH_len.2 (Nat.lt_of_le_of_lt h1 (toH_len.1 (Nat.le_refl (toH a).length)))
 omega
theorem htk_step {a b o:List Nat} {i c c' n d:Nat} (hl:o.length=i) (h:hv o+n * hv (b.take i)=hv (a.take i)+H ^ i * c) (hd:d+n * hdig b i+c=hdig a i+65536 * c'):hv (o++[d])+n * hv (b.take (i+1))=hv (a.take (i+1))+H ^ (i+1) * c':=by
 rw [hv_snoc,hl,hv_take_succ,hv_take_succ,Nat.pow_succ,Nat.mul_assoc,Nat.mul_add]
 have e:H ^ i * (d+n * hdig b i+c)=H ^ i * (hdig a i+65536 * c'):=by rw [hd]
 rw [Nat.mul_add,Nat.mul_add,Nat.mul_add] at e
 have e2:n * (H ^ i * hdig b i)=H ^ i * (n * hdig b i):=by rw [← Nat.mul_assoc,Nat.mul_comm n,Nat.mul_assoc]
 show _=_+H ^ i * (65536 * c')
 omega
theorem htk_end {a b o:List Nat} {n c:Nat} (oka:okH a) (oko:okH o) (hl:o.length=a.length) (hle:n * hv b≤hv a) (h:hv o+n * hv (b.take a.length)=hv (a.take a.length)+H ^ a.length * c):hv o=hv a - n * hv b:=by
 rw [hv_take_all (Nat.le_refl _)] at h
 have ho:=hv_lt oko
 rw [hl] at ho
 have e:n * hv (b.take a.length)=n * hv b:=by
  rcases Nat.eq_zero_or_pos n with rfl | hn
  ·rw [Nat.zero_mul,Nat.zero_mul]
  rw [htake_small]
  have:1 * hv b≤n * hv b:=Nat.mul_le_mul_right _ hn
  have:=hv_lt oka
  omega
 rw [e] at h
 exact hsub_end ho hle h
theorem hdig_set {l:List Nat} {i j n:Nat} (hj:j<l.length):hdig (l.set j n) i=if i=j then n else hdig l i:=by
 simp only [hdig,List.getD_eq_getElem?_getD,List.getElem?_set]
 by_cases h:j=i
 ·subst h;simp [hj]
 rw [if_neg h,if_neg (fun e=>h e.symm)]
theorem htake_set {l:List Nat} {i x:Nat} (h:i<l.length):(l.set i x).take (i+1)=l.take i++[x]:=by
 rw [List.take_set,List.set_eq_take_append_cons_drop,if_pos (by rw [List.length_take];omega),List.take_take,Nat.min_eq_left (by omega),List.drop_eq_nil_of_le (by rw [List.length_take];omega)]
theorem okH_set {l:List Nat} {i x:Nat} (ok:okH l) (h:x<65536):okH (l.set i x):=fun y hy=>by
 rcases List.mem_or_eq_of_mem_set hy with hy | rfl
 ·exact ok y hy
 exact h
theorem okH_rep (n:Nat):okH (List.replicate n 0):=fun y hy=>by rw [(List.mem_replicate.1 hy).2];decide
theorem hv_rep (n:Nat):hv (List.replicate n 0)=0:=by
 induction n with
 | zero=>rfl
 | succ n ih=>rw [List.replicate_succ,hv,ih,Nat.mul_zero]
theorem hdig_rep (n j:Nat):hdig (List.replicate n 0) j=0:=by
 simp only [hdig,List.getD_eq_getElem?_getD,List.getElem?_replicate]
 split<;>rfl
structure Mr (x:Nat) (b o0 o:List Nat) (i k c:Nat):Prop where
 len:o.length=o0.length
 ok:okH o
 same:∀ j,i+k≤j→hdig o j=hdig o0 j
 cl:c<65536
 val:hv (o.take (i+k))+H ^ (i+k) * c=hv (o0.take (i+k))+H ^ i * (x * hv (b.take k))
 kc:b.length<k→c=0∧k=b.length+1
theorem Mr.init {x i:Nat} {b o:List Nat} (ok:okH o):Mr x b o o i 0 0:=⟨rfl,ok,fun _ _=>rfl,by decide,by simp [hv],fun h=>absurd h (Nat.not_lt_zero _)⟩
theorem mr_val {x i k c n:Nat} {b o0 o:List Nat} (h:Mr x b o0 o i k c) (hi:i+k<o.length) (hn:n=hdig o (i+k)+c+x * hdig b k):hv ((o.set (i+k) (n % 65536)).take (i+(k+1)))+H ^ (i+(k+1)) * (n / 65536)=hv (o0.take (i+(k+1)))+H ^ i * (x * hv (b.take (k+1))):=by
 have hs:=h.same (i+k) (Nat.le_refl _)
 have hv0:=h.val
 rw [← Nat.add_assoc,htake_set hi,hv_snoc,List.length_take,Nat.min_eq_left (by omega),hv_take_succ,hv_take_succ,← hs]
 have e:n=n % 65536+65536 * (n / 65536):=by omega
 have e2:H ^ (i+k) * n=H ^ (i+k) * (n % 65536)+H ^ (i+k+1) * (n / 65536):=by
  conv=>lhs;rw [e,Nat.mul_add,← Nat.mul_assoc]
  rw [Nat.pow_succ]
 rw [hn,Nat.mul_add,Nat.mul_add,← hn] at e2
 have e3:H ^ i * (x * (hv (b.take k)+H ^ k * hdig b k))=H ^ i * (x * hv (b.take k))+H ^ (i+k) * (x * hdig b k):=by
  rw [Nat.mul_add,Nat.mul_add,Nat.pow_add,Nat.mul_assoc,Nat.mul_left_comm x]
 rw [e3]
 omega
theorem Mr.step {x i k c n:Nat} {b o0 o:List Nat} (h:Mr x b o0 o i k c) (okb:okH b) (hx:x<65536) (hi:i+k<o.length) (hn:n=hdig o (i+k)+c+x * hdig b k) (hk:k<b.length):Mr x b o0 (o.set (i+k) (n % 65536)) i (k+1) (n / 65536):=by
 refine ⟨by rw [List.length_set];exact h.len,okH_set h.ok (Nat.mod_lt _ (by decide)),fun j hj=>?_,?_,mr_val h hi hn,fun hk2=>absurd hk2 (by omega)⟩
 ·rw [hdig_set hi,if_neg (by omega)];exact h.same j (by omega)
 have h1:=hdig_lt h.ok (i+k)
 have h2:x * hdig b k≤65535 * 65535:=Nat.mul_le_mul (by omega) (by have:hdig b k<65536:=hdig_lt okb k;omega)
 have h3:=h.cl
 have h1':hdig o (i+k)<65536:=h1
 omega
theorem Mr.last {x i k c n:Nat} {b o0 o:List Nat} (h:Mr x b o0 o i k c) (hi:i+k<o.length) (hz:∀ j,i+b.length≤j→hdig o0 j=0) (hn:n=hdig o (i+k)+c) (hk:¬ k<b.length) (hc:0<c):Mr x b o0 (o.set (i+k) (n % 65536)) i (k+1) (n / 65536)∧k=b.length:=by
 have hkb:k=b.length:=by
  rcases Nat.lt_or_ge b.length k with h1 | h1
  ·have:=(h.kc h1).1;omega
  omega
 have h0:hdig o (i+k)=0:=by rw [h.same _ (Nat.le_refl _)];exact hz _ (by omega)
 have hc2:=h.cl
 have hb0:hdig b k=0:=hdig_ge (by omega)
 refine ⟨⟨by rw [List.length_set];exact h.len,okH_set h.ok (Nat.mod_lt _ (by decide)),fun j hj=>?_,by omega,mr_val h hi (by rw [hn,hb0,Nat.mul_zero,Nat.add_zero]),fun _=>⟨by omega,by omega⟩⟩,hkb⟩
 rw [hdig_set hi,if_neg (by omega)];exact h.same j (by omega)
structure Mt (a b o:List Nat) (i:Nat):Prop where
 ok:okH o
 z:∀ j,i+b.length≤j→hdig o j=0
 val:hv o=hv (a.take i) * hv b
theorem Mt.init {a b:List Nat} (n:Nat):Mt a b (List.replicate n 0) 0:=⟨okH_rep n,fun j _=>hdig_rep n j,by rw [hv_rep,List.take_zero,hv,Nat.zero_mul]⟩
theorem Mt.next {a b o0 o:List Nat} {i k:Nat} (h0:Mt a b o0 i) (h:Mr (hdig a i) b o0 o i k 0) (hk:¬ k<b.length):Mt a b o (i+1):=by
 refine ⟨h.ok,fun j hj=>?_,?_⟩
 ·have hk2:k≤b.length+1:=by
   rcases Nat.lt_or_ge b.length k with h1 | h1
   ·have:=(h.kc h1).2;omega
   omega
  rw [h.same j (by omega)];exact h0.z j (by omega)
 have hv1:=h.val
 rw [Nat.mul_zero,Nat.add_zero,hv_take_all (l:=b) (by omega)] at hv1
 rw [hv_split o (i+k),hv_drop_ext h.same,hv1,hv_take_succ,Nat.add_mul,← h0.val,hv_split o0 (i+k),Nat.mul_assoc]
 omega
theorem often_end {A B lo hi:Nat} (h1:lo * B≤A) (h2:A<hi * B) (h3:¬ 1<hi - lo):A / B=lo:=by
 have hlt:lo<hi:=by
  rcases Nat.lt_or_ge lo hi with h | h
  ·exact h
  have:=Nat.mul_le_mul_right B h;omega
 have e:hi=lo+1:=by omega
 subst e
 exact Nat.div_eq_of_lt_le h1 h2
theorem part_lt {x r B:Nat} (hx:x<65536) (hr:r<B):x+65536 * r<65536 * B:=by
 have:65536 * (r+1)≤65536 * B:=Nat.mul_le_mul_left _ hr
 omega
theorem hdrop_pred {l:List Nat} {i:Nat} (h0:0<i) (hi:i≤l.length):hv (l.drop (i - 1))=hdig l (i - 1)+H * hv (l.drop i):=by
 obtain ⟨k,rfl⟩:∃ k,i=k+1:=⟨i - 1,by omega⟩
 rw [Nat.add_sub_cancel,List.drop_eq_getElem_cons (by omega),hv]
 simp [hdig,List.getD_eq_getElem?_getD,List.getElem?_eq_getElem (show k<l.length by omega)]
theorem hdrop_set {l:List Nat} {i q:Nat} (h0:0<i) (hi:i≤l.length):hv ((l.set (i - 1) q).drop (i - 1))=q+H * hv (l.drop i):=by
 rw [hdrop_pred h0 (by rw [List.length_set];exact hi),hdig_set (by omega),if_pos rfl,List.drop_set_of_lt (by omega)]
theorem parts_step {a o:List Nat} {i r B x:Nat} (h0:0<i) (hi:i≤a.length) (hio:i≤o.length) (h:hv (a.drop i)=hv (o.drop i) * B+r) (hx:x=hdig a (i - 1)+65536 * r):hv (a.drop (i - 1))=hv ((o.set (i - 1) (x / B)).drop (i - 1)) * B+x % B:=by
 rw [hdrop_pred h0 hi,hdrop_set h0 hio,h,Nat.add_mul,Nat.mul_assoc]
 have:=Nat.div_add_mod' x B
 show hdig a (i - 1)+65536 * (hv (o.drop i) * B+r)=x / B * B+65536 * (hv (o.drop i) * B)+x % B
 omega
theorem parts_end {a o B r:Nat} (hr:r<B) (h:a=o * B+r):a / B=o∧a % B=r:=by
 rw [h,Nat.add_comm,Nat.add_mul_div_right _ _ (by omega),Nat.div_eq_of_lt hr,Nat.add_mul_mod_self_right,Nat.mod_eq_of_lt hr]
 exact ⟨by omega,rfl⟩
end Go.Num
namespace Go.Proofs.YtlceligcgelbdaaGreat
open Go.CE Go.RowKit Go.Num
open Go.Eng (setL)
theorem fl_mxN {call:Call'} {B:Base} {fs:Sf} {l:List I} {Q:Sf→Prop} {d:Nat} {x y:Go.Eng.Od} {k:IntKind} {a b:Nat} (hx:fs.ev x=.c (.v (.int k (a:Nat)))) (hy:fs.ev y=.c (.v (.int k (b:Nat)))) (hw:FL call B l (fs.put d (.c (.v (.int k ((max a b:Nat):Int))))) Q):FL call B (⟨some d,none,.mx false x y⟩::l) fs Q:=fl_mx hx hy (by simp only;split<;>omega) hw
theorem hlen_val {l:List UInt32}:(toH (val l)).length≤2 * l.length:=by rw [← halv_len,← hv_halv];exact hlen (ok_halv l)
theorem hlen_le {a b:Nat} (h:a≤b):(toH a).length≤(toH b).length:=toH_len.2 (Nat.lt_of_le_of_lt h (toH_len.1 (Nat.le_refl _)))
theorem hcmp_toH {n m i:Nat} (he:∀ j,i≤j→hdig (toH n) j=hdig (toH m) j) (h0:0<i) (hd:((hdig (toH n) (i - 1):Nat):Int)<(hdig (toH m) (i - 1):Nat)):n<m:=by
 have:=hcmp_lt (ok_toH n) (i:=i - 1) (fun j hj=>he j (by omega)) (by omega)
 rwa [hv_toH,hv_toH] at this
theorem heq_below {x y:List Nat} {i:Nat} (h0:0<i) (he:∀ j,i≤j→hdig x j=hdig y j) (h1:¬ ((hdig x (i - 1):Nat):Int)<(hdig y (i - 1):Nat)) (h2:¬ ((hdig y (i - 1):Nat):Int)<(hdig x (i - 1):Nat)):∀ j,i - 1≤j→hdig x j=hdig y j:=fun j hj=>by
 by_cases h:j=i - 1
 ·subst h;omega
 exact he j (by omega)
theorem hdig_eq {n m:Nat} (h:∀ j,hdig (toH n) j=hdig (toH m) j):n=m:=by
 have:=hv_ext h
 rwa [hv_toH,hv_toH] at this
theorem bI_rem65 (a:Nat):binW .rem (.int .i64 (a:Nat)) (.int .i64 65536)=some (.int .i64 ((a % 65536:Nat):Int)):=b_rem' (by omega) (by omega) (by omega)
theorem bI_quo65 {a:Nat} (h:a<9223372036854775808):binW .quo (.int .i64 (a:Nat)) (.int .i64 65536)=some (.int .i64 ((a / 65536:Nat):Int)):=b_quo' (by omega) (by omega) (wI (by omega) (by omega))
theorem i64_eq {x:Int} {n:Nat} (h:x=n):Value.int .i64 x=eN n:=by rw [h]
theorem c_ref01_Trim {k:Nat} (hk:3≤k) {z:Mem} {v:AV} {l:List UInt32} (hx:SZ 1 RW z v l) (hl:l.length≤1000000000):FC (E k) 265 [v] z fun v' z'=>SZ 1 RW (zd z z') v' (toL (val l)):=by
 have hh:=hlen_val (l:=l)
 refine fc_of (tS_get265) (by omega) (len1 rfl) fun B j hj=>?_
 refine R4 24 O ?_
 refine lZ z (c_ref01_halves (by omega) hx (by omega)) rfl rfl fun v4 z4 hz4 hr4=>?_
 refine lZ z4 (c_ref01_limbs (by omega) (ok_toH _) (hr4.mono zd_le) (by omega)) rfl rfl fun v5 z5 _ hs5=>?_
 rw [hv_toH] at hs5
 have hs5:=hs5.mono (zAq (hz4))
 refine R0 3 O (xT ?_)
 exact rI O hs5
theorem at_z {k:Nat} (hk:1≤k) {z:Mem} {v:AV} {l:List Nat} (hx:SZ 1 RN z v l) {i:Nat} {y:Int} (hy:y=(i:Int)):FC (E k) 270 [v,Ai y] z fun w _=>w=Az (hdig l i):=by
 subst hy
 exact c_ref01_at hk hx
theorem c_ref01_Cmp {k:Nat} (hk:3≤k) {z:Mem} {u v:AV} {a b:List UInt32} (hx:SZ 1 RW z u a) (hy:SZ 1 RW z v b) (hla:a.length≤1000000000) (hlb:b.length≤1000000000):FC (E k) 272 [u,v] z fun v _=>v=Ai (cmp3 (val a) (val b)):=by
 have hh1:=hlen_val (l:=a)
 have hh2:=hlen_val (l:=b)
 refine fc_of (tS_get272) (by omega) (len1 rfl) fun B j hj=>?_
 refine R4 24 O ?_
 refine lZ z (c_ref01_halves (by omega) hx (by omega)) rfl rfl fun v9 z9 hz9 hr9=>?_
 refine lM rfl ?_
 refine lZ z9 (c_ref01_halves (by omega) hy.m (by omega)) rfl rfl fun v11 z11 _ hr11=>?_
 have hr11:=hr11.mono (zAq (hz9))
 refine R2 51 O (fl_lenS rfl hr9 (lM rfl (fl_lenS rfl (hr11.mono zd_le) (fl_mxN rfl rfl (lB rfl rfl (b_sub' (r:=((max (toH (val a)).length (toH (val b)).length:Nat):Int) - 1) (wi64 (by omega))) (R0 2 O ?_))))))
 refine fx_seq (fx_block ?_)
 refine fx_loop (fun n fs=>∃ (i:Nat),LI z11 [] [(5,v9),(6,v11),(7,Ai ((i:Int) - 1))] fs∧n=i∧(i≤2000000000)∧(∀ j,i≤j→hdig (toH (val a)) j=hdig (toH (val b)) j)) ?_ _ ⟨max (toH (val a)).length (toH (val b)).length,LI.m [] O,rfl,by omega,fun j hj=>by rw [hdig_ge (by omega),hdig_ge (by omega)]⟩ (kK (by omega))
 intro n fs ⟨i,hL0,hmz0,hi,he⟩
 refine hL0.open fun e zl0 _=>?_
 refine R5 32 O ?_
 refine xD rfl (fun hc19=>?_) (fun hc19=>?_)
 ·refine fx_kseq ?_
  refine fx_seq (fx_block ?_)
  refine R4 20 O ?_
  refine lE zl0 (at_z (by omega) hr9.m (i:=i - 1) (by omega)) O O fun z24 _=>?_
  refine R1 5 O ?_
  refine lE z24 (at_z (by omega) hr11.m (i:=i - 1) (by omega)) O O fun z27 _=>?_
  refine R3 4 O ?_
  refine xD rfl (fun hc28=>?_) (fun hc28=>?_)
  ·refine R5 8 O (fx_rseq (sq_r (lq_r (sq_r (rI O ?_)))))
   rw [cmp3,if_pos (hcmp_toH he (by omega) hc28)]
   rfl
  refine R4 20 O ?_
  refine lE z27 (at_z (by omega) hr9.m (i:=i - 1) (by omega)) O O fun z31 _=>?_
  refine R1 5 O ?_
  refine lE z31 (at_z (by omega) hr11.m (i:=i - 1) (by omega)) O O fun z34 _=>?_
  refine R0 2 O ?_
  refine xD rfl (fun hc35=>?_) (fun hc35=>?_)
  ·refine R5 4 O (xT (sq_r (lq_r (sq_r (rI O ?_)))))
   have hlt:=hcmp_toH (fun j hj=>(he j hj).symm) (by omega) hc35
   rw [cmp3,if_neg (by omega),if_pos hlt]
   rfl
  refine fx_skip (sq_n (xG (lC rfl ?_)))
  refine lB rfl rfl (b_sub' (r:=((i - 1:Nat):Int) - 1) (by rw [wi64 ⟨by omega,by omega⟩];omega)) ?_
  refine R0 2 O ?_
  exact lq_n (by omega) ⟨i - 1,LI.m [] O,rfl,by omega,heq_below (by omega) he hc28 hc35⟩
 refine fx_eseq (lq_e (sq_n (R5 4 O (xT (rI O ?_)))))
 rw [hdig_eq (fun j=>he j (by omega)),cmp3,if_neg (by omega),if_neg (by omega)]
 rfl
theorem c_ref01_Add {k:Nat} (hk:3≤k) {z:Mem} {u v:AV} {a b:List UInt32} (hx:SZ 1 RW z u a) (hy:SZ 1 RW z v b) (hla:a.length≤1000000000) (hlb:b.length≤1000000000):FC (E k) 216 [u,v] z fun v' z'=>SZ 1 RW (zd z z') v' (toL (val a+val b)):=by
 have hh1:=hlen_val (l:=a)
 have hh2:=hlen_val (l:=b)
 refine fc_of (tS_get216) (by omega) (len1 rfl) fun B j hj=>?_
 refine R4 24 O ?_
 refine lZ z (c_ref01_halves (by omega) hx (by omega)) rfl rfl fun v12 z12 hz12 hr12=>?_
 refine lM rfl ?_
 refine lZ z12 (c_ref01_halves (by omega) hy.m (by omega)) rfl rfl fun v14 z14 hz14 hr14=>?_
 have hr14:=hr14.mono (zAq (hz12))
 refine R2 35 O (fl_row0 3 1 (R3 16 O ?_))
 refine fx_seq (fx_block ?_)
 refine fx_loop (fun n fs=>∃ (i:Nat) (o:List Nat) (u:AV) (cy:Nat),LI z14 [rowE eN u 3 o] [(5,v12),(6,v14),(7,u),(8,Az cy),(9,Az i)] fs∧n=2 * (max (toH (val a)).length (toH (val b)).length - i)+cy∧(i≤max (toH (val a)).length (toH (val b)).length+1)∧(max (toH (val a)).length (toH (val b)).length<i→cy=0)∧(o.length=i)∧(okH o)∧(cy≤1)∧(hv o+H ^ i * cy=hv ((toH (val a)).take i)+hv ((toH (val b)).take i))) ?_ _ ⟨0,[],nilv,0,LI.m [] O,rfl,by omega,fun h=>absurd h (by omega),rfl,okH_nil,by omega,by simp [Num.hv]⟩ (kK (by omega))
 intro n fs ⟨i,o,u,cy,hL0,hmz0,hi,hz,hol,oko,hcy,hv⟩
 refine hL0.open fun e zl0 hzl0=>?_
 refine R4 24 O (fl_lenS rfl hr12 (lM rfl (fl_lenS rfl hr14 (fl_mxN rfl rfl (R1 4 O ?_)))))
 refine fl_splitD 22 rfl (fun hg22=>?_) (fun hg22=>?_)
 ·refine R3 64 O ?_
  refine fx_seq (fx_block ?_)
  refine xR ?_
  have h8:=hdig_l6 (ok_toH (val a)) i
  have h9:=hdig_l6 (ok_toH (val b)) i
  refine R1 5 O ?_
  refine lE zl0 (c_ref01_at (by omega) hr12.m) O O fun z30 hz30=>?_
  refine R1 5 O ?_
  refine lE z30 (c_ref01_at (by omega) hr14.m) O O fun z33 hz33=>?_
  refine lB rfl rfl (bI_add (n:=hdig (toH (val a)) i+hdig (toH (val b)) i) (by omega) (by omega)) (lC rfl (lB rfl rfl (bI_add (n:=(hdig (toH (val a)) i+hdig (toH (val b)) i+cy)) (by omega) (by omega)) (R2 20 O (lB rfl rfl ((bI_rem65 _)) ?_))))
  refine fl_push (e:=eN) (a:=((hdig (toH (val a)) i+hdig (toH (val b)) i+cy) % 65536)) rfl (rfl) rfl (fun _=>rfl) (fun _=>rep0) (by omega) (by omega) fun b40 c41 hc41=>?_
  refine R0 2 O (xG (lC rfl (lB rfl rfl ((bI_quo65 (by omega))) (R0 2 O (sq_n (xG (lC rfl (lB rfl rfl (bI_add (n:=i+1) (by omega) (by omega)) (R0 2 O ?_)))))))))
  exact lq_n (by omega) ⟨i+1,_,_,(hdig (toH (val a)) i+hdig (toH (val b)) i+cy) / 65536,LI.m [_] O,rfl,by omega,fun h=>by omega,by rw [List.length_append,hol];rfl,okH_snoc oko (Nat.mod_lt _ (by decide)),by omega,hadd_step hol hv rfl⟩
 refine R3 16 O ?_
 refine xD rfl (fun hc25=>?_) (fun hc25=>?_)
 ·refine fx_kseq ?_
  refine fx_seq (fx_block ?_)
  refine xR ?_
  have h8:=hdig_l6 (ok_toH (val a)) i
  have h9:=hdig_l6 (ok_toH (val b)) i
  have h10:=hdig_ge (l:=(toH (val a))) (i:=i) (by omega)
  have h11:=hdig_ge (l:=(toH (val b))) (i:=i) (by omega)
  refine R1 5 O ?_
  refine lE zl0 (c_ref01_at (by omega) hr12.m) O O fun z30 hz30=>?_
  refine R1 5 O ?_
  refine lE z30 (c_ref01_at (by omega) hr14.m) O O fun z33 hz33=>?_
  refine lB rfl rfl (bI_add (n:=hdig (toH (val a)) i+hdig (toH (val b)) i) (by omega) (by omega)) (lC rfl (lB rfl rfl (bI_add (n:=(hdig (toH (val a)) i+hdig (toH (val b)) i+cy)) (by omega) (by omega)) (R2 20 O (lB rfl rfl ((bI_rem65 _)) ?_))))
  refine fl_push (e:=eN) (a:=((hdig (toH (val a)) i+hdig (toH (val b)) i+cy) % 65536)) rfl (rfl) rfl (fun _=>rfl) (fun _=>rep0) (by omega) (by omega) fun b40 c41 hc41=>?_
  refine R0 2 O (xG (lC rfl (lB rfl rfl ((bI_quo65 (by omega))) (R0 2 O (sq_n (xG (lC rfl (lB rfl rfl (bI_add (n:=i+1) (by omega) (by omega)) (R0 2 O ?_)))))))))
  exact lq_n (by omega) ⟨i+1,_,_,(hdig (toH (val a)) i+hdig (toH (val b)) i+cy) / 65536,LI.m [_] O,rfl,by omega,fun h=>by omega,by rw [List.length_append,hol];rfl,okH_snoc oko (Nat.mod_lt _ (by decide)),by omega,hadd_step hol hv rfl⟩
 refine fx_eseq (lq_e (sq_n (xR ?_)))
 refine fl_frzRZ z zl0 (p:=[]) rfl rfl zI (by omega) fun zfo hzfo hfo=>?_
 refine lM rfl ?_
 refine lZ zfo (c_ref01_limbs (by omega) oko (hfo.mono zd_le) (by omega)) rfl rfl fun v45 z45 _ hs45=>?_
 have hs45:=hs45.mono (zAq (hz12.trans (hz14.trans (hzl0.trans hzfo))))
 refine R0 3 O (xT (rI O ?_))
 rw [show cy=0 by omega,Nat.mul_zero,Nat.add_zero,hv_take_all (by omega),hv_take_all (by omega),hv_toH,hv_toH] at hv
 have hq:=hs45
 rwa [hv] at hq
theorem c_ref01_Sub {k:Nat} (hk:4≤k) {z:Mem} {u v:AV} {a b:List UInt32} (hx:SZ 1 RW z u a) (hy:SZ 1 RW z v b) (hla:a.length≤1000000000) (hlb:b.length≤1000000000):FC (E k) 217 [u,v] z fun v z'=>(val a<val b→v=.tup [nilv,Ai 2])∧(val b≤val a→∃ v',v=.tup [v',Ai 0]∧SZ 1 RW (zd z z') v' (toL (val a - val b))):=by
 have hh1:=hlen_val (l:=a)
 have hh2:=hlen_val (l:=b)
 refine fc_of (tS_get217) (by omega) (len1 rfl) fun B j hj=>?_
 refine R4 224 O ?_
 refine lE z (c_ref01_Cmp (by omega) hx hy hla hlb) O O fun z14 hz14=>?_
 refine R3 4 O ?_
 refine xD rfl (fun hc15=>?_) (fun hc15=>?_)
 ·refine R5 16 O (fx_rseq (rQ (.inl rfl) (rt rfl (rt rfl rn)) ?_))
  rw [cmp3_lt] at hc15
  exact ⟨fun _=>rfl,fun h=>absurd h (by omega)⟩
 refine R4 12 O ?_
 refine lZ z14 (c_ref01_halves (by omega) hx.m (by omega)) rfl rfl fun v17 z17 hz17 hr17=>?_
 have hr17:=hr17.mono (zAq (hz14))
 refine lM rfl ?_
 refine lZ z17 (c_ref01_halves (by omega) hy.m (by omega)) rfl rfl fun v19 z19 hz19 hr19=>?_
 have hr19:=hr19.mono (zAq (hz14.trans hz17))
 refine R2 35 O (fl_row0 3 1 (R3 16 O ?_))
 refine fx_seq (fx_block ?_)
 refine fx_loop (fun n fs=>∃ (i:Nat) (o:List Nat) (u:AV) (bw:Nat),LI z19 [rowE eN u 3 o] [(6,v17),(7,v19),(8,u),(9,Az bw),(10,Az i)] fs∧n=(toH (val a)).length - i∧(i≤(toH (val a)).length)∧(o.length=i)∧(okH o)∧(bw≤1)∧(hv o+hv ((toH (val b)).take i)=hv ((toH (val a)).take i)+H ^ i * bw)) ?_ _ ⟨0,[],nilv,0,LI.m [] O,rfl,by omega,rfl,okH_nil,by omega,by simp [Num.hv]⟩ (kK (by omega))
 intro n fs ⟨i,o,u,bw,hL0,hmz0,hi,hol,oko,hbw,hv⟩
 refine hL0.open fun e zl0 hzl0=>?_
 refine R4 24 O (fl_lenS rfl hr17 (R3 4 O ?_))
 refine xD rfl (fun hc23=>?_) (fun hc23=>?_)
 ·refine fx_kseq ?_
  refine fx_seq (fx_block ?_)
  refine fx_drwS ?_
  have h8:=hdig_l6 (ok_toH (val a)) i
  have h9:=hdig_l6 (ok_toH (val b)) i
  refine G1 5 O (gP rfl rfl trivial ?_)
  refine fl_iadH (zz:=zl0) rfl rfl hr17.m (i) (rfl) (by omega) fun p28 hp28=>lN ?_
  refine glP O O hp28 ti (G1 5 O ?_)
  refine gE zl0 (c_ref01_at (by omega) hr19.m) O O O O fun z32 _=>?_
  refine gP rfl rfl trivial ?_
  refine lB rfl rfl (b_sub' (r:=(hdig (toH (val a)) i:Int) - (hdig (toH (val b)) i:Int)) (wi64 (by omega))) (lN ?_)
  refine G1 2 O (gP rfl rfl trivial ?_)
  refine lB rfl rfl (b_sub' (r:=(hdig (toH (val a)) i:Int) - (hdig (toH (val b)) i:Int) - (bw:Int)) (wi64 (by omega))) (lN ?_)
  refine G0 2 O (R5 128 O ?_)
  refine xD rfl (fun hc37=>?_) (fun hc37=>?_)
  ·refine R4 8 O (lB rfl rfl (bI_add (n:=hdig (toH (val a)) i+65536 - hdig (toH (val b)) i - bw) (by omega) (by omega)) (R3 8 O (xG (R1 5 O ?_))))
   refine fl_push (e:=eN) (a:=(hdig (toH (val a)) i+65536 - hdig (toH (val b)) i - bw)) rfl (rfl) rfl (fun _=>rfl) (fun _=>rep0) (by omega) (by omega) fun b42 c43 hc43=>?_
   refine R0 2 O (sq_n (xG (lC rfl (lB rfl rfl (bI_add (n:=i+1) (by omega) (by omega)) (R0 2 O ?_)))))
   exact lq_n (by omega) ⟨i+1,_,_,1,LI.m [_] O,rfl,by omega,by rw [List.length_append,hol];rfl,okH_snoc oko (by omega),by omega,hsub_step hol hv (by omega)⟩
  refine fx_kseq (xG (R1 5 O ?_))
  refine fl_push (e:=eN) (a:=(hdig (toH (val a)) i - hdig (toH (val b)) i - bw)) rfl (i64_eq (by omega)) rfl (fun _=>rfl) (fun _=>rep0) (by omega) (by omega) fun b42 c43 hc43=>?_
  refine R0 2 O (sq_n (xG (lC rfl (lB rfl rfl (bI_add (n:=i+1) (by omega) (by omega)) (R0 2 O ?_)))))
  exact lq_n (by omega) ⟨i+1,_,_,0,LI.m [_] O,rfl,by omega,by rw [List.length_append,hol];rfl,okH_snoc oko (by omega),by omega,hsub_step hol hv (by omega)⟩
 refine fx_eseq (lq_e (sq_n (xR ?_)))
 refine fl_frzRZ z zl0 (p:=[]) rfl rfl zI (by omega) fun zfo hzfo hfo=>?_
 refine lM rfl ?_
 refine lZ zfo (c_ref01_limbs (by omega) oko (hfo.mono zd_le) (by omega)) rfl rfl fun v45 z45 _ hs45=>?_
 have hs45:=hs45.mono (zAq (hz14.trans (hz17.trans (hz19.trans (hzl0.trans hzfo)))))
 refine R0 5 O (xT (rQ (.inl rfl) (rt rfl (rt rfl rn)) ?_))
 rw [cmp3_lt] at hc15
 refine ⟨fun h=>absurd h hc15,fun _=>⟨_,rfl,?_⟩⟩
 have hq:=hs45
 have ho:=hv_lt oko
 have hn:(toH (val b)).length≤(toH (val a)).length:=hlen_le (by omega)
 rw [hol] at ho
 rw [hv_take_all (by omega),hv_take_all (by omega),hv_toH,hv_toH] at hv
 rwa [hsub_end ho (by omega) hv] at hq
end Go.Proofs.YtlceligcgelbdaaGreat

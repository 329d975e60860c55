/- Sums, places, names, which classes fit; deals, walked. -/
import Derived.WalkKit
import Derived.Orders
import Derived.Test.YtlceligcgelbdaaGreatKD2
set_option linter.unusedVariables false
set_option linter.unusedSimpArgs false
set_option maxRecDepth 100000
set_option maxHeartbeats 1000000
namespace Go.Proofs.YtlceligcgelbdaaGreat
open Go.CE Go.RowKit Go.Num
open Go.Eng (setL)
abbrev bool_ (b:Bool):AV:=Ab b
abbrev int_ (n:Int):AV:=Ai n
theorem at1 {z:Mem} {b ty:Nat} {c:C} (h:z b (.cells ty [c])):At z b 0 [c]:=⟨_,[c],h,rfl,by simp,rfl⟩
def fstI {α:Type} (p:α→Bool) (l:List α):Int:=match l.findIdx? p with
 | some i=>(i:Nat)
 | none=>-1
theorem fst_at {α:Type} {p:α→Bool} {l:List α} {i:Nat} {a:α} (ha:l[i]? = some a) (h:p a=true) (hp:∀ q,q<i→∀ b,l[q]? = some b→p b=false):fstI p l=(i:Nat):=by
 have:l.findIdx? p=some i:=by
  rw [List.findIdx?_eq_some_iff_getElem]
  obtain ⟨hl,he⟩:=List.getElem?_eq_some_iff.1 ha
  exact ⟨hl,by rw [he];exact h,fun q hq=>by rw [hp q hq _ (List.getElem?_eq_getElem (by omega))];simp⟩
 simp only [fstI,this]
theorem fst_no {α:Type} {p:α→Bool} {l:List α} {i:Nat} (hi:l.length≤i) (hp:∀ q,q<i→∀ b,l[q]? = some b→p b=false):fstI p l = -1:=by
 have:l.findIdx? p=none:=by
  rw [List.findIdx?_eq_none_iff]
  intro a ha
  obtain ⟨q,hq⟩:=List.mem_iff_getElem?.1 ha
  exact hp q (by have:=(List.getElem?_eq_some_iff.1 hq).1;omega) a hq
 simp only [fstI,this]
theorem p_step {α:Type} {p:α→Bool} {l:List α} {i:Nat} {a:α} (hp:∀ q,q<i→∀ b,l[q]? = some b→p b=false) (ha:l[i]? = some a) (h:p a=false):∀ q,q<i+1→∀ b,l[q]? = some b→p b=false:=fun q hq b hb=>by
 by_cases hqi:q=i
 ·subst hqi;rw [ha] at hb;injection hb with hb;rw [← hb];exact h
 exact hp q (by omega) b hb
theorem fst_get {α:Type} {p:α→Bool} {l:List α} (h:0≤fstI p l):∃ (i:Nat) (a:α),fstI p l=(i:Nat)∧l[i]? = some a∧p a=true:=by
 unfold fstI at h ⊢
 cases hf:l.findIdx? p with
 | none=>rw [hf] at h;simp at h
 | some i =>
  obtain ⟨h1,h2,_⟩:=List.findIdx?_eq_some_iff_getElem.1 hf
  exact ⟨i,l[i],rfl,List.getElem?_eq_getElem h1,h2⟩
abbrev placeB (l:List ByteArray) (s:ByteArray):Int:=fstI (fun a=>decide (a=s)) l
abbrev classB (l:List PClass) (s:ByteArray):Int:=fstI (fun c=>decide (c.name=s)) l
theorem c_rat_Add {k:Nat} (hk:10≤k) {z:Mem} {n1 n2:Bool} {c1 c2:C} {l1 l2:List UInt32} (hx:CZ 1 RW z c1 l1) (hy:CZ 1 RW z c2 l2) (h1:l1.length≤9000000) (h2:l2.length≤9000000) {n3 n4:Bool} {c3 c4:C} {l3 l4:List UInt32} (hu:CZ 1 RW z c3 l3) (hw:CZ 1 RW z c4 l4) (h3:l3.length≤9000000) (h4:l4.length≤9000000):FC (E k) 36 [.agg [Cb n1,c1,Cb n2,c2],.agg [Cb n3,c3,Cb n4,c4]] z fun v z'=>QV (zd z z') v ((valR ((n1,l1),(n2,l2)))+(valR ((n3,l3),(n4,l4)))):=by
 have em1:=Nat.le_trans (lenN (x:=((n1,l1),(n2,l2)))) h1
 have en1:=Nat.le_trans (lenD (x:=((n1,l1),(n2,l2)))) (Nat.succ_le_succ h2)
 have em2:=Nat.le_trans (lenN (x:=((n3,l3),(n4,l4)))) h3
 have en2:=Nat.le_trans (lenD (x:=((n3,l3),(n4,l4)))) (Nat.succ_le_succ h4)
 have om1:=Nat.le_trans em1 (show 9000000≤20000000 by decide)
 have om2:=Nat.le_trans em2 (show 9000000≤20000000 by decide)
 have on1:=Nat.le_trans en1 (show 9000000+1≤20000000 by decide)
 have on2:=Nat.le_trans en2 (show 9000000+1≤20000000 by decide)
 refine fc_of (tS_get36) (by omega) (len1 rfl) fun B j hj=>?_
 refine xR ?_
 refine fl_bx rfl fun b2=>?_
 refine fl_bx rfl fun b3=>?_
 refine fl_al4 fun b4=>?_
 refine lN ?_
 refine fx_drwS ?_
 refine gl4 O O (.inr Y2) O ?_
 refine gC z (c_rat_right (by omega) hx hy (Nat.le_trans h1 (show 9000000≤20000000 by decide)) (Nat.le_trans h2 (show 9000000≤20000000 by decide))) O O O O fun v6 z6 hz6 hv6=>?_
 have hw6:=qv_op (hv6 _ hx.m hy.m zd_le)
 obtain ⟨c6,d6,hv,hm6,hn6⟩:=hw6
 subst hv
 refine gl4 O O (.inr Y1) O ?_
 refine gC z6 (c_rat_right (by omega) hu.m hw.m (Nat.le_trans h3 (show 9000000≤20000000 by decide)) (Nat.le_trans h4 (show 9000000≤20000000 by decide))) O O O O fun v8 z8 hz8 hv8=>?_
 have hw8:=qv_op (hv8 _ hu.m hw.m zd_le)
 obtain ⟨c8,d8,hv,hm8,hn8⟩:=hw8
 subst hv
 refine gC z8 (c_rat_add (by omega) hm6.m hn6.m hm8 hn8 (Nat.le_succ_of_le em1) en1 (Nat.le_succ_of_le em2) en2) O O O O fun v9 z9 _ hv9=>?_
 obtain ⟨c9,d9,hv,hm9,hn9⟩:=hv9
 subst hv
 have hm9:=hm9.mono (zA (hz6.trans hz8))
 have hn9:=hn9.mono (zA (hz6.trans hz8))
 refine gS O O O ?_
 refine fl_st4 rfl rfl rep0 ?_
 refine lN ?_
 refine fg_nil ?_
 refine xT ?_
 refine rQ (.inl rfl) (rc4 rfl mem0 rn) ?_
 exact ⟨_,_,rfl,hm9,hn9⟩
theorem c_rat_Sum {k:Nat} (hk:10≤k) {z:Mem} {v:AV} {x:PRat} (hx:SZ 4 RRat z v [x]) (h1:x.nm.length≤9000000) (h2:x.dm.length≤9000000):FC (E k) 37 [v] z fun v z'=>QV (zd z z') v (valR ((x.n,x.nm),(x.d,x.dm))):=by
 have em:=Nat.le_trans (lenN (x:=((x.n,x.nm),(x.d,x.dm)))) h1
 have en:=Nat.le_trans (lenD (x:=((x.n,x.nm),(x.d,x.dm)))) (Nat.succ_le_succ h2)
 refine fc_of (tS_get37) (by omega) (len1 rfl) fun B j hj=>?_
 refine xR ?_
 refine fl_al4 fun b2=>?_
 refine lN ?_
 refine xR ?_
 refine lZ z (c_rat_Whole (by omega) (by decide) (by decide)) rfl rfl fun v6 z6 hz6 hv6=>?_
 obtain ⟨c6,d6,hv,hm6,hn6⟩:=hv6
 subst hv
 refine fl_al4 fun b3=>?_
 refine fl_st4 rfl rfl rep0 ?_
 refine lN ?_
 refine R4 12 O ?_
 refine fl_lenS rfl hx ?_
 refine R0 2 O ?_
 refine fx_seq (fx_block ?_)
 refine fx_loop (fun n fs=>∃ (i:Nat) (q:Rat) (c3:C) (d3:C) (zz:Mem),LZ z6 zz [.blk b3 (.cells 35 [Cb (decide (q.num<0)),c3,Cb (decide ((q.den:Int)<0)),d3]),.blk b2 (.cells 35 [Cb false,Cz,Cb false,Cz])] [(2,Ap b2),(3,Ap b3),(7,v),(8,Az ([x].length)),(9,Az i)] fs∧n=1 - i∧(i≤1)∧(q=if i=0 then 0 else valR ((x.n,x.nm),(x.d,x.dm)))∧(CZ 1 RW (zd z zz) c3 (toL q.num.natAbs))∧(CZ 1 RW (zd z zz) d3 (toL (q.den:Int).natAbs))) ?_ _ ⟨0,0,_,_,_,LZ.m [] O,rfl,by omega,rfl,hm6,hn6⟩ (kK (by omega))
 intro n fs ⟨i,q,c3,d3,zz,hL0,hmz0,hi,hq,hqm,hqn⟩
 refine hL0.open fun e hzz=>?_
 refine R5 8 O ?_
 refine xD rfl (fun hc10=>?_) (fun hc10=>?_)
 ·refine fx_kseq ?_
  refine fx_seq (fx_block ?_)
  refine xR ?_
  have hi0:i=0:=by have:=hc10;simp only [List.length_cons,List.length_nil] at this;omega
  have hq0:q=0:=by rw [hq,if_pos hi0]
  have hql:(toL q.num.natAbs).length≤9000001:=by rw [hq0,show toL (0:Rat).num.natAbs=[] from toL_zero];simp
  have hqd:(toL (q.den:Int).natAbs).length≤9000001:=by rw [hq0];exact Nat.le_trans (m:=1) (toL_len.2 (by decide)) (by omega)
  refine fl_iadS (zz:=zz) rfl rfl hx.m i rfl x (by rw [hi0];rfl) fun b11 p11 cs at11 hR=>?_
  obtain ⟨c11,d11,hcs,qm,qn⟩:=hR
  subst hcs
  refine fl_ldA (off:=0) rfl at11 rfl (by simp) rfl ?_
  refine fl_al4 fun b5=>?_
  refine fl_st4 rfl rfl rep0 ?_
  refine lN ?_
  refine fx_drw ?_
  refine gl4 O O (.inr Y1) O ?_
  refine gl4 O O Ht O ?_
  refine gC zz (c_rat_right (by omega) qm qn (Nat.le_trans h1 (show 9000000≤20000000 by decide)) (Nat.le_trans h2 (show 9000000≤20000000 by decide))) O O O O fun v15 z15 hz15 hv15=>?_
  have hw15:=qv_op (hv15 _ qm.m qn.m zd_le)
  obtain ⟨c15,d15,hv,hm15,hn15⟩:=hw15
  subst hv
  refine gC z15 (c_rat_add (by omega) hqm.m hqn.m hm15 hn15 hql hqd (Nat.le_succ_of_le em) en) O O O O fun v16 z16 _ hv16=>?_
  rw [hq0,Rat.zero_add] at hv16
  obtain ⟨c16,d16,hv,hm16,hn16⟩:=hv16
  subst hv
  have hm16:=hm16.mono (zA (hz6.trans (hzz.trans hz15)))
  have hn16:=hn16.mono (zA (hz6.trans (hzz.trans hz15)))
  refine gS O O O ?_
  refine fl_st4 rfl rfl P1 ?_
  refine lN ?_
  refine fg_nil ?_
  refine sq_n ?_
  refine xG ?_
  refine lB rfl rfl (bI_add (n:=i+1) (by omega) (by omega)) ?_
  refine R0 2 O ?_
  exact lq_n (by omega) ⟨i+1,valR ((x.n,x.nm),(x.d,x.dm)),_,_,_,LZ.m [_] O,rfl,by omega,by rw [if_neg (by omega)],hm16,hn16⟩
 refine fx_eseq ?_
 refine lq_e ?_
 refine sq_n ?_
 refine xR ?_
 refine fl_ld4 rfl mem0 rfl ?_
 refine fl_st4 rfl rfl P1 ?_
 refine lN ?_
 refine xT ?_
 refine rQ (.inl rfl) (rc4 rfl Y1 rn) ?_
 rw [if_neg (show ¬ i=0 by have:=hc10;simp only [List.length_cons,List.length_nil] at this;omega)] at hq
 subst hq
 exact ⟨_,_,rfl,hqm,hqn⟩
theorem c_slices_Index___string_string_ {k:Nat} (hk:1≤k) {z:Mem} {v:AV} {l:List ByteArray} {s:ByteArray} (hx:SZ 1 RS z v l):FC (E k) 248 [v,.c (Cs s)] z fun u _=>u=int_ (placeB l s):=by
 have hxl:=hx.le
 refine fc_of (tS_get248) (by omega) (len1 rfl) fun B j hj=>?_
 refine R4 48 O ?_
 refine fl_lenS rfl hx ?_
 refine R0 2 O ?_
 refine fx_seq (fx_block ?_)
 refine fx_loop (fun n fs=>∃ (i:Nat),LI z [] [(0,v),(1,.c (Cs s)),(7,Az l.length),(8,Az i)] fs∧n=l.length - i∧(i≤l.length)∧(∀ q,q<i→∀ b,l[q]? = some b→decide (b=s)=false)) ?_ _ ⟨0,LI.m [] O,rfl,Nat.zero_le _,fun q hq=>absurd hq (Nat.not_lt_zero _)⟩ (kK (by omega))
 intro n fs ⟨i,hL0,hmz0,hi,hp⟩
 refine hL0.open fun e zl0 _=>?_
 refine R5 8 O ?_
 refine xD rfl (fun hc9=>?_) (fun hc9=>?_)
 ·refine fx_kseq ?_
  refine fx_seq (fx_block ?_)
  refine R4 160 O ?_
  refine fl_iadE (zz:=zl0) (e:=Value.string) rfl rfl hx.m i rfl (by omega) fun p14 hp14=>?_
  refine fl_ldP rfl hp14 ?_
  refine lB rfl rfl (b_eqlS _ _) ?_
  refine lN ?_
  refine xD rfl (fun hc16=>?_) (fun hc16=>?_)
  ·refine R5 8 O ?_
   refine xT ?_
   refine sq_r ?_
   refine lq_r ?_
   refine sq_r ?_
   exact rI O (congrArg int_ (fst_at (l:=l) (i:=i) (List.getElem?_eq_getElem (by omega)) (decide_eq_true hc16.symm) hp).symm)
  refine fx_skip ?_
  refine sq_n ?_
  refine xG ?_
  refine lB rfl rfl (bI_add (n:=i+1) (by omega) (by omega)) ?_
  refine R0 2 O ?_
  exact lq_n (by omega) ⟨i+1,LI.m [] O,rfl,by omega,p_step hp (List.getElem?_eq_getElem (by omega)) (decide_eq_false fun h=>hc16 h.symm)⟩
 refine fx_eseq ?_
 refine lq_e ?_
 refine sq_n ?_
 refine R5 4 O ?_
 refine xT ?_
 exact rI O (congrArg int_ (fst_no (l:=l) (i:=i) (by omega) hp).symm)
theorem c_group_Place {k:Nat} (hk:2≤k) {z:Mem} {v:AV} {l:List ByteArray} {s:ByteArray} (hx:SZ 1 RS z v l):FC (E k) 186 [v,.c (Cs s)] z fun u _=>u=int_ (placeB l s):=by
 refine fc_of (tS_get186) (by omega) (len1 rfl) fun B j hj=>?_
 refine R4 40 O ?_
 refine lE z (c_slices_Index___string_string_ (by omega) hx) O O fun z7 _=>?_
 refine R0 3 O ?_
 refine xT ?_
 refine rI O ?_
 rfl
theorem c_chart_Class_1 {k:Nat} (hk:1≤k) {z:Mem} {a1 s:ByteArray} {k1:Int} {m1 d1:Bool} {c0 c1:C} {b:Nat} (hb:At z b 0 [Cs s]):FC (E k) 247 [.agg [Cs a1,Cu k1,Cb m1,c0,Cb d1,c1],Ap b] z fun u _=>u=bool_ (decide (a1=s)):=by
 refine fc_of (tS_get247) (by omega) (len1 rfl) fun B j hj=>?_
 refine xR ?_
 refine fl_bx rfl fun b2=>?_
 refine R2 8 O ?_
 refine fl_ld1 rfl mem0 rfl ?_
 refine fl_ldA1 rfl hb ?_
 refine lB rfl rfl (b_eqlS _ _) ?_
 refine R0 2 O ?_
 refine xT ?_
 refine rI O ?_
 rfl
theorem c_slices_IndexFunc___ast_Class_ast_Class_ {k:Nat} (hk:2≤k) {z:Mem} {v:AV} {l:List PClass} {s:ByteArray} {b:Nat} (hx:SZ 6 RClass z v l) (hb:At z b 0 [Cs s]):FC (E k) 246 [v,.c (.fn 247 [] [(false,[.ptr b 0])])] z fun u _=>u=int_ (classB l s):=by
 have hxl:=hx.le
 refine fc_of (tS_get246) (by omega) (len1 rfl) fun B j hj=>?_
 refine R4 48 O ?_
 refine fl_lenS rfl hx ?_
 refine R0 2 O ?_
 refine fx_seq (fx_block ?_)
 refine fx_loop (fun n fs=>∃ (i:Nat),LI z [] [(0,v),(1,.c (.fn 247 [] [(false,[.ptr b 0])])),(7,Az l.length),(8,Az i)] fs∧n=l.length - i∧(i≤l.length)∧(∀ q,q<i→∀ b,l[q]? = some b→decide (b.name=s)=false)) ?_ _ ⟨0,LI.m [] O,rfl,Nat.zero_le _,fun q hq=>absurd hq (Nat.not_lt_zero _)⟩ (kK (by omega))
 intro n fs ⟨i,hL0,hmz0,hi,hp⟩
 refine hL0.open fun e zl0 _=>?_
 refine R5 8 O ?_
 refine xD rfl (fun hc9=>?_) (fun hc9=>?_)
 ·refine fx_kseq ?_
  refine fx_seq (fx_block ?_)
  refine R4 160 O ?_
  refine fl_iadS (zz:=zl0) rfl rfl hx.m i rfl _ (List.getElem?_eq_getElem (by omega)) fun b14 p14 cs at14 hR=>?_
  obtain ⟨c0,c1,hcs,q0,q1⟩:=hR
  subst hcs
  refine fl_ldA (off:=0) rfl at14 rfl (by simp) rfl ?_
  refine fl_callvZ zl0 rfl (c_chart_Class_1 (by omega) hb.m) rfl rfl fun v16 z16 _ hv16=>?_
  subst hv16
  refine lN ?_
  refine xD rfl (fun hc16=>?_) (fun hc16=>?_)
  ·refine R5 8 O ?_
   refine xT ?_
   refine sq_r ?_
   refine lq_r ?_
   refine sq_r ?_
   exact rI O (congrArg int_ (fst_at (l:=l) (i:=i) (List.getElem?_eq_getElem (by omega)) (decide_eq_true hc16) hp).symm)
  refine fx_skip ?_
  refine sq_n ?_
  refine xG ?_
  refine lB rfl rfl (bI_add (n:=i+1) (by omega) (by omega)) ?_
  refine R0 2 O ?_
  exact lq_n (by omega) ⟨i+1,LI.m [] O,rfl,by omega,p_step hp (List.getElem?_eq_getElem (by omega)) (decide_eq_false hc16)⟩
 refine fx_eseq ?_
 refine lq_e ?_
 refine sq_n ?_
 refine R5 4 O ?_
 refine xT ?_
 exact rI O (congrArg int_ (fst_no (l:=l) (i:=i) (by omega) hp).symm)
theorem c_chart_Class {k:Nat} (hk:3≤k) {z:Mem} {v:AV} {l:List PClass} {s:ByteArray} (hx:SZ 6 RClass z v l):FC (E k) 185 [v,.c (Cs s)] z fun u _=>u=int_ (classB l s):=by
 refine fc_of (tS_get185) (by omega) (len1 rfl) fun B j hj=>?_
 refine xR ?_
 refine fl_box rfl rfl fun b3=>?_
 refine R2 12 O ?_
 refine fl_mkf rfl rfl ?_
 refine fl_frzZ z (p:=[]) rfl rfl rfl (fun _ h=>h) fun zffb _ fb=>?_
 refine lE zffb (c_slices_IndexFunc___ast_Class_ast_Class_ (by omega) hx.m (at1 fb)) O O fun z7 _=>?_
 refine R0 3 O ?_
 refine xT ?_
 refine rI O ?_
 rfl
open Go.CE Go.RowKit Go.Num
open Go.Eng (setL)
def eB (n:Int):Value:=.int .u8 n
instance:RMono (RE eB):=⟨fun _ h=>h⟩
theorem ne_step {l:List Int} {c x:Int} {i:Nat} (hp:∀ q,q<i→l[q]?≠some c) (hx:l[i]? = some x) (h:¬ c=x):∀ q,q<i+1→l[q]?≠some c:=fun q hq e=>by
 by_cases hqi:q=i
 ·subst hqi;rw [hx] at e;injection e with e;exact h e.symm
 exact hp q (by omega) e
theorem no_mem {l:List Int} {c:Int} {i:Nat} {P:Prop} (hp:∀ q,q<i→l[q]?≠some c) (hi:l.length≤i) (h:c∈l):P:=by
 obtain ⟨q,hq⟩:=List.mem_iff_getElem?.1 h
 exact absurd hq (hp q (by have:=(List.getElem?_eq_some_iff.1 hq).1;omega))
def rowS (k:Int) (g:Bool):List Int:=if k=1∨k=2 then (if g=true then [1] else [2,4,5,6,7]) else if k=3 then (if g=true then [8] else [9]) else if k=4 then (if g=true then [10] else [11]) else []
theorem fl_ixa {call:Call'} {B:Base} {fs:Sf} {l:List I} {Q:Sf→Prop} {d:Nat} {len size:Nat} {agg:Bool} {x i:Go.Eng.Od} {cs:List C} {kd:IntKind} {z:Int} {v:AV} (hx:fs.ev x=.agg cs) (hi:fs.ev i=.c (.v (.int kd z))) (j:Nat) (hj:z=(j:Int)) (h:j<len) (hl:len * size=cs.length) (hv:mkAV agg ((cs.drop (j * size)).take size)=v)
    (hw:FL call B l (fs.put d v) Q):FL call B (⟨some d,none,.ixa len agg size x i⟩::l) fs Q:=
  fl_q (fun _ => rfl) (fun st rf => by
    simp only [stepQ,rf.ev,hx,hi,AV.int?,hj]
    rw [Go.Eng.need_pos ⟨by omega,by omega,hl⟩,Int.toNat_natCast,hv]) hw
theorem fv_ne {k0 n:Int} {v:AV} {m:Nat} {es:List (Value×AV×Nat)} {r:Option (Option AV)} (h:¬ k0=n) (t:findV false (.int .u8 k0) es=r):findV false (.int .u8 k0) ((.int .u8 n,v,m)::es)=r:=by
 have:sameK false (.int .u8 k0) (.int .u8 n)=some false:=by simp [sameK,h]
 simp only [findV,this]
 exact t
theorem c_slices_Index___uint8_uint8_ {k:Nat} (hk:1≤k) {z:Mem} {v:AV} {l:List Int} {c:Int} (hx:SZ 1 (RE eB) z v l):FC (E k) 291 [v,.c (Cu c)] z fun u _=>∃ n:Int,u=Ai n∧(0≤n↔c∈l):=by
 have hxl:=hx.le
 refine fc_of (tS_get291) (by omega) (len1 rfl) fun B j hj=>?_
 refine R4 48 O ?_
 refine fl_lenS rfl hx ?_
 refine R0 2 O ?_
 refine fx_seq (fx_block ?_)
 refine fx_loop (fun n fs=>∃ (i:Nat),LI z [] [(0,v),(1,.c (Cu c)),(7,Az l.length),(8,Az i)] fs∧n=l.length - i∧(i≤l.length)∧(∀ q,q<i→l[q]?≠some c)) ?_ _ ⟨0,LI.m [] O,rfl,Nat.zero_le _,fun q hq=>absurd hq (Nat.not_lt_zero _)⟩ (kK (by omega))
 intro n fs ⟨i,hL0,hmz0,hi,hp⟩
 refine hL0.open fun e zl0 _=>?_
 refine R5 8 O ?_
 refine xD rfl (fun hc9=>?_) (fun hc9=>?_)
 ·refine fx_kseq ?_
  refine fx_seq (fx_block ?_)
  refine R4 160 O ?_
  refine fl_iadE (zz:=zl0) rfl rfl hx.m (i) (rfl) (by omega) fun p14 hp14=>?_
  refine fl_ldP rfl hp14 ?_
  refine R0 2 O ?_
  refine xD rfl (fun hc16=>?_) (fun hc16=>?_)
  ·refine R5 8 O ?_
   refine xT ?_
   refine sq_r ?_
   refine lq_r ?_
   refine sq_r ?_
   exact rI O ⟨_,rfl,⟨fun _=>by rw [hc16];exact List.getElem_mem _,fun _=>by omega⟩⟩
  refine fx_skip ?_
  refine sq_n ?_
  refine xG ?_
  refine lB rfl rfl (bI_add (n:=i+1) (by omega) (by omega)) ?_
  refine R0 2 O ?_
  exact lq_n (by omega) ⟨i+1,LI.m [] O,rfl,by omega,ne_step hp (List.getElem?_eq_getElem (by omega)) hc16⟩
 refine fx_eseq ?_
 refine lq_e ?_
 refine sq_n ?_
 refine R5 4 O ?_
 refine xT ?_
 exact rI O ⟨_,rfl,⟨fun h=>absurd h (by decide),fun h=>no_mem hp (by omega) h⟩⟩
theorem c_slices_Contains___uint8_uint8_ {k:Nat} (hk:2≤k) {z:Mem} {v:AV} {l:List Int} {c:Int} (hx:SZ 1 (RE eB) z v l):FC (E k) 249 [v,.c (Cu c)] z fun u _=>u=Ab (decide (c∈l)):=by
 refine fc_of (tS_get249) (by omega) (len1 rfl) fun B j hj=>?_
 refine R4 40 O ?_
 refine lZ z (c_slices_Index___uint8_uint8_ (by omega) hx) rfl rfl fun v7 z7 _ ⟨n7,hv7,hn7⟩=>?_
 subst hv7
 refine R0 4 O ?_
 refine xT ?_
 exact rI O (cQ (by by_cases h:c∈l<;>simp_all))
theorem c_Fits_1 {k:Nat} (hk:3≤k) {z:Mem} {c:Int} {g:Bool}:FC (E k) 187 [.c (Cu 1),Ab g,.c (Cu c)] z fun u _=>u=Ab (decide (c∈rowS 1 g)):=by
 refine fc_of (tS_get187) (by omega) (len1 rfl) fun B j hj=>?_
 refine R4 8 O ?_
 refine fl_mkm fun b9=>?_
 refine fl_bslice rfl fun b10=>?_
 refine fl_bslice rfl fun b11=>?_
 refine fl_bd (cs:=[_,_]) rfl ?_
 refine fl_mupd rfl rfl rfl rfl P2 ?_
 refine fl_bslice rfl fun b13=>?_
 refine fl_bslice rfl fun b14=>?_
 refine fl_bd (cs:=[_,_]) rfl ?_
 refine fl_mupd rfl rfl rfl rfl (repS P3) ?_
 refine fl_bslice rfl fun b16=>?_
 refine fl_bslice rfl fun b17=>?_
 refine fl_bd (cs:=[_,_]) rfl ?_
 refine fl_mupd rfl rfl rfl rfl (repS (repS (repS P3))) ?_
 refine fl_bslice rfl fun b19=>?_
 refine fl_bslice rfl fun b20=>?_
 refine fl_bd (cs:=[_,_]) rfl ?_
 refine fl_mupd rfl rfl rfl rfl (repS (repS (repS (repS (repS P3))))) ?_
 refine R3 259 O ?_
 refine fx_condB rfl (fun hc23=>?_) (fun hc23=>?_)
 ·refine R4 40 O ?_
  refine fl_look (r:=some _) rfl rfl (memS (memS (memS (memS Y4)))) rfl rfl ?_
  refine lC rfl ?_
  refine fl_ixa rfl rfl 1 rfl (by omega) rfl rfl ?_
  refine lC rfl ?_
  refine fl_frzZ z (p:=[_,_,_,_,_,_]) rfl rfl rfl (fun _ h=>h) fun zffb hzffb fb=>?_
  refine lE zffb (c_slices_Contains___uint8_uint8_ (by omega) (l:=[1]) ((cE_cl (e:=eB)).sz rfl (by decide) fb)) O O fun z30 hz30=>?_
  refine R0 3 O ?_
  refine xT ?_
  exact rI O (cQ (by simp [rowS,hc23]))
 refine R4 20 O ?_
 refine fl_look (r:=some _) rfl rfl (memS (memS (memS (memS Y4)))) rfl rfl ?_
 refine lC rfl ?_
 refine fl_ixa rfl rfl 0 rfl (by omega) rfl rfl ?_
 refine lC rfl ?_
 refine fl_frzZ z (p:=[_,_,_,_,_,_,_]) rfl rfl rfl (fun _ h=>h) fun zffb hzffb fb=>?_
 refine lE zffb (c_slices_Contains___uint8_uint8_ (by omega) (l:=[2,4,5,6,7]) ((cE_cl (e:=eB)).sz rfl (by decide) fb)) O O fun z30 hz30=>?_
 refine R0 3 O ?_
 refine xT ?_
 exact rI O (cQ (by simp [rowS,hc23]))
theorem c_Fits_2 {k:Nat} (hk:3≤k) {z:Mem} {c:Int} {g:Bool}:FC (E k) 187 [.c (Cu 2),Ab g,.c (Cu c)] z fun u _=>u=Ab (decide (c∈rowS 2 g)):=by
 refine fc_of (tS_get187) (by omega) (len1 rfl) fun B j hj=>?_
 refine R4 8 O ?_
 refine fl_mkm fun b9=>?_
 refine fl_bslice rfl fun b10=>?_
 refine fl_bslice rfl fun b11=>?_
 refine fl_bd (cs:=[_,_]) rfl ?_
 refine fl_mupd rfl rfl rfl rfl P2 ?_
 refine fl_bslice rfl fun b13=>?_
 refine fl_bslice rfl fun b14=>?_
 refine fl_bd (cs:=[_,_]) rfl ?_
 refine fl_mupd rfl rfl rfl rfl (repS P3) ?_
 refine fl_bslice rfl fun b16=>?_
 refine fl_bslice rfl fun b17=>?_
 refine fl_bd (cs:=[_,_]) rfl ?_
 refine fl_mupd rfl rfl rfl rfl (repS (repS (repS P3))) ?_
 refine fl_bslice rfl fun b19=>?_
 refine fl_bslice rfl fun b20=>?_
 refine fl_bd (cs:=[_,_]) rfl ?_
 refine fl_mupd rfl rfl rfl rfl (repS (repS (repS (repS (repS P3))))) ?_
 refine R3 259 O ?_
 refine fx_condB rfl (fun hc23=>?_) (fun hc23=>?_)
 ·refine R4 40 O ?_
  refine fl_look (r:=some _) rfl rfl (memS (memS (memS (memS Y4)))) rfl rfl ?_
  refine lC rfl ?_
  refine fl_ixa rfl rfl 1 rfl (by omega) rfl rfl ?_
  refine lC rfl ?_
  refine fl_frzZ z (p:=[_,_,_,_]) rfl rfl rfl (fun _ h=>h) fun zffb hzffb fb=>?_
  refine lE zffb (c_slices_Contains___uint8_uint8_ (by omega) (l:=[1]) ((cE_cl (e:=eB)).sz rfl (by decide) fb)) O O fun z30 hz30=>?_
  refine R0 3 O ?_
  refine xT ?_
  exact rI O (cQ (by simp [rowS,hc23]))
 refine R4 20 O ?_
 refine fl_look (r:=some _) rfl rfl (memS (memS (memS (memS Y4)))) rfl rfl ?_
 refine lC rfl ?_
 refine fl_ixa rfl rfl 0 rfl (by omega) rfl rfl ?_
 refine lC rfl ?_
 refine fl_frzZ z (p:=[_,_,_,_,_]) rfl rfl rfl (fun _ h=>h) fun zffb hzffb fb=>?_
 refine lE zffb (c_slices_Contains___uint8_uint8_ (by omega) (l:=[2,4,5,6,7]) ((cE_cl (e:=eB)).sz rfl (by decide) fb)) O O fun z30 hz30=>?_
 refine R0 3 O ?_
 refine xT ?_
 exact rI O (cQ (by simp [rowS,hc23]))
theorem c_Fits_3 {k:Nat} (hk:3≤k) {z:Mem} {c:Int} {g:Bool}:FC (E k) 187 [.c (Cu 3),Ab g,.c (Cu c)] z fun u _=>u=Ab (decide (c∈rowS 3 g)):=by
 refine fc_of (tS_get187) (by omega) (len1 rfl) fun B j hj=>?_
 refine R4 8 O ?_
 refine fl_mkm fun b9=>?_
 refine fl_bslice rfl fun b10=>?_
 refine fl_bslice rfl fun b11=>?_
 refine fl_bd (cs:=[_,_]) rfl ?_
 refine fl_mupd rfl rfl rfl rfl P2 ?_
 refine fl_bslice rfl fun b13=>?_
 refine fl_bslice rfl fun b14=>?_
 refine fl_bd (cs:=[_,_]) rfl ?_
 refine fl_mupd rfl rfl rfl rfl (repS P3) ?_
 refine fl_bslice rfl fun b16=>?_
 refine fl_bslice rfl fun b17=>?_
 refine fl_bd (cs:=[_,_]) rfl ?_
 refine fl_mupd rfl rfl rfl rfl (repS (repS (repS P3))) ?_
 refine fl_bslice rfl fun b19=>?_
 refine fl_bslice rfl fun b20=>?_
 refine fl_bd (cs:=[_,_]) rfl ?_
 refine fl_mupd rfl rfl rfl rfl (repS (repS (repS (repS (repS P3))))) ?_
 refine R3 259 O ?_
 refine fx_condB rfl (fun hc23=>?_) (fun hc23=>?_)
 ·refine R4 40 O ?_
  refine fl_look (r:=some _) rfl rfl (memS (memS (memS (memS Y4)))) rfl rfl ?_
  refine lC rfl ?_
  refine fl_ixa rfl rfl 1 rfl (by omega) rfl rfl ?_
  refine lC rfl ?_
  refine fl_frzZ z (p:=[_,_]) rfl rfl rfl (fun _ h=>h) fun zffb hzffb fb=>?_
  refine lE zffb (c_slices_Contains___uint8_uint8_ (by omega) (l:=[8]) ((cE_cl (e:=eB)).sz rfl (by decide) fb)) O O fun z30 hz30=>?_
  refine R0 3 O ?_
  refine xT ?_
  exact rI O (cQ (by simp [rowS,hc23]))
 refine R4 20 O ?_
 refine fl_look (r:=some _) rfl rfl (memS (memS (memS (memS Y4)))) rfl rfl ?_
 refine lC rfl ?_
 refine fl_ixa rfl rfl 0 rfl (by omega) rfl rfl ?_
 refine lC rfl ?_
 refine fl_frzZ z (p:=[_,_,_]) rfl rfl rfl (fun _ h=>h) fun zffb hzffb fb=>?_
 refine lE zffb (c_slices_Contains___uint8_uint8_ (by omega) (l:=[9]) ((cE_cl (e:=eB)).sz rfl (by decide) fb)) O O fun z30 hz30=>?_
 refine R0 3 O ?_
 refine xT ?_
 exact rI O (cQ (by simp [rowS,hc23]))
theorem c_Fits_4 {k:Nat} (hk:3≤k) {z:Mem} {c:Int} {g:Bool}:FC (E k) 187 [.c (Cu 4),Ab g,.c (Cu c)] z fun u _=>u=Ab (decide (c∈rowS 4 g)):=by
 refine fc_of (tS_get187) (by omega) (len1 rfl) fun B j hj=>?_
 refine R4 8 O ?_
 refine fl_mkm fun b9=>?_
 refine fl_bslice rfl fun b10=>?_
 refine fl_bslice rfl fun b11=>?_
 refine fl_bd (cs:=[_,_]) rfl ?_
 refine fl_mupd rfl rfl rfl rfl P2 ?_
 refine fl_bslice rfl fun b13=>?_
 refine fl_bslice rfl fun b14=>?_
 refine fl_bd (cs:=[_,_]) rfl ?_
 refine fl_mupd rfl rfl rfl rfl (repS P3) ?_
 refine fl_bslice rfl fun b16=>?_
 refine fl_bslice rfl fun b17=>?_
 refine fl_bd (cs:=[_,_]) rfl ?_
 refine fl_mupd rfl rfl rfl rfl (repS (repS (repS P3))) ?_
 refine fl_bslice rfl fun b19=>?_
 refine fl_bslice rfl fun b20=>?_
 refine fl_bd (cs:=[_,_]) rfl ?_
 refine fl_mupd rfl rfl rfl rfl (repS (repS (repS (repS (repS P3))))) ?_
 refine R3 259 O ?_
 refine fx_condB rfl (fun hc23=>?_) (fun hc23=>?_)
 ·refine R4 40 O ?_
  refine fl_look (r:=some _) rfl rfl (memS (memS (memS (memS Y4)))) rfl rfl ?_
  refine lC rfl ?_
  refine fl_ixa rfl rfl 1 rfl (by omega) rfl rfl ?_
  refine lC rfl ?_
  refine fl_frzZ z (p:=[]) rfl rfl rfl (fun _ h=>h) fun zffb hzffb fb=>?_
  refine lE zffb (c_slices_Contains___uint8_uint8_ (by omega) (l:=[10]) ((cE_cl (e:=eB)).sz rfl (by decide) fb)) O O fun z30 hz30=>?_
  refine R0 3 O ?_
  refine xT ?_
  exact rI O (cQ (by simp [rowS,hc23]))
 refine R4 20 O ?_
 refine fl_look (r:=some _) rfl rfl (memS (memS (memS (memS Y4)))) rfl rfl ?_
 refine lC rfl ?_
 refine fl_ixa rfl rfl 0 rfl (by omega) rfl rfl ?_
 refine lC rfl ?_
 refine fl_frzZ z (p:=[_]) rfl rfl rfl (fun _ h=>h) fun zffb hzffb fb=>?_
 refine lE zffb (c_slices_Contains___uint8_uint8_ (by omega) (l:=[11]) ((cE_cl (e:=eB)).sz rfl (by decide) fb)) O O fun z30 hz30=>?_
 refine R0 3 O ?_
 refine xT ?_
 exact rI O (cQ (by simp [rowS,hc23]))
theorem c_Fits_o {k:Nat} (hk:3≤k) {z:Mem} {k0 c:Int} {g:Bool} (h1:¬ k0=1) (h2:¬ k0=2) (h3:¬ k0=3) (h4:¬ k0=4):FC (E k) 187 [.c (Cu k0),Ab g,.c (Cu c)] z fun u _=>u=Ab (decide (c∈rowS k0 g)):=by
 refine fc_of (tS_get187) (by omega) (len1 rfl) fun B j hj=>?_
 refine R4 8 O ?_
 refine fl_mkm fun b9=>?_
 refine fl_bslice rfl fun b10=>?_
 refine fl_bslice rfl fun b11=>?_
 refine fl_bd (cs:=[_,_]) rfl ?_
 refine fl_mupd rfl rfl rfl rfl P2 ?_
 refine fl_bslice rfl fun b13=>?_
 refine fl_bslice rfl fun b14=>?_
 refine fl_bd (cs:=[_,_]) rfl ?_
 refine fl_mupd rfl rfl rfl rfl (repS P3) ?_
 refine fl_bslice rfl fun b16=>?_
 refine fl_bslice rfl fun b17=>?_
 refine fl_bd (cs:=[_,_]) rfl ?_
 refine fl_mupd rfl rfl rfl rfl (repS (repS (repS P3))) ?_
 refine fl_bslice rfl fun b19=>?_
 refine fl_bslice rfl fun b20=>?_
 refine fl_bd (cs:=[_,_]) rfl ?_
 refine fl_mupd rfl rfl rfl rfl (repS (repS (repS (repS (repS P3))))) ?_
 refine R3 259 O ?_
 refine fx_condB rfl (fun hc23=>?_) (fun hc23=>?_)
 ·refine R4 40 O ?_
  refine fl_look (r:=none) rfl rfl (memS (memS (memS (memS Y4)))) (fv_ne h1 (fv_ne h2 (fv_ne h3 (fv_ne h4 rfl)))) rfl ?_
  refine lC rfl ?_
  refine fl_ixa rfl rfl 1 rfl (by omega) rfl rfl ?_
  refine lC rfl ?_
  refine lE z (c_slices_Contains___uint8_uint8_ (by omega) (l:=[]) (.nil)) O O fun z30 hz30=>?_
  refine R0 3 O ?_
  refine xT ?_
  exact rI O (cQ (by simp [rowS,hc23,h1,h2,h3,h4]))
 refine R4 20 O ?_
 refine fl_look (r:=none) rfl rfl (memS (memS (memS (memS Y4)))) (fv_ne h1 (fv_ne h2 (fv_ne h3 (fv_ne h4 rfl)))) rfl ?_
 refine lC rfl ?_
 refine fl_ixa rfl rfl 0 rfl (by omega) rfl rfl ?_
 refine lC rfl ?_
 refine lE z (c_slices_Contains___uint8_uint8_ (by omega) (l:=[]) (.nil)) O O fun z30 hz30=>?_
 refine R0 3 O ?_
 refine xT ?_
 exact rI O (cQ (by simp [rowS,hc23,h1,h2,h3,h4]))
theorem c_sound_Fits {k:Nat} (hk:3≤k) {z:Mem} {k0 c:Int} {g:Bool}:FC (E k) 187 [.c (Cu k0),Ab g,.c (Cu c)] z fun u _=>u=Ab (decide (c∈rowS k0 g)):=by
 by_cases h1:k0=1
 ·subst h1;exact c_Fits_1 hk
 by_cases h2:k0=2
 ·subst h2;exact c_Fits_2 hk
 by_cases h3:k0=3
 ·subst h3;exact c_Fits_3 hk
 by_cases h4:k0=4
 ·subst h4;exact c_Fits_4 hk
 exact c_Fits_o hk h1 h2 h3 h4
open Go.CE Go.RowKit Go.Num
open Go.Eng (setL)
theorem rcAll {fs:Sf} {i b ty size:Nat} {cs:List C} {rs:List RR} {vs:List AV} (hp:fs.e i=Ap b) (hm:HA.blk b (.cells ty cs)∈fs.H) (hs:cs.length=size) (t:ResL fs rs vs):ResL fs (.c i true size::rs) (.agg cs::vs):=rc hp hm (by omega) (by rw [List.drop_zero,List.take_of_length_le (by omega)];rfl) t
def txt (l:List ByteArray):List (List UInt8):=l.map fun s=>s.data.toList
theorem txt_len (l:List ByteArray):(txt l).length=l.length:=by simp [txt]
theorem cl_txt {z:Mem} {cs:List C} {l:List ByteArray} (h:CL 1 RS z cs l):cs=cS (txt l):=by
 have:=cl_cE (e:=Value.string) h
 rw [this,cS,txt,List.map_map]
 rfl
def namesB (l:List ByteArray):List ByteArray:=(sortS (txt l)).map bs
theorem namesB_len (l:List ByteArray):(namesB l).length=l.length:=by rw [namesB,List.length_map,sortS_len,txt_len]
theorem cl_names {z:Mem} {l:List ByteArray}:CL 1 RS z (cS (sortS (txt l))) (namesB l):=by
 have h:CL 1 (RE Value.string) z (cE Value.string (namesB l)) (namesB l):=cE_cl
 have e:cE Value.string (namesB l)=cS (sortS (txt l)):=by
  rw [cE,namesB,cS,List.map_map];rfl
 rw [e] at h
 exact h
theorem c_clone_s {k:Nat} (hk:1≤k) {z:Mem} {v:AV} {l:List ByteArray} (hv:SZ 1 RS z v l) (hb:l.length≤1000):FCt (E k) 118 [v] z [] fun v' _ H'=>H'=[.row v' 9 1 (txt l).length (cS (txt l))]:=(clone_fc tS_get118 hk hv (by omega)).mono fun v' z' H' _ ⟨cs,h1,h2,_⟩=>by rw [h1,cl_txt h2,txt_len]
theorem c_sort {k:Nat} (hk:1≤k) {z:Mem} {u:AV} {l:List (List UInt8)} (hl:l.length≤1000):FCt (E k) 184 [u] z [.row u 9 1 l.length (cS l)] fun v z' H'=>v=.tup []∧z'=z∧H'=[.row u 9 1 l.length (cS (sortS l))]:=sort_fc (call:=handG 321 117 (handS 184 (handF 106 107 h1))) (h0:=handF 106 107 h1) tS_no184 (fun _ _ _ _ h=>h) (fun mem nx=>hS_nil mem nx) hk (by omega)
theorem c_group_Names {k:Nat} (hk:2≤k) {z:Mem} {x:PFiling} {c0 c1 c2 c3 c4 c5 c6 c7 c8 c9 c10 c11:C} (g0:CZ 8 RBracket z c0 x.brackets) (g1:CZ 1 RW z c1 x.threshold.nm) (g2:CZ 1 RW z c2 x.threshold.dm) (g3:CZ 1 RW z c3 x.cap.nm) (g4:CZ 1 RW z c4 x.cap.dm) (g5:CZ 1 RW z c5 x.interest.nm) (g6:CZ 1 RW z c6 x.interest.dm) (g7:CZ 1 RW z c7 x.floor.nm) (g8:CZ 1 RW z c8 x.floor.dm) (g9:CZ 6 RClass z c9 x.classes) (g10:CZ 1 RS z c10 x.entities) (g11:CZ 6 RYear z c11 x.years) (hb:x.entities.length≤1000):FC (E k) 101 [.agg [Cs x.name,Cs x.parent,c0,Cb x.threshold.n,c1,Cb x.threshold.d,c2,Cb x.cap.n,c3,Cb x.cap.d,c4,Ci x.back,Ci x.forward,Cb x.interest.n,c5,Cb x.interest.d,c6,Cb x.floor.n,c7,Cb x.floor.d,c8,Ci x.keep,c9,c10,c11]] z fun u z'=>∃ c,u=.c c∧CZ 1 RS z' c (namesB x.entities):=by
 refine fc_of (tS_get101) (by omega) (len1 rfl) fun B j hj=>?_
 refine xR ?_
 refine fl_bx rfl fun b1=>?_
 refine R2 8 O ?_
 refine fl_ld1 rfl mem0 rfl ?_
 refine fl_callLZ z [] (c_clone_s (by omega) g10 hb) rfl rfl rfl fun v6 z6 H6 _ hH6=>?_
 subst hH6
 refine R2 13 O ?_
 refine fl_callLZ z6 [.row v6 9 1 (txt x.entities).length (cS (txt x.entities))] (c_sort (by omega) (by rw [txt_len];omega)) rfl rfl rfl fun v8 z8 H8 _ hv8=>?_
 obtain ⟨rfl,rfl,rfl⟩:=hv8
 refine lN ?_
 refine R5 14 O ?_
 refine fx_frzR (p:=[]) rfl (cl_names (l:=x.entities)) (by rw [namesB_len,txt_len]) (by rw [txt_len];omega) fun zr _ hsr=>?_
 refine xT ?_
 refine rI O ?_
 obtain ⟨c,hc,_⟩:=SZ.one hsr
 subst hc
 exact ⟨c,rfl,hsr⟩
theorem c_pairs_of {k:Nat} (hk:1≤k) {z:Mem} {x:PDeal} {c0 c1:C}:FC (E k) 103 [.agg [Cb x.give,Cs x.id,Cu x.kind,Cs x.payee,Cs x.payer,Cs x.cls,Cb x.amount.n,c0,Cb x.amount.d,c1]] z fun v _=>v=.agg [Cs x.id,Cu x.kind,Cs x.payee,Cs x.payer]:=by
 refine fc_of (tS_get103) (by omega) (len1 rfl) fun B j hj=>?_
 refine xR ?_
 refine fl_bx rfl fun b1=>?_
 refine fl_al4 fun b2=>?_
 refine lN ?_
 refine R4 4 O ?_
 refine fl_ld1 rfl Y1 rfl ?_
 refine lF rfl ?_
 refine fl_ld1 rfl Y1 rfl ?_
 refine lF rfl ?_
 refine fl_ld1 rfl Y1 rfl ?_
 refine lF rfl ?_
 refine fl_ld1 rfl Y1 rfl ?_
 refine fl_bd (cs:=[Cs x.id,Cu x.kind,Cs x.payee,Cs x.payer]) rfl ?_
 refine fl_st4 rfl rfl rep0 ?_
 refine lN ?_
 refine xT ?_
 refine rQ (.inl rfl) (rc4 rfl mem0 rn) ?_
 rfl
abbrev amtV (x:PDeal):Rat:=valR ((x.amount.n,x.amount.nm),(x.amount.d,x.amount.dm))
def wellB (nl:List ByteArray) (cl:List PClass) (x:PDeal):Bool:=!decide (x.payee=x.payer) && decide (placeB nl x.payee ≥ 0) && decide (placeB nl x.payer ≥ 0) && decide (classB cl x.cls ≥ 0) && (cl[(classB cl x.cls).toNat]?).any (fun c=>decide (c.kind∈rowS x.kind x.give)) && decide ((amtV x).num.sign > 0)
theorem c_pairs_looker_well {k:Nat} (hk:11≤k) {z:Mem} {cn ck:C} {nl:List ByteArray} {cl:List PClass} (hn:CZ 1 RS z cn nl) (hc0:CZ 6 RClass z ck cl) {x:PDeal} {c0 c1:C} (g0:CZ 1 RW z c0 x.amount.nm) (g1:CZ 1 RW z c1 x.amount.dm) (hS:Sm x.amount):FC (E k) 102 [.agg [cn,ck],.agg [Cb x.give,Cs x.id,Cu x.kind,Cs x.payee,Cs x.payer,Cs x.cls,Cb x.amount.n,c0,Cb x.amount.d,c1]] z fun u _=>u=bool_ (wellB nl cl x):=by
 refine fc_of (tS_get102) (by omega) (len1 rfl) fun B j hj=>?_
 refine xR ?_
 refine fl_bx rfl fun b2=>?_
 refine fl_bx rfl fun b3=>?_
 refine R2 8 O ?_
 refine fl_ld1 rfl Y1 rfl ?_
 refine lF rfl ?_
 refine fl_ld1 rfl mem0 rfl ?_
 refine lE z (c_chart_Class (by omega) hc0) O O fun z10 _=>?_
 refine R0 3 O ?_
 refine fx_drwS ?_
 refine G1 2 O ?_
 refine gl1 O O Ht O ?_
 refine G1 2 O ?_
 refine gl1 O O Ht O ?_
 refine gP rfl rfl trivial ?_
 refine lB rfl rfl (b_neqS _ _) (lN ?_)
 refine G1 2 O ?_
 refine fg_splitN 16 rfl (fun hg16=>?_) (fun hg16=>?_)
 ·refine G1 2 O ?_
  refine gl1 O O (.inr Y1) O ?_
  refine G1 2 O ?_
  refine gl1 O O Ht O ?_
  refine gE z10 (c_group_Place (by omega) hn.m) O O O O fun z21 _=>?_
  refine G1 12 O ?_
  refine fg_splitD 24 rfl (fun hg24=>?_) (fun hg24=>?_)
  ·refine G1 2 O ?_
   refine gl1 O O (.inr Y1) O ?_
   refine G1 2 O ?_
   refine gl1 O O Ht O ?_
   refine gE z21 (c_group_Place (by omega) hn.m) O O O O fun z29 _=>?_
   refine G1 12 O ?_
   refine fg_splitD 32 rfl (fun hg32=>?_) (fun hg32=>?_)
   ·refine G1 25 O ?_
    refine fg_splitD 36 rfl (fun hg36=>?_) (fun hg36=>?_)
    ·refine G1 2 O ?_
     refine gl1 O O Ht O ?_
     refine G1 2 O ?_
     refine gl1 O O Ht O ?_
     refine G1 2 O ?_
     refine gl1 O O (.inr Y1) O ?_
     refine G1 3 O ?_
     obtain ⟨i44,a44,hi44,ha44,hp44⟩:=fst_get hg36
     refine gP rfl rfl rfl ?_
     refine fl_iadS rfl rfl hc0 i44 hi44 a44 ha44 fun b44 p44 cs at44 hR=>lN ?_
     obtain ⟨c44,d44,hcs,q44,r44⟩:=hR
     subst hcs
     refine G1 2 O ?_
     refine fg_ldA (i:=⟨_,_,.load _ _ _⟩) (off:=1) rfl rfl rfl rfl at44 ti rfl (by simp) rfl sR ?_
     refine gE z29 (c_sound_Fits (by omega)) O O O O fun z47 _=>?_
     refine G1 6 O ?_
     refine fg_splitD 49 rfl (fun hg49=>?_) (fun hg49=>?_)
     ·refine G1 2 O ?_
      refine gl4 O O Ht O ?_
      refine gE z47 (c_rat_Sign (by omega) g0.m g1.m (by have:=hS.1;omega) (by have:=hS.2;omega)) O O O O fun z52 _=>?_
      refine G0 12 O ?_
      refine xT ?_
      exact rI O (congrArg bool_ (by simp [*,wellB]))
     refine G0 96 O ?_
     refine xT ?_
     exact rI O (congrArg bool_ (by simp [*,wellB]))
    refine G0 790528 O ?_
    refine xT ?_
    exact rI O (congrArg bool_ (by simp [*,wellB]))
   refine G0 12648456 O ?_
   refine xT ?_
   exact rI O (congrArg bool_ (by simp [*,wellB]))
  refine G0 3238004864 O ?_
  refine xT ?_
  exact rI O (congrArg bool_ (by simp [*,wellB]))
 refine G0 828929245312 O ?_
 refine xT ?_
 exact rI O (congrArg bool_ (by simp [*,wellB]))
theorem sz_one {α:Type} {size:Nat} {R:RT α} {z:Mem} {b ty:Nat} {cs:List C} {a:α} (h:z b (.cells ty cs)) (hR:R z cs a) (hl:cs.length=size):SZ size R z (.c (.sl b 0 1 size)) [a]:=by
 refine .sl b 0 1 _ cs [a] rfl (by decide) h rfl (by omega) fun i a' hi=>?_
 cases i with
 | zero=>simp at hi;subst hi;rw [Nat.zero_mul,List.drop_zero,List.take_of_length_le (by omega)];exact hR
 | succ i=>simp at hi
def pairC (nl:List ByteArray) (cl:List PClass) (x y:PDeal) (c d:C):List C:=[Cs x.id,Cu x.kind,Ci (placeB nl x.payee),Ci (placeB nl x.payer),Ci (classB cl x.cls),Ci (classB cl y.cls),Cb (decide ((amtV x).num<0)),c,Cb (decide (((amtV x).den:Int)<0)),d]
theorem c_pairs_looker_pair {k:Nat} (hk:11≤k) {z:Mem} {cn ck:C} {nl:List ByteArray} {cl:List PClass} (hn:CZ 1 RS z cn nl) (hc0:CZ 6 RClass z ck cl) {x:PDeal} {c0 c1:C} (g0:CZ 1 RW z c0 x.amount.nm) (g1:CZ 1 RW z c1 x.amount.dm) (hS:Sm x.amount) {y:PDeal} {cy0 cy1:C} (gy0:sameC cy0 cy0=true) (gy1:sameC cy1 cy1=true):FC (E k) 105 [.agg [cn,ck],.agg [Cb x.give,Cs x.id,Cu x.kind,Cs x.payee,Cs x.payer,Cs x.cls,Cb x.amount.n,c0,Cb x.amount.d,c1],.agg [Cb y.give,Cs y.id,Cu y.kind,Cs y.payee,Cs y.payer,Cs y.cls,Cb y.amount.n,cy0,Cb y.amount.d,cy1]] z fun v z'=>∃ c d,v=.agg (pairC nl cl x y c d)∧CZ 1 RW (zd z z') c (toL (amtV x).num.natAbs)∧CZ 1 RW (zd z z') d (toL ((amtV x).den:Int).natAbs):=by
 refine fc_of (tS_get105) (by omega) (len1 rfl) fun B j hj=>?_
 refine xR ?_
 refine fl_bx rfl fun b3=>?_
 refine fl_bx rfl fun b4=>?_
 refine fl_bx rfl fun b5=>?_
 refine fl_alloc fun b6=>?_
 refine lN ?_
 refine fx_drwS ?_
 refine G1 2 O ?_
 refine gl1 O O (.inr Y2) O ?_
 refine G1 2 O ?_
 refine gl1 O O (.inr Y2) O ?_
 refine G1 2 O ?_
 refine gl1 O O (.inr Y3) O ?_
 refine G1 2 O ?_
 refine gl1 O O (.inr Y2) O ?_
 refine gE z (c_group_Place (by omega) hn) O O O O fun z15 hz15=>?_
 refine G1 2 O ?_
 refine gl1 O O (.inr Y3) O ?_
 refine G1 2 O ?_
 refine gl1 O O (.inr Y2) O ?_
 refine gE z15 (c_group_Place (by omega) hn.m) O O O O fun z20 hz20=>?_
 refine G1 2 O ?_
 refine gl1 O O (.inr Y3) O ?_
 refine G1 2 O ?_
 refine gl1 O O (.inr Y2) O ?_
 refine gE z20 (c_chart_Class (by omega) hc0.m) O O O O fun z25 hz25=>?_
 refine G1 2 O ?_
 refine gl1 O O (.inr Y3) O ?_
 refine G1 2 O ?_
 refine gl1 O O (.inr Y1) O ?_
 refine gE z25 (c_chart_Class (by omega) hc0.m) O O O O fun z30 hz30=>?_
 refine G1 2 O ?_
 refine gl4 O O (.inr Y2) O ?_
 refine fg_own (k:=.cells 35 [Cb x.amount.n,c0,Cb x.amount.d,c1]) (w:=fun b=>.c (.sl b 0 1 4)) rfl trivial rfl (fun _=>rfl) (fun st hst=>?_) (fun b33 hT33=>?_)
 ·simp only [stepE,fillS,AS.ev,hst 32 (by simp [Ins.sl,Od.sls,Od.sl])];rfl
 refine fg_frzZ z30 (p:=[]) rfl rfl rfl (fun _ h=>h) fun zff33 hzff33 f33=>?_
 refine gC zff33 (c_rat_Sum (by omega) (sz_one f33 (mk_rat g0.m g1.m) rfl) (by have:=hS.1;omega) (by have:=hS.2;omega)) O O O O fun v34 z34 _ hv34=>?_
 obtain ⟨c34,d34,hv,hm34,hn34⟩:=hv34
 subst hv
 have hm34:=hm34.mono (zA (hz15.trans (hz20.trans (hz25.trans (hz30.trans hzff33)))))
 have hn34:=hn34.mono (zA (hz15.trans (hz20.trans (hz25.trans (hz30.trans hzff33)))))
 refine gP rfl rfl trivial ?_
 refine fl_bd (cs:=pairC nl cl x y c34 d34) (by kernel_rfl) (lN ?_)
 refine gS O O O ?_
 refine fl_stAll rfl rfl rfl rfl rep0 ?_
 refine lN ?_
 refine fg_nil ?_
 refine xT ?_
 refine rQ (.inl rfl) (rcAll rfl mem0 rfl rn) ?_
 exact ⟨_,_,rfl,hm34,hn34⟩
open Go.CE Go.RowKit Go.Num
def posN (s:ByteArray) (l:List PDeal):List Nat:=(List.range l.length).filter fun i=>(l[i]?).any fun d=>decide (d.id=s)
theorem pos_mem {s:ByteArray} {l:List PDeal} {i:Nat}:i∈posN s l↔∃ d,l[i]? = some d∧d.id=s:=by
 simp only [posN,List.mem_filter,List.mem_range,Option.any_eq_true,decide_eq_true_eq]
 constructor
 ·rintro ⟨_,h⟩;exact h
 rintro ⟨d,h,e⟩
 exact ⟨(List.getElem?_eq_some_iff.1 h).1,d,h,e⟩
theorem pos_step {s:ByteArray} {l:List PDeal} {i:Nat} {a:PDeal} (h:l[i]? = some a):posN s (l.take (i+1))=if s=a.id then posN s (l.take i)++[i] else posN s (l.take i):=by
 obtain ⟨hl,he⟩:=List.getElem?_eq_some_iff.1 h
 have e1:(l.take (i+1)).length=i+1:=by rw [List.length_take];omega
 have e2:(l.take i).length=i:=by rw [List.length_take];omega
 unfold posN
 rw [e1,e2,List.range_succ,List.filter_append]
 have h1:(List.range i).filter (fun j=>((l.take (i+1))[j]?).any fun d=>decide (d.id=s))=(List.range i).filter fun j=>((l.take i)[j]?).any fun d=>decide (d.id=s):=by
  refine List.filter_congr fun j hj=>?_
  have hj:=List.mem_range.1 hj
  rw [List.getElem?_take,List.getElem?_take,if_pos (by omega),if_pos hj]
 rw [h1]
 have h2:(l.take (i+1))[i]? = some a:=by rw [List.getElem?_take,if_pos (by omega),h]
 simp only [List.filter_cons,List.filter_nil,h2,Option.any_some,decide_eq_true_eq]
 by_cases hs:a.id=s
 ·rw [if_pos hs,if_pos hs.symm]
 rw [if_neg hs,if_neg fun e=>hs e.symm,List.append_nil]
theorem pos_len (s:ByteArray) (l:List PDeal):(posN s l).length≤l.length:=by
 have:=List.length_filter_le (fun i=>(l[i]?).any fun d=>decide (d.id=s)) (List.range l.length)
 rwa [List.length_range] at this
theorem pos_lt {s:ByteArray} {l:List PDeal}:(posN s l).Pairwise (· < ·):=List.pairwise_lt_range.filter _
def mism (a b:PDeal):Bool:=!decide (a.id=b.id∧a.kind=b.kind∧a.payee=b.payee∧a.payer=b.payer) || (a.give == b.give) || !decide (amtV a=amtV b)
def badB (nl:List ByteArray) (cl:List PClass) (dl:List PDeal) (i:Nat):Bool:=match dl[i]? with
  | none=>false
  | some d => !wellB nl cl d || (match posN d.id dl with
    | [p, q] => (match dl[p]?, dl[q]? with
      | some a,some b=>mism a b
      | _,_=>true)
    | _=>true)
def pairAt (dl:List PDeal) (i:Nat):Option (PDeal×PDeal):=match dl[i]? with
 | some d=>match d.give with
  | true=>match posN d.id dl with
   | [p,q]=>(dl[p+q - i]?).map fun e=>(d,e)
   | _=>none
  | false=>none
 | none=>none
def pairsUp (dl:List PDeal) (m:Nat):List (PDeal×PDeal):=(List.range m).filterMap (pairAt dl)
theorem up_step (dl:List PDeal) (i:Nat):pairsUp dl (i+1)=pairsUp dl i++(pairAt dl i).toList:=by
 unfold pairsUp
 rw [List.range_succ,List.filterMap_append]
 congr 1
section
variable {nl:List ByteArray} {cl:List PClass} {dl:List PDeal} {i p q:Nat} {d a b:PDeal}
theorem bad_w (h:dl[i]? = some d) (g:wellB nl cl d=false):badB nl cl dl i=true:=by simp [badB,h,g]
theorem bad_l (h:dl[i]? = some d) (g:(posN d.id dl).length≠2):badB nl cl dl i=true:=by
 simp only [badB,h]
 rcases hp:posN d.id dl with _ | ⟨p,_ | ⟨q,_ | ⟨r,t⟩⟩⟩<;>simp_all
theorem bad_p (h:dl[i]? = some d) (hp:posN d.id dl=[p,q]) (ha:dl[p]? = some a) (hb:dl[q]? = some b):badB nl cl dl i=(!wellB nl cl d || mism a b):=by
 simp only [badB,h,hp,ha,hb]
theorem two_of {l:List Nat} (h:l.length=2):∃ p q,l=[p,q]:=by
 match l,h with
 | [p,q],_=>exact ⟨p,q,rfl⟩
theorem pos_two (hp:posN d.id dl=[p,q]):p<q∧(∃ a,dl[p]? = some a∧a.id=d.id)∧∃ b,dl[q]? = some b∧b.id=d.id:=by
 have h1:p∈posN d.id dl:=by rw [hp];simp
 have h2:q∈posN d.id dl:=by rw [hp];simp
 have h3:=pos_lt (s:=d.id) (l:=dl)
 rw [hp] at h3
 exact ⟨(List.pairwise_cons.1 h3).1 q (by simp),pos_mem.1 h1,pos_mem.1 h2⟩
theorem pos_self (h:dl[i]? = some d) (hp:posN d.id dl=[p,q]):i=p∨i=q:=by
 have:i∈posN d.id dl:=pos_mem.2 ⟨d,h,rfl⟩
 rw [hp] at this
 simpa using this
theorem ok_both (h:dl[i]? = some d) (g:badB nl cl dl i=false):∃ p q a b,posN d.id dl=[p,q]∧dl[p]? = some a∧dl[q]? = some b∧p<q∧wellB nl cl d=true∧mism a b=false:=by
 by_cases h2:(posN d.id dl).length=2
 ·obtain ⟨p,q,hp⟩:=two_of h2
  obtain ⟨h3,⟨a,ha,_⟩,b,hb,_⟩:=pos_two hp
  rw [bad_p h hp ha hb] at g
  simp only [Bool.or_eq_false_iff,Bool.not_eq_false'] at g
  exact ⟨p,q,a,b,hp,ha,hb,h3,g.1,g.2⟩
 rw [bad_l h h2] at g;cases g
theorem pair_at (h:dl[i]? = some d) (hg:d.give=true) (hp:posN d.id dl=[p,q]) (hb:dl[p+q - i]? = some b):pairAt dl i=some (d,b):=by
 simp only [pairAt,h,hg,hp,hb,Option.map_some]
theorem pair_no (h:dl[i]? = some d) (hg:d.give=false):pairAt dl i=none:=by simp only [pairAt,h,hg]
theorem pair_inv {x:PDeal×PDeal} (h:pairAt dl i=some x):dl[i]? = some x.1∧x.1.give=true∧∃ p q,posN x.1.id dl=[p,q]∧dl[p+q - i]? = some x.2:=by
 unfold pairAt at h
 split at h
 ·rename_i d hd
  split at h
  ·rename_i hg
   split at h
   ·rename_i p q hp
    cases hb:dl[p+q - i]? with
    | none=>rw [hb] at h;cases h
    | some b =>
     rw [hb] at h
     injection h with h
     subst h
     exact ⟨hd,hg,p,q,hp,hb⟩
   cases h
  cases h
 cases h
theorem mism_give (h:mism a b=false):a.give≠b.give:=by
 simp only [mism,Bool.or_eq_false_iff] at h
 simpa using h.1.2
theorem pairs_nd (h:∀ i,i<dl.length→badB nl cl dl i=false) (m:Nat):((pairsUp dl m).map fun a=>tx a.1.id).Nodup:=by
 unfold List.Nodup pairsUp
 rw [List.pairwise_map,List.pairwise_filterMap]
 refine List.pairwise_lt_range.imp fun {i j} hij x hx y hy he=>?_
 obtain ⟨h1,h2,p,q,h3,_⟩:=pair_inv hx
 obtain ⟨g1,g2,_⟩:=pair_inv hy
 have he:=tx_inj.1 he
 have hi:i=p∨i=q:=pos_self h1 h3
 have hj:j=p∨j=q:=pos_self g1 (by rw [← he];exact h3)
 obtain ⟨p',q',a,b,k1,k2,k3,_,_,k4⟩:=ok_both h1 (h i (List.getElem?_eq_some_iff.1 h1).1)
 rw [h3] at k1
 simp only [List.cons.injEq,and_true] at k1
 obtain ⟨rfl,rfl⟩:=k1
 have hg:=mism_give k4
 have:i=p∧j=q:=by
  obtain ⟨hlt,_⟩:=pos_two h3
  omega
 obtain ⟨rfl,rfl⟩:=this
 rw [h1] at k2
 rw [g1] at k3
 injection k2 with k2
 injection k3 with k3
 subst k2 k3
 exact hg (h2.trans g2.symm)
end
def RPair (nl:List ByteArray) (cl:List PClass):RT (PDeal×PDeal):=fun z cs a=>∃ c d,cs=pairC nl cl a.1 a.2 c d∧CZ 1 RW z c (toL (amtV a.1).num.natAbs)∧CZ 1 RW z d (toL ((amtV a.1).den:Int).natAbs)
instance {nl:List ByteArray} {cl:List PClass}:RMono (RPair nl cl):=⟨fun hz ⟨c,d,h,g1,g2⟩=>⟨c,d,h,g1.mono hz,g2.mono hz⟩⟩
abbrev PQ:=(PDeal×PDeal)×C×C
def cellsQ (nl:List ByteArray) (cl:List PClass) (t:PQ):List C:=pairC nl cl t.1.1 t.1.2 t.2.1 t.2.2
def rowQ (nl:List ByteArray) (cl:List PClass) (L:List PQ):List C:=L.flatMap (cellsQ nl cl)
def QOk (z:Mem) (t:PQ):Prop:=CZ 1 RW z t.2.1 (toL (amtV t.1.1).num.natAbs)∧CZ 1 RW z t.2.2 (toL ((amtV t.1.1).den:Int).natAbs)
theorem QOk.mono {z z':Mem} {t:PQ} (h:QOk z t) (hz:zle z z'):QOk z' t:=⟨h.1.mono hz,h.2.mono hz⟩
def leQ (a b:PQ):Bool:=decide (tx a.1.1.id≤tx b.1.1.id)
def leP (a b:PDeal×PDeal):Bool:=decide (tx a.1.id≤tx b.1.id)
def sortQ (L:List PQ):List PQ:=L.mergeSort leQ
def sortP (P:List (PDeal×PDeal)):List (PDeal×PDeal):=P.mergeSort leP
theorem sortQ_map (L:List PQ):(sortQ L).map (·.1)=sortP (L.map (·.1)):=List.map_mergeSort (r:=leQ) (s:=leP) (f:=fun t:PQ=>t.1) fun a _ b _=>rfl
theorem sortQ_len (L:List PQ):(sortQ L).length=L.length:=List.length_mergeSort L
theorem sortQ_mem {L:List PQ} {t:PQ}:t∈sortQ L↔t∈L:=(List.mergeSort_perm L leQ).mem_iff
def chQ (nl:List ByteArray) (cl:List PClass) (t:PQ):Ch:=(tx t.1.1.id,cellsQ nl cl t)
theorem rowQ_ch (nl:List ByteArray) (cl:List PClass) (L:List PQ):(L.map (chQ nl cl)).flatMap (·.2)=rowQ nl cl L:=by rw [List.flatMap_map];rfl
theorem sort_ch (nl:List ByteArray) (cl:List PClass) (L:List PQ):sortF (L.map (chQ nl cl))=(sortQ L).map (chQ nl cl):=(List.map_mergeSort (r:=leQ) (s:=leC) (f:=chQ nl cl) fun a _ b _=>rfl).symm
theorem ch_ok {nl:List ByteArray} {cl:List PClass} (t:PQ):ChOk (chQ nl cl t):=⟨_,rfl,rfl⟩
theorem c_sortF {k:Nat} (hk:1≤k) {z:Mem} {u:AV} {nl:List ByteArray} {cl:List PClass} {L:List PQ} (hl:L.length≤1000) (hd:(L.map fun t=>tx t.1.1.id).Nodup):FCt (E k) 106 [u,.c (.fn 107 [] [])] z [.row u 116 10 L.length (rowQ nl cl L)] fun v z' H'=>v=.tup []∧z'=z∧H'=[.row u 116 10 L.length (rowQ nl cl (sortQ L))]:=by
 have h:=sortF_fc (call:=handG 321 117 (handS 184 (handF 106 107 h1))) (h0:=h1) (g:=107) (ty:=116) (u:=u) (z:=z) (k0:=K0) (l:=L.map (chQ nl cl)) tS_no106 (fun _ _ _ _ h=>h) (fun mem nx=>hF_nil mem nx) hk (by rw [List.length_map];omega) (fun x hx=>by obtain ⟨t,_,rfl⟩:=List.mem_map.1 hx;exact ch_ok t) (by rw [List.map_map];exact hd)
 rw [sort_ch,rowQ_ch,rowQ_ch,List.length_map] at h
 exact h
theorem cl_rowQ {nl:List ByteArray} {cl:List PClass} {z:Mem} {L:List PQ} (h:∀ t,t∈L→QOk z t):CL 10 (RPair nl cl) z (rowQ nl cl L) (L.map (·.1)):=by
 induction L with
 | nil=>exact CL.nil
 | cons t L ih =>
  have h1:=h t (List.mem_cons_self ..)
  have h2:=ih fun x hx=>h x (List.mem_cons_of_mem _ hx)
  have h3:CL 10 (RPair nl cl) z (cellsQ nl cl t) [t.1]:=by
   refine ⟨rfl,fun i a hi=>?_⟩
   cases i with
   | zero=>simp at hi;subst hi;exact ⟨rfl,_,_,rfl,h1.1,h1.2⟩
   | succ i=>simp at hi
  exact h3.append h2
end Go.Proofs.YtlceligcgelbdaaGreat

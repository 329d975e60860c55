/- Tables: copied, with more at a place, with entries, walked; both ways are the same. -/
import Derived.WalkKit
import Derived.Orders
import Derived.Test.YtlceligcgelbdaaGreatNF1
set_option linter.unusedVariables false
set_option linter.unusedSimpArgs false
set_option maxRecDepth 100000
set_option maxHeartbeats 1000000
namespace Go.Proofs.YtlceligcgelbdaaGreat
open Go.CE Go.RowKit Go.Num
open Go.Eng (setL)
abbrev rv (x:PRat):Rat:=Num.valR ((x.n,x.nm),(x.d,x.dm))
def RV:RT Rat:=fun z cs q=>∃ c d,cs=[Cb (decide (q.num<0)),c,Cb (decide ((q.den:Int)<0)),d]∧CZ 1 RW z c (toL q.num.natAbs)∧CZ 1 RW z d (toL (q.den:Int).natAbs)
instance:RMono RV:=⟨fun hz ⟨c,d,h,g0,g1⟩=>⟨c,d,h,g0.mono hz,g1.mono hz⟩⟩
abbrev hdT (D:List (Ro Rat)):List C:=D.map (·.1)
theorem hd_add {D:List (Ro Rat)} {c:C} {cs:List C} {l:List Rat}:hdT D++[c]=hdT (D++[(c,cs,l)]):=by simp [hdT]
def TOk (z:Mem) (D:List (Ro Rat)):Prop:=∀ d,d∈D→CL 4 RV z d.2.1 d.2.2
theorem TOk.mono {z z':Mem} {D:List (Ro Rat)} (h:TOk z D) (hz:zle z z'):TOk z' D:=fun d hd=>(h d hd).mono hz
theorem tok_add {z:Mem} {D:List (Ro Rat)} {c:C} {cs:List C} {l:List Rat} (h:TOk z D) (g:CL 4 RV z cs l):TOk z (D++[(c,cs,l)]):=fun d hd=>by
 rcases List.mem_append.1 hd with hd | hd
 ·exact h d hd
 simp at hd;subst hd;exact g
theorem into_eq {D:List (Ro Rat)} {cw:C} {csw:List C} {l:List Rat} {m:Nat} (h:l.length=m):D.map (rowT 35 4)++[HA.row (.c cw) 35 4 m csw]=(D++[(cw,csw,l)]).map (rowT 35 4):=by subst h;simp [rowT]
theorem tk_map {l:List PRat} {i:Nat} {a:PRat} (h:l[i]? = some a):(l.map rv).take (i+1)=(l.map rv).take i++[rv a]:=tk_some (by rw [List.getElem?_map,h];rfl)
theorem fl_cs {call:Call'} {B:Base} {fs:Sf} {l:List I} {Q:Sf→Prop} {u:AV} {ty size n:Nat} {cs cs':List C} {p q:List HA} (e:fs.H=p++.row u ty size n cs::q) (h:cs=cs') (hw:FL call B l (fs.heap (p++.row u ty size n cs'::q)) Q):FL call B l fs Q:=by
 subst h
 rw [← e] at hw
 exact hw
theorem sz1 {z:Mem} {b ty:Nat} {cs:List C} {x:PRat} (h:z b (.cells ty cs)) (hR:RRat z cs x) (hl:cs.length=4):SZ 4 RRat z (.c (.sl b 0 1 4)) [x]:=CL.sz (CL.one hl hR) rfl (by decide) h
theorem c_chart_Table_copied {k:Nat} (hk:11≤k) {z:Mem} {ct:C} {t:List (List PRat)} (hx:CZ 1 (RC 4 RRat) z ct t) (hT:t.length≤1000) (hR:∀ r,r∈t→r.length≤1000∧∀ x,x∈r→x.nm.length≤1000000∧x.dm.length≤1000000):FCt (E k) 129 [.agg [ct]] z [] fun v z' H'=>∃ cu D,v=.agg [cu]∧H'=[.row (.c cu) 85 1 D.length (D.map (·.1)),many (D.map (rowT 35 4))]∧D.map (·.2.2)=t.map (·.map rv)∧TOk (zd z z') D:=by
 refine fct_of (tS_get129) (by omega) (len1 rfl) fun B j hj=>?_
 refine xR ?_
 refine fl_bx rfl fun b1=>?_
 refine fl_alloc fun b2=>?_
 refine lN ?_
 refine xR ?_
 refine fl_alloc fun b3=>?_
 refine lN ?_
 refine R4 8 O ?_
 refine fl_ld1 rfl Y2 rfl ?_
 refine fl_lenS rfl hx ?_
 refine fl_many0 ?_
 refine fl_row0 85 1 ?_
 refine R0 2 O ?_
 refine fx_seq (fx_block ?_)
 refine fx_loop (fun n fs=>∃ (i:Nat) (cu:C) (D:List (Ro Rat)) (zz:Mem),LZ z zz [.row (.c cu) 85 1 i (D.map (·.1)),many (D.map (rowT 35 4)),.blk b3 (.cells 24 [cu]),.blk b2 (.cells 24 [Cz]),.blk b1 (.cells 24 [ct])] [(1,Ap b1),(2,Ap b2),(3,Ap b3),(10,.c ct),(11,Az t.length),(12,Az i)] fs∧n=t.length - i∧(i≤t.length)∧(D.length=i)∧(D.map (·.2.2)=(t.take i).map (·.map rv))∧(TOk (zd z zz) D)) ?_ _ ⟨0,Cz,[],_,LZ.m [] O,rfl,Nat.zero_le _,rfl,rfl,fun d hd=>absurd hd List.not_mem_nil⟩ (kK (by omega))
 intro n fs ⟨i,cu,D,zz,hL0,hmz0,hi,hDl,hDm,hok⟩
 refine hL0.open fun e hzz=>?_
 refine R5 8 O ?_
 refine xD rfl (fun hc13=>?_) (fun hc13=>?_)
 ·refine fx_kseq ?_
  refine fx_seq (fx_block ?_)
  refine xR ?_
  obtain ⟨r,hr⟩:=at_lt (l:=t) (i:=i) (by omega)
  have hrl:=hR r (List.mem_of_getElem? hr)
  refine fl_iadS (zz:=zz) rfl rfl hx.m i rfl r hr fun b14 p14 cs at14 hR=>?_
  obtain ⟨c14,hcs,q14⟩:=hR
  subst hcs
  refine fl_ldA (off:=0) rfl at14 rfl (by simp) rfl ?_
  refine R2 8 O ?_
  refine fl_row0 35 4 ?_
  refine lN ?_
  refine R4 8 O ?_
  refine fl_lenS rfl q14 ?_
  refine R0 2 O ?_
  refine fx_seq (fx_block ?_)
  refine fx_loop (fun n fs=>∃ (jj:Nat) (cw:C) (csw:List C) (zy:Mem),LZ zz zy [.row (.c cw) 35 4 jj csw,.row (.c cu) 85 1 i (D.map (·.1)),many (D.map (rowT 35 4)),.blk b3 (.cells 24 [cu]),.blk b2 (.cells 24 [Cz]),.blk b1 (.cells 24 [ct])] [(1,Ap b1),(2,Ap b2),(3,Ap b3),(10,.c ct),(11,Az t.length),(12,Az i),(6,.c cw),(16,.c c14),(17,Az r.length),(18,Az jj)] fs∧n=r.length - jj∧(jj≤r.length)∧(CL 4 RV (zd z zy) csw ((r.map rv).take jj))) ?_ _ ⟨0,Cz,[],_,LZ.m [] O,rfl,Nat.zero_le _,CL.nil⟩ (kK (by omega))
  intro n fs ⟨jj,cw,csw,zy,hL1,hmz1,hj5,hcw⟩
  refine hL1.open fun e hzy=>?_
  refine R5 8 O ?_
  refine xD rfl (fun hc19=>?_) (fun hc19=>?_)
  ·refine fx_kseq ?_
   refine fx_seq (fx_block ?_)
   refine xR ?_
   obtain ⟨y,hy⟩:=at_lt (l:=r) (i:=jj) (by omega)
   have hsm:=hrl.2 y (List.mem_of_getElem? hy)
   refine fl_iadS (zz:=zy) rfl rfl q14.m jj rfl y hy fun b20 p20 cs at20 hR=>?_
   obtain ⟨c20,d20,hcs,q20,r20⟩:=hR
   subst hcs
   refine fl_ldA (off:=0) rfl at20 rfl (by simp) rfl ?_
   refine fl_al4 fun b8=>?_
   refine fl_st4 rfl rfl rep0 ?_
   refine lN ?_
   refine xG ?_
   refine lC rfl ?_
   refine fl_ld4 rfl mem0 rfl ?_
   refine fl_bslice rfl fun b24=>?_
   refine fl_frzZ zy (p:=[]) rfl rfl rfl (fun _ h=>h) fun zff24 hzff24 f24=>?_
   refine lZ zff24 (c_rat_Sum (by omega) (sz1 f24 (mk_rat q20.m r20.m) rfl) (Nat.le_trans hsm.1 (by decide)) (Nat.le_trans hsm.2 (by decide))) rfl rfl fun v25 z25 _ hv25=>?_
   obtain ⟨c25,d25,hv,hm25,hn25⟩:=hv25
   subst hv
   have hm25:=hm25.mono (zAq (hzz.trans (hzy.trans hzff24)))
   have hn25:=hn25.mono (zAq (hzz.trans (hzy.trans hzff24)))
   refine fl_bslice rfl fun b26=>?_
   refine fl_appB (n:=jj) (m:=1) (cs:=csw) rfl rfl mem0 rfl (fun _=>repS P1) (by omega) (by omega) fun c27 hc27=>?_
   refine R0 2 O ?_
   refine sq_n ?_
   refine xG ?_
   refine lB rfl rfl (bI_add (n:=jj+1) (by omega) (by omega)) ?_
   refine R0 2 O ?_
   exact lq_n (by omega) ⟨jj+1,c27,_,_,LZ.m [_,_] O,rfl,by omega,by rw [tk_map hy];exact ((hcw.mono (zd_mono zI))).append (CL.one rfl ⟨_,_,rfl,hm25,hn25⟩)⟩
  refine fx_eseq ?_
  refine lq_e ?_
  refine sq_n ?_
  refine xG ?_
  have hjj:(r.map rv).length=jj:=by rw [List.length_map];omega
  have hcw2:=hcw
  rw [List.take_of_length_le (by omega)] at hcw2
  refine fl_into (p:=[_]) rfl ?_
  rw [into_eq hjj]
  refine lF rfl ?_
  refine fl_ld1 rfl Y2 rfl ?_
  refine lC rfl ?_
  refine fl_bslice rfl fun b32=>?_
  refine fl_appB (n:=i) (m:=1) (cs:=hdT D) rfl rfl mem0 rfl (fun _=>repS rep0) (by omega) (by omega) fun c33 hc33=>?_
  refine fl_cs (p:=[_]) (cs':=hdT (D++[(cw,csw,r.map rv)])) rfl hd_add ?_
  refine lF rfl ?_
  refine fl_stC rfl rfl P3 ?_
  refine lN ?_
  refine sq_n ?_
  refine xG ?_
  refine lB rfl rfl (bI_add (n:=i+1) (by omega) (by omega)) ?_
  refine R0 2 O ?_
  exact lq_n (by omega) ⟨i+1,c33,D++[(cw,csw,r.map rv)],_,LZ.m [_] O,rfl,by omega,by rw [List.length_append,hDl];rfl,by rw [List.map_append,tk_some hr,List.map_append,hDm];rfl,tok_add ((hok.mono (zd_mono zI))) (hcw2)⟩
 refine fx_eseq ?_
 refine lq_e ?_
 refine sq_n ?_
 refine xR ?_
 refine fl_ldAll rfl Y2 rfl ?_
 refine fl_stAll rfl rfl rfl rfl P3 ?_
 refine lN ?_
 refine xT ?_
 refine ret_h (.inl rfl) (rcAll rfl Y3 rfl rn) (List.sublist_append_left [_,_] _) ?_
 rw [List.take_of_length_le (by omega)] at hDm
 exact ⟨cu,D,rfl,by rw [hDl],hDm,hok⟩
open Go.CE Go.RowKit Go.Num
open Go.Eng (setL)
theorem cl_set {α:Type} {size:Nat} {R:RT α} {z:Mem} {cs ws:List C} {l:List α} {a:α} {i:Nat} (h:CL size R z cs l) (hi:i<l.length) (hl:ws.length=size) (hR:R z ws a):CL size R z (setL cs (i * size) ws) (l.set i a):=by
 have hle:i * size+size≤l.length * size:=by rw [← Nat.succ_mul];exact Nat.mul_le_mul_right _ hi
 have hb:i * size+ws.length≤cs.length:=by rw [hl,h.1];exact hle
 have e:∀ j,((setL cs (i * size) ws).drop (j * size)).take size=if j=i then ws else (cs.drop (j * size)).take size:=by
  intro j
  apply List.ext_getElem?
  intro q
  by_cases hq:q<size
  ·rw [List.getElem?_take,if_pos hq,List.getElem?_drop,setL_at _ _ _ hb,hl]
   by_cases hj:j=i
   ·subst hj
    rw [if_pos rfl,if_pos ⟨by omega,by omega⟩,show j * size+q - j * size=q by omega]
   rw [if_neg hj,List.getElem?_take,if_pos hq,List.getElem?_drop,if_neg ?_]
   rintro ⟨h1,h2⟩
   rcases Nat.lt_or_gt_of_ne hj with h3 | h3
   ·have:(j+1) * size≤i * size:=Nat.mul_le_mul_right _ h3
    rw [Nat.succ_mul] at this
    omega
   have:(i+1) * size≤j * size:=Nat.mul_le_mul_right _ h3
   rw [Nat.succ_mul] at this
   omega
  rw [List.getElem?_take,if_neg hq]
  by_cases hj:j=i
  ·rw [if_pos hj,List.getElem?_eq_none (by omega)]
  rw [if_neg hj,List.getElem?_take,if_neg hq]
 refine ⟨by rw [Go.Eng.setL_length _ _ _ hb,List.length_set,h.1],fun j b hj=>?_⟩
 rw [e j]
 by_cases hji:j=i
 ·subst hji
  rw [List.getElem?_set_self hi] at hj
  injection hj with hj
  subst hj
  rw [if_pos rfl]
  exact ⟨hl,hR⟩
 rw [List.getElem?_set_ne (fun e=>hji e.symm)] at hj
 rw [if_neg hji]
 exact h.2 j b hj
def RLn:RT Nat:=fun _ cs m=>∃ c,cs=[c]∧lenOf (.c c)=some m
def hasB (ms:List Nat) (e c:Int):Bool:=decide (0≤e) && (decide (e<(ms.length:Int)) && (decide (0≤c) && (ms[e.toNat]?).any fun m=>decide (c<(m:Int))))
section
variable {ms:List Nat} {e c:Int} {m:Nat}
theorem has_1 (h:¬ 0≤e):false=hasB ms e c:=by rw [hasB,decide_eq_false h];rfl
theorem has_2 (h:¬ e<(ms.length:Int)):false=hasB ms e c:=by rw [hasB,decide_eq_false h,Bool.false_and,Bool.and_false]
theorem has_3 (h:¬ 0≤c):false=hasB ms e c:=by rw [hasB,decide_eq_false h,Bool.false_and,Bool.and_false,Bool.and_false]
theorem has_4 (h1:0≤e) (h2:e<(ms.length:Int)) (h3:0≤c) (h:ms[e.toNat]? = some m):decide (c<(m:Int))=hasB ms e c:=by rw [hasB,decide_eq_true h1,decide_eq_true h2,decide_eq_true h3,h];rfl
end
theorem drop_one {l:List C} {i:Nat} {x:C} (h:l[i]? = some x):(l.drop i).take 1=[x]:=by
 obtain ⟨h1,h2⟩:=List.getElem?_eq_some_iff.1 h
 rw [List.drop_eq_getElem_cons h1,h2]
 rfl
theorem row_len {ty size:Nat} {d:Ro Rat} {m:Tr Blk} (h:(rowT ty size d).ok m):lenOf (.c d.1)=some d.2.2.length:=by
 obtain ⟨_,h⟩:=h
 rcases h with ⟨h0,h1⟩ | ⟨b,h1,_⟩
 ·rw [h1,h0];rfl
 rw [h1];rfl
theorem c_chart_Table_has {k:Nat} (hk:1≤k) {z:Mem} {ct:C} {ms:List Nat} {e c0:Int} (hx:CZ 1 RLn z ct ms):FC (E k) 130 [.agg [ct],.agg [Ci e,Ci c0]] z fun u _=>u=bool_ (hasB ms e c0):=by
 refine fc_of (tS_get130) (by omega) (len1 rfl) fun B j hj=>?_
 refine xR ?_
 refine fl_bx rfl fun b2=>?_
 refine fl_bx rfl fun b3=>?_
 refine R0 2 O ?_
 refine fx_drwS ?_
 refine G1 2 O ?_
 refine gl1 O O Ht O ?_
 refine G1 4 O ?_
 refine fg_splitD 8 rfl (fun hg8=>?_) (fun hg8=>?_)
 ·refine G1 2 O ?_
  refine gl1 O O Ht O ?_
  refine G1 2 O ?_
  refine gl1 O O (.inr Y1) O ?_
  refine gP rfl rfl rfl ?_
  refine fl_lenS rfl hx (lN ?_)
  refine G1 12 O ?_
  refine fg_splitD 16 rfl (fun hg16=>?_) (fun hg16=>?_)
  ·refine G1 2 O ?_
   refine gl1 O O Ht O ?_
   refine G1 12 O ?_
   refine fg_splitD 21 rfl (fun hg21=>?_) (fun hg21=>?_)
   ·refine G1 2 O ?_
    refine gl1 O O Ht O ?_
    refine G1 2 O ?_
    refine gl1 O O (.inr Y1) O ?_
    refine G1 2 O ?_
    refine gl1 O O Ht O ?_
    obtain ⟨m,hm⟩:=at_lt (l:=ms) (i:=e.toNat) (by omega)
    refine gP rfl rfl rfl ?_
    refine fl_iadS rfl rfl hx e.toNat (by omega) m hm fun b28 p28 cs at28 hR=>lN ?_
    obtain ⟨c28,hcs,hl28⟩:=hR
    subst hcs
    refine fg_ldA (i:=⟨_,_,.load _ _ _⟩) (off:=0) rfl rfl rfl rfl at28 ti rfl (by simp) rfl sR ?_
    refine gP rfl rfl rfl ?_
    refine fl_len rfl hl28 (lN ?_)
    refine G0 12 O ?_
    refine xT ?_
    exact rI O (congrArg bool_ (has_4 (by omega) (by omega) (by omega) hm))
   refine G0 6144 O ?_
   refine xT ?_
   exact rI O (congrArg bool_ (has_3 (by omega)))
  refine G0 196624 O ?_
  refine xT ?_
  exact rI O (congrArg bool_ (has_2 (by omega)))
 refine G0 50335872 O ?_
 refine xT ?_
 exact rI O (congrArg bool_ (has_1 (by omega)))
theorem has_lent {k:Nat} (hk:1≤k) {z:Mem} {cu:C} {D:List (Ro Rat)} {e c0:Int} (hn:D.length≤9223372036854775807):FCt (E k) 130 [.agg [cu],.agg [Ci e,Ci c0]] z [.row (.c cu) 85 1 D.length (hdT D),many (D.map (rowT 35 4))] fun v z' H'=>v=bool_ (hasB (D.map (·.2.2.length)) e c0)∧H'=[.row (.c cu) 85 1 D.length (hdT D),many (D.map (rowT 35 4))]:=fun mem nx hh=>by
  have hm:=many_ok.1 (hh.h (many (D.map (rowT 35 4))) (by simp))
  have hl:∀ d,d∈D→lenOf (.c d.1)=some d.2.2.length:=fun d hd=>row_len (hm _ (List.mem_map.2 ⟨d,hd,rfl⟩))
  obtain ⟨g1,g2⟩:=hh.h (.row (.c cu) 85 1 D.length (hdT D)) (by simp)
  rcases g2 with ⟨h0,h1⟩ | ⟨b,h1,h3⟩
  · have hD:D=[]:=List.eq_nil_of_length_eq_zero h0
    subst hD
    have hx:CZ 1 RLn z cu []:=by show SZ 1 RLn z (.c cu) [];rw [h1];exact .nil
    obtain ⟨v,mem',nx',z',H',q1,q2,q3,q4,q5,q6,q7,H1,q8,q9,q10⟩:=(FCt.keep (c_chart_Table_has (e:=e) (c0:=c0) hk hx) _) mem nx hh
    subst q9
    exact ⟨v,mem',nx',z',H',q1,q2,q3,q4,q5,q6,q7,q10,q8⟩
  · injection h1 with h1
    subst h1
    have hb:Hold z ([.blk b (.cells 85 (hdT D))]++[many (D.map (rowT 35 4))]) mem nx:=hh.reH (List.Perm.refl _) fun a ha=>by
      rcases List.mem_cons.1 ha with rfl | ha
      · exact h3
      · exact hh.h a (List.mem_cons_of_mem _ ha)
    have hx:CZ 1 RLn (tz z [.blk b (.cells 85 (hdT D))]) (.sl b 0 D.length 1) (D.map (·.2.2.length)):=by
      refine .sl b 0 D.length (.cells 85 (hdT D)) (hdT D) _ (by simp) hn (.inr (by simp)) rfl (by simp [hdT]) fun i a hi=>?_
      rw [List.getElem?_map] at hi
      cases hd:D[i]? with
      | none=>rw [hd] at hi;cases hi
      | some d =>
        rw [hd] at hi
        injection hi with hi
        subst hi
        refine ⟨d.1,?_,hl d (List.mem_of_getElem? hd)⟩
        have:(hdT D)[0+i * 1]? = some d.1:=by rw [Nat.zero_add,Nat.mul_one,hdT,List.getElem?_map,hd];rfl
        exact drop_one this
    obtain ⟨v,mem',nx',z',H',q1,q2,q3,q4,q5,q6,q7,H1,q8,⟨q9,z1,q10,_⟩⟩:=(FCt.keep ((c_chart_Table_has (e:=e) (c0:=c0) hk hx).lent fun a ha=>⟨_,_,by simpa using ha⟩) [many (D.map (rowT 35 4))]) mem nx hb
    subst q9
    subst q8
    refine ⟨v,mem',nx',z',[.row (Aw b D.length) 85 1 D.length (hdT D),many (D.map (rowT 35 4))],q1,q2,fun b' hb' hn'=>q3 b' hb' hn',q4.reH (List.Perm.refl _) fun a ha=>?_,q5,fun b' k' hb'=>q6 b' k' hb',fun b' hb'=>.inr hb',q10,rfl⟩
    rcases List.mem_cons.1 ha with rfl | ha
    · have g3 := q4.h (.blk b (.cells 85 (hdT D))) (by simp)
      exact ⟨g1,.inr ⟨b,rfl,g3⟩⟩
    · exact q4.h a (List.mem_cons_of_mem _ ha)
theorem c_chart_Table_add {k:Nat} (hk:11≤k) {z:Mem} {cu cd:C} {hs cs:List C} {n0 m0 ie jc:Nat} {q:Rat} {w0 w1:C} (he:hs[ie]? = some cd) (hie:ie<n0) (hjc:jc<m0) (hcl:cs.length=m0 * 4) (hw:(cs.drop (jc * 4)).take 4=[Cb (decide (q.num<0)),w0,Cb (decide ((q.den:Int)<0)),w1]) (q0:CZ 1 RW z w0 (toL q.num.natAbs)) (q1:CZ 1 RW z w1 (toL (q.den:Int).natAbs)) (hq0:(toL q.num.natAbs).length≤9000000) (hq1:(toL (q.den:Int).natAbs).length≤9000000) {n1 n2:Bool} {c1 c2:C} {l1 l2:List UInt32} (hx:CZ 1 RW z c1 l1) (hy:CZ 1 RW z c2 l2) (h1:l1.length≤9000000) (h2:l2.length≤9000000):FCt (E k) 131 [.agg [cu],.agg [Ci ((ie:Nat):Int),Ci ((jc:Nat):Int)],.agg [Cb n1,c1,Cb n2,c2]] z [.row (.c cd) 35 4 m0 cs,.row (.c cu) 85 1 n0 hs] fun v z' H'=>v=.tup []∧∃ bo bd a b,cu=.sl bo 0 n0 1∧cd=.sl bd 0 m0 4∧H'=[.blk bd (.cells 35 (setL cs (jc * 4) [Cb (decide ((q+(valR ((n1,l1),(n2,l2)))).num<0)),a,Cb (decide (((q+(valR ((n1,l1),(n2,l2)))).den:Int)<0)),b])),.blk bo (.cells 85 hs)]∧CZ 1 RW (zd z z') a (toL (q+(valR ((n1,l1),(n2,l2)))).num.natAbs)∧CZ 1 RW (zd z z') b (toL ((q+(valR ((n1,l1),(n2,l2)))).den:Int).natAbs):=by
 refine fct_of (tS_get131) (by omega) (len1 rfl) fun B j hj=>?_
 refine xR ?_
 refine fl_bx rfl fun b3=>?_
 refine fl_bx rfl fun b4=>?_
 refine fl_bx rfl fun b5=>?_
 refine fl_rowC (p:=[_,_,_]) rfl (by omega) fun bd hbd=>?_
 injection hbd with hbd
 subst hbd
 refine fl_rowC (p:=[_,_,_,_]) rfl (by omega) fun bo hbo=>?_
 injection hbo with hbo
 subst hbo
 refine lN ?_
 refine fx_drw ?_
 refine G1 2 O ?_
 refine gl1 O O (.inr Y2) O ?_
 refine G1 2 O ?_
 refine gl1 O O (.inr Y1) O ?_
 refine gP rfl rfl trivial ?_
 refine fl_iad rfl rfl ie rfl (by omega) (lN ?_)
 refine fg_ld1 (i:=⟨_,_,.load _ _ _⟩) rfl rfl trivial rfl (.inr Y4) (by rw [Nat.zero_add,Nat.mul_one];exact he) sR ?_
 refine G1 2 O ?_
 refine gl1 O O (.inr Y1) O ?_
 refine G1 2 O ?_
 refine gl1 O O (.inr Y2) O ?_
 refine G1 2 O ?_
 refine gl1 O O (.inr Y1) O ?_
 refine gP rfl rfl trivial ?_
 refine fl_iad rfl rfl ie rfl (by omega) (lN ?_)
 refine fg_ld1 (i:=⟨_,_,.load _ _ _⟩) rfl rfl trivial rfl (.inr Y4) (by rw [Nat.zero_add,Nat.mul_one];exact he) sR ?_
 refine G1 2 O ?_
 refine gl1 O O (.inr Y1) O ?_
 refine gP rfl rfl trivial ?_
 refine fl_iad rfl rfl jc rfl (by omega) (lN ?_)
 refine fg_ld4 (i:=⟨_,_,.load _ _ _⟩) rfl rfl trivial rfl (.inr Y3) (by rw [Nat.zero_add];exact hw) sR ?_
 refine gl4 O O Ht O ?_
 refine gC z (c_rat_Add (by omega) q0 q1 hq0 hq1 hx hy h1 h2) O O O O fun v25 z25 _ hv25=>?_
 rw [valR_c] at hv25
 obtain ⟨c25,d25,hv,hm25,hn25⟩:=hv25
 subst hv
 refine gP rfl rfl trivial ?_
 refine fl_iad rfl rfl jc rfl (by omega) (lN ?_)
 refine gS O O O ?_
 refine fl_st rfl rfl rfl P3 rfl (by omega) ?_
 refine lN ?_
 refine fg_nil ?_
 refine ret_h (.inr rfl) rn (List.sublist_append_right [_,_,_] _) ?_
 rw [Nat.zero_add]
 exact ⟨rfl,bo,bd,_,_,rfl,rfl,rfl,hm25,hn25⟩
open Go.CE Go.RowKit Go.Num
open Go.Eng (setL)
def withT (T:List (List Rat)) (e c:Int) (q:Rat):List (List Rat):=T.mapIdx fun i r=>r.mapIdx fun m y=>if (i:Int)=e∧(m:Int)=c then y+q else y
theorem fl_rot3 {call:Call'} {B:Base} {fs:Sf} {l:List I} {Q:Sf→Prop} {x a b:HA} {q:List HA} (e:fs.H=x::a::b::q) (hw:FL call B l (fs.heap (a::b::x::q)) Q):FL call B l fs Q:=fl_perm (by rw [e];exact (List.Perm.swap _ _ _).trans (List.Perm.cons _ (List.Perm.swap _ _ _))) hw
section
variable {t:List (List PRat)} {D:List (Ro Rat)} {d:Ro Rat} {ie m:Nat} {e c:Int} {y q:Rat}
theorem has_get (h:hasB (D.map (·.2.2.length)) e c=true):∃ (ie jc:Nat) (d:Ro Rat),e=(ie:Int)∧c=(jc:Int)∧D[ie]? = some d∧jc<d.2.2.length:=by
 simp only [hasB,Bool.and_eq_true,decide_eq_true_eq] at h
 obtain ⟨h1,h2,h3,h4⟩:=h
 rw [List.getElem?_map] at h4
 cases hd:D[e.toNat]? with
 | none=>rw [hd] at h4;cases h4
 | some d =>
  rw [hd] at h4
  simp at h4
  exact ⟨e.toNat,c.toNat,d,by omega,by omega,hd,by omega⟩
theorem hd_get (h:D[ie]? = some d):(hdT D)[ie]? = some d.1:=by rw [hdT,List.getElem?_map,h];rfl
theorem tab_row (hm:D.map (·.2.2)=t.map (·.map rv)) (hd:D[ie]? = some d):∃ r,t[ie]? = some r∧d.2.2=r.map rv:=by
 have h:=congrArg (fun l=>l[ie]?) hm
 simp only [List.getElem?_map,hd] at h
 cases hr:t[ie]? with
 | none=>rw [hr] at h;cases h
 | some r=>rw [hr] at h;injection h with h;exact ⟨r,rfl,h⟩
theorem tab_at (hm:D.map (·.2.2)=t.map (·.map rv)) (hd:D[ie]? = some d) (hy:d.2.2[m]? = some y):∃ r x,r∈t∧x∈r∧y=rv x:=by
 obtain ⟨r,h1,h2⟩:=tab_row hm hd
 rw [h2,List.getElem?_map] at hy
 cases hx:r[m]? with
 | none=>rw [hx] at hy;cases hy
 | some x=>rw [hx] at hy;injection hy with hy;exact ⟨r,x,List.mem_of_getElem? h1,List.mem_of_getElem? hx,hy.symm⟩
theorem tab_len (hm:D.map (·.2.2)=t.map (·.map rv)) {P:List PRat→Prop} (hR:∀ r,r∈t→r.length≤1000∧P r) (hd:d∈D):d.2.2.length≤1000:=by
 obtain ⟨i,hi⟩:=List.mem_iff_getElem?.1 hd
 obtain ⟨r,h1,h2⟩:=tab_row hm hi
 rw [h2,List.length_map]
 exact (hR r (List.mem_of_getElem? h1)).1
theorem setL_l {cs:List C} {k:Nat} {a b c d:C} (hm:m<k) (h:cs.length=k * 4):(setL cs (m * 4) [a,b,c,d]).length=k * 4:=by
 rw [Go.Eng.setL_length _ _ _ (by simp;omega),h]
theorem tab_set {z:Mem} {d':Ro Rat} {ld:List Rat} {csd:List C} {cd:C} (hm:D.map (·.2.2)=t.map (·.map rv)) {P:List PRat→Prop} (hR:∀ r,r∈t→r.length≤1000∧P r) (hd:D[ie]? = some (cd,csd,ld)) (hok:TOk z D) (hj:m<ld.length) (hl:csd.length=ld.length * 4) {cw:C} {ws:List C} (hw:RV z ws q) (hwl:ws.length=4) (h:d'∈D.set ie (cw,setL csd (m * 4) ws,ld.set m q)):CL 4 RV z d'.2.1 d'.2.2∧d'.2.2.length≤9223372036854775807:=by
 rcases List.mem_or_eq_of_mem_set h with h | h
 ·exact ⟨hok _ h,by have:=tab_len hm hR h;omega⟩
 subst h
 have h1:=tab_len hm hR (List.mem_of_getElem? hd)
 refine ⟨cl_set (hok _ (List.mem_of_getElem? hd)) hj hwl hw,?_⟩
 show (ld.set m q).length≤_
 rw [List.length_set]
 have h1:ld.length≤1000:=h1
 omega
theorem with_set {jc:Nat} {ld:List Rat} {cd:C} {csd:List C} {q:Rat} (hm:D.map (·.2.2)=t.map (·.map rv)) (hd:D[ie]? = some (cd,csd,ld)) (hy:ld[jc]? = some y):withT (t.map (·.map rv)) (ie:Int) (jc:Int) q=(t.map (·.map rv)).set ie (ld.set jc (y+q)):=by
 obtain ⟨r,h1,h2⟩:=tab_row hm hd
 have h2:ld=r.map rv:=h2
 refine List.ext_getElem? fun i=>?_
 rw [withT,List.getElem?_mapIdx,List.getElem?_set]
 by_cases hi:ie=i
 ·subst hi
  have hlt:=(List.getElem?_eq_some_iff.1 h1).1
  rw [if_pos rfl,if_pos (by simpa using hlt),List.getElem?_map,h1]
  simp only [Option.map_some,Option.some.injEq]
  rw [← h2]
  refine List.ext_getElem? fun k=>?_
  rw [List.getElem?_mapIdx,List.getElem?_set]
  by_cases hk:jc=k
  ·subst hk
   rw [if_pos rfl,if_pos (List.getElem?_eq_some_iff.1 hy).1,hy]
   simp
  rw [if_neg hk]
  cases ld[k]? with
  | none=>rfl
  | some v=>simp only [Option.map_some,Option.some.injEq];rw [if_neg (by omega)]
 rw [if_neg hi]
 cases (t.map (·.map rv))[i]? with
 | none=>rfl
 | some r =>
  simp only [Option.map_some,Option.some.injEq]
  refine List.ext_getElem? fun k=>?_
  rw [List.getElem?_mapIdx]
  cases r[k]? with
  | none=>rfl
  | some v=>simp only [Option.map_some,Option.some.injEq];rw [if_neg (by omega)]
theorem with_no {q:Rat} (hm:D.map (·.2.2)=t.map (·.map rv)) (h:hasB (D.map (·.2.2.length)) e c=false):withT (t.map (·.map rv)) e c q=t.map (·.map rv):=by
 rw [← hm]
 refine List.ext_getElem? fun i=>?_
 rw [withT,List.getElem?_mapIdx,List.getElem?_map]
 cases hd:D[i]? with
 | none=>rfl
 | some d =>
  simp only [Option.map_some,Option.some.injEq]
  refine List.ext_getElem? fun k=>?_
  rw [List.getElem?_mapIdx]
  cases hk:d.2.2[k]? with
  | none=>rfl
  | some v =>
   simp only [Option.map_some,Option.some.injEq]
   rw [if_neg]
   rintro ⟨rfl,rfl⟩
   have h1:=(List.getElem?_eq_some_iff.1 hd).1
   have h2:=(List.getElem?_eq_some_iff.1 hk).1
   rw [← has_4 (ms:=D.map (·.2.2.length)) (m:=d.2.2.length) (by omega) (by simp;omega) (by omega) (by rw [List.getElem?_map,Int.toNat_natCast,hd];rfl),decide_eq_true (by omega)] at h
   cases h
section
variable {call:Call'} {B:Base} {fs:Sf} {l:List I} {Q:Sf→Prop} {cu:C} {Hr:List HA}
theorem at_split {α:Type} {l:List α} {i:Nat} {a:α} (h:l[i]? = some a):l=l.take i++a::l.drop (i+1):=by
 obtain ⟨h1,h2⟩:=List.getElem?_eq_some_iff.1 h
 rw [← h2,← List.drop_eq_getElem_cons h1,List.take_append_drop]
theorem fl_out (e:fs.H=.row (.c cu) 85 1 D.length (hdT D)::many (D.map (rowT 35 4))::Hr) (hd:D[ie]? = some d) (hw:FL call B l (fs.heap (.row (.c d.1) 35 4 d.2.2.length d.2.1::.row (.c cu) 85 1 D.length (hdT D)::many ((D.take ie).map (rowT 35 4)++(D.drop (ie+1)).map (rowT 35 4))::Hr)) Q):FL call B l fs Q:=
  fl_take (p := [.row (.c cu) 85 1 D.length (hdT D)]) (L1 := (D.take ie).map (rowT 35 4)) (a := rowT 35 4 d) (L2 := (D.drop (ie + 1)).map (rowT 35 4)) (q := Hr) (by
    rw [e]
    have h:=congrArg (List.map (rowT 35 4)) (at_split hd)
    rw [List.map_append,List.map_cons] at h
    rw [← h]
    rfl) hw
theorem fl_back {d':Ro Rat} {bo bd:Nat} (e:fs.H=.blk bd (.cells 35 d'.2.1)::.blk bo (.cells 85 (hdT D))::many ((D.take ie).map (rowT 35 4)++(D.drop (ie+1)).map (rowT 35 4))::Hr) (hd:D[ie]? = some d) (h1:d.1=d'.1) (h2:d'.1=.sl bd 0 d'.2.2.length 4) (hl:d'.2.1.length=d'.2.2.length * 4)
  (hw:FL call B l (fs.heap (.row (Aw bo D.length) 85 1 (D.set ie d').length ((D.set ie d').map (·.1))::many ((D.set ie d').map (rowT 35 4))::Hr)) Q):FL call B l fs Q:=by
 refine fl_asrow (p:=[]) (n:=d'.2.2.length) (size:=4) e hl ?_
 refine fl_asrow (p:=[.row (.c (.sl bd 0 d'.2.2.length 4)) 35 4 d'.2.2.length d'.2.1]) (n:=D.length) (size:=1) rfl (by simp [hdT]) ?_
 refine fl_lay (a:=rowT 35 4 d') (p:=[.row (Aw bo D.length) 85 1 D.length (hdT D)]) (L1:=(D.take ie).map (rowT 35 4)) (L2:=(D.drop (ie+1)).map (rowT 35 4)) (q:=Hr) (by rw [rowT,h2];rfl) ?_
 have hs:D.set ie d'=D.take ie++d'::D.drop (ie+1):=by rw [List.set_eq_take_append_cons_drop,if_pos (List.getElem?_eq_some_iff.1 hd).1]
 have hh:(D.set ie d').map (·.1)=hdT D:=by
  rw [List.map_set]
  refine List.ext_getElem? fun i=>?_
  rw [List.getElem?_set]
  by_cases hi:ie=i
  ·subst hi
   rw [if_pos rfl,if_pos (by simpa using (List.getElem?_eq_some_iff.1 hd).1),hd_get hd,h1]
  rw [if_neg hi]
 rw [List.length_set,hh,hs,List.map_append,List.map_cons] at hw
 exact hw
end
end
theorem c_chart_Table_With {k:Nat} (hk:12≤k) {z:Mem} {ct:C} {t:List (List PRat)} {e c0:Int} (hx:CZ 1 (RC 4 RRat) z ct t) (hT:t.length≤1000) (hR:∀ r,r∈t→r.length≤1000∧∀ x,x∈r→x.nm.length≤1000000∧x.dm.length≤1000000) {n1 n2:Bool} {c1 c2:C} {l1 l2:List UInt32} (hu:CZ 1 RW z c1 l1) (hw:CZ 1 RW z c2 l2) (h1:l1.length≤9000000) (h2:l2.length≤9000000):FC (E k) 62 [.agg [ct],Ai e,Ai c0,.agg [Cb n1,c1,Cb n2,c2]] z fun v z'=>∃ cu,v=.agg [cu]∧CZ 1 (RC 4 RV) (zd z z') cu (withT (t.map (·.map rv)) e c0 (rv ⟨n1,l1,n2,l2⟩)):=by
 refine fc_of (tS_get62) (by omega) (len1 rfl) fun B j hj=>?_
 refine xR ?_
 refine fl_bx rfl fun b4=>?_
 refine fl_bx rfl fun b7=>?_
 refine fl_alloc fun b8=>?_
 refine lN ?_
 refine xR ?_
 refine fl_ldAll rfl Y2 rfl ?_
 refine fl_callLZ z [] (c_chart_Table_copied (by omega) hx hT hR) rfl rfl rfl fun v11 z11 H11 hz11 ⟨cu,D,hv11,hH11,hDm,hok⟩=>?_
 subst hv11 hH11
 refine fl_stAll rfl rfl rfl rfl (repS P3) ?_
 refine lN ?_
 refine R4 16 O ?_
 refine fl_bd (cs:=[_,_]) rfl ?_
 refine fl_al2 fun b9=>?_
 refine fl_st2 rfl rfl rep0 ?_
 refine lN ?_
 refine R4 4 O ?_
 have hDl:D.length=t.length:=by have:=congrArg List.length hDm;simpa using this
 refine fl_rot3 rfl ?_
 refine fl_ldAll rfl (memS Y4) rfl ?_
 refine fl_ld2 rfl Y2 rfl ?_
 refine fl_callLZ z11 [.row (.c cu) 85 1 D.length (hdT D),many (D.map (rowT 35 4))] (has_lent (by omega) (by omega)) rfl rfl rfl fun v17 z17 H17 hz17 ⟨hv17,hH17⟩=>?_
 subst hv17 hH17
 refine lN ?_
 refine fx_cseq ?_
 refine fx_condB rfl (fun hc17=>?_) (fun hc17=>?_)
 ·refine xR ?_
  refine fl_ldAll rfl (memS Y4) rfl ?_
  refine fl_ld2 rfl Y2 rfl ?_
  refine fl_ld4 rfl Y4 rfl ?_
  obtain ⟨ie,jc,d,he1,he2,hd,hjc⟩:=has_get hc17
  subst he1 he2
  obtain ⟨cd,csd,ld⟩:=d
  obtain ⟨y,hy⟩:=at_lt (l:=ld) (i:=jc) hjc
  obtain ⟨r,x0,hr1,hx1,hyx⟩:=tab_at hDm hd hy
  have hb0:=(hR r hr1).2 x0 hx1
  obtain ⟨hkl,hkc⟩:=hok _ (List.mem_of_getElem? hd)
  obtain ⟨hk4,w0,w1,hwc,q0,q1⟩:=hkc jc y hy
  have hq0:(toL y.num.natAbs).length≤9000000:=by rw [hyx];exact Nat.le_trans lenN (Nat.le_trans hb0.1 (by decide))
  have hq1:(toL (y.den:Int).natAbs).length≤9000000:=by rw [hyx];exact Nat.le_trans lenD (Nat.le_trans (Nat.succ_le_succ hb0.2) (by decide))
  refine fl_out rfl hd ?_
  refine fl_callLZ z17 [.row (.c cd) 35 4 ld.length csd,.row (.c cu) 85 1 D.length (hdT D)] (c_chart_Table_add (by omega) (hd_get hd) (List.getElem?_eq_some_iff.1 hd).1 hjc hkl hwc q0.m q1.m hq0 hq1 hu.m hw.m h1 h2) rfl rfl rfl fun v21 z21 H21 _ ⟨hv21,bo21,bd21,a21,b21,hcu21,hcd21,hH21,ha21,hb21⟩=>?_
  subst hv21 hH21
  replace hcd21:cd=.sl bd21 0 ld.length 4:=hcd21
  subst hcu21 hcd21
  have ha21:=ha21.mono (zAq (hz11.trans hz17))
  have hb21:=hb21.mono (zAq (hz11.trans hz17))
  refine fl_back (d':=(.sl bd21 0 ld.length 4,setL csd (jc * 4) [Cb (decide ((y+Num.valR ((n1,l1),(n2,l2))).num<0)),a21,Cb (decide (((y+Num.valR ((n1,l1),(n2,l2))).den:Int)<0)),b21],ld.set jc (y+Num.valR ((n1,l1),(n2,l2))))) rfl hd rfl (by rw [List.length_set]) (by rw [List.length_set];exact setL_l hjc hkl) ?_
  refine lN ?_
  refine xR ?_
  refine fl_ldAll rfl (memS Y4) rfl ?_
  refine fl_stAll rfl rfl rfl rfl P3 ?_
  refine lN ?_
  refine fx_frzT (D:=(D.set ie (.sl bd21 0 ld.length 4,setL csd (jc * 4) [Cb (decide ((y+Num.valR ((n1,l1),(n2,l2))).num<0)),a21,Cb (decide (((y+Num.valR ((n1,l1),(n2,l2))).den:Int)<0)),b21],ld.set jc (y+Num.valR ((n1,l1),(n2,l2)))))) (z0:=z) (p:=[]) rfl zI (fun d5 hd5=>tab_set hDm hR hd ((hok.mono (zd_mono zI))) hjc hkl ⟨_,_,rfl,ha21,hb21⟩ rfl hd5) (by first | omega | (rw [List.length_set];omega)) fun zr hzr hsr=>?_
  refine xT ?_
  refine rQ (.inl rfl) (rcAll rfl Y1 rfl rn) ?_
  rw [List.map_set,hDm] at hsr
  exact ⟨_,rfl,by rw [with_set hDm hd hy];exact hsr⟩
 refine R4 4 O ?_
 refine fl_ldAll rfl (memS Y4) rfl ?_
 refine fl_stAll rfl rfl rfl rfl P3 ?_
 refine lN ?_
 refine fx_frzT (D:=D) (z0:=z) (p:=[]) rfl zI (fun d5 hd5=>⟨((hok.mono (zd_mono zI))) d5 hd5,by have:=tab_len hDm hR hd5;omega⟩) (by first | omega | (rw [List.length_set];omega)) fun zr hzr hsr=>?_
 refine xT ?_
 refine rQ (.inl rfl) (rcAll rfl Y1 rfl rn) ?_
 rw [hDm] at hsr
 exact ⟨_,rfl,by rw [with_no hDm hc17];exact hsr⟩
open Go.CE Go.RowKit Go.Num
open Go.Eng (setL)
def applyT (T:List (List Rat)) (l:List PEn):List (List Rat):=l.foldl (fun T a=>withT T a.ent a.cls (rv a.am)) T
theorem ap_0 {T:List (List Rat)} {l:List PEn}:applyT T (l.take 0)=T:=rfl
theorem ap_step {T:List (List Rat)} {l:List PEn} {i:Nat} {a:PEn} (h:l[i]? = some a):applyT T (l.take (i+1))=withT (applyT T (l.take i)) a.ent a.cls (rv a.am):=by
 rw [applyT,tk_some h,List.foldl_append]
 rfl
theorem with_neg {T:List (List Rat)} {c:Int} {q:Rat}:withT T (-1) c q=T:=by
 refine List.ext_getElem? fun i=>?_
 rw [withT,List.getElem?_mapIdx]
 cases T[i]? with
 | none=>rfl
 | some r =>
  simp only [Option.map_some,Option.some.injEq]
  refine List.ext_getElem? fun k=>?_
  rw [List.getElem?_mapIdx]
  cases r[k]? with
  | none=>rfl
  | some v=>simp only [Option.map_some,Option.some.injEq];rw [if_neg (by omega)]
def rawOf (q:Rat):PRat:=⟨decide (q.num<0),toL q.num.natAbs,decide ((q.den:Int)<0),toL (q.den:Int).natAbs⟩
theorem rv_raw (q:Rat):rv (rawOf q)=q:=valR_c q
theorem sz_map {α β:Type} {size:Nat} {R:RT α} {S:RT β} {f:α→β} {z:Mem} {v:AV} {l:List α} (h:SZ size R z v l) (g:∀ cs a,R z cs a→S z cs (f a)):SZ size S z v (l.map f):=by
 cases h with
 | nil=>exact .nil
 | em=>exact .em
 | sl b o n k full l hl hm hz hk hf hh =>
  refine .sl b o n k full _ (by rw [List.length_map];exact hl) hm hz hk hf fun i a hi=>?_
  rw [List.getElem?_map] at hi
  cases hx:l[i]? with
  | none=>rw [hx] at hi;cases hi
  | some x=>rw [hx] at hi;injection hi with hi;subst hi;exact g _ _ (hh i x hx)
theorem raw_tab {z:Mem} {c:C} {T:List (List Rat)} (h:CZ 1 (RC 4 RV) z c T):CZ 1 (RC 4 RRat) z c (T.map (·.map rawOf)):=sz_map h fun cs r ⟨c,h1,h2⟩=>⟨c,h1,sz_map h2 fun cs q ⟨c,d,g1,g2,g3⟩=>⟨c,d,g1,g2,g3⟩⟩
theorem raw_rv (T:List (List Rat)):(T.map (·.map rawOf)).map (·.map rv)=T:=by
 rw [List.map_map]
 refine (List.map_congr_left fun r _=>?_).trans (List.map_id _)
 show (r.map rawOf).map rv=r
 rw [List.map_map]
 exact (List.map_congr_left fun q _=>rv_raw q).trans (List.map_id _)
def TBd (m:Nat) (T:List (List Rat)):Prop:=T.length≤1000∧∀ r,r∈T→r.length≤1000∧∀ q,q∈r→(toL q.num.natAbs).length≤m∧(toL (q.den:Int).natAbs).length≤m
theorem tbd_raw {m:Nat} {T:List (List Rat)} (h:TBd m T) (hm:m≤1000000):(T.map (·.map rawOf)).length≤1000∧∀ r,r∈T.map (·.map rawOf)→r.length≤1000∧∀ x,x∈r→x.nm.length≤1000000∧x.dm.length≤1000000:=by
 refine ⟨by rw [List.length_map];exact h.1,fun r hr=>?_⟩
 obtain ⟨s,hs,rfl⟩:=List.mem_map.1 hr
 have h1:=h.2 s hs
 refine ⟨by rw [List.length_map];exact h1.1,fun x hx=>?_⟩
 obtain ⟨q,hq,rfl⟩:=List.mem_map.1 hx
 exact ⟨Nat.le_trans (h1.2 q hq).1 hm,Nat.le_trans (h1.2 q hq).2 hm⟩
theorem add_len {p q:Rat} {a b:Nat} (h1:(toL p.num.natAbs).length≤a) (h2:(toL (p.den:Int).natAbs).length≤a) (h3:(toL q.num.natAbs).length≤b) (h4:(toL (q.den:Int).natAbs).length≤b):(toL (p+q).num.natAbs).length≤a+b+1∧(toL ((p+q).den:Int).natAbs).length≤a+b+1:=by
 rw [← addB (p:=p) (q:=q)]
 have hd:=divInt_le (a:=p.num * (q.den:Int)+q.num * (p.den:Int)) (denR p q)
 refine ⟨Nat.le_trans (len_le hd.1) ?_,Nat.le_trans (len_le (b:=((p.den:Int) * (q.den:Int)).natAbs) (by rw [Int.natAbs_natCast];exact hd.2)) (Nat.le_succ_of_le (lenMul h2 h4))⟩
 exact lenAdd (lenMul h1 h4) (Nat.le_trans (lenMul h3 h2) (by omega))
theorem tbd_with {m k:Nat} {T:List (List Rat)} {e c:Int} {q:Rat} (h:TBd m T) (h1:(toL q.num.natAbs).length≤k) (h2:(toL (q.den:Int).natAbs).length≤k):TBd (m+k+1) (withT T e c q):=by
 refine ⟨by rw [withT,List.length_mapIdx];exact h.1,fun r hr=>?_⟩
 obtain ⟨i,hi⟩:=List.mem_iff_getElem?.1 hr
 rw [withT,List.getElem?_mapIdx] at hi
 cases hx:T[i]? with
 | none=>rw [hx] at hi;cases hi
 | some s =>
  rw [hx] at hi
  injection hi with hi
  subst hi
  have hs:=h.2 s (List.mem_of_getElem? hx)
  refine ⟨by rw [List.length_mapIdx];exact hs.1,fun v hv=>?_⟩
  obtain ⟨j,hj⟩:=List.mem_iff_getElem?.1 hv
  rw [List.getElem?_mapIdx] at hj
  cases hy:s[j]? with
  | none=>rw [hy] at hj;cases hj
  | some y =>
   rw [hy] at hj
   injection hj with hj
   subst hj
   have hq:=hs.2 y (List.mem_of_getElem? hy)
   by_cases hc:(i:Int)=e∧(j:Int)=c
   ·simp only [if_pos hc]
    exact add_len hq.1 hq.2 h1 h2
   simp only [if_neg hc]
   exact ⟨Nat.le_trans hq.1 (by omega),Nat.le_trans hq.2 (by omega)⟩
theorem tbd_apply {m:Nat} {T:List (List Rat)} {l:List PEn} (h:TBd m T) (hs:∀ a,a∈l→a.am.nm.length≤100∧a.am.dm.length≤100):TBd (m+l.length * 102) (applyT T l):=by
 induction l generalizing m T with
 | nil=>exact h
 | cons a l ih =>
  have h1:=hs a (List.mem_cons_self ..)
  have h2:=tbd_with (e:=a.ent) (c:=a.cls) (q:=rv a.am) (k:=101) h (Nat.le_trans lenN (Nat.le_succ_of_le h1.1)) (Nat.le_trans lenD (Nat.succ_le_succ h1.2))
  have h3:=ih h2 fun x hx=>hs x (List.mem_cons_of_mem _ hx)
  have e:m+101+1+l.length * 102=m+(a::l).length * 102:=by rw [List.length_cons];omega
  rw [e] at h3
  exact h3
theorem tbd_of {t:List (List PRat)} (hT:t.length≤1000) (hR:∀ r,r∈t→r.length≤1000∧∀ x,x∈r→x.nm.length≤1000∧x.dm.length≤1000):TBd 1001 (t.map (·.map rv)):=by
 refine ⟨by rw [List.length_map];exact hT,fun r hr=>?_⟩
 obtain ⟨s,hs,rfl⟩:=List.mem_map.1 hr
 refine ⟨by rw [List.length_map];exact (hR s hs).1,fun q hq=>?_⟩
 obtain ⟨x,hx,rfl⟩:=List.mem_map.1 hq
 have h1:=(hR s hs).2 x hx
 exact ⟨Nat.le_trans lenN (Nat.le_succ_of_le h1.1),Nat.le_trans lenD (Nat.succ_le_succ h1.2)⟩
theorem tb_up {t:List (List PRat)} (hR:∀ r,r∈t→r.length≤1000∧∀ x,x∈r→x.nm.length≤1000∧x.dm.length≤1000):∀ r,r∈t→r.length≤1000∧∀ x,x∈r→x.nm.length≤1000000∧x.dm.length≤1000000:=fun r hr=>⟨(hR r hr).1,fun x hx=>⟨Nat.le_trans ((hR r hr).2 x hx).1 (by decide),Nat.le_trans ((hR r hr).2 x hx).2 (by decide)⟩⟩
theorem c_elim_Apply {k:Nat} (hk:13≤k) {z:Mem} {ct:C} {t:List (List PRat)} (hx:CZ 1 (RC 4 RRat) z ct t) (hT:t.length≤1000) (hR:∀ r,r∈t→r.length≤1000∧∀ x,x∈r→x.nm.length≤1000∧x.dm.length≤1000) {v:AV} {l:List PEn} (he:SZ 6 REn z v l) (hl:l.length≤1000) (hs:∀ a,a∈l→a.am.nm.length≤100∧a.am.dm.length≤100):FC (E k) 17 [.agg [ct],v] z fun u z'=>∃ cu,u=.agg [cu]∧CZ 1 (RC 4 RV) z' cu (applyT (t.map (·.map rv)) l):=by
 have hxl:=he.le
 refine fc_of (tS_get17) (by omega) (len1 rfl) fun B j hj=>?_
 refine xR ?_
 refine fl_bx rfl fun b2=>?_
 refine fl_alloc fun b4=>?_
 refine lN ?_
 refine fx_drwS ?_
 refine fg_load (i:=⟨_,_,.load _ _ _⟩) rfl rfl trivial rfl (.inr Y1) rfl (Nat.le_refl _) rfl sR ?_
 refine gC z (c_rat_Whole (n:=0) (by omega) (by decide) (by decide)) O O O O fun v8 z8 hz8 hv8=>?_
 have hv8:=qv_op hv8
 obtain ⟨c8,d8,hv,hm8,hn8⟩:=hv8
 subst hv
 refine gC z8 (c_chart_Table_With (by omega) hx.m hT (tb_up hR) (hm8.mono zd_le) (hn8.mono zd_le) (by rw [show toL ((0:Int):Rat).num.natAbs=[] from toL_zero];decide) (Nat.le_trans (m:=1) (toL_len.2 (by decide)) (by decide))) O O O O fun v9 z9 hz9 ⟨cu9,hv9,hk9⟩=>?_
 subst hv9
 rw [show Int.negSucc 0 = -1 from rfl,with_neg] at hk9
 have hk9:=hk9.mono (zAq (hz8))
 refine gS O O O ?_
 refine fl_stAll rfl rfl rfl rfl P1 ?_
 refine lN ?_
 refine fg_nil ?_
 refine R4 12 O ?_
 refine fl_lenS rfl he ?_
 refine R0 2 O ?_
 refine fx_seq (fx_block ?_)
 refine fx_loop (fun n fs=>∃ (i:Nat) (cu:C) (zz:Mem),LZ z9 zz [.blk b4 (.cells 24 [Cz]),.blk b2 (.cells 24 [cu])] [(2,Ap b2),(4,Ap b4),(10,v),(11,Az l.length),(12,Az i)] fs∧n=l.length - i∧(i≤l.length)∧(CZ 1 (RC 4 RV) zz cu (applyT (t.map (·.map rv)) (l.take i)))) ?_ _ ⟨0,cu9,_,LZ.m [] O,rfl,Nat.zero_le _,by rw [ap_0];exact (hk9.mono zd_le)⟩ (kK (by omega))
 intro n fs ⟨i,cu,zz,hL0,hmz0,hi,hcu⟩
 refine hL0.open fun e hzz=>?_
 refine R5 8 O ?_
 refine xD rfl (fun hc13=>?_) (fun hc13=>?_)
 ·refine fx_kseq ?_
  refine fx_seq (fx_block ?_)
  refine xR ?_
  obtain ⟨a,ha⟩:=at_lt (l:=l) (i:=i) (by omega)
  have hsm:=hs a (List.mem_of_getElem? ha)
  refine fl_iadS (zz:=zz) rfl rfl he.m i rfl a ha fun b14 p14 cs at14 hR=>?_
  obtain ⟨c14,d14,hcs,q14,r14⟩:=hR
  subst hcs
  refine fl_ldA (off:=0) rfl at14 rfl (by simp) rfl ?_
  refine fl_alloc fun b6=>?_
  refine fl_stAll rfl rfl rfl rfl rep0 ?_
  refine lN ?_
  refine xG ?_
  refine fl_ldAll rfl Y2 rfl ?_
  refine lF rfl ?_
  refine fl_ld1 rfl mem0 rfl ?_
  refine lF rfl ?_
  refine fl_ld1 rfl mem0 rfl ?_
  refine lF rfl ?_
  refine fl_ld4 rfl mem0 rfl ?_
  have hTB:=tbd_raw (tbd_apply (l:=l.take i) (tbd_of hT hR) fun a ha=>hs a (List.mem_of_mem_take ha)) (by rw [List.length_take];omega)
  refine lZ zz (c_chart_Table_With (by omega) (raw_tab hcu) hTB.1 hTB.2 q14 r14 (Nat.le_trans hsm.1 (by decide)) (Nat.le_trans hsm.2 (by decide))) rfl rfl fun v23 z23 _ ⟨cu23,hv23,hk23⟩=>?_
  subst hv23
  rw [raw_rv] at hk23
  have hk23:=hk23.mono (zAq (hz8.trans (hz9.trans hzz)))
  refine fl_stAll rfl rfl rfl rfl P2 ?_
  refine lN ?_
  refine sq_n ?_
  refine xG ?_
  refine lB rfl rfl (bI_add (n:=i+1) (by omega) (by omega)) ?_
  refine R0 2 O ?_
  exact lq_n (by omega) ⟨i+1,cu23,_,LZ.m [_] O,rfl,by omega,by rw [ap_step ha];exact (hk23.mono zd_le)⟩
 refine fx_eseq ?_
 refine lq_e ?_
 refine sq_n ?_
 refine xR ?_
 refine fl_ldAll rfl Y1 rfl ?_
 refine fl_stAll rfl rfl rfl rfl rep0 ?_
 refine lN ?_
 refine xT ?_
 refine rQ (.inl rfl) (rcAll rfl mem0 rfl rn) ?_
 rw [List.take_of_length_le (by omega)] at hcu
 exact ⟨_,rfl,hcu⟩
theorem c_ref16_Table_At {k:Nat} (hk:8≤k) {z:Mem} {ct:C} {t:List (List PRat)} {r:List PRat} {y:PRat} {ie jc:Nat} (hx:CZ 1 (RC 4 RRat) z ct t) (hr:t[ie]? = some r) (hy:r[jc]? = some y) (h1:y.nm.length≤1000) (h2:y.dm.length≤1000):FC (E k) 63 [.agg [ct],Az ie,Az jc] z fun v z'=>QV z' v (rv y):=by
 have hie:=(List.getElem?_eq_some_iff.1 hr).1
 have hjc:=(List.getElem?_eq_some_iff.1 hy).1
 refine fc_of (tS_get63) (by omega) (len1 rfl) fun B j hj=>?_
 refine xR ?_
 refine fl_bx rfl fun b3=>?_
 refine fl_al4 fun b6=>?_
 refine lN ?_
 refine R4 32 O ?_
 refine fl_splitD 9 rfl (fun hg9=>?_) (fun hg9=>?_)
 ·omega
 refine R1 4 O ?_
 refine lD rfl ?_
 refine fl_ld1 rfl Y1 rfl ?_
 refine lD rfl ?_
 refine fl_lenS rfl hx ?_
 refine R1 12 O ?_
 refine fl_splitD 16 rfl (fun hg16=>?_) (fun hg16=>?_)
 ·omega
 refine R1 24 O ?_
 refine fl_splitD 20 rfl (fun hg20=>?_) (fun hg20=>?_)
 ·omega
 refine R1 4 O ?_
 refine lD rfl ?_
 refine fl_ld1 rfl Y1 rfl ?_
 refine lD rfl ?_
 refine lC rfl ?_
 refine lD rfl ?_
 refine fl_iadS rfl rfl hx ie rfl r hr fun b25 p25 cs at25 hR=>?_
 obtain ⟨c25,hcs,q25⟩:=hR
 subst hcs
 refine lD rfl ?_
 refine fl_ldA (off:=0) rfl at25 rfl (by simp) rfl ?_
 refine lD rfl ?_
 refine fl_lenS rfl q25 ?_
 refine R3 8 O ?_
 refine xD rfl (fun hc29=>?_) (fun hc29=>?_)
 ·omega
 refine R4 8 O ?_
 refine fl_ld1 rfl Y1 rfl ?_
 refine lC rfl ?_
 refine fl_iadS rfl rfl hx ie rfl r hr fun b34 p34 cs at34 hR=>?_
 obtain ⟨c34,hcs,q34⟩:=hR
 subst hcs
 refine fl_ldA (off:=0) rfl at34 rfl (by simp) rfl ?_
 refine lC rfl ?_
 refine fl_iadS rfl rfl q34 jc rfl y hy fun b37 p37 cs at37 hR=>?_
 obtain ⟨c37,d37,hcs,q37,r37⟩:=hR
 subst hcs
 refine fl_ldA (off:=0) rfl at37 rfl (by simp) rfl ?_
 refine lZ z (c_ref04_Plain (by omega) q37 r37 (Nat.le_trans h1 (by decide)) (Nat.le_trans h2 (by decide))) rfl rfl fun v39 z39 _ hv39=>?_
 have hw39:=qv_op (hv39 _ q37.m r37.m zd_le)
 obtain ⟨c39,d39,hv,hm39,hn39⟩:=hw39
 subst hv
 refine fl_st4 rfl rfl rep0 ?_
 refine lN ?_
 refine xT ?_
 refine rQ (.inl rfl) (rc4 rfl mem0 rn) ?_
 exact ⟨_,_,rfl,hm39,hn39⟩
open Go.CE Go.RowKit Go.Num
open Go.Eng (setL)
theorem fl_frzS {α:Type} {size:Nat} {R:RT α} [RMono R] {call:Call'} {B:Base} {fs:Sf} {l:List I} {Q:Sf→Prop} {u:AV} {ty n:Nat} {cs:List C} {r:List α} {p q:List HA} (e:fs.H=p++.row u ty size n cs::q) (hc:CL size R fs.z cs r) (hn:r.length=n) (hm:n≤9223372036854775807)
    (hw:∀ z',zle fs.z z'→SZ size R z' u r→FL call B l (fs.frz z' (p++q)) Q):FL call B l fs Q:=fun st rf=>by
  obtain ⟨g1,g2⟩:=rf.hold.h (.row u ty size n cs) (by rw [e];simp)
  rcases g2 with ⟨h0,rfl⟩ | ⟨b,rfl,h3⟩
  · have hr0 : r = [] := List.eq_nil_of_length_eq_zero (by omega)
    subst hr0
    refine hw fs.z zI .nil st ?_
    have hsub:(p++q).Sublist fs.H:=by rw [e];exact (List.Sublist.refl p).append (List.sublist_cons_self _ _)
    exact ⟨rf.env,rf.hold.sub hsub,rf.le,rf.old,fun b hb=>rf.own b ((fps_sub hsub).subset hb),rf.zle,rf.zin⟩
  · have h1 := rf.frz (p := p) (q := q) (b := b) (k := .cells ty cs) (a := .row (.c (.sl b 0 n size)) ty size n cs) e rfl (fun m hm => by
      obtain ⟨_,hm⟩:=hm
      rcases hm with ⟨_,hm⟩ | ⟨b',hb',hm⟩
      · cases hm
      · injection hb' with hb';injection hb' with hb';subst hb';exact hm)
    exact hw _ ⟨fun _ _ h=>.inl h⟩ ((hc.mono ⟨fun _ _ h=>.inl h⟩).sz hn hm (.inr ⟨rfl,rfl⟩)) st h1
def sumR (l:List PEn) (i m:Nat) (y:Rat):Rat:=l.foldl (fun q a=>if a.ent=(i:Int)∧a.cls=(m:Int) then q+rv a.am else q) y
def rowR (s:List Rat) (l:List PEn) (i:Nat):List Rat:=s.mapIdx fun m y=>sumR l i m y
def applyR (T:List (List Rat)) (l:List PEn):List (List Rat):=T.mapIdx fun i r=>rowR r l i
theorem sum_step {l:List PEn} {i m kk:Nat} {y:Rat} {a:PEn} (h:l[kk]? = some a):sumR (l.take (kk+1)) i m y=if a.ent=(i:Int)∧a.cls=(m:Int) then sumR (l.take kk) i m y+rv a.am else sumR (l.take kk) i m y:=by
 rw [sumR,tk_some h,List.foldl_append]
 rfl
theorem row_get {r:List PRat} {l:List PEn} {i m:Nat} {y:PRat} (h:r[m]? = some y):(rowR (r.map rv) l i)[m]? = some (sumR l i m (rv y)):=by
 rw [rowR,List.getElem?_mapIdx,List.getElem?_map,h]
 rfl
theorem app_get {t:List (List PRat)} {l:List PEn} {i:Nat} {r:List PRat} (h:t[i]? = some r):(applyR (t.map (·.map rv)) l)[i]? = some (rowR (r.map rv) l i):=by
 rw [applyR,List.getElem?_mapIdx,List.getElem?_map,h]
 rfl
theorem app_eq (T:List (List Rat)) (l:List PEn):applyT T l=applyR T l:=by
 induction l generalizing T with
 | nil =>
  refine List.ext_getElem? fun i=>?_
  rw [applyR,List.getElem?_mapIdx]
  show T[i]? = _
  cases T[i]? with
  | none=>rfl
  | some r =>
   simp only [Option.map_some,Option.some.injEq]
   refine List.ext_getElem? fun k=>?_
   rw [rowR,List.getElem?_mapIdx]
   cases r[k]?<;>rfl
 | cons a l ih =>
  show applyT (withT T a.ent a.cls (rv a.am)) l=_
  rw [ih]
  refine List.ext_getElem? fun i=>?_
  rw [applyR,applyR,List.getElem?_mapIdx,List.getElem?_mapIdx,withT,List.getElem?_mapIdx]
  cases T[i]? with
  | none=>rfl
  | some r =>
   simp only [Option.map_some,Option.some.injEq]
   refine List.ext_getElem? fun k=>?_
   rw [rowR,rowR,List.getElem?_mapIdx,List.getElem?_mapIdx,List.getElem?_mapIdx]
   cases r[k]? with
   | none=>rfl
   | some v =>
    simp only [Option.map_some,Option.some.injEq]
    show sumR l i k _=sumR (a::l) i k v
    simp only [sumR,List.foldl_cons]
    congr 1
    by_cases h:(i:Int)=a.ent∧(k:Int)=a.cls
    ·rw [if_pos h,if_pos ⟨h.1.symm,h.2.symm⟩]
    rw [if_neg h,if_neg fun g=>h ⟨g.1.symm,g.2.symm⟩]
theorem c_ref21_Apply {k:Nat} (hk:10≤k) {z:Mem} {ct:C} {t:List (List PRat)} (hx:CZ 1 (RC 4 RRat) z ct t) (hT:t.length≤1000) (hR:∀ r,r∈t→r.length≤1000∧∀ x,x∈r→x.nm.length≤1000∧x.dm.length≤1000) {v:AV} {l:List PEn} (he:SZ 6 REn z v l) (hl:l.length≤1000) (hs:∀ a,a∈l→a.am.nm.length≤100∧a.am.dm.length≤100):FC (E k) 18 [.agg [ct],v] z fun u z'=>∃ cu,u=.agg [cu]∧CZ 1 (RC 4 RV) z' cu (applyR (t.map (·.map rv)) l):=by
 have hxl:=he.le
 have hAl:(applyR (t.map (·.map rv)) l).length=t.length:=by simp [applyR]
 refine fc_of (tS_get18) (by omega) (len1 rfl) fun B j hj=>?_
 refine xR ?_
 refine fl_bx rfl fun b2=>?_
 refine fl_alloc fun b4=>?_
 refine lN ?_
 refine xR ?_
 refine fl_alloc fun b5=>?_
 refine lN ?_
 refine R4 4 O ?_
 refine fl_row0 152 1 ?_
 refine R0 2 O ?_
 refine fx_seq (fx_block ?_)
 refine fx_loop (fun n fs=>∃ (i:Nat) (cu:C) (cso:List C) (zz:Mem),LZ z zz [.row (.c cu) 152 1 i cso,.blk b5 (.cells 40 [cu]),.blk b4 (.cells 40 [Cz]),.blk b2 (.cells 40 [ct])] [(1,v),(2,Ap b2),(4,Ap b4),(5,Ap b5),(6,Az i)] fs∧n=t.length - i∧(i≤t.length)∧(CL 1 (RC 4 RV) zz cso ((applyR (t.map (·.map rv)) l).take i))) ?_ _ ⟨0,Cz,[],_,LZ.m [] O,rfl,Nat.zero_le _,CL.nil⟩ (kK (by omega))
 intro n fs ⟨i,cu,cso,zz,hL0,hmz0,hi,hcl⟩
 refine hL0.open fun e hzz=>?_
 refine R4 16 O ?_
 refine fl_ld1 rfl Y3 rfl ?_
 refine fl_lenS rfl hx ?_
 refine R3 4 O ?_
 refine xD rfl (fun hc15=>?_) (fun hc15=>?_)
 ·refine fx_kseq ?_
  refine fx_seq (fx_block ?_)
  refine xR ?_
  obtain ⟨r,hr⟩:=at_lt (l:=t) (i:=i) (by omega)
  have hrl:=hR r (List.mem_of_getElem? hr)
  have hRl:(rowR (r.map rv) l i).length=r.length:=by simp [rowR]
  refine lC rfl ?_
  refine fl_row0 51 4 ?_
  refine lN ?_
  refine R5 8 O ?_
  refine fx_seq (fx_block ?_)
  refine fx_loop (fun n fs=>∃ (jj:Nat) (cw:C) (csw:List C) (zy:Mem),LZ zz zy [.row (.c cw) 51 4 jj csw,.row (.c cu) 152 1 i cso,.blk b5 (.cells 40 [cu]),.blk b4 (.cells 40 [Cz]),.blk b2 (.cells 40 [ct])] [(1,v),(2,Ap b2),(4,Ap b4),(5,Ap b5),(6,Az i),(7,.c cw),(8,Az jj)] fs∧n=r.length - jj∧(jj≤r.length)∧(CL 4 RV zy csw ((rowR (r.map rv) l i).take jj))) ?_ _ ⟨0,Cz,[],_,LZ.m [] O,rfl,Nat.zero_le _,CL.nil⟩ (kK (by omega))
  intro n fs ⟨jj,cw,csw,zy,hL1,hmz1,hj5,hcw⟩
  refine hL1.open fun e hzy=>?_
  refine R4 16 O ?_
  refine fl_ld1 rfl Y4 rfl ?_
  refine lC rfl ?_
  refine fl_iadS (zz:=zy) rfl rfl hx.m i rfl r hr fun b22 p22 cs at22 hR=>?_
  obtain ⟨c22,hcs,q22⟩:=hR
  subst hcs
  refine fl_ldA (off:=0) rfl at22 rfl (by simp) rfl ?_
  refine fl_lenS rfl q22 ?_
  refine R3 4 O ?_
  refine xD rfl (fun hc25=>?_) (fun hc25=>?_)
  ·refine fx_kseq ?_
   refine fx_seq (fx_block ?_)
   refine xR ?_
   obtain ⟨y,hy⟩:=at_lt (l:=r) (i:=jj) (by omega)
   have hsm:=hrl.2 y (List.mem_of_getElem? hy)
   have hyl1:=Nat.le_trans (lenN (x:=((y.n,y.nm),(y.d,y.dm)))) hsm.1
   have hyl2:=Nat.le_trans (lenD (x:=((y.n,y.nm),(y.d,y.dm)))) (Nat.succ_le_succ hsm.2)
   refine fl_ldAll rfl Y4 rfl ?_
   refine R1 4 O ?_
   refine lZ zy (c_ref16_Table_At (by omega) hx.m hr hy hsm.1 hsm.2) rfl rfl fun v31 z31 hz31 hv31=>?_
   have hv31:=qv_op hv31
   obtain ⟨c31,d31,hv,hm31,hn31⟩:=hv31
   subst hv
   refine fl_al4 fun b9=>?_
   refine fl_st4 rfl rfl rep0 ?_
   refine lN ?_
   refine R5 8 O ?_
   refine fx_seq (fx_block ?_)
   refine fx_loop (fun n fs=>∃ (kk:Nat) (q:Rat) (c9:C) (d9:C) (zx:Mem),LZ z31 zx [.blk b9 (.cells 51 [Cb (decide (q.num<0)),c9,Cb (decide ((q.den:Int)<0)),d9]),.row (.c cw) 51 4 jj csw,.row (.c cu) 152 1 i cso,.blk b5 (.cells 40 [cu]),.blk b4 (.cells 40 [Cz]),.blk b2 (.cells 40 [ct])] [(1,v),(2,Ap b2),(4,Ap b4),(5,Ap b5),(6,Az i),(7,.c cw),(8,Az jj),(9,Ap b9),(10,Az kk)] fs∧n=l.length - kk∧(kk≤l.length)∧(q=sumR (l.take kk) i jj (rv y))∧(CZ 1 RW zx c9 (toL q.num.natAbs))∧(CZ 1 RW zx d9 (toL (q.den:Int).natAbs))∧((toL q.num.natAbs).length≤1001+kk * 102)∧((toL (q.den:Int).natAbs).length≤1001+kk * 102)) ?_ _ ⟨0,(rv y),c31,d31,_,LZ.m [] O,rfl,Nat.zero_le _,rfl,hm31,hn31,Nat.le_trans hyl1 (by omega),Nat.le_trans hyl2 (by omega)⟩ (kK (by omega))
   intro n fs ⟨kk,q,c9,d9,zx,hL2,hmz2,hkk,hq,hc9,hd9,hq1,hq2⟩
   refine hL2.open fun e hzx=>?_
   refine R4 24 O ?_
   refine fl_lenS rfl he ?_
   refine R3 4 O ?_
   refine xD rfl (fun hc35=>?_) (fun hc35=>?_)
   ·refine fx_kseq ?_
    refine fx_seq (fx_block ?_)
    refine xR ?_
    obtain ⟨a,ha⟩:=at_lt (l:=l) (i:=kk) (by omega)
    have hsa:=hs a (List.mem_of_getElem? ha)
    refine R1 5 O ?_
    refine fl_iadS (zz:=zx) rfl rfl he.m kk rfl a ha fun b40 p40 cs at40 hR=>?_
    obtain ⟨c40,d40,hcs,q40,r40⟩:=hR
    subst hcs
    refine lF rfl ?_
    refine fl_ldA (off:=0) rfl at40 rfl (by simp) rfl ?_
    refine R1 8 O ?_
    refine fl_splitD 45 rfl (fun hg45=>?_) (fun hg45=>?_)
    ·refine R1 5 O ?_
     refine lD rfl ?_
     refine fl_iadS (zz:=zx) rfl rfl he.m kk rfl a ha fun b48 p48 cs at48 hR=>?_
     obtain ⟨c48,d48,hcs,q48,r48⟩:=hR
     subst hcs
     refine lD rfl ?_
     refine lF rfl ?_
     refine lD rfl ?_
     refine fl_ldA (off:=1) rfl at48 rfl (by simp) rfl ?_
     refine R0 8 O ?_
     refine xD rfl (fun hc53=>?_) (fun hc53=>?_)
     ·refine fx_drw ?_
      have hal:=add_len (p:=q) (q:=rv a.am) hq1 hq2 (b:=101) (Nat.le_trans lenN (Nat.le_succ_of_le hsa.1)) (Nat.le_trans lenD (Nat.succ_le_succ hsa.2))
      refine gl4 O O Ht O ?_
      refine G1 5 O ?_
      refine gP rfl rfl trivial ?_
      refine fl_iadS (zz:=zx) rfl rfl he.m kk rfl a ha fun b57 p57 cs at57 hR=>lN ?_
      obtain ⟨c57,d57,hcs,q57,r57⟩:=hR
      subst hcs
      refine G1 2 O ?_
      refine fg_ldA (i:=⟨_,_,.load _ _ _⟩) (off:=2) rfl rfl trivial rfl at57 ti rfl (by simp) rfl sR ?_
      refine gC zx (c_ref04_Add (by omega) hc9 hd9 (by omega) (by omega) q57 r57 (by omega) (by omega)) O O O O fun v60 z60 _ hv60=>?_
      rw [valR_c] at hv60
      have hv60:=qv_op hv60
      obtain ⟨c60,d60,hv,hm60,hn60⟩:=hv60
      subst hv
      have hm60:=hm60.mono (zAq (hzz.trans (hzy.trans (hz31.trans hzx))))
      have hn60:=hn60.mono (zAq (hzz.trans (hzy.trans (hz31.trans hzx))))
      refine gS O O O ?_
      refine fl_st4 rfl rfl rep0 ?_
      refine lN ?_
      refine fg_nil ?_
      refine sq_n ?_
      refine xG ?_
      refine lC rfl ?_
      refine lB rfl rfl (bI_add (n:=kk+1) (by omega) (by omega)) ?_
      refine R0 2 O ?_
      exact lq_n (by omega) ⟨kk+1,(q+rv a.am),c60,d60,_,LZ.m [] O,rfl,by omega,by rw [sum_step ha,if_pos ⟨hg45,hc53⟩,← hq],(hm60.mono zd_le),(hn60.mono zd_le),Nat.le_trans hal.1 (by omega),Nat.le_trans hal.2 (by omega)⟩
     refine fx_skip ?_
     refine sq_n ?_
     refine xG ?_
     refine lC rfl ?_
     refine lB rfl rfl (bI_add (n:=kk+1) (by omega) (by omega)) ?_
     refine R0 2 O ?_
     exact lq_n (by omega) ⟨kk+1,q,c9,d9,_,LZ.m [] O,rfl,by omega,by rw [sum_step ha,if_neg (fun h=>hc53 h.2),← hq],hc9,hd9,by omega,by omega⟩
    refine R3 512 O ?_
    refine fx_skip ?_
    refine sq_n ?_
    refine xG ?_
    refine lC rfl ?_
    refine lB rfl rfl (bI_add (n:=kk+1) (by omega) (by omega)) ?_
    refine R0 2 O ?_
    exact lq_n (by omega) ⟨kk+1,q,c9,d9,_,LZ.m [] O,rfl,by omega,by rw [sum_step ha,if_neg (fun h=>hg45 h.1),← hq],hc9,hd9,by omega,by omega⟩
   refine fx_eseq ?_
   refine lq_e ?_
   refine sq_n ?_
   refine xG ?_
   rw [List.take_of_length_le (by omega)] at hq
   subst hq
   refine lC rfl ?_
   refine fl_ld4 rfl mem0 rfl ?_
   refine fl_bslice rfl fun b63=>?_
   refine fl_appB (n:=jj) (m:=1) (cs:=csw) rfl rfl mem0 rfl (fun _=>repS P1) (by omega) (by omega) fun c64 hc64=>?_
   refine R0 2 O ?_
   refine sq_n ?_
   refine xG ?_
   refine lC rfl ?_
   refine lB rfl rfl (bI_add (n:=jj+1) (by omega) (by omega)) ?_
   refine R0 2 O ?_
   exact lq_n (by omega) ⟨jj+1,c64,_,_,LZ.m [_,_] O,rfl,by omega,by rw [tk_some (row_get hy)];exact (hcw.m).append (CL.one rfl ⟨_,_,rfl,hc9,hd9⟩)⟩
  refine fx_eseq ?_
  refine lq_e ?_
  refine sq_n ?_
  refine xG ?_
  refine fl_frzS (p:=[]) rfl (hcw) (by rw [List.length_take];omega) (by omega) fun zw _ hsw=>?_
  rw [List.take_of_length_le (by omega)] at hsw
  refine lF rfl ?_
  refine fl_ld1 rfl Y1 rfl ?_
  refine lC rfl ?_
  refine fl_bslice rfl fun b68=>?_
  refine fl_appB (n:=i) (m:=1) (cs:=cso) rfl rfl mem0 rfl (fun _=>repS rep0) (by omega) (by omega) fun c69 hc69=>?_
  refine lF rfl ?_
  refine fl_stC rfl rfl P2 ?_
  refine lN ?_
  refine sq_n ?_
  refine xG ?_
  refine lC rfl ?_
  refine lB rfl rfl (bI_add (n:=i+1) (by omega) (by omega)) ?_
  refine R0 2 O ?_
  exact lq_n (by omega) ⟨i+1,c69,_,_,LZ.m [_] O,rfl,by omega,by rw [tk_some (app_get hr)];exact (hcl.m).append (CL.one rfl ⟨_,rfl,hsw⟩)⟩
 refine fx_eseq ?_
 refine lq_e ?_
 refine sq_n ?_
 refine xR ?_
 refine fl_ldAll rfl Y1 rfl ?_
 refine fl_stAll rfl rfl rfl rfl P2 ?_
 refine lN ?_
 refine fx_frzR (p:=[]) rfl (hcl) (by rw [List.length_take];omega) (by omega) fun zr _ hsr=>?_
 refine xT ?_
 refine rQ (.inl rfl) (rcAll rfl Y1 rfl rn) ?_
 rw [List.take_of_length_le (by omega)] at hsr
 exact ⟨_,rfl,hsr⟩
end Go.Proofs.YtlceligcgelbdaaGreat

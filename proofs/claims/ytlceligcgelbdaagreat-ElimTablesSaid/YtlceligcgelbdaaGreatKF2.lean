/- Tables: copied, with more at a place, with entries, of noughts, walked. -/
import Derived.WalkKit
import Derived.Orders
import Derived.Test.YtlceligcgelbdaaGreatKF1
set_option linter.unusedVariables false
set_option linter.unusedSimpArgs false
set_option maxRecDepth 100000
set_option maxHeartbeats 1000000
namespace Go.Proofs.YtlceligcgelbdaaGreat
open Go.CE Go.RowKit Go.Num
open Go.Eng (kN)
abbrev rv (x:qZ):Rat:=Num.valR ((x.n,x.nm),(x.d,x.dm))
def RV:RT Rat:=fun z cs q=>∃ c d,cs=[Cb (decide (q.num<0)),c,Cb (decide ((q.den:Int)<0)),d]∧CZ 1 RW z c (toL q.num.natAbs)∧CZ 1 RW z d (toL (q.den:Int).natAbs)
instance:RMono RV:=⟨fun hz ⟨c,d,h,g0,g1⟩=>⟨c,d,h,g0.mono hz,g1.mono hz⟩⟩
abbrev hdT (D:List (Ro Rat)):List C:=D.map (·.1)
theorem bIn {D:List (Ro Rat)} {c:C} {cs:List C} {l:List Rat}:hdT D++[c]=hdT (D++[(c,cs,l)]):=by simp [hdT]
def TOk (z:dA) (D:List (Ro Rat)):Prop:=∀ d,d∈D→CL 4 RV z d.2.1 d.2.2
theorem TOk.mono {z z':dA} {D:List (Ro Rat)} (h:TOk z D) (hz:zle z z'):TOk z' D:=fun d hd=>(h d hd).mono hz
theorem bAt {z:dA} {D:List (Ro Rat)} {c:C} {cs:List C} {l:List Rat} (h:TOk z D) (g:CL 4 RV z cs l):TOk z (D++[(c,cs,l)]):=fun d hd=>by
 rcases List.mem_append.1 hd with hd | hd
 ·exact h d hd
 simp at hd;subst hd;exact g
theorem bAQ {D:List (Ro Rat)} {cw:C} {csw:List C} {l:List Rat} {m:Nat} (h:l.length=m):D.map (yJ 35 4)++[HA.row (.c cw) 35 4 m csw]=(D++[(cw,csw,l)]).map (yJ 35 4):=by subst h;simp [yJ]
theorem bNW {l:List qZ} {i:Nat} {a:qZ} (h:l[i]? = some a):(l.map rv).take (i+1)=(l.map rv).take i++[rv a]:=D6 (by rw [List.getElem?_map,h];rfl)
theorem bLT {call:eE} {B:pK} {fs:Sf} {l:List I} {Q:Sf→Prop} {u:AV} {ty size n:Nat} {cs cs':List C} {p q:List HA} (e:fs.H=p++.row u ty size n cs::q) (h:cs=cs') (hw:FL call B l (fs.heap (p++.row u ty size n cs'::q)) Q):FL call B l fs Q:=by
 subst h
 rw [← e] at hw
 exact hw
theorem sz1 {z:dA} {b ty:Nat} {cs:List C} {x:qZ} (h:z b (.cells ty cs)) (hR:S5 z cs x) (hl:cs.length=4):SZ 4 S5 z (.c (.sl b 0 1 4)) [x]:=CL.sz (CL.one hl hR) rfl (by decide) h
theorem aC4 {k:Nat} (hk:11≤k) {z:dA} {ct:C} {t:List (List qZ)} (hx:CZ 1 (RC 4 S5) z ct t) (hT:t.length≤1000) (hR:∀ r,r∈t→r.length≤1000∧∀ x,x∈r→x.nm.length≤1000000∧x.dm.length≤1000000):Lp (E k) 129 [.agg [ct]] z [] fun v z' H'=>∃ cu D,v=.agg [cu]∧H'=[.row (.c cu) 85 1 D.length (D.map (·.1)),sH (D.map (yJ 35 4))]∧D.map (·.2.2)=t.map (·.map rv)∧TOk (zd z z') D:=by
 refine aDK (bCn) (by omega) (aU O) fun B j hj=>?_
 refine xR ?_
 refine iU O fun b1=>?_
 refine kC fun b2=>?_
 refine lN ?_
 refine xR ?_
 refine kC fun b3=>?_
 refine lN ?_
 refine R4 8 O ?_
 refine dK O Y2 O ?_
 refine aS O hx ?_
 refine aQ9 ?_
 refine oW 85 1 ?_
 refine R0 2 O ?_
 refine aT (aQ ?_)
 refine dX (fun n fs=>∃ (i:Nat) (cu:C) (D:List (Ro Rat)) (zz:dA),LZ z zz [.row (.c cu) 85 1 i (D.map (·.1)),sH (D.map (yJ 35 4)),.blk b3 (.cells 24 [cu]),.blk b2 (.cells 24 [Cz]),.blk b1 (.cells 24 [ct])] [(1,Ap b1),(2,Ap b2),(3,Ap b3),(10,.c ct),(11,Az t.length),(12,Az i)] fs∧n=t.length - i∧(i≤t.length)∧(D.length=i)∧(D.map (·.2.2)=(t.take i).map (·.map rv))∧(TOk (zd z zz) D)) ?_ _ ⟨0,Cz,[],_,LZ.m [] O,rfl,Nat.zero_le _,rfl,rfl,fun d hd=>absurd hd List.not_mem_nil⟩ (kK (by omega))
 intro n fs ⟨i,cu,D,zz,hL0,hmz0,hi,hDl,hDm,hok⟩
 refine hL0.open fun e hzz=>?_
 refine R5 8 O ?_
 refine xD O (fun hc13=>?_) (fun hc13=>?_)
 ·refine cP ?_
  refine aT (aQ ?_)
  refine xR ?_
  obtain ⟨r,hr⟩:=pE (l:=t) (i:=i) (by omega)
  have hrl:=hR r (List.mem_of_getElem? hr)
  refine dE (zz:=zz) O O hx.m i O r hr fun b14 p14 cs at14 hR=>?_
  obtain ⟨c14,hcs,q14⟩:=hR
  subst hcs
  refine nQ (off:=0) O at14 O (by simp) O ?_
  refine R2 8 O ?_
  refine oW 35 4 ?_
  refine lN ?_
  refine R4 8 O ?_
  refine aS O q14 ?_
  refine R0 2 O ?_
  refine aT (aQ ?_)
  refine dX (fun n fs=>∃ (jj:Nat) (cw:C) (csw:List C) (zy:dA),LZ zz zy [.row (.c cw) 35 4 jj csw,.row (.c cu) 85 1 i (D.map (·.1)),sH (D.map (yJ 35 4)),.blk b3 (.cells 24 [cu]),.blk b2 (.cells 24 [Cz]),.blk b1 (.cells 24 [ct])] [(1,Ap b1),(2,Ap b2),(3,Ap b3),(10,.c ct),(11,Az t.length),(12,Az i),(6,.c cw),(16,.c c14),(17,Az r.length),(18,Az jj)] fs∧n=r.length - jj∧(jj≤r.length)∧(CL 4 RV (zd z zy) csw ((r.map rv).take jj))) ?_ _ ⟨0,Cz,[],_,LZ.m [] O,rfl,Nat.zero_le _,CL.nil⟩ (kK (by omega))
  intro n fs ⟨jj,cw,csw,zy,hL1,hmz1,hj5,hcw⟩
  refine hL1.open fun e hzy=>?_
  refine R5 8 O ?_
  refine xD O (fun hc19=>?_) (fun hc19=>?_)
  ·refine cP ?_
   refine aT (aQ ?_)
   refine xR ?_
   obtain ⟨y,hy⟩:=pE (l:=r) (i:=jj) (by omega)
   have hsm:=hrl.2 y (List.mem_of_getElem? hy)
   refine dE (zz:=zy) O O q14.m jj O y hy fun b20 p20 cs at20 hR=>?_
   obtain ⟨c20,d20,hcs,q20,r20⟩:=hR
   subst hcs
   refine nQ (off:=0) O at20 O (by simp) O ?_
   refine uM fun b8=>?_
   refine pA O O iW ?_
   refine lN ?_
   refine xG ?_
   refine lC O ?_
   refine sL O mem0 O ?_
   refine cX O fun b24=>?_
   refine yB zy (p:=[]) O O O (fun _ h=>h) fun zff24 hzff24 f24=>?_
   refine lZ zff24 (aVK (by omega) (sz1 f24 (Dp q20.m r20.m) O) (Nat.le_trans hsm.1 (by decide)) (Nat.le_trans hsm.2 (by decide))) O O fun v25 z25 _ hv25=>?_
   obtain ⟨c25,d25,hv,hm25,hn25⟩:=hv25
   subst hv
   have hm25:=hm25.mono (qY (hzz.trans (hzy.trans hzff24)))
   have hn25:=hn25.mono (qY (hzz.trans (hzy.trans hzff24)))
   refine cX O fun b26=>?_
   refine mV (n:=jj) (m:=1) (cs:=csw) O O mem0 O (fun _=>mR P1) (by omega) (by omega) fun c27 hc27=>?_
   refine R0 2 O ?_
   refine eT ?_
   refine xG ?_
   refine lB O O (gI (n:=jj+1) (by omega) (by omega)) ?_
   refine R0 2 O ?_
   exact mK (by omega) ⟨jj+1,c27,_,_,LZ.m [_,_] O,rfl,by omega,by rw [bNW hy];exact ((hcw.mono (jO zI))).append (CL.one rfl ⟨_,_,rfl,hm25,hn25⟩)⟩
  refine dH ?_
  refine nF ?_
  refine eT ?_
  refine xG ?_
  have hjj:(r.map rv).length=jj:=by rw [List.length_map];omega
  have hcw2:=hcw
  rw [List.take_of_length_le (by omega)] at hcw2
  refine bBg (p:=[_]) O ?_
  rw [bAQ hjj]
  refine lF O ?_
  refine dK O Y2 O ?_
  refine lC O ?_
  refine cX O fun b32=>?_
  refine mV (n:=i) (m:=1) (cs:=hdT D) O O mem0 O (fun _=>mR iW) (by omega) (by omega) fun c33 hc33=>?_
  refine bLT (p:=[_]) (cs':=hdT (D++[(cw,csw,r.map rv)])) O bIn ?_
  refine lF O ?_
  refine aFH O O P3 ?_
  refine lN ?_
  refine eT ?_
  refine xG ?_
  refine lB O O (gI (n:=i+1) (by omega) (by omega)) ?_
  refine R0 2 O ?_
  exact mK (by omega) ⟨i+1,c33,D++[(cw,csw,r.map rv)],_,LZ.m [_] O,rfl,by omega,by rw [List.length_append,hDl];rfl,by rw [List.map_append,D6 hr,List.map_append,hDm];rfl,bAt ((hok.mono (jO zI))) (hcw2)⟩
 refine dH ?_
 refine nF ?_
 refine eT ?_
 refine xR ?_
 refine lR O Y2 O ?_
 refine oI O O O O P3 ?_
 refine lN ?_
 refine xT ?_
 refine aEJ (.inl O) (C4 O Y3 O rn) (List.sublist_append_left [_,_] _) ?_
 rw [List.take_of_length_le (by omega)] at hDm
 exact ⟨cu,D,rfl,by rw [hDl],hDm,hok⟩
open Go.CE Go.RowKit Go.Num
open Go.Eng (kN)
theorem bF0 {α:Type} {size:Nat} {R:RT α} {z:dA} {cs ws:List C} {l:List α} {a:α} {i:Nat} (h:CL size R z cs l) (hi:i<l.length) (hl:ws.length=size) (hR:R z ws a):CL size R z (kN cs (i * size) ws) (l.set i a):=by
 have hle:i * size+size≤l.length * size:=by rw [← Nat.succ_mul];exact Nat.mul_le_mul_right _ hi
 have hb:i * size+ws.length≤cs.length:=by rw [hl,h.1];exact hle
 have e:∀ j,((kN cs (i * size) ws).drop (j * size)).take size=if j=i then ws else (cs.drop (j * size)).take size:=by
  intro j
  apply List.ext_getElem?
  intro q
  by_cases hq:q<size
  ·rw [List.getElem?_take,if_pos hq,List.getElem?_drop,bJW _ _ _ hb,hl]
   by_cases hj:j=i
   ·subst hj
    rw [if_pos rfl,if_pos ⟨by omega,by omega⟩,show j * size+q - j * size=q by omega]
   rw [if_neg hj,List.getElem?_take,if_pos hq,List.getElem?_drop,if_neg ?_]
   rintro ⟨h1,h2⟩
   rcases Nat.lt_or_gt_of_ne hj with h3 | h3
   ·have:(j+1) * size≤i * size:=Nat.mul_le_mul_right _ h3
    rw [Nat.succ_mul] at this
    omega
   have:(i+1) * size≤j * size:=Nat.mul_le_mul_right _ h3
   rw [Nat.succ_mul] at this
   omega
  rw [List.getElem?_take,if_neg hq]
  by_cases hj:j=i
  ·rw [if_pos hj,List.getElem?_eq_none (by omega)]
  rw [if_neg hj,List.getElem?_take,if_neg hq]
 refine ⟨by rw [Go.Eng.setL_length _ _ _ hb,List.length_set,h.1],fun j b hj=>?_⟩
 rw [e j]
 by_cases hji:j=i
 ·subst hji
  rw [List.getElem?_set_self hi] at hj
  injection hj with hj
  subst hj
  rw [if_pos rfl]
  exact ⟨hl,hR⟩
 rw [List.getElem?_set_ne (fun e=>hji e.symm)] at hj
 rw [if_neg hji]
 exact h.2 j b hj
def RLn:RT Nat:=fun _ cs m=>∃ c,cs=[c]∧lenOf (.c c)=some m
def aEj (ms:List Nat) (e c:Int):Bool:=decide (0≤e) && (decide (e<(ms.length:Int)) && (decide (0≤c) && (ms[e.toNat]?).any fun m=>decide (c<(m:Int))))
section
variable {ms:List Nat} {e c:Int} {m:Nat}
theorem bUx (h:¬ 0≤e):false=aEj ms e c:=by rw [aEj,decide_eq_false h];rfl
theorem bS9 (h:¬ e<(ms.length:Int)):false=aEj ms e c:=by rw [aEj,decide_eq_false h,Bool.false_and,Bool.and_false]
theorem bUC (h:¬ 0≤c):false=aEj ms e c:=by rw [aEj,decide_eq_false h,Bool.false_and,Bool.and_false,Bool.and_false]
theorem bLx (h1:0≤e) (h2:e<(ms.length:Int)) (h3:0≤c) (h:ms[e.toNat]? = some m):decide (c<(m:Int))=aEj ms e c:=by rw [aEj,decide_eq_true h1,decide_eq_true h2,decide_eq_true h3,h];rfl
end
theorem bHI {l:List C} {i:Nat} {x:C} (h:l[i]? = some x):(l.drop i).take 1=[x]:=by
 obtain ⟨h1,h2⟩:=List.getElem?_eq_some_iff.1 h
 rw [List.drop_eq_getElem_cons h1,h2]
 rfl
theorem bLi {ty size:Nat} {d:Ro Rat} {m:Tr mU} (h:(yJ ty size d).ok m):lenOf (.c d.1)=some d.2.2.length:=by
 obtain ⟨_,h⟩:=h
 rcases h with ⟨h0,h1⟩ | ⟨b,h1,_⟩
 ·rw [h1,h0];rfl
 rw [h1];rfl
theorem Q1 {k:Nat} (hk:1≤k) {z:dA} {ct:C} {ms:List Nat} {e c0:Int} (hx:CZ 1 RLn z ct ms):FC (E k) 130 [.agg [ct],.agg [Ci e,Ci c0]] z fun u _=>u=nE (aEj ms e c0):=by
 refine eA (bD3) (by omega) (aU O) fun B j hj=>?_
 refine xR ?_
 refine iU O fun b2=>?_
 refine iU O fun b3=>?_
 refine R0 2 O ?_
 refine iN ?_
 refine G1 2 O ?_
 refine zG O O Ht O ?_
 refine G1 4 O ?_
 refine yP 8 O (fun hg8=>?_) (fun hg8=>?_)
 ·refine G1 2 O ?_
  refine zG O O Ht O ?_
  refine G1 2 O ?_
  refine zG O O (.inr Y1) O ?_
  refine gP O O O ?_
  refine aS O hx (lN ?_)
  refine G1 12 O ?_
  refine yP 16 O (fun hg16=>?_) (fun hg16=>?_)
  ·refine G1 2 O ?_
   refine zG O O Ht O ?_
   refine G1 12 O ?_
   refine yP 21 O (fun hg21=>?_) (fun hg21=>?_)
   ·refine G1 2 O ?_
    refine zG O O Ht O ?_
    refine G1 2 O ?_
    refine zG O O (.inr Y1) O ?_
    refine G1 2 O ?_
    refine zG O O Ht O ?_
    obtain ⟨m,hm⟩:=pE (l:=ms) (i:=e.toNat) (by omega)
    refine gP O O O ?_
    refine dE O O hx e.toNat (by omega) m hm fun b28 p28 cs at28 hR=>lN ?_
    obtain ⟨c28,hcs,hl28⟩:=hR
    subst hcs
    refine oD (i:=⟨_,_,.load _ _ _⟩) (off:=0) O O O O at28 ti O (by simp) O sR ?_
    refine gP O O O ?_
    refine aCT O hl28 (lN ?_)
    refine G0 12 O ?_
    refine xT ?_
    exact rI O (congrArg nE (bLx (by omega) (by omega) (by omega) hm))
   refine G0 6144 O ?_
   refine xT ?_
   exact rI O (congrArg nE (bUC (by omega)))
  refine G0 196624 O ?_
  refine xT ?_
  exact rI O (congrArg nE (bS9 (by omega)))
 refine G0 50335872 O ?_
 refine xT ?_
 exact rI O (congrArg nE (bUx (by omega)))
theorem aYJ {k:Nat} (hk:1≤k) {z:dA} {cu:C} {D:List (Ro Rat)} {e c0:Int} (hn:D.length≤9223372036854775807):Lp (E k) 130 [.agg [cu],.agg [Ci e,Ci c0]] z [.row (.c cu) 85 1 D.length (hdT D),sH (D.map (yJ 35 4))] fun v z' H'=>v=nE (aEj (D.map (·.2.2.length)) e c0)∧H'=[.row (.c cu) 85 1 D.length (hdT D),sH (D.map (yJ 35 4))]:=fun mem nx hh=>by
  have hm:=aAd.1 (hh.h (sH (D.map (yJ 35 4))) (by simp))
  have hl:∀ d,d∈D→lenOf (.c d.1)=some d.2.2.length:=fun d hd=>bLi (hm _ (List.mem_map.2 ⟨d,hd,rfl⟩))
  obtain ⟨g1,g2⟩:=hh.h (.row (.c cu) 85 1 D.length (hdT D)) (by simp)
  rcases g2 with ⟨h0,h1⟩ | ⟨b,h1,h3⟩
  · have hD:D=[]:=List.eq_nil_of_length_eq_zero h0
    subst hD
    have hx:CZ 1 RLn z cu []:=by show SZ 1 RLn z (.c cu) [];rw [h1];exact .nil
    obtain ⟨v,mem',nx',z',H',q1,q2,q3,q4,q5,q6,q7,H1,q8,q9,q10⟩:=(Lp.keep (Q1 (e:=e) (c0:=c0) hk hx) _) mem nx hh
    subst q9
    exact ⟨v,mem',nx',z',H',q1,q2,q3,q4,q5,q6,q7,q10,q8⟩
  · injection h1 with h1
    subst h1
    have hb:Yt z ([.blk b (.cells 85 (hdT D))]++[sH (D.map (yJ 35 4))]) mem nx:=hh.reH (List.Perm.refl _) fun a ha=>by
      rcases List.mem_cons.1 ha with rfl | ha
      · exact h3
      · exact hh.h a (List.mem_cons_of_mem _ ha)
    have hx:CZ 1 RLn (tz z [.blk b (.cells 85 (hdT D))]) (.sl b 0 D.length 1) (D.map (·.2.2.length)):=by
      refine .sl b 0 D.length (.cells 85 (hdT D)) (hdT D) _ (by simp) hn (.inr (by simp)) O (by simp [hdT]) fun i a hi=>?_
      rw [List.getElem?_map] at hi
      cases hd:D[i]? with
      | none=>rw [hd] at hi;cases hi
      | some d =>
        rw [hd] at hi
        injection hi with hi
        subst hi
        refine ⟨d.1,?_,hl d (List.mem_of_getElem? hd)⟩
        have:(hdT D)[0+i * 1]? = some d.1:=by rw [Nat.zero_add,Nat.mul_one,hdT,List.getElem?_map,hd];rfl
        exact bHI this
    obtain ⟨v,mem',nx',z',H',q1,q2,q3,q4,q5,q6,q7,H1,q8,⟨q9,z1,q10,_⟩⟩:=(Lp.keep ((Q1 (e:=e) (c0:=c0) hk hx).lent fun a ha=>⟨_,_,by simpa using ha⟩) [sH (D.map (yJ 35 4))]) mem nx hb
    subst q9
    subst q8
    refine ⟨v,mem',nx',z',[.row (Aw b D.length) 85 1 D.length (hdT D),sH (D.map (yJ 35 4))],q1,q2,fun b' hb' hn'=>q3 b' hb' hn',q4.reH (List.Perm.refl _) fun a ha=>?_,q5,fun b' k' hb'=>q6 b' k' hb',fun b' hb'=>.inr hb',q10,rfl⟩
    rcases List.mem_cons.1 ha with rfl | ha
    · have g3 := q4.h (.blk b (.cells 85 (hdT D))) (by simp)
      exact ⟨g1,.inr ⟨b,rfl,g3⟩⟩
    · exact q4.h a (List.mem_cons_of_mem _ ha)
theorem Po {k:Nat} (hk:11≤k) {z:dA} {cu cd:C} {hs cs:List C} {n0 m0 ie jc:Nat} {q:Rat} {w0 w1:C} (he:hs[ie]? = some cd) (hie:ie<n0) (hjc:jc<m0) (hcl:cs.length=m0 * 4) (hw:(cs.drop (jc * 4)).take 4=[Cb (decide (q.num<0)),w0,Cb (decide ((q.den:Int)<0)),w1]) (q0:CZ 1 RW z w0 (toL q.num.natAbs)) (q1:CZ 1 RW z w1 (toL (q.den:Int).natAbs)) (hq0:(toL q.num.natAbs).length≤9000000) (hq1:(toL (q.den:Int).natAbs).length≤9000000) {n1 n2:Bool} {c1 c2:C} {l1 l2:List UInt32} (hx:CZ 1 RW z c1 l1) (hy:CZ 1 RW z c2 l2) (h1:l1.length≤9000000) (h2:l2.length≤9000000):Lp (E k) 131 [.agg [cu],.agg [Ci ((ie:Nat):Int),Ci ((jc:Nat):Int)],.agg [Cb n1,c1,Cb n2,c2]] z [.row (.c cd) 35 4 m0 cs,.row (.c cu) 85 1 n0 hs] fun v z' H'=>v=.tup []∧∃ bo bd a b,cu=.sl bo 0 n0 1∧cd=.sl bd 0 m0 4∧H'=[.blk bd (.cells 35 (kN cs (jc * 4) [Cb (decide ((q+(valR ((n1,l1),(n2,l2)))).num<0)),a,Cb (decide (((q+(valR ((n1,l1),(n2,l2)))).den:Int)<0)),b])),.blk bo (.cells 85 hs)]∧CZ 1 RW (zd z z') a (toL (q+(valR ((n1,l1),(n2,l2)))).num.natAbs)∧CZ 1 RW (zd z z') b (toL ((q+(valR ((n1,l1),(n2,l2)))).den:Int).natAbs):=by
 refine aDK (bEj) (by omega) (aU O) fun B j hj=>?_
 refine xR ?_
 refine iU O fun b3=>?_
 refine iU O fun b4=>?_
 refine iU O fun b5=>?_
 refine aGu (p:=[_,_,_]) O (by omega) fun bd hbd=>?_
 injection hbd with hbd
 subst hbd
 refine aGu (p:=[_,_,_,_]) O (by omega) fun bo hbo=>?_
 injection hbo with hbo
 subst hbo
 refine lN ?_
 refine wC ?_
 refine G1 2 O ?_
 refine zG O O (.inr Y2) O ?_
 refine G1 2 O ?_
 refine zG O O (.inr Y1) O ?_
 refine gP O O F ?_
 refine oO O O ie O (by omega) (lN ?_)
 refine aXk (i:=⟨_,_,.load _ _ _⟩) O O F O (.inr Y4) (by rw [Nat.zero_add,Nat.mul_one];exact he) sR ?_
 refine G1 2 O ?_
 refine zG O O (.inr Y1) O ?_
 refine G1 2 O ?_
 refine zG O O (.inr Y2) O ?_
 refine G1 2 O ?_
 refine zG O O (.inr Y1) O ?_
 refine gP O O F ?_
 refine oO O O ie O (by omega) (lN ?_)
 refine aXk (i:=⟨_,_,.load _ _ _⟩) O O F O (.inr Y4) (by rw [Nat.zero_add,Nat.mul_one];exact he) sR ?_
 refine G1 2 O ?_
 refine zG O O (.inr Y1) O ?_
 refine gP O O F ?_
 refine oO O O jc O (by omega) (lN ?_)
 refine bHm (i:=⟨_,_,.load _ _ _⟩) O O F O (.inr Y3) (by rw [Nat.zero_add];exact hw) sR ?_
 refine gl4 O O Ht O ?_
 refine gC z (bD0 (by omega) q0 q1 hq0 hq1 hx hy h1 h2) O O O O fun v25 z25 _ hv25=>?_
 rw [aId] at hv25
 obtain ⟨c25,d25,hv,hm25,hn25⟩:=hv25
 subst hv
 refine gP O O F ?_
 refine oO O O jc O (by omega) (lN ?_)
 refine gS O O O ?_
 refine aGQ O O O P3 O (by omega) ?_
 refine lN ?_
 refine mL ?_
 refine aEJ (.inr O) rn (List.sublist_append_right [_,_,_] _) ?_
 rw [Nat.zero_add]
 exact ⟨rfl,bo,bd,_,_,rfl,rfl,rfl,hm25,hn25⟩
open Go.CE Go.RowKit Go.Num
open Go.Eng (kN)
def Aa (T:List (List Rat)) (e c:Int) (q:Rat):List (List Rat):=T.mapIdx fun i r=>r.mapIdx fun m y=>if (i:Int)=e∧(m:Int)=c then y+q else y
theorem bAA {call:eE} {B:pK} {fs:Sf} {l:List I} {Q:Sf→Prop} {x a b:HA} {q:List HA} (e:fs.H=x::a::b::q) (hw:FL call B l (fs.heap (a::b::x::q)) Q):FL call B l fs Q:=aD8 (by rw [e];exact (List.Perm.swap _ _ _).trans (List.Perm.cons _ (List.Perm.swap _ _ _))) hw
section
variable {t:List (List qZ)} {D:List (Ro Rat)} {d:Ro Rat} {ie m:Nat} {e c:Int} {y q:Rat}
theorem bAo (h:aEj (D.map (·.2.2.length)) e c=true):∃ (ie jc:Nat) (d:Ro Rat),e=(ie:Int)∧c=(jc:Int)∧D[ie]? = some d∧jc<d.2.2.length:=by
 simp only [aEj,Bool.and_eq_true,decide_eq_true_eq] at h
 obtain ⟨h1,h2,h3,h4⟩:=h
 rw [List.getElem?_map] at h4
 cases hd:D[e.toNat]? with
 | none=>rw [hd] at h4;cases h4
 | some d =>
  rw [hd] at h4
  simp at h4
  exact ⟨e.toNat,c.toNat,d,by omega,by omega,hd,by omega⟩
theorem aZY (h:D[ie]? = some d):(hdT D)[ie]? = some d.1:=by rw [hdT,List.getElem?_map,h];rfl
theorem aW5 (hm:D.map (·.2.2)=t.map (·.map rv)) (hd:D[ie]? = some d):∃ r,t[ie]? = some r∧d.2.2=r.map rv:=by
 have h:=congrArg (fun l=>l[ie]?) hm
 simp only [List.getElem?_map,hd] at h
 cases hr:t[ie]? with
 | none=>rw [hr] at h;cases h
 | some r=>rw [hr] at h;injection h with h;exact ⟨r,rfl,h⟩
theorem bNd (hm:D.map (·.2.2)=t.map (·.map rv)) (hd:D[ie]? = some d) (hy:d.2.2[m]? = some y):∃ r x,r∈t∧x∈r∧y=rv x:=by
 obtain ⟨r,h1,h2⟩:=aW5 hm hd
 rw [h2,List.getElem?_map] at hy
 cases hx:r[m]? with
 | none=>rw [hx] at hy;cases hy
 | some x=>rw [hx] at hy;injection hy with hy;exact ⟨r,x,List.mem_of_getElem? h1,List.mem_of_getElem? hx,hy.symm⟩
theorem aW7 (hm:D.map (·.2.2)=t.map (·.map rv)) {P:List qZ→Prop} (hR:∀ r,r∈t→r.length≤1000∧P r) (hd:d∈D):d.2.2.length≤1000:=by
 obtain ⟨i,hi⟩:=List.mem_iff_getElem?.1 hd
 obtain ⟨r,h1,h2⟩:=aW5 hm hi
 rw [h2,List.length_map]
 exact (hR r (List.mem_of_getElem? h1)).1
theorem bHn {cs:List C} {k:Nat} {a b c d:C} (hm:m<k) (h:cs.length=k * 4):(kN cs (m * 4) [a,b,c,d]).length=k * 4:=by
 rw [Go.Eng.setL_length _ _ _ (by simp;omega),h]
theorem bIY {z:dA} {d':Ro Rat} {ld:List Rat} {csd:List C} {cd:C} (hm:D.map (·.2.2)=t.map (·.map rv)) {P:List qZ→Prop} (hR:∀ r,r∈t→r.length≤1000∧P r) (hd:D[ie]? = some (cd,csd,ld)) (hok:TOk z D) (hj:m<ld.length) (hl:csd.length=ld.length * 4) {cw:C} {ws:List C} (hw:RV z ws q) (hwl:ws.length=4) (h:d'∈D.set ie (cw,kN csd (m * 4) ws,ld.set m q)):CL 4 RV z d'.2.1 d'.2.2∧d'.2.2.length≤9223372036854775807:=by
 rcases List.mem_or_eq_of_mem_set h with h | h
 ·exact ⟨hok _ h,by have:=aW7 hm hR h;omega⟩
 subst h
 have h1:=aW7 hm hR (List.mem_of_getElem? hd)
 refine ⟨bF0 (hok _ (List.mem_of_getElem? hd)) hj hwl hw,?_⟩
 show (ld.set m q).length≤_
 rw [List.length_set]
 have h1:ld.length≤1000:=h1
 omega
theorem aXv {jc:Nat} {ld:List Rat} {cd:C} {csd:List C} {q:Rat} (hm:D.map (·.2.2)=t.map (·.map rv)) (hd:D[ie]? = some (cd,csd,ld)) (hy:ld[jc]? = some y):Aa (t.map (·.map rv)) (ie:Int) (jc:Int) q=(t.map (·.map rv)).set ie (ld.set jc (y+q)):=by
 obtain ⟨r,h1,h2⟩:=aW5 hm hd
 have h2:ld=r.map rv:=h2
 refine List.ext_getElem? fun i=>?_
 rw [Aa,List.getElem?_mapIdx,List.getElem?_set]
 by_cases hi:ie=i
 ·subst hi
  have hlt:=(List.getElem?_eq_some_iff.1 h1).1
  rw [if_pos rfl,if_pos (by simpa using hlt),List.getElem?_map,h1]
  simp only [Option.map_some,Option.some.injEq]
  rw [← h2]
  refine List.ext_getElem? fun k=>?_
  rw [List.getElem?_mapIdx,List.getElem?_set]
  by_cases hk:jc=k
  ·subst hk
   rw [if_pos rfl,if_pos (List.getElem?_eq_some_iff.1 hy).1,hy]
   simp
  rw [if_neg hk]
  cases ld[k]? with
  | none=>rfl
  | some v=>simp only [Option.map_some,Option.some.injEq];rw [if_neg (by omega)]
 rw [if_neg hi]
 cases (t.map (·.map rv))[i]? with
 | none=>rfl
 | some r =>
  simp only [Option.map_some,Option.some.injEq]
  refine List.ext_getElem? fun k=>?_
  rw [List.getElem?_mapIdx]
  cases r[k]? with
  | none=>rfl
  | some v=>simp only [Option.map_some,Option.some.injEq];rw [if_neg (by omega)]
theorem bJf {q:Rat} (hm:D.map (·.2.2)=t.map (·.map rv)) (h:aEj (D.map (·.2.2.length)) e c=false):Aa (t.map (·.map rv)) e c q=t.map (·.map rv):=by
 rw [← hm]
 refine List.ext_getElem? fun i=>?_
 rw [Aa,List.getElem?_mapIdx,List.getElem?_map]
 cases hd:D[i]? with
 | none=>rfl
 | some d =>
  simp only [Option.map_some,Option.some.injEq]
  refine List.ext_getElem? fun k=>?_
  rw [List.getElem?_mapIdx]
  cases hk:d.2.2[k]? with
  | none=>rfl
  | some v =>
   simp only [Option.map_some,Option.some.injEq]
   rw [if_neg]
   rintro ⟨rfl,rfl⟩
   have h1:=(List.getElem?_eq_some_iff.1 hd).1
   have h2:=(List.getElem?_eq_some_iff.1 hk).1
   rw [← bLx (ms:=D.map (·.2.2.length)) (m:=d.2.2.length) (by omega) (by simp;omega) (by omega) (by rw [List.getElem?_map,Int.toNat_natCast,hd];rfl),decide_eq_true (by omega)] at h
   cases h
section
variable {call:eE} {B:pK} {fs:Sf} {l:List I} {Q:Sf→Prop} {cu:C} {Hr:List HA}
theorem bH1 {α:Type} {l:List α} {i:Nat} {a:α} (h:l[i]? = some a):l=l.take i++a::l.drop (i+1):=by
 obtain ⟨h1,h2⟩:=List.getElem?_eq_some_iff.1 h
 rw [← h2,← List.drop_eq_getElem_cons h1,List.take_append_drop]
theorem bFL (e:fs.H=.row (.c cu) 85 1 D.length (hdT D)::sH (D.map (yJ 35 4))::Hr) (hd:D[ie]? = some d) (hw:FL call B l (fs.heap (.row (.c d.1) 35 4 d.2.2.length d.2.1::.row (.c cu) 85 1 D.length (hdT D)::sH ((D.take ie).map (yJ 35 4)++(D.drop (ie+1)).map (yJ 35 4))::Hr)) Q):FL call B l fs Q:=
  bAn (p := [.row (.c cu) 85 1 D.length (hdT D)]) (L1 := (D.take ie).map (yJ 35 4)) (a := yJ 35 4 d) (L2 := (D.drop (ie + 1)).map (yJ 35 4)) (q := Hr) (by
    rw [e]
    have h:=congrArg (List.map (yJ 35 4)) (bH1 hd)
    rw [List.map_append,List.map_cons] at h
    rw [← h]
    rfl) hw
theorem bAD {d':Ro Rat} {bo bd:Nat} (e:fs.H=.blk bd (.cells 35 d'.2.1)::.blk bo (.cells 85 (hdT D))::sH ((D.take ie).map (yJ 35 4)++(D.drop (ie+1)).map (yJ 35 4))::Hr) (hd:D[ie]? = some d) (h1:d.1=d'.1) (h2:d'.1=.sl bd 0 d'.2.2.length 4) (hl:d'.2.1.length=d'.2.2.length * 4)
  (hw:FL call B l (fs.heap (.row (Aw bo D.length) 85 1 (D.set ie d').length ((D.set ie d').map (·.1))::sH ((D.set ie d').map (yJ 35 4))::Hr)) Q):FL call B l fs Q:=by
 refine Dq (p:=[]) (n:=d'.2.2.length) (size:=4) e hl ?_
 refine Dq (p:=[.row (.c (.sl bd 0 d'.2.2.length 4)) 35 4 d'.2.2.length d'.2.1]) (n:=D.length) (size:=1) O (by simp [hdT]) ?_
 refine bQQ (a:=yJ 35 4 d') (p:=[.row (Aw bo D.length) 85 1 D.length (hdT D)]) (L1:=(D.take ie).map (yJ 35 4)) (L2:=(D.drop (ie+1)).map (yJ 35 4)) (q:=Hr) (by rw [yJ,h2];rfl) ?_
 have hs:D.set ie d'=D.take ie++d'::D.drop (ie+1):=by rw [List.set_eq_take_append_cons_drop,if_pos (List.getElem?_eq_some_iff.1 hd).1]
 have hh:(D.set ie d').map (·.1)=hdT D:=by
  rw [List.map_set]
  refine List.ext_getElem? fun i=>?_
  rw [List.getElem?_set]
  by_cases hi:ie=i
  ·subst hi
   rw [if_pos rfl,if_pos (by simpa using (List.getElem?_eq_some_iff.1 hd).1),aZY hd,h1]
  rw [if_neg hi]
 rw [List.length_set,hh,hs,List.map_append,List.map_cons] at hw
 exact hw
end
end
theorem Np {k:Nat} (hk:12≤k) {z:dA} {ct:C} {t:List (List qZ)} {e c0:Int} (hx:CZ 1 (RC 4 S5) z ct t) (hT:t.length≤1000) (hR:∀ r,r∈t→r.length≤1000∧∀ x,x∈r→x.nm.length≤1000000∧x.dm.length≤1000000) {n1 n2:Bool} {c1 c2:C} {l1 l2:List UInt32} (hu:CZ 1 RW z c1 l1) (hw:CZ 1 RW z c2 l2) (h1:l1.length≤9000000) (h2:l2.length≤9000000):FC (E k) 62 [.agg [ct],Ai e,Ai c0,.agg [Cb n1,c1,Cb n2,c2]] z fun v z'=>∃ cu,v=.agg [cu]∧CZ 1 (RC 4 RV) (zd z z') cu (Aa (t.map (·.map rv)) e c0 (rv ⟨n1,l1,n2,l2⟩)):=by
 refine eA (bGM) (by omega) (aU O) fun B j hj=>?_
 refine xR ?_
 refine iU O fun b4=>?_
 refine iU O fun b7=>?_
 refine kC fun b8=>?_
 refine lN ?_
 refine xR ?_
 refine lR O Y2 O ?_
 refine uW z [] (aC4 (by omega) hx hT hR) O O O fun v11 z11 H11 hz11 ⟨cu,D,hv11,hH11,hDm,hok⟩=>?_
 subst hv11 hH11
 refine oI O O O O (mR P3) ?_
 refine lN ?_
 refine R4 16 O ?_
 refine mN (cs:=[_,_]) O ?_
 refine oH fun b9=>?_
 refine iI O O iW ?_
 refine lN ?_
 refine R4 4 O ?_
 have hDl:D.length=t.length:=by have:=congrArg List.length hDm;simpa using this
 refine bAA O ?_
 refine lR O (mC Y4) O ?_
 refine iP O Y2 O ?_
 refine uW z11 [.row (.c cu) 85 1 D.length (hdT D),sH (D.map (yJ 35 4))] (aYJ (by omega) (by omega)) O O O fun v17 z17 H17 hz17 ⟨hv17,hH17⟩=>?_
 subst hv17 hH17
 refine lN ?_
 refine Ew ?_
 refine jB O (fun hc17=>?_) (fun hc17=>?_)
 ·refine xR ?_
  refine lR O (mC Y4) O ?_
  refine iP O Y2 O ?_
  refine sL O Y4 O ?_
  obtain ⟨ie,jc,d,he1,he2,hd,hjc⟩:=bAo hc17
  subst he1 he2
  obtain ⟨cd,csd,ld⟩:=d
  obtain ⟨y,hy⟩:=pE (l:=ld) (i:=jc) hjc
  obtain ⟨r,x0,hr1,hx1,hyx⟩:=bNd hDm hd hy
  have hb0:=(hR r hr1).2 x0 hx1
  obtain ⟨hkl,hkc⟩:=hok _ (List.mem_of_getElem? hd)
  obtain ⟨hk4,w0,w1,hwc,q0,q1⟩:=hkc jc y hy
  have hq0:(toL y.num.natAbs).length≤9000000:=by rw [hyx];exact Nat.le_trans Ov (Nat.le_trans hb0.1 (by decide))
  have hq1:(toL (y.den:Int).natAbs).length≤9000000:=by rw [hyx];exact Nat.le_trans Ox (Nat.le_trans (Nat.succ_le_succ hb0.2) (by decide))
  refine bFL O hd ?_
  refine uW z17 [.row (.c cd) 35 4 ld.length csd,.row (.c cu) 85 1 D.length (hdT D)] (Po (by omega) (aZY hd) (List.getElem?_eq_some_iff.1 hd).1 hjc hkl hwc q0.m q1.m hq0 hq1 hu.m hw.m h1 h2) O O O fun v21 z21 H21 _ ⟨hv21,bo21,bd21,a21,b21,hcu21,hcd21,hH21,ha21,hb21⟩=>?_
  subst hv21 hH21
  replace hcd21:cd=.sl bd21 0 ld.length 4:=hcd21
  subst hcu21 hcd21
  have ha21:=ha21.mono (qY (hz11.trans hz17))
  have hb21:=hb21.mono (qY (hz11.trans hz17))
  refine bAD (d':=(.sl bd21 0 ld.length 4,kN csd (jc * 4) [Cb (decide ((y+Num.valR ((n1,l1),(n2,l2))).num<0)),a21,Cb (decide (((y+Num.valR ((n1,l1),(n2,l2))).den:Int)<0)),b21],ld.set jc (y+Num.valR ((n1,l1),(n2,l2))))) O hd O (by rw [List.length_set]) (by rw [List.length_set];exact bHn hjc hkl) ?_
  refine lN ?_
  refine xR ?_
  refine lR O (mC Y4) O ?_
  refine oI O O O O P3 ?_
  refine lN ?_
  refine bAh (D:=(D.set ie (.sl bd21 0 ld.length 4,kN csd (jc * 4) [Cb (decide ((y+Num.valR ((n1,l1),(n2,l2))).num<0)),a21,Cb (decide (((y+Num.valR ((n1,l1),(n2,l2))).den:Int)<0)),b21],ld.set jc (y+Num.valR ((n1,l1),(n2,l2)))))) (z0:=z) (p:=[]) O zI (fun d5 hd5=>bIY hDm hR hd ((hok.mono (jO zI))) hjc hkl ⟨_,_,rfl,ha21,hb21⟩ rfl hd5) (by first | omega | (rw [List.length_set];omega)) fun zr hzr hsr=>?_
  refine xT ?_
  refine rQ (.inl O) (C4 O Y1 O rn) ?_
  rw [List.map_set,hDm] at hsr
  exact ⟨_,rfl,by rw [aXv hDm hd hy];exact hsr⟩
 refine R4 4 O ?_
 refine lR O (mC Y4) O ?_
 refine oI O O O O P3 ?_
 refine lN ?_
 refine bAh (D:=D) (z0:=z) (p:=[]) O zI (fun d5 hd5=>⟨((hok.mono (jO zI))) d5 hd5,by have:=aW7 hDm hR hd5;omega⟩) (by first | omega | (rw [List.length_set];omega)) fun zr hzr hsr=>?_
 refine xT ?_
 refine rQ (.inl O) (C4 O Y1 O rn) ?_
 rw [hDm] at hsr
 exact ⟨_,rfl,by rw [bJf hDm hc17];exact hsr⟩
open Go.CE Go.RowKit Go.Num
open Go.Eng (kN)
def R9 (T:List (List Rat)) (l:List PEn):List (List Rat):=l.foldl (fun T a=>Aa T a.ent a.cls (rv a.am)) T
theorem bVO {T:List (List Rat)} {l:List PEn}:R9 T (l.take 0)=T:=rfl
theorem bJL {T:List (List Rat)} {l:List PEn} {i:Nat} {a:PEn} (h:l[i]? = some a):R9 T (l.take (i+1))=Aa (R9 T (l.take i)) a.ent a.cls (rv a.am):=by
 rw [R9,D6 h,List.foldl_append]
 rfl
theorem bIH {T:List (List Rat)} {c:Int} {q:Rat}:Aa T (-1) c q=T:=by
 refine List.ext_getElem? fun i=>?_
 rw [Aa,List.getElem?_mapIdx]
 cases T[i]? with
 | none=>rfl
 | some r =>
  simp only [Option.map_some,Option.some.injEq]
  refine List.ext_getElem? fun k=>?_
  rw [List.getElem?_mapIdx]
  cases r[k]? with
  | none=>rfl
  | some v=>simp only [Option.map_some,Option.some.injEq];rw [if_neg (by omega)]
def J4 (q:Rat):qZ:=⟨decide (q.num<0),toL q.num.natAbs,decide ((q.den:Int)<0),toL (q.den:Int).natAbs⟩
theorem bFV (q:Rat):rv (J4 q)=q:=aId q
theorem aSJ {α β:Type} {size:Nat} {R:RT α} {S:RT β} {f:α→β} {z:dA} {v:AV} {l:List α} (h:SZ size R z v l) (g:∀ cs a,R z cs a→S z cs (f a)):SZ size S z v (l.map f):=by
 cases h with
 | nil=>exact .nil
 | em=>exact .em
 | sl b o n k full l hl hm hz hk hf hh =>
  refine .sl b o n k full _ (by rw [List.length_map];exact hl) hm hz hk hf fun i a hi=>?_
  rw [List.getElem?_map] at hi
  cases hx:l[i]? with
  | none=>rw [hx] at hi;cases hi
  | some x=>rw [hx] at hi;injection hi with hi;subst hi;exact g _ _ (hh i x hx)
theorem aDY {z:dA} {c:C} {T:List (List Rat)} (h:CZ 1 (RC 4 RV) z c T):CZ 1 (RC 4 S5) z c (T.map (·.map J4)):=aSJ h fun cs r ⟨c,h1,h2⟩=>⟨c,h1,aSJ h2 fun cs q ⟨c,d,g1,g2,g3⟩=>⟨c,d,g1,g2,g3⟩⟩
theorem aKd (T:List (List Rat)):(T.map (·.map J4)).map (·.map rv)=T:=by
 rw [List.map_map]
 refine (List.map_congr_left fun r _=>?_).trans (List.map_id _)
 show (r.map J4).map rv=r
 rw [List.map_map]
 exact (List.map_congr_left fun q _=>bFV q).trans (List.map_id _)
def TBd (m:Nat) (T:List (List Rat)):Prop:=T.length≤1000∧∀ r,r∈T→r.length≤1000∧∀ q,q∈r→(toL q.num.natAbs).length≤m∧(toL (q.den:Int).natAbs).length≤m
theorem bKy {m:Nat} {T:List (List Rat)} (h:TBd m T) (hm:m≤1000000):(T.map (·.map J4)).length≤1000∧∀ r,r∈T.map (·.map J4)→r.length≤1000∧∀ x,x∈r→x.nm.length≤1000000∧x.dm.length≤1000000:=by
 refine ⟨by rw [List.length_map];exact h.1,fun r hr=>?_⟩
 obtain ⟨s,hs,rfl⟩:=List.mem_map.1 hr
 have h1:=h.2 s hs
 refine ⟨by rw [List.length_map];exact h1.1,fun x hx=>?_⟩
 obtain ⟨q,hq,rfl⟩:=List.mem_map.1 hx
 exact ⟨Nat.le_trans (h1.2 q hq).1 hm,Nat.le_trans (h1.2 q hq).2 hm⟩
theorem bAT {p q:Rat} {a b:Nat} (h1:(toL p.num.natAbs).length≤a) (h2:(toL (p.den:Int).natAbs).length≤a) (h3:(toL q.num.natAbs).length≤b) (h4:(toL (q.den:Int).natAbs).length≤b):(toL (p+q).num.natAbs).length≤a+b+1∧(toL ((p+q).den:Int).natAbs).length≤a+b+1:=by
 rw [← bH2 (p:=p) (q:=q)]
 have hd:=Xs (a:=p.num * (q.den:Int)+q.num * (p.den:Int)) (bKS p q)
 refine ⟨Nat.le_trans (zH hd.1) ?_,Nat.le_trans (zH (b:=((p.den:Int) * (q.den:Int)).natAbs) (by rw [Int.natAbs_natCast];exact hd.2)) (Nat.le_succ_of_le (J7 h2 h4))⟩
 exact aTe (J7 h1 h4) (Nat.le_trans (J7 h3 h2) (by omega))
theorem aXC {m k:Nat} {T:List (List Rat)} {e c:Int} {q:Rat} (h:TBd m T) (h1:(toL q.num.natAbs).length≤k) (h2:(toL (q.den:Int).natAbs).length≤k):TBd (m+k+1) (Aa T e c q):=by
 refine ⟨by rw [Aa,List.length_mapIdx];exact h.1,fun r hr=>?_⟩
 obtain ⟨i,hi⟩:=List.mem_iff_getElem?.1 hr
 rw [Aa,List.getElem?_mapIdx] at hi
 cases hx:T[i]? with
 | none=>rw [hx] at hi;cases hi
 | some s =>
  rw [hx] at hi
  injection hi with hi
  subst hi
  have hs:=h.2 s (List.mem_of_getElem? hx)
  refine ⟨by rw [List.length_mapIdx];exact hs.1,fun v hv=>?_⟩
  obtain ⟨j,hj⟩:=List.mem_iff_getElem?.1 hv
  rw [List.getElem?_mapIdx] at hj
  cases hy:s[j]? with
  | none=>rw [hy] at hj;cases hj
  | some y =>
   rw [hy] at hj
   injection hj with hj
   subst hj
   have hq:=hs.2 y (List.mem_of_getElem? hy)
   by_cases hc:(i:Int)=e∧(j:Int)=c
   ·simp only [if_pos hc]
    exact bAT hq.1 hq.2 h1 h2
   simp only [if_neg hc]
   exact ⟨Nat.le_trans hq.1 (by omega),Nat.le_trans hq.2 (by omega)⟩
theorem bEH {m:Nat} {T:List (List Rat)} {l:List PEn} (h:TBd m T) (hs:∀ a,a∈l→a.am.nm.length≤100∧a.am.dm.length≤100):TBd (m+l.length * 102) (R9 T l):=by
 induction l generalizing m T with
 | nil=>exact h
 | cons a l ih =>
  have h1:=hs a (List.mem_cons_self ..)
  have h2:=aXC (e:=a.ent) (c:=a.cls) (q:=rv a.am) (k:=101) h (Nat.le_trans Ov (Nat.le_succ_of_le h1.1)) (Nat.le_trans Ox (Nat.succ_le_succ h1.2))
  have h3:=ih h2 fun x hx=>hs x (List.mem_cons_of_mem _ hx)
  have e:m+101+1+l.length * 102=m+(a::l).length * 102:=by rw [List.length_cons];omega
  rw [e] at h3
  exact h3
theorem bQX {t:List (List qZ)} (hT:t.length≤1000) (hR:∀ r,r∈t→r.length≤1000∧∀ x,x∈r→x.nm.length≤1000∧x.dm.length≤1000):TBd 1001 (t.map (·.map rv)):=by
 refine ⟨by rw [List.length_map];exact hT,fun r hr=>?_⟩
 obtain ⟨s,hs,rfl⟩:=List.mem_map.1 hr
 refine ⟨by rw [List.length_map];exact (hR s hs).1,fun q hq=>?_⟩
 obtain ⟨x,hx,rfl⟩:=List.mem_map.1 hq
 have h1:=(hR s hs).2 x hx
 exact ⟨Nat.le_trans Ov (Nat.le_succ_of_le h1.1),Nat.le_trans Ox (Nat.succ_le_succ h1.2)⟩
theorem bR1 {t:List (List qZ)} (hR:∀ r,r∈t→r.length≤1000∧∀ x,x∈r→x.nm.length≤1000∧x.dm.length≤1000):∀ r,r∈t→r.length≤1000∧∀ x,x∈r→x.nm.length≤1000000∧x.dm.length≤1000000:=fun r hr=>⟨(hR r hr).1,fun x hx=>⟨Nat.le_trans ((hR r hr).2 x hx).1 (by decide),Nat.le_trans ((hR r hr).2 x hx).2 (by decide)⟩⟩
theorem aXi {k:Nat} (hk:13≤k) {z:dA} {ct:C} {t:List (List qZ)} (hx:CZ 1 (RC 4 S5) z ct t) (hT:t.length≤1000) (hR:∀ r,r∈t→r.length≤1000∧∀ x,x∈r→x.nm.length≤1000∧x.dm.length≤1000) {v:AV} {l:List PEn} (he:SZ 6 REn z v l) (hl:l.length≤1000) (hs:∀ a,a∈l→a.am.nm.length≤100∧a.am.dm.length≤100):FC (E k) 17 [.agg [ct],v] z fun u z'=>∃ cu,u=.agg [cu]∧CZ 1 (RC 4 RV) z' cu (R9 (t.map (·.map rv)) l):=by
 have hxl:=he.le
 refine eA (bHZ) (by omega) (aU O) fun B j hj=>?_
 refine xR ?_
 refine iU O fun b2=>?_
 refine kC fun b4=>?_
 refine lN ?_
 refine iN ?_
 refine Hi (i:=⟨_,_,.load _ _ _⟩) O O F O (.inr Y1) O (Nat.le_refl _) O sR ?_
 refine gC z (aDM (n:=0) (by omega) (by decide) (by decide)) O O O O fun v8 z8 hz8 hv8=>?_
 have hv8:=yI hv8
 obtain ⟨c8,d8,hv,hm8,hn8⟩:=hv8
 subst hv
 refine gC z8 (Np (by omega) hx.m hT (bR1 hR) (hm8.mono jF) (hn8.mono jF) (by rw [show toL ((0:Int):Rat).num.natAbs=[] from sY];decide) (Nat.le_trans (m:=1) (pG.2 (by decide)) (by decide))) O O O O fun v9 z9 hz9 ⟨cu9,hv9,hk9⟩=>?_
 subst hv9
 rw [show Int.negSucc 0 = -1 from rfl,bIH] at hk9
 have hk9:=hk9.mono (qY (hz8))
 refine gS O O O ?_
 refine oI O O O O P1 ?_
 refine lN ?_
 refine mL ?_
 refine R4 12 O ?_
 refine aS O he ?_
 refine R0 2 O ?_
 refine aT (aQ ?_)
 refine dX (fun n fs=>∃ (i:Nat) (cu:C) (zz:dA),LZ z9 zz [.blk b4 (.cells 24 [Cz]),.blk b2 (.cells 24 [cu])] [(2,Ap b2),(4,Ap b4),(10,v),(11,Az l.length),(12,Az i)] fs∧n=l.length - i∧(i≤l.length)∧(CZ 1 (RC 4 RV) zz cu (R9 (t.map (·.map rv)) (l.take i)))) ?_ _ ⟨0,cu9,_,LZ.m [] O,rfl,Nat.zero_le _,by rw [bVO];exact (hk9.mono jF)⟩ (kK (by omega))
 intro n fs ⟨i,cu,zz,hL0,hmz0,hi,hcu⟩
 refine hL0.open fun e hzz=>?_
 refine R5 8 O ?_
 refine xD O (fun hc13=>?_) (fun hc13=>?_)
 ·refine cP ?_
  refine aT (aQ ?_)
  refine xR ?_
  obtain ⟨a,ha⟩:=pE (l:=l) (i:=i) (by omega)
  have hsm:=hs a (List.mem_of_getElem? ha)
  refine dE (zz:=zz) O O he.m i O a ha fun b14 p14 cs at14 hR=>?_
  obtain ⟨c14,d14,hcs,q14,r14⟩:=hR
  subst hcs
  refine nQ (off:=0) O at14 O (by simp) O ?_
  refine kC fun b6=>?_
  refine oI O O O O iW ?_
  refine lN ?_
  refine xG ?_
  refine lR O Y2 O ?_
  refine lF O ?_
  refine dK O mem0 O ?_
  refine lF O ?_
  refine dK O mem0 O ?_
  refine lF O ?_
  refine sL O mem0 O ?_
  have hTB:=bKy (bEH (l:=l.take i) (bQX hT hR) fun a ha=>hs a (List.mem_of_mem_take ha)) (by rw [List.length_take];omega)
  refine lZ zz (Np (by omega) (aDY hcu) hTB.1 hTB.2 q14 r14 (Nat.le_trans hsm.1 (by decide)) (Nat.le_trans hsm.2 (by decide))) O O fun v23 z23 _ ⟨cu23,hv23,hk23⟩=>?_
  subst hv23
  rw [aKd] at hk23
  have hk23:=hk23.mono (qY (hz8.trans (hz9.trans hzz)))
  refine oI O O O O P2 ?_
  refine lN ?_
  refine eT ?_
  refine xG ?_
  refine lB O O (gI (n:=i+1) (by omega) (by omega)) ?_
  refine R0 2 O ?_
  exact mK (by omega) ⟨i+1,cu23,_,LZ.m [_] O,rfl,by omega,by rw [bJL ha];exact (hk23.mono jF)⟩
 refine dH ?_
 refine nF ?_
 refine eT ?_
 refine xR ?_
 refine lR O Y1 O ?_
 refine oI O O O O iW ?_
 refine lN ?_
 refine xT ?_
 refine rQ (.inl O) (C4 O mem0 O rn) ?_
 rw [List.take_of_length_le (by omega)] at hcu
 exact ⟨_,rfl,hcu⟩
theorem Ya {k:Nat} (hk:8≤k) {z:dA} {ct:C} {t:List (List qZ)} {r:List qZ} {y:qZ} {ie jc:Nat} (hx:CZ 1 (RC 4 S5) z ct t) (hr:t[ie]? = some r) (hy:r[jc]? = some y) (h1:y.nm.length≤1000) (h2:y.dm.length≤1000):FC (E k) 63 [.agg [ct],Az ie,Az jc] z fun v z'=>QV z' v (rv y):=by
 have hie:=(List.getElem?_eq_some_iff.1 hr).1
 have hjc:=(List.getElem?_eq_some_iff.1 hy).1
 refine eA (bFU) (by omega) (aU O) fun B j hj=>?_
 refine xR ?_
 refine iU O fun b3=>?_
 refine uM fun b6=>?_
 refine lN ?_
 refine R4 32 O ?_
 refine fR 9 O (fun hg9=>?_) (fun hg9=>?_)
 ·omega
 refine R1 4 O ?_
 refine lD O ?_
 refine dK O Y1 O ?_
 refine lD O ?_
 refine aS O hx ?_
 refine R1 12 O ?_
 refine fR 16 O (fun hg16=>?_) (fun hg16=>?_)
 ·omega
 refine R1 24 O ?_
 refine fR 20 O (fun hg20=>?_) (fun hg20=>?_)
 ·omega
 refine R1 4 O ?_
 refine lD O ?_
 refine dK O Y1 O ?_
 refine lD O ?_
 refine lC O ?_
 refine lD O ?_
 refine dE O O hx ie O r hr fun b25 p25 cs at25 hR=>?_
 obtain ⟨c25,hcs,q25⟩:=hR
 subst hcs
 refine lD O ?_
 refine nQ (off:=0) O at25 O (by simp) O ?_
 refine lD O ?_
 refine aS O q25 ?_
 refine R3 8 O ?_
 refine xD O (fun hc29=>?_) (fun hc29=>?_)
 ·omega
 refine R4 8 O ?_
 refine dK O Y1 O ?_
 refine lC O ?_
 refine dE O O hx ie O r hr fun b34 p34 cs at34 hR=>?_
 obtain ⟨c34,hcs,q34⟩:=hR
 subst hcs
 refine nQ (off:=0) O at34 O (by simp) O ?_
 refine lC O ?_
 refine dE O O q34 jc O y hy fun b37 p37 cs at37 hR=>?_
 obtain ⟨c37,d37,hcs,q37,r37⟩:=hR
 subst hcs
 refine nQ (off:=0) O at37 O (by simp) O ?_
 refine lZ z (Bq (by omega) q37 r37 (Nat.le_trans h1 (by decide)) (Nat.le_trans h2 (by decide))) O O fun v39 z39 _ hv39=>?_
 have hw39:=yI (hv39 _ q37.m r37.m jF)
 obtain ⟨c39,d39,hv,hm39,hn39⟩:=hw39
 subst hv
 refine pA O O iW ?_
 refine lN ?_
 refine xT ?_
 refine rQ (.inl O) (rc4 O mem0 rn) ?_
 exact ⟨_,_,rfl,hm39,hn39⟩
open Go.CE Go.RowKit Go.Num
open Go.Eng (kN)
theorem aO9 {α:Type} {size:Nat} {R:RT α} [RMono R] {call:eE} {B:pK} {fs:Sf} {l:List I} {Q:Sf→Prop} {u:AV} {ty n:Nat} {cs:List C} {r:List α} {p q:List HA} (e:fs.H=p++.row u ty size n cs::q) (hc:CL size R fs.z cs r) (hn:r.length=n) (hm:n≤9223372036854775807)
    (hw:∀ z',zle fs.z z'→SZ size R z' u r→FL call B l (fs.frz z' (p++q)) Q):FL call B l fs Q:=fun st rf=>by
  obtain ⟨g1,g2⟩:=rf.hold.h (.row u ty size n cs) (by rw [e];simp)
  rcases g2 with ⟨h0,rfl⟩ | ⟨b,rfl,h3⟩
  · have hr0 : r = [] := List.eq_nil_of_length_eq_zero (by omega)
    subst hr0
    refine hw fs.z zI .nil st ?_
    have hsub:(p++q).Sublist fs.H:=by rw [e];exact (List.Sublist.refl p).append (List.sublist_cons_self _ _)
    exact ⟨rf.env,rf.hold.sub hsub,rf.le,rf.old,fun b hb=>rf.own b ((Eh hsub).subset hb),rf.zle,rf.zin⟩
  · have h1 := rf.frz (p := p) (q := q) (b := b) (k := .cells ty cs) (a := .row (.c (.sl b 0 n size)) ty size n cs) e rfl (fun m hm => by
      obtain ⟨_,hm⟩:=hm
      rcases hm with ⟨_,hm⟩ | ⟨b',hb',hm⟩
      · cases hm
      · injection hb' with hb';injection hb' with hb';subst hb';exact hm)
    exact hw _ ⟨fun _ _ h=>.inl h⟩ ((hc.mono ⟨fun _ _ h=>.inl h⟩).sz hn hm (.inr ⟨rfl,rfl⟩)) st h1
def aTt (l:List PEn) (i m:Nat) (y:Rat):Rat:=l.foldl (fun q a=>if a.ent=(i:Int)∧a.cls=(m:Int) then q+rv a.am else q) y
def aTo (s:List Rat) (l:List PEn) (i:Nat):List Rat:=s.mapIdx fun m y=>aTt l i m y
def Tv (T:List (List Rat)) (l:List PEn):List (List Rat):=T.mapIdx fun i r=>aTo r l i
theorem aSN {l:List PEn} {i m kk:Nat} {y:Rat} {a:PEn} (h:l[kk]? = some a):aTt (l.take (kk+1)) i m y=if a.ent=(i:Int)∧a.cls=(m:Int) then aTt (l.take kk) i m y+rv a.am else aTt (l.take kk) i m y:=by
 rw [aTt,D6 h,List.foldl_append]
 rfl
theorem bKN {r:List qZ} {l:List PEn} {i m:Nat} {y:qZ} (h:r[m]? = some y):(aTo (r.map rv) l i)[m]? = some (aTt l i m (rv y)):=by
 rw [aTo,List.getElem?_mapIdx,List.getElem?_map,h]
 rfl
theorem bJu {t:List (List qZ)} {l:List PEn} {i:Nat} {r:List qZ} (h:t[i]? = some r):(Tv (t.map (·.map rv)) l)[i]? = some (aTo (r.map rv) l i):=by
 rw [Tv,List.getElem?_mapIdx,List.getElem?_map,h]
 rfl
theorem bQj (T:List (List Rat)) (l:List PEn):R9 T l=Tv T l:=by
 induction l generalizing T with
 | nil =>
  refine List.ext_getElem? fun i=>?_
  rw [Tv,List.getElem?_mapIdx]
  show T[i]? = _
  cases T[i]? with
  | none=>rfl
  | some r =>
   simp only [Option.map_some,Option.some.injEq]
   refine List.ext_getElem? fun k=>?_
   rw [aTo,List.getElem?_mapIdx]
   cases r[k]?<;>rfl
 | cons a l ih =>
  show R9 (Aa T a.ent a.cls (rv a.am)) l=_
  rw [ih]
  refine List.ext_getElem? fun i=>?_
  rw [Tv,Tv,List.getElem?_mapIdx,List.getElem?_mapIdx,Aa,List.getElem?_mapIdx]
  cases T[i]? with
  | none=>rfl
  | some r =>
   simp only [Option.map_some,Option.some.injEq]
   refine List.ext_getElem? fun k=>?_
   rw [aTo,aTo,List.getElem?_mapIdx,List.getElem?_mapIdx,List.getElem?_mapIdx]
   cases r[k]? with
   | none=>rfl
   | some v =>
    simp only [Option.map_some,Option.some.injEq]
    show aTt l i k _=aTt (a::l) i k v
    simp only [aTt,List.foldl_cons]
    congr 1
    by_cases h:(i:Int)=a.ent∧(k:Int)=a.cls
    ·rw [if_pos h,if_pos ⟨h.1.symm,h.2.symm⟩]
    rw [if_neg h,if_neg fun g=>h ⟨g.1.symm,g.2.symm⟩]
theorem aTl {k:Nat} (hk:10≤k) {z:dA} {ct:C} {t:List (List qZ)} (hx:CZ 1 (RC 4 S5) z ct t) (hT:t.length≤1000) (hR:∀ r,r∈t→r.length≤1000∧∀ x,x∈r→x.nm.length≤1000∧x.dm.length≤1000) {v:AV} {l:List PEn} (he:SZ 6 REn z v l) (hl:l.length≤1000) (hs:∀ a,a∈l→a.am.nm.length≤100∧a.am.dm.length≤100):FC (E k) 18 [.agg [ct],v] z fun u z'=>∃ cu,u=.agg [cu]∧CZ 1 (RC 4 RV) z' cu (Tv (t.map (·.map rv)) l):=by
 have hxl:=he.le
 have hAl:(Tv (t.map (·.map rv)) l).length=t.length:=by simp [Tv]
 refine eA (bF6) (by omega) (aU O) fun B j hj=>?_
 refine xR ?_
 refine iU O fun b2=>?_
 refine kC fun b4=>?_
 refine lN ?_
 refine xR ?_
 refine kC fun b5=>?_
 refine lN ?_
 refine R4 4 O ?_
 refine oW 152 1 ?_
 refine R0 2 O ?_
 refine aT (aQ ?_)
 refine dX (fun n fs=>∃ (i:Nat) (cu:C) (cso:List C) (zz:dA),LZ z zz [.row (.c cu) 152 1 i cso,.blk b5 (.cells 40 [cu]),.blk b4 (.cells 40 [Cz]),.blk b2 (.cells 40 [ct])] [(1,v),(2,Ap b2),(4,Ap b4),(5,Ap b5),(6,Az i)] fs∧n=t.length - i∧(i≤t.length)∧(CL 1 (RC 4 RV) zz cso ((Tv (t.map (·.map rv)) l).take i))) ?_ _ ⟨0,Cz,[],_,LZ.m [] O,rfl,Nat.zero_le _,CL.nil⟩ (kK (by omega))
 intro n fs ⟨i,cu,cso,zz,hL0,hmz0,hi,hcl⟩
 refine hL0.open fun e hzz=>?_
 refine R4 16 O ?_
 refine dK O Y3 O ?_
 refine aS O hx ?_
 refine R3 4 O ?_
 refine xD O (fun hc15=>?_) (fun hc15=>?_)
 ·refine cP ?_
  refine aT (aQ ?_)
  refine xR ?_
  obtain ⟨r,hr⟩:=pE (l:=t) (i:=i) (by omega)
  have hrl:=hR r (List.mem_of_getElem? hr)
  have hRl:(aTo (r.map rv) l i).length=r.length:=by simp [aTo]
  refine lC O ?_
  refine oW 51 4 ?_
  refine lN ?_
  refine R5 8 O ?_
  refine aT (aQ ?_)
  refine dX (fun n fs=>∃ (jj:Nat) (cw:C) (csw:List C) (zy:dA),LZ zz zy [.row (.c cw) 51 4 jj csw,.row (.c cu) 152 1 i cso,.blk b5 (.cells 40 [cu]),.blk b4 (.cells 40 [Cz]),.blk b2 (.cells 40 [ct])] [(1,v),(2,Ap b2),(4,Ap b4),(5,Ap b5),(6,Az i),(7,.c cw),(8,Az jj)] fs∧n=r.length - jj∧(jj≤r.length)∧(CL 4 RV zy csw ((aTo (r.map rv) l i).take jj))) ?_ _ ⟨0,Cz,[],_,LZ.m [] O,rfl,Nat.zero_le _,CL.nil⟩ (kK (by omega))
  intro n fs ⟨jj,cw,csw,zy,hL1,hmz1,hj5,hcw⟩
  refine hL1.open fun e hzy=>?_
  refine R4 16 O ?_
  refine dK O Y4 O ?_
  refine lC O ?_
  refine dE (zz:=zy) O O hx.m i O r hr fun b22 p22 cs at22 hR=>?_
  obtain ⟨c22,hcs,q22⟩:=hR
  subst hcs
  refine nQ (off:=0) O at22 O (by simp) O ?_
  refine aS O q22 ?_
  refine R3 4 O ?_
  refine xD O (fun hc25=>?_) (fun hc25=>?_)
  ·refine cP ?_
   refine aT (aQ ?_)
   refine xR ?_
   obtain ⟨y,hy⟩:=pE (l:=r) (i:=jj) (by omega)
   have hsm:=hrl.2 y (List.mem_of_getElem? hy)
   have hyl1:=Nat.le_trans (Ov (x:=((y.n,y.nm),(y.d,y.dm)))) hsm.1
   have hyl2:=Nat.le_trans (Ox (x:=((y.n,y.nm),(y.d,y.dm)))) (Nat.succ_le_succ hsm.2)
   refine lR O Y4 O ?_
   refine R1 4 O ?_
   refine lZ zy (Ya (by omega) hx.m hr hy hsm.1 hsm.2) O O fun v31 z31 hz31 hv31=>?_
   have hv31:=yI hv31
   obtain ⟨c31,d31,hv,hm31,hn31⟩:=hv31
   subst hv
   refine uM fun b9=>?_
   refine pA O O iW ?_
   refine lN ?_
   refine R5 8 O ?_
   refine aT (aQ ?_)
   refine dX (fun n fs=>∃ (kk:Nat) (q:Rat) (c9:C) (d9:C) (zx:dA),LZ z31 zx [.blk b9 (.cells 51 [Cb (decide (q.num<0)),c9,Cb (decide ((q.den:Int)<0)),d9]),.row (.c cw) 51 4 jj csw,.row (.c cu) 152 1 i cso,.blk b5 (.cells 40 [cu]),.blk b4 (.cells 40 [Cz]),.blk b2 (.cells 40 [ct])] [(1,v),(2,Ap b2),(4,Ap b4),(5,Ap b5),(6,Az i),(7,.c cw),(8,Az jj),(9,Ap b9),(10,Az kk)] fs∧n=l.length - kk∧(kk≤l.length)∧(q=aTt (l.take kk) i jj (rv y))∧(CZ 1 RW zx c9 (toL q.num.natAbs))∧(CZ 1 RW zx d9 (toL (q.den:Int).natAbs))∧((toL q.num.natAbs).length≤1001+kk * 102)∧((toL (q.den:Int).natAbs).length≤1001+kk * 102)) ?_ _ ⟨0,(rv y),c31,d31,_,LZ.m [] O,rfl,Nat.zero_le _,rfl,hm31,hn31,Nat.le_trans hyl1 (by omega),Nat.le_trans hyl2 (by omega)⟩ (kK (by omega))
   intro n fs ⟨kk,q,c9,d9,zx,hL2,hmz2,hkk,hq,hc9,hd9,hq1,hq2⟩
   refine hL2.open fun e hzx=>?_
   refine R4 24 O ?_
   refine aS O he ?_
   refine R3 4 O ?_
   refine xD O (fun hc35=>?_) (fun hc35=>?_)
   ·refine cP ?_
    refine aT (aQ ?_)
    refine xR ?_
    obtain ⟨a,ha⟩:=pE (l:=l) (i:=kk) (by omega)
    have hsa:=hs a (List.mem_of_getElem? ha)
    refine R1 5 O ?_
    refine dE (zz:=zx) O O he.m kk O a ha fun b40 p40 cs at40 hR=>?_
    obtain ⟨c40,d40,hcs,q40,r40⟩:=hR
    subst hcs
    refine lF O ?_
    refine nQ (off:=0) O at40 O (by simp) O ?_
    refine R1 8 O ?_
    refine fR 45 O (fun hg45=>?_) (fun hg45=>?_)
    ·refine R1 5 O ?_
     refine lD O ?_
     refine dE (zz:=zx) O O he.m kk O a ha fun b48 p48 cs at48 hR=>?_
     obtain ⟨c48,d48,hcs,q48,r48⟩:=hR
     subst hcs
     refine lD O ?_
     refine lF O ?_
     refine lD O ?_
     refine nQ (off:=1) O at48 O (by simp) O ?_
     refine R0 8 O ?_
     refine xD O (fun hc53=>?_) (fun hc53=>?_)
     ·refine wC ?_
      have hal:=bAT (p:=q) (q:=rv a.am) hq1 hq2 (b:=101) (Nat.le_trans Ov (Nat.le_succ_of_le hsa.1)) (Nat.le_trans Ox (Nat.succ_le_succ hsa.2))
      refine gl4 O O Ht O ?_
      refine G1 5 O ?_
      refine gP O O F ?_
      refine dE (zz:=zx) O O he.m kk O a ha fun b57 p57 cs at57 hR=>lN ?_
      obtain ⟨c57,d57,hcs,q57,r57⟩:=hR
      subst hcs
      refine G1 2 O ?_
      refine oD (i:=⟨_,_,.load _ _ _⟩) (off:=2) O O F O at57 ti O (by simp) O sR ?_
      refine gC zx (aB8 (by omega) hc9 hd9 (by omega) (by omega) q57 r57 (by omega) (by omega)) O O O O fun v60 z60 _ hv60=>?_
      rw [aId] at hv60
      have hv60:=yI hv60
      obtain ⟨c60,d60,hv,hm60,hn60⟩:=hv60
      subst hv
      have hm60:=hm60.mono (qY (hzz.trans (hzy.trans (hz31.trans hzx))))
      have hn60:=hn60.mono (qY (hzz.trans (hzy.trans (hz31.trans hzx))))
      refine gS O O O ?_
      refine pA O O iW ?_
      refine lN ?_
      refine mL ?_
      refine eT ?_
      refine xG ?_
      refine lC O ?_
      refine lB O O (gI (n:=kk+1) (by omega) (by omega)) ?_
      refine R0 2 O ?_
      exact mK (by omega) ⟨kk+1,(q+rv a.am),c60,d60,_,LZ.m [] O,rfl,by omega,by rw [aSN ha,if_pos ⟨hg45,hc53⟩,← hq],(hm60.mono jF),(hn60.mono jF),Nat.le_trans hal.1 (by omega),Nat.le_trans hal.2 (by omega)⟩
     refine oC ?_
     refine eT ?_
     refine xG ?_
     refine lC O ?_
     refine lB O O (gI (n:=kk+1) (by omega) (by omega)) ?_
     refine R0 2 O ?_
     exact mK (by omega) ⟨kk+1,q,c9,d9,_,LZ.m [] O,rfl,by omega,by rw [aSN ha,if_neg (fun h=>hc53 h.2),← hq],hc9,hd9,by omega,by omega⟩
    refine R3 512 O ?_
    refine oC ?_
    refine eT ?_
    refine xG ?_
    refine lC O ?_
    refine lB O O (gI (n:=kk+1) (by omega) (by omega)) ?_
    refine R0 2 O ?_
    exact mK (by omega) ⟨kk+1,q,c9,d9,_,LZ.m [] O,rfl,by omega,by rw [aSN ha,if_neg (fun h=>hg45 h.1),← hq],hc9,hd9,by omega,by omega⟩
   refine dH ?_
   refine nF ?_
   refine eT ?_
   refine xG ?_
   rw [List.take_of_length_le (by omega)] at hq
   subst hq
   refine lC O ?_
   refine sL O mem0 O ?_
   refine cX O fun b63=>?_
   refine mV (n:=jj) (m:=1) (cs:=csw) O O mem0 O (fun _=>mR P1) (by omega) (by omega) fun c64 hc64=>?_
   refine R0 2 O ?_
   refine eT ?_
   refine xG ?_
   refine lC O ?_
   refine lB O O (gI (n:=jj+1) (by omega) (by omega)) ?_
   refine R0 2 O ?_
   exact mK (by omega) ⟨jj+1,c64,_,_,LZ.m [_,_] O,rfl,by omega,by rw [D6 (bKN hy)];exact (hcw.m).append (CL.one rfl ⟨_,_,rfl,hc9,hd9⟩)⟩
  refine dH ?_
  refine nF ?_
  refine eT ?_
  refine xG ?_
  refine aO9 (p:=[]) O (hcw) (by rw [List.length_take];omega) (by omega) fun zw _ hsw=>?_
  rw [List.take_of_length_le (by omega)] at hsw
  refine lF O ?_
  refine dK O Y1 O ?_
  refine lC O ?_
  refine cX O fun b68=>?_
  refine mV (n:=i) (m:=1) (cs:=cso) O O mem0 O (fun _=>mR iW) (by omega) (by omega) fun c69 hc69=>?_
  refine lF O ?_
  refine aFH O O P2 ?_
  refine lN ?_
  refine eT ?_
  refine xG ?_
  refine lC O ?_
  refine lB O O (gI (n:=i+1) (by omega) (by omega)) ?_
  refine R0 2 O ?_
  exact mK (by omega) ⟨i+1,c69,_,_,LZ.m [_] O,rfl,by omega,by rw [D6 (bJu hr)];exact (hcl.m).append (CL.one rfl ⟨_,rfl,hsw⟩)⟩
 refine dH ?_
 refine nF ?_
 refine eT ?_
 refine xR ?_
 refine lR O Y1 O ?_
 refine oI O O O O P2 ?_
 refine lN ?_
 refine Bd (p:=[]) O (hcl) (by rw [List.length_take];omega) (by omega) fun zr _ hsr=>?_
 refine xT ?_
 refine rQ (.inl O) (C4 O Y1 O rn) ?_
 rw [List.take_of_length_le (by omega)] at hsr
 exact ⟨_,rfl,hsr⟩
open Go.CE Go.RowKit Go.Num
open Go.Eng (kN)
theorem mx0 (n:Nat):(match false with | false=>if ((n:Nat):Int) > 0 then ((n:Nat):Int) else 0 | true=>if ((n:Nat):Int)<0 then ((n:Nat):Int) else 0)=((n:Nat):Int):=by
 show (if ((n:Nat):Int) > 0 then ((n:Nat):Int) else 0)=_
 split<;>omega
theorem Ef {call:eE} {B:pK} {fs:Sf} {l:List I} {Q:Sf→Prop} {x y:Go.Eng.Od} {b ty:Nat} {c0 c:C} {H':List HA} (hx:fs.ev x=Ap b) (hy:fs.ev y=.agg [c]) (hr:By fs.H (.blk b (.cells ty [c0])) (.blk b (.cells ty [c])) H') (hw:FL call B l (fs.heap H') Q):FL call B (⟨none,none,.store 1 x y⟩::l) fs Q:=aGQ hx hy rfl hr rfl (Nat.le_refl _) hw
theorem aTh {k:Nat} (hk:6≤k) {z:dA} {n0 m0:Nat} (hn:n0≤1000) (hm:m0≤1000):Lp (E k) 206 [Az n0,Az m0] z [] fun v z' H'=>∃ cu D,v=.agg [cu]∧H'=[.row (.c cu) 85 1 D.length (D.map (·.1)),sH (D.map (yJ 35 4))]∧D.map (·.2.2)=(List.replicate n0 (List.replicate m0 (0:Rat)))∧TOk (zd z z') D:=by
 refine aDK (bBk) (by omega) (aU O) fun B j hj=>?_
 refine xR ?_
 refine kC fun b4=>?_
 refine lN ?_
 refine xR ?_
 refine kC fun b5=>?_
 refine aQ9 ?_
 refine oW 85 1 ?_
 refine lN ?_
 refine R4 8 O ?_
 refine aY1 (m:=((n0:Nat):Int)) O O (mx0 _) ?_
 refine R0 2 O ?_
 refine aT (aQ ?_)
 refine dX (fun n fs=>∃ (i:Nat) (cu:C) (D:List (Ro Rat)) (zz:dA),LZ z zz [.row (.c cu) 85 1 i (D.map (·.1)),sH (D.map (yJ 35 4)),.blk b5 (.cells 24 [cu]),.blk b4 (.cells 24 [Cz])] [(1,Az m0),(4,Ap b4),(5,Ap b5),(8,Az n0),(9,Az i)] fs∧n=n0 - i∧(i≤n0)∧(D.length=i)∧(D.map (·.2.2)=(List.replicate i (List.replicate m0 (0:Rat))))∧(TOk (zd z zz) D)) ?_ _ ⟨0,Cz,[],_,LZ.m [] O,rfl,Nat.zero_le _,rfl,rfl,fun d hd=>absurd hd List.not_mem_nil⟩ (kK (by omega))
 intro n fs ⟨i,cu,D,zz,hL0,hmz0,hi,hDl,hDm,hok⟩
 refine hL0.open fun e hzz=>?_
 refine R5 8 O ?_
 refine xD O (fun hc10=>?_) (fun hc10=>?_)
 ·refine cP ?_
  refine aT (aQ ?_)
  refine R4 4 O ?_
  refine oW 35 4 ?_
  refine lN ?_
  refine R4 8 O ?_
  refine aY1 (m:=((m0:Nat):Int)) O O (mx0 _) ?_
  refine R0 2 O ?_
  refine aT (aQ ?_)
  refine dX (fun n fs=>∃ (jj:Nat) (cw:C) (csw:List C) (zy:dA),LZ zz zy [.row (.c cw) 35 4 jj csw,.row (.c cu) 85 1 i (D.map (·.1)),sH (D.map (yJ 35 4)),.blk b5 (.cells 24 [cu]),.blk b4 (.cells 24 [Cz])] [(1,Az m0),(4,Ap b4),(5,Ap b5),(8,Az n0),(9,Az i),(6,.c cw),(12,Az m0),(13,Az jj)] fs∧n=m0 - jj∧(jj≤m0)∧(CL 4 RV (zd z zy) csw (List.replicate jj (0:Rat)))) ?_ _ ⟨0,Cz,[],_,LZ.m [] O,rfl,Nat.zero_le _,CL.nil⟩ (kK (by omega))
  intro n fs ⟨jj,cw,csw,zy,hL1,hmz1,hj5,hcw⟩
  refine hL1.open fun e hzy=>?_
  refine R5 8 O ?_
  refine xD O (fun hc14=>?_) (fun hc14=>?_)
  ·refine cP ?_
   refine aT (aQ ?_)
   refine xG ?_
   refine lC O ?_
   refine lZ zy (aDM (by omega) (by decide) (by decide)) O O fun v16 z16 _ hv16=>?_
   have hv16:=yI hv16
   obtain ⟨c16,d16,hv,hm16,hn16⟩:=hv16
   subst hv
   have hm16:=hm16.mono (qY (hzz.trans hzy))
   have hn16:=hn16.mono (qY (hzz.trans hzy))
   refine cX O fun b17=>?_
   refine mV (n:=jj) (m:=1) (cs:=csw) O O mem0 O (fun _=>mR iW) (by omega) (by omega) fun c18 hc18=>?_
   refine R0 2 O ?_
   refine eT ?_
   refine xG ?_
   refine lB O O (gI (n:=jj+1) (by omega) (by omega)) ?_
   refine R0 2 O ?_
   exact mK (by omega) ⟨jj+1,c18,_,_,LZ.m [_] O,rfl,by omega,by rw [List.replicate_succ'];exact ((hcw.mono (jO zI))).append (CL.one rfl ⟨_,_,rfl,hm16,hn16⟩)⟩
  refine dH ?_
  refine nF ?_
  refine eT ?_
  refine xG ?_
  obtain rfl:jj=m0:=by omega
  have hcw2:=hcw
  refine bBg (p:=[_]) O ?_
  rw [bAQ (l:=List.replicate jj 0) List.length_replicate]
  refine lF O ?_
  refine dK O Y2 O ?_
  refine lC O ?_
  refine cX O fun b23=>?_
  refine mV (n:=i) (m:=1) (cs:=hdT D) O O mem0 O (fun _=>mR iW) (by omega) (by omega) fun c24 hc24=>?_
  refine bLT (p:=[_]) (cs':=hdT (D++[(cw,csw,List.replicate jj 0)])) O bIn ?_
  refine lF O ?_
  refine aFH O O P3 ?_
  refine lN ?_
  refine eT ?_
  refine xG ?_
  refine lB O O (gI (n:=i+1) (by omega) (by omega)) ?_
  refine R0 2 O ?_
  exact mK (by omega) ⟨i+1,c24,D++[(cw,csw,List.replicate jj 0)],_,LZ.m [_] O,rfl,by omega,by rw [List.length_append,hDl];rfl,by rw [List.map_append,hDm,List.replicate_succ'];rfl,bAt ((hok.mono (jO zI))) (hcw2)⟩
 refine dH ?_
 refine nF ?_
 refine eT ?_
 refine xR ?_
 refine lR O Y2 O ?_
 refine Ef O O P3 ?_
 refine lN ?_
 refine xT ?_
 refine aEJ (.inl O) (C4 O Y3 O rn) (List.sublist_append_left [_,_] _) ?_
 obtain rfl:i=n0:=by omega
 exact ⟨cu,D,rfl,by rw [hDl],hDm,hok⟩
theorem aTs {k:Nat} (hk:7≤k) {z:dA} {n0 m0:Nat} (hn:n0≤1000) (hm:m0≤1000):FC (E k) 207 [Az n0,Az m0] z fun u z'=>∃ c,u=.agg [c]∧CZ 1 (RC 4 RV) (zd z z') c (List.replicate n0 (List.replicate m0 (0:Rat))):=by
 refine eA (bCl) (by omega) (aU O) fun B j hj=>?_
 refine xR ?_
 refine kC fun b4=>?_
 refine lN ?_
 refine xR ?_
 refine kC fun b5=>?_
 refine oW 152 1 ?_
 refine lN ?_
 refine R5 8 O ?_
 refine aT (aQ ?_)
 refine dX (fun n fs=>∃ (i:Nat) (cu:C) (cso:List C) (zz:dA),LZ z zz [.row (.c cu) 152 1 i cso,.blk b5 (.cells 40 [cu]),.blk b4 (.cells 40 [Cz])] [(0,Az n0),(1,Az m0),(4,Ap b4),(5,Ap b5),(6,Az i)] fs∧n=n0 - i∧(i≤n0)∧(CL 1 (RC 4 RV) (zd z zz) cso (List.replicate i (List.replicate m0 (0:Rat))))) ?_ _ ⟨0,Cz,[],_,LZ.m [] O,rfl,Nat.zero_le _,CL.nil⟩ (kK (by omega))
 intro n fs ⟨i,cu,cso,zz,hL0,hmz0,hi,hcl⟩
 refine hL0.open fun e hzz=>?_
 refine R5 64 O ?_
 refine xD O (fun hc11=>?_) (fun hc11=>?_)
 ·refine cP ?_
  refine aT (aQ ?_)
  refine R4 4 O ?_
  refine oW 51 4 ?_
  refine lN ?_
  refine R5 8 O ?_
  refine aT (aQ ?_)
  refine dX (fun n fs=>∃ (jj:Nat) (cw:C) (csw:List C) (zy:dA),LZ zz zy [.row (.c cw) 51 4 jj csw,.row (.c cu) 152 1 i cso,.blk b5 (.cells 40 [cu]),.blk b4 (.cells 40 [Cz])] [(0,Az n0),(1,Az m0),(4,Ap b4),(5,Ap b5),(6,Az i),(7,.c cw),(8,Az jj)] fs∧n=m0 - jj∧(jj≤m0)∧(CL 4 RV (zd z zy) csw (List.replicate jj (0:Rat)))) ?_ _ ⟨0,Cz,[],_,LZ.m [] O,rfl,Nat.zero_le _,CL.nil⟩ (kK (by omega))
  intro n fs ⟨jj,cw,csw,zy,hL1,hmz1,hj5,hcw⟩
  refine hL1.open fun e hzy=>?_
  refine R5 64 O ?_
  refine xD O (fun hc16=>?_) (fun hc16=>?_)
  ·refine cP ?_
   refine aT (aQ ?_)
   refine xG ?_
   refine lC O ?_
   refine lZ zy (aGC (by omega)) O O fun v20 z20 _ hv20=>?_
   have hv20:=yI hv20
   obtain ⟨c20,d20,hv,hm20,hn20⟩:=hv20
   subst hv
   have hm20:=hm20.mono (qY (hzz.trans hzy))
   have hn20:=hn20.mono (qY (hzz.trans hzy))
   refine cX O fun b21=>?_
   refine mV (n:=jj) (m:=1) (cs:=csw) O O mem0 O (fun _=>mR iW) (by omega) (by omega) fun c22 hc22=>?_
   refine R0 2 O ?_
   refine eT ?_
   refine xG ?_
   refine lC O ?_
   refine lB O O (gI (n:=jj+1) (by omega) (by omega)) ?_
   refine R0 2 O ?_
   exact mK (by omega) ⟨jj+1,c22,_,_,LZ.m [_] O,rfl,by omega,by rw [List.replicate_succ'];exact ((hcw.mono (jO zI))).append (CL.one rfl ⟨_,_,rfl,hm20,hn20⟩)⟩
  refine dH ?_
  refine nF ?_
  refine eT ?_
  refine xG ?_
  refine aOY (z0:=z) (p:=[]) O zI (hcw) (List.length_replicate) (by omega) fun zw _ hsw0=>?_
  refine lF O ?_
  have hsw:=hsw0
  obtain rfl:jj=m0:=by omega
  refine dK O Y1 O ?_
  refine lC O ?_
  refine cX O fun b26=>?_
  refine mV (n:=i) (m:=1) (cs:=cso) O O mem0 O (fun _=>mR iW) (by omega) (by omega) fun c27 hc27=>?_
  refine lF O ?_
  refine aFH O O P2 ?_
  refine lN ?_
  refine eT ?_
  refine xG ?_
  refine lC O ?_
  refine lB O O (gI (n:=i+1) (by omega) (by omega)) ?_
  refine R0 2 O ?_
  exact mK (by omega) ⟨i+1,c27,_,_,LZ.m [_] O,rfl,by omega,by rw [List.replicate_succ'];exact ((hcl.mono (jO zI))).append (CL.one rfl ⟨_,rfl,hsw⟩)⟩
 refine dH ?_
 refine nF ?_
 refine eT ?_
 refine xR ?_
 refine aOY (z0:=z) (p:=[]) O zI (hcl) (List.length_replicate) (by omega) fun zr _ hsr=>?_
 refine lR O mem0 O ?_
 refine Ef O O P1 ?_
 refine lN ?_
 refine xT ?_
 refine rQ (.inl O) (C4 O Y1 O rn) ?_
 obtain rfl:i=n0:=by omega
 exact ⟨_,rfl,hsr⟩
end Go.Proofs.YtlceligcgelbdaaGreat

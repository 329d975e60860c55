/- Both sides of the deals brought together, walked; what is so of pairs. -/
import Derived.WalkKit
import Derived.Orders
import Derived.Test.YtlceligcgelbdaaGreatKD4
set_option linter.unusedVariables false
set_option linter.unusedSimpArgs false
set_option maxRecDepth 100000
set_option maxHeartbeats 1000000
namespace Go.Proofs.YtlceligcgelbdaaGreat
open Go.CE Go.RowKit Go.Num
open Go.Eng (setL)
theorem fg_ldAll {call:Call'} {B:Base} {an:List Nat} {j:Nat} {l:List CE.D} {fs:Sf} {T:Mem} {tag last:Nat} {pj lj:List Nat} {Q:Sf→Prop} {i:I} {d size:Nat} {x:Go.Eng.Od} {af:List Nat} {b ty:Nat} {cs:List C} (hi:i.o=.load true size x) (hd:i.d=some d) (hg:GK fs i) (hx:fs.ev x=Ap b) (hT:T b (.cells ty cs)) (h:cs.length=size) (hs:sameA (.agg cs) (.agg cs)=true) (hw:FG call B an (j+1) l (fs.put d (.agg cs)) T tag last pj (j::lj) Q):FG call B an j (⟨i,af⟩::l) fs T tag last pj lj Q:=
 fg_load (v:=.agg cs) hi hd hg hx hT rfl (by omega) (by rw [List.drop_zero,List.take_of_length_le (by omega)];rfl) hs hw
theorem eqlBB (a b:Bool):Go.Eng.binBV .eql (.bool a) (.bool b)=some (.bool (a == b)):=by cases a<;>cases b<;>rfl
theorem fl_binA4 {call:Call'} {B:Base} {fs:Sf} {l:List I} {Q:Sf→Prop} {d:Nat} {x y:Go.Eng.Od} {a1 a2 b1 b2 c1 c2:ByteArray} {k1 k2:Int} (hx:fs.ev x=.agg [Cs a1,Cu k1,Cs b1,Cs c1]) (hy:fs.ev y=.agg [Cs a2,Cu k2,Cs b2,Cs c2])
    (hw:FL call B l (fs.put d (Ab (!decide (a1=a2∧k1=k2∧b1=b2∧c1=c2)))) Q):FL call B (⟨some d,none,.binA true [.s,.i,.s,.s] x y⟩::l) fs Q:=
  fl_q (fun _ => rfl) (fun st rf => by
    have hb:∀ a b:ByteArray,bsame a.data.toList b.data.toList=decide (a=b):=fun a b=>by
      rw [bsame_eq]
      by_cases h:a=b
      · subst h;simp
      · rw [decide_eq_false h]
        exact beq_eq_false_iff_ne.2 fun e=>h (tx_inj.1 e)
    have h:eqA [.s,.i,.s,.s] [Cs a1,Cu k1,Cs b1,Cs c1] [Cs a2,Cu k2,Cs b2,Cs c2]=some (decide (a1=a2∧k1=k2∧b1=b2∧c1=c2)):=by
      simp only [eqA,hb]
      by_cases h1:a1=a2<;>by_cases h2:k1=k2<;>by_cases h3:b1=b2<;>by_cases h4:c1=c2<;>simp [h1,h2,h3,h4]
    simp only [stepQ,rf.ev,hx,hy,h]
    cases decide (a1=a2∧k1=k2∧b1=b2∧c1=c2)<;>rfl) hw
theorem inv_step {F F1 F2:List Fe} {x:Fe} {dl:List PDeal} {i:Nat} {d:PDeal} {u':AV} (hI:∀ s:ByteArray,ixOf F (tx s)=posN s (dl.take i)) (ha:dl[i]? = some d) (h3:x.ix=ixOf F (tx d.id)) (h4:F1++x::F2=F∨(F1++x::F2=F++[x]∧x.u=nilv∧x.ix=[])) (h5:∀ y,y∈F1→y.k≠tx d.id) (h1:x.k=tx d.id) :
  ∀ s:ByteArray,ixOf (F1++⟨tx d.id,u',x.n,x.ix++[i]⟩::F2) (tx s)=posN s (dl.take (i+1)):=fun s=>by
 rw [ix_step h4 h5 h1,pos_step ha]
 by_cases hs:s=d.id
 ·subst hs;rw [if_pos rfl,if_pos rfl,h3,hI]
 rw [if_neg fun e=>hs (tx_inj.1 e),if_neg hs,hI]
theorem fe_len {F F1 F2:List Fe} {x:Fe} {i:Nat} {k:List UInt8} {u':AV} (h:∀ w,w∈F→w.ix.length≤40) (hx:x.ix.length<40) (h4:F1++x::F2=F∨(F1++x::F2=F++[x]∧x.u=nilv∧x.ix=[])):∀ w,w∈F1++(⟨k,u',x.n,x.ix++[i]⟩:Fe)::F2→w.ix.length≤40:=fun w hw=>by
 have hk:∀ w,w∈F1++x::F2→w.ix.length≤40:=fun w hw=>by
  rcases h4 with h4 | ⟨h4,_⟩
  ·rw [h4] at hw;exact h w hw
  rw [h4] at hw
  rcases List.mem_append.1 hw with hw | hw
  ·exact h w hw
  rw [List.mem_singleton.1 hw];omega
 rcases List.mem_append.1 hw with hw | hw
 ·exact hk w (List.mem_append.2 (.inl hw))
 rcases List.mem_cons.1 hw with rfl | hw
 ·rw [List.length_append,List.length_singleton];omega
 exact hk w (List.mem_append.2 (.inr (List.mem_cons_of_mem _ hw)))
def QsOk (z:Mem) (L:List PQ):Prop:=∀ t,t∈L→QOk z t
theorem QsOk.mono {z z':Mem} {L:List PQ} (h:QsOk z L) (hz:zle z z'):QsOk z' L:=fun t ht=>(h t ht).mono hz
theorem qs_step {z:Mem} {L:List PQ} {t:PQ} (h:QsOk z L) (g:QOk z t):QsOk z (L++[t]):=fun a ha=>by
 rcases List.mem_append.1 ha with ha | ha
 ·exact h a ha
 rw [List.mem_singleton.1 ha];exact g
theorem fl_rowq {call:Call'} {B:Base} {fs:Sf} {l:List I} {Q:Sf→Prop} {nl:List ByteArray} {cl:List PClass} {L:List PQ} {t:PQ} {u:AV} {p q:List HA} (e:fs.H=p++.row u 116 10 (L.length+1) (rowQ nl cl L++cellsQ nl cl t)::q) (hw:FL call B l (fs.heap (p++.row u 116 10 (L++[t]).length (rowQ nl cl (L++[t]))::q)) Q):FL call B l fs Q:=by
 have e1:rowQ nl cl (L++[t])=rowQ nl cl L++cellsQ nl cl t:=by
  rw [rowQ,List.flatMap_append];simp [rowQ]
 rw [e1,List.length_append,List.length_singleton] at hw
 have e2:fs.heap (p++.row u 116 10 (L.length+1) (rowQ nl cl L++cellsQ nl cl t)::q)=fs:=by cases fs;simp only [Sf.heap] at e ⊢;rw [e]
 rw [e2] at hw
 exact hw
theorem mism_w {a b:PDeal} (h:¬ (a.id=b.id∧a.kind=b.kind∧a.payee=b.payee∧a.payer=b.payer)):mism a b=true:=by rw [mism,decide_eq_false h];rfl
theorem mism_g {a b:PDeal} (h:(a.give == b.give)=true):mism a b=true:=by rw [mism,h,Bool.or_true];rfl
theorem mism_a {a b:PDeal} (h:(!decide (amtV a=amtV b))=true):mism a b=true:=by rw [mism,h,Bool.or_true]
theorem mism_f {a b:PDeal} (h:a.id=b.id∧a.kind=b.kind∧a.payee=b.payee∧a.payer=b.payer) (g:(a.give == b.give)=false) (k:(!decide (amtV a=amtV b))=false):mism a b=false:=by rw [mism,decide_eq_true h,g,k];rfl
theorem all_step {P:Nat→Prop} {i:Nat} (h:∀ q,q<i→P q) (g:P i):∀ q,q<i+1→P q:=fun q hq=>by
  rcases Nat.lt_or_ge q i with h1 | h1
  · exact h q h1
  · have : q = i := by omega
    subst this;exact g
def MPost (nl:List ByteArray) (cl:List PClass) (dl:List PDeal) (z:Mem) (v:AV):Prop:=
 (∃ i,i<dl.length∧badB nl cl dl i=true∧(∀ q,q<i→badB nl cl dl q=false)∧v=.tup [nilv,int_ (i:Nat),int_ 200]) ∨
 ((∀ i,i<dl.length→badB nl cl dl i=false)∧∃ c,v=.tup [.c c,int_ 0,int_ 0]∧CZ 10 (RPair nl cl) z c (sortP (pairsUp dl dl.length)))
theorem c_pairs_Match {k:Nat} (hk:12≤k) {z:Mem} {x:PFiling} {c0 c1 c2 c3 c4 c5 c6 c7 c8 c9 c10 c11:C} (g0:CZ 8 RBracket z c0 x.brackets) (g1:CZ 1 RW z c1 x.threshold.nm) (g2:CZ 1 RW z c2 x.threshold.dm) (g3:CZ 1 RW z c3 x.cap.nm) (g4:CZ 1 RW z c4 x.cap.dm) (g5:CZ 1 RW z c5 x.interest.nm) (g6:CZ 1 RW z c6 x.interest.dm) (g7:CZ 1 RW z c7 x.floor.nm) (g8:CZ 1 RW z c8 x.floor.dm) (g9:CZ 6 RClass z c9 x.classes) (g10:CZ 1 RS z c10 x.entities) (g11:CZ 6 RYear z c11 x.years) {yr:Int} (hS:SmF x) (hy1 : -9223372036854775808≤yr) (hy2:yr<9223372036854775808):FC (E k) 45 [.agg [Cs x.name,Cs x.parent,c0,Cb x.threshold.n,c1,Cb x.threshold.d,c2,Cb x.cap.n,c3,Cb x.cap.d,c4,Ci x.back,Ci x.forward,Cb x.interest.n,c5,Cb x.interest.d,c6,Cb x.floor.n,c7,Cb x.floor.d,c8,Ci x.keep,c9,c10,c11],Ai yr] z fun v z'=>(¬ (0≤yr∧yr<(x.years.length:Int))∧v=.tup [nilv,int_ 0,int_ 2])∨∃ yy,x.years[yr.toNat]? = some yy∧(0≤yr∧yr<(x.years.length:Int))∧MPost (namesB x.entities) x.classes yy.deals (zd z z') v:=by
 refine fc_of (tS_get45) (by omega) (len1 rfl) fun B j hj=>?_
 refine xR ?_
 refine fl_bx rfl fun b2=>?_
 refine R2 256 O ?_
 refine fl_splitD 19 rfl (fun hg19=>?_) (fun hg19=>?_)
 ·refine R3 8192 O ?_
  refine fx_rseq ?_
  refine rQ (.inl rfl) (rt rfl (rt rfl (rt rfl rn))) ?_
  exact .inl ⟨by omega,rfl⟩
 refine R1 4 O ?_
 refine lD rfl ?_
 refine fl_ld1 rfl mem0 rfl ?_
 refine lD rfl ?_
 refine fl_lenS rfl g11 ?_
 refine R3 8 O ?_
 refine xD rfl (fun hc25=>?_) (fun hc25=>?_)
 ·refine R5 32 O ?_
  refine fx_rseq ?_
  refine rQ (.inl rfl) (rt rfl (rt rfl (rt rfl rn))) ?_
  exact .inl ⟨by omega,rfl⟩
 refine fx_kseq ?_
 refine fx_drwS ?_
 refine fg_ldAll (i:=⟨_,_,.load _ _ _⟩) rfl rfl trivial rfl (.inr mem0) rfl sR ?_
 have hb27:x.entities.length≤1000:=by have:=hS.l2;omega
 refine gC z (c_group_Names (by omega) g0 g1 g2 g3 g4 g5 g6 g7 g8 g9 g10 g11 hb27) O O O O fun v27 z27 hz27 ⟨c27,hv27,hm27⟩=>?_
 subst hv27
 refine G1 2 O ?_
 refine gl1 O O Ht O ?_
 refine gP rfl rfl trivial ?_
 refine fl_bd (cs:=[_,_]) rfl (lN ?_)
 refine gA O O (fun b7 hT7=>?_)
 refine gS O O O ?_
 refine fl_st2 rfl rfl rep0 ?_
 refine lN ?_
 refine fg_nil ?_
 refine R4 4 O ?_
 refine fl_ld1 rfl Y1 rfl ?_
 refine lC rfl ?_
 obtain ⟨yy,hyy⟩:=at_lt (l:=x.years) (i:=yr.toNat) (by omega)
 have hSy:=hS.y yy (List.mem_of_getElem? hyy)
 have hdl:=hSy.l2
 refine fl_iadS rfl rfl g11 yr.toNat (by omega) yy hyy fun b34 p34 cs at34 hR=>?_
 obtain ⟨y0,y1,y2,y3,y4,hcs,q0,q1,q2,q3,q4⟩:=hR
 subst hcs
 refine lF rfl ?_
 refine fl_ldA (off:=3) (v:=.c y2) rfl at34.m rfl (by simp) rfl ?_
 refine R2 4 O ?_
 refine fl_mkm fun b37=>?_
 refine fl_many0 ?_
 refine R2 17 O ?_
 refine fl_lenS rfl q2 ?_
 refine R0 2 O ?_
 refine fx_seq (fx_block ?_)
 refine fx_loop (fun n fs=>∃ (i:Nat) (F:List Fe) (ck:Nat),LI z27 [famR 3 F,famM b37 F ck,.blk b7 (.cells 228 [c27,c9]),.blk b2 (.cells 101 [Cs x.name,Cs x.parent,c0,Cb x.threshold.n,c1,Cb x.threshold.d,c2,Cb x.cap.n,c3,Cb x.cap.d,c4,Ci x.back,Ci x.forward,Cb x.interest.n,c5,Cb x.interest.d,c6,Cb x.floor.n,c7,Cb x.floor.d,c8,Ci x.keep,c9,c10,c11])] [(4,nilv),(7,Ap b7),(8,.c y2),(9,.c (.mp b37)),(38,.c y2),(39,Az yy.deals.length),(40,Az i)] fs∧n=yy.deals.length - i∧(i≤yy.deals.length)∧(∀ s:ByteArray,ixOf F (tx s)=posN s (yy.deals.take i))∧(∀ w,w∈F→w.ix.length≤40)) ?_ _ ⟨0,[],0,LI.m [] O,rfl,Nat.zero_le _,fun s=>rfl,fun w hw=>absurd hw List.not_mem_nil⟩ (kK (by omega))
 intro n fs ⟨i,F,ck,hL0,hmz0,hi,hI,hFl⟩
 refine hL0.open fun e zl0 hzl0=>?_
 refine R5 8 O ?_
 refine xD rfl (fun hc41=>?_) (fun hc41=>?_)
 ·refine fx_kseq ?_
  refine fx_seq (fx_block ?_)
  refine R4 4 O ?_
  obtain ⟨d1,hd1⟩:=at_lt (l:=yy.deals) (i:=i) (by omega)
  refine fl_iadS rfl rfl q2 i rfl d1 hd1 fun b43 p43 cs at43 hR=>?_
  obtain ⟨r0c,r1c,hcs,r0,r1⟩:=hR
  subst hcs
  refine fl_ldA (off:=0) rfl at43.m rfl (by simp) rfl ?_
  refine fl_alloc fun b11=>?_
  refine lC rfl ?_
  refine fl_stAll rfl rfl rfl rfl rep0 ?_
  obtain ⟨F1,w1,F2,ck1,hw1,hw2,hw3,hw4,hw5,hw6⟩:=famB d1.id ck F
  obtain ⟨r51,hf51,hv51⟩:=findB d1.id F
  have hwl:w1.ix.length≤i:=by
   rw [hw3,hI]
   exact Nat.le_trans (pos_len _ _) (by rw [List.length_take];omega)
  refine fl_fam (p:=[_]) rfl hw4 ?_
  refine lN ?_
  refine fx_drw ?_
  refine G1 4 O ?_
  refine gl1 O O Ht O ?_
  refine G1 4 O ?_
  refine gl1 O O Ht O ?_
  refine fg_look (i:=⟨_,_,.look _ _ _ _ _ _⟩) rfl rfl trivial rfl rfl rfl rfl Y2 hf51 hv51 ?_
  refine G1 2 O ?_
  refine fg_own (k:=.cells 3 [Ci (i:Nat)]) (w:=fun b=>Aw b 1) rfl trivial rfl (fun _=>rfl) (fun st hst=>?_) (fun b53 hT53=>?_)
  ·simp only [stepE,fillS,AS.ev,hst 52 (by simp [Ins.sl,Od.sls,Od.sl])];rfl
  refine fg_appM (i:=⟨_,_,.app _ _ _ _ _ _⟩) (u:=w1.u) (ty:=3) (ty':=3) (size:=1) (n:=w1.ix.length) (m:=0) (p:=F1.map (Fe.row 3)) (q:=F2.map (Fe.row 3)) (cs:=cE eN w1.ix) rfl rfl trivial rfl rfl (fun _ _ h=>h.imp (fun h=>h) memS) hw2.symm rfl mem0 (fun _=>repS P1) rfl (by omega) (by omega) fun c54 hc54=>?_
  refine fg_mupd (i:=⟨_,_,.mupd _ _ _ _⟩) rfl rfl trivial rfl rfl rfl rfl rfl rfl (hw6 _ (w1.ix++[i])) P3 ?_
  refine fg_nil ?_
  refine sq_n ?_
  refine xG ?_
  refine fl_famE (p:=[_,_]) (F1:=F1) (F2:=F2) (k:=tx d1.id) (n:=w1.n) (ix:=w1.ix) (i:=i) rfl rfl ?_
  refine lB rfl rfl (bI_add (n:=i+1) (by omega) (by omega)) ?_
  refine R0 2 O ?_
  exact lq_n (by omega) ⟨i+1,_,_,LI.m [_,_] O,rfl,by omega,inv_step hI hd1 hw3 hw4 hw5 hw1,fe_len hFl (by omega) hw4⟩
 refine fx_eseq ?_
 refine lq_e ?_
 refine sq_n ?_
 refine R4 4 O ?_
 refine fl_frzF (p:=[]) zl0 rfl rfl (fun w hw=>Nat.le_trans (hFl w hw) (by decide)) fun zF hzF hsF=>?_
 refine fl_frzZ zF (p:=[]) rfl rfl rfl (fun _ h=>h) fun zffm hzffm fm=>?_
 refine fl_row0 116 10 ?_
 have hI2:∀ s:ByteArray,ixOf F (tx s)=posN s yy.deals:=fun s=>by rw [hI,List.take_of_length_le (by omega)]
 refine lC rfl ?_
 refine fl_lenS rfl q2 ?_
 refine R0 2 O ?_
 refine fx_seq (fx_block ?_)
 refine fx_loop (fun n fs=>∃ (i1:Nat) (L:List PQ) (u4:AV) (zz:Mem),LZ zffm zz [.row u4 116 10 L.length (rowQ (namesB x.entities) x.classes L),.blk b7 (.cells 228 [c27,c9]),.blk b2 (.cells 101 [Cs x.name,Cs x.parent,c0,Cb x.threshold.n,c1,Cb x.threshold.d,c2,Cb x.cap.n,c3,Cb x.cap.d,c4,Ci x.back,Ci x.forward,Cb x.interest.n,c5,Cb x.interest.d,c6,Cb x.floor.n,c7,Cb x.floor.d,c8,Ci x.keep,c9,c10,c11])] [(4,u4),(7,Ap b7),(8,.c y2),(9,.c (.mp b37)),(56,.c y2),(57,Az yy.deals.length),(58,Az i1)] fs∧n=yy.deals.length - i1∧(i1≤yy.deals.length)∧(∀ q,q<i1→badB (namesB x.entities) x.classes yy.deals q=false)∧(L.map (·.1)=pairsUp yy.deals i1)∧(QsOk (zd z zz) L)∧(L.length≤i1)) ?_ _ ⟨0,[],nilv,_,LZ.m [] O,rfl,Nat.zero_le _,fun q hq=>absurd hq (Nat.not_lt_zero _),rfl,fun t ht=>absurd ht List.not_mem_nil,Nat.le_refl _⟩ (kK (by omega))
 intro n fs ⟨i1,L,u4,zz,hL1,hmz1,hi1,hnb,hLp,hLq,hLl⟩
 refine hL1.open fun e hzz=>?_
 refine R5 8 O ?_
 refine xD rfl (fun hc59=>?_) (fun hc59=>?_)
 ·refine fx_kseq ?_
  refine fx_seq (fx_block ?_)
  refine R4 4 O ?_
  obtain ⟨d2,hd2⟩:=at_lt (l:=yy.deals) (i:=i1) (by omega)
  have hsm:=hSy.r2 d2 (List.mem_of_getElem? hd2)
  refine fl_iadS rfl rfl q2 i1 rfl d2 hd2 fun b61 p61 cs at61 hR=>?_
  obtain ⟨u0c,u1c,hcs,u0,u1⟩:=hR
  subst hcs
  refine fl_ldA (off:=0) rfl at61.m rfl (by simp) rfl ?_
  refine fl_alloc fun b13=>?_
  refine lC rfl ?_
  refine fl_stAll rfl rfl rfl rfl rep0 ?_
  refine lN ?_
  refine R4 8 O ?_
  refine fl_ld1 rfl mem0 rfl ?_
  obtain ⟨r66,hf66,hv66⟩:=findB d2.id F
  refine fl_lookZ rfl rfl (zI _ _ fm) hf66 hv66 ?_
  have hu66:FamZ F zz:=hsF.m
  replace hu66:=hu66 (tx d2.id)
  rw [hI2] at hu66
  refine R2 9 O ?_
  refine fl_ld2 rfl Y2 rfl ?_
  refine fl_ldAll rfl mem0 rfl ?_
  refine lE zz (c_pairs_looker_well (by omega) hm27.m g9.m u0.m u1.m hsm) O O fun z69 hz69=>?_
  refine R1 4 O ?_
  refine fl_splitB 71 rfl (fun hg71=>?_) (fun hg71=>?_)
  ·refine R3 4096 O ?_
   refine fx_rseq ?_
   refine sq_r ?_
   refine lq_r ?_
   refine sq_r ?_
   refine rQ (.inl rfl) (rt rfl (rt rfl (rt rfl rn))) ?_
   exact .inr ⟨yy,hyy,by omega,.inl ⟨i1,by omega,bad_w hd2 (by simpa using hg71),hnb,rfl⟩⟩
  refine lD rfl ?_
  refine lM rfl ?_
  refine lD rfl ?_
  refine fl_lenS rfl hu66 ?_
  refine R3 8 O ?_
  refine fx_condN rfl (fun hc75=>?_) (fun hc75=>?_)
  ·refine R5 64 O ?_
   refine fx_rseq ?_
   refine sq_r ?_
   refine lq_r ?_
   refine sq_r ?_
   refine rQ (.inl rfl) (rt rfl (rt rfl (rt rfl rn))) ?_
   exact .inr ⟨yy,hyy,by omega,.inl ⟨i1,by omega,bad_l hd2 (by omega),hnb,rfl⟩⟩
  refine fx_kseq ?_
  refine fx_drwS ?_
  obtain ⟨p1,p2,hpp⟩:=two_of (l:=posN d2.id yy.deals) (by omega)
  obtain ⟨hlt,⟨a1,ha1,hia1⟩,a2,ha2,hia2⟩:=pos_two hpp
  have hl1:=(List.getElem?_eq_some_iff.1 ha1).1
  have hl2:=(List.getElem?_eq_some_iff.1 ha2).1
  rw [hpp] at hu66
  refine G1 6 O ?_
  refine gP rfl rfl trivial ?_
  refine fl_iadE (zz:=z69) rfl rfl hu66.m (0) (rfl) (by simp) fun p79 hp79=>lN ?_
  refine glP O O hp79 ti ?_
  refine gP rfl rfl trivial ?_
  refine fl_iadS rfl rfl q2 p1 rfl a1 ha1 fun b81 p81 cs at81 hR=>lN ?_
  obtain ⟨v0c,v1c,hcs,v0,v1⟩:=hR
  subst hcs
  refine fg_ldA (i:=⟨_,_,.load _ _ _⟩) (off:=0) rfl rfl trivial rfl at81 ti rfl (by simp) rfl sR ?_
  refine G1 6 O ?_
  refine gP rfl rfl trivial ?_
  refine fl_iadE (zz:=z69) rfl rfl hu66.m (1) (rfl) (by simp) fun p85 hp85=>lN ?_
  refine glP O O hp85 ti ?_
  refine gP rfl rfl trivial ?_
  refine fl_iadS rfl rfl q2 p2 rfl a2 ha2 fun b87 p87 cs at87 hR=>lN ?_
  obtain ⟨x0c,x1c,hcs,x0,x1⟩:=hR
  subst hcs
  refine fg_ldA (i:=⟨_,_,.load _ _ _⟩) (off:=0) rfl rfl trivial rfl at87 ti rfl (by simp) rfl sR ?_
  refine gA O O (fun b15 hT15=>?_)
  refine gA O O (fun b16 hT16=>?_)
  refine gT O O O hT15 ?_
  refine fl_stAll rfl rfl rfl rfl P1 ?_
  refine lN ?_
  refine gS O O O ?_
  refine fl_stAll rfl rfl rfl rfl rep0 ?_
  refine lN ?_
  refine fg_nil ?_
  refine fx_ss ?_
  refine fx_drwS ?_
  refine fg_ldAll (i:=⟨_,_,.load _ _ _⟩) rfl rfl trivial rfl (.inr Y1) rfl sR ?_
  refine gE z69 (c_pairs_of (by omega)) O O O O fun z90 hz90=>?_
  refine fg_ldAll (i:=⟨_,_,.load _ _ _⟩) rfl rfl trivial rfl (.inr mem0) rfl sR ?_
  refine gE z90 (c_pairs_of (by omega)) O O O O fun z92 hz92=>?_
  refine gP rfl rfl trivial ?_
  refine fl_binA4 rfl rfl (lN ?_)
  refine G1 3 O ?_
  refine fg_splitN 94 rfl (fun hg94=>?_) (fun hg94=>?_)
  ·refine G0 16448 O ?_
   refine R5 256 O ?_
   refine fx_rseq ?_
   refine sq_r ?_
   refine lq_r ?_
   refine sq_r ?_
   refine rQ (.inl rfl) (rt rfl (rt rfl (rt rfl rn))) ?_
   exact .inr ⟨yy,hyy,by omega,.inl ⟨i1,by omega,by rw [bad_p hd2 hpp ha1 ha2,mism_w hg94,Bool.or_true],hnb,rfl⟩⟩
  refine G1 2 O ?_
  refine gl1 O O (.inr Y1) O ?_
  refine G1 2 O ?_
  refine gl1 O O Ht O ?_
  refine gP rfl rfl rfl ?_
  refine fl_binB rfl rfl (eqlBB _ _) (lN ?_)
  refine G1 6 O ?_
  refine fg_splitB 101 rfl (fun hg101=>?_) (fun hg101=>?_)
  ·refine G0 128 O ?_
   refine R5 256 O ?_
   refine fx_rseq ?_
   refine sq_r ?_
   refine lq_r ?_
   refine sq_r ?_
   refine rQ (.inl rfl) (rt rfl (rt rfl (rt rfl rn))) ?_
   exact .inr ⟨yy,hyy,by omega,.inl ⟨i1,by omega,by rw [bad_p hd2 hpp ha1 ha2,mism_g hg101,Bool.or_true],hnb,rfl⟩⟩
  refine G1 2 O ?_
  refine gl4 O O (.inr Y1) O ?_
  refine G1 2 O ?_
  refine gl4 O O Ht O ?_
  have hsa1:=hSy.r2 a1 (List.mem_of_getElem? ha1)
  have hsa2:=hSy.r2 a2 (List.mem_of_getElem? ha2)
  refine gE z92 (c_rat_Same (by omega) v0.m v1.m (by have:=hsa1.1;omega) (by have:=hsa1.2;omega) x0.m x1.m (by have:=hsa2.1;omega) (by have:=hsa2.2;omega)) O O O O fun z106 hz106=>?_
  refine G0 4 O ?_
  refine fx_cseq ?_
  refine fx_condB rfl (fun hc108=>?_) (fun hc108=>?_)
  ·refine R5 64 O ?_
   refine fx_rseq ?_
   refine sq_r ?_
   refine lq_r ?_
   refine sq_r ?_
   refine rQ (.inl rfl) (rt rfl (rt rfl (rt rfl rn))) ?_
   exact .inr ⟨yy,hyy,by omega,.inl ⟨i1,by omega,by rw [bad_p hd2 hpp ha1 ha2,mism_a hc108,Bool.or_true],hnb,rfl⟩⟩
  refine R4 8 O ?_
  refine fl_ld1 rfl Y2 rfl ?_
  refine lN ?_
  refine fx_condB rfl (fun hc111=>?_) (fun hc111=>?_)
  ·refine fx_drw ?_
   refine G1 3 O ?_
   refine gl2 O O (.inr Y4) O ?_
   refine fg_ldAll (i:=⟨_,_,.load _ _ _⟩) rfl rfl trivial rfl (.inr Y2) rfl sR ?_
   refine G1 6 O ?_
   refine gP rfl rfl trivial ?_
   refine fl_iadE (zz:=z106) rfl rfl hu66.m (0) (rfl) (by simp) fun p117 hp117=>lN ?_
   refine glP O O hp117 ti ?_
   refine G1 3 O ?_
   refine gP rfl rfl trivial ?_
   refine fl_iadE (zz:=z106) rfl rfl hu66.m (1) (rfl) (by simp) fun p120 hp120=>lN ?_
   refine glP O O hp120 ti ?_
   have hself:=pos_self hd2 hpp
   obtain ⟨a3,ha3⟩:=at_lt (l:=yy.deals) (i:=p1+p2 - i1) (by omega)
   refine gP rfl rfl trivial ?_
   refine lB rfl rfl (b_add' (k:=.i64) (a:=(p1:Nat)) (b:=(p2:Nat)) (r:=((p1+p2:Nat):Int)) (by rw [wi64 ⟨by omega,by omega⟩];omega)) (lN ?_)
   refine G1 2 O ?_
   refine gP rfl rfl trivial ?_
   refine lB rfl rfl (b_sub' (k:=.i64) (a:=((p1+p2:Nat):Int)) (b:=(i1:Nat)) (r:=((p1+p2 - i1:Nat):Int)) (by rw [wi64 ⟨by omega,by omega⟩];omega)) (lN ?_)
   refine gP rfl rfl trivial ?_
   refine fl_iadS rfl rfl q2 (p1+p2 - i1) rfl a3 ha3 fun b125 p125 cs at125 hR=>lN ?_
   obtain ⟨m0c,m1c,hcs,m0,m1⟩:=hR
   subst hcs
   refine fg_ldA (i:=⟨_,_,.load _ _ _⟩) (off:=0) rfl rfl trivial rfl at125 ti rfl (by simp) rfl sR ?_
   refine gC z106 (c_pairs_looker_pair (by omega) hm27.m g9.m u0.m u1.m hsm m0.refl m1.refl) O O O O fun v127 z127 _ ⟨c127,d127,hv,hm127,hn127⟩=>?_
   subst hv
   have hm127:=hm127.mono (zA (hz27.trans (hzl0.trans (hzF.trans (hzffm.trans (hzz.trans (hz69.trans (hz90.trans (hz92.trans hz106)))))))))
   have hn127:=hn127.mono (zA (hz27.trans (hzl0.trans (hzF.trans (hzffm.trans (hzz.trans (hz69.trans (hz90.trans (hz92.trans hz106)))))))))
   refine fg_own (k:=.cells 116 (pairC (namesB x.entities) x.classes d2 a3 c127 d127)) (w:=fun b=>.c (.sl b 0 1 10)) rfl trivial rfl (fun _=>rfl) (fun st hst=>?_) (fun b128 hT128=>?_)
   ·simp only [stepE,fillS,AS.ev,hst 127 (by simp [Ins.sl,Od.sls,Od.sl])];rfl
   refine fg_app (i:=⟨_,_,.app _ _ _ _ _ _⟩) rfl trivial rfl rfl rfl rfl ?_
   refine fl_appB (n:=L.length) (m:=1) (cs:=rowQ (namesB x.entities) x.classes L) rfl rfl mem0 rfl (fun _=>repS P3) (by omega) (by omega) fun c129 hc129=>lN ?_
   refine G0 2 O ?_
   refine sq_n ?_
   refine xG ?_
   refine fl_rowq (p:=[_,_,_,_]) (t:=((d2,a3),(c127,d127))) rfl ?_
   refine lB rfl rfl (bI_add (n:=i1+1) (by omega) (by omega)) ?_
   refine R0 2 O ?_
   exact lq_n (by omega) ⟨i1+1,_,_,_,LZ.m [_,_,_,_] O,rfl,by omega,all_step hnb (by rw [bad_p hd2 hpp ha1 ha2,hg71,mism_f hg94 hg101 hc108];rfl),by rw [List.map_append,hLp,up_step,pair_at hd2 hc111 hpp ha3];rfl,qs_step (hLq.mono (zd_mono zI)) ⟨hm127,hn127⟩,by rw [List.length_append,List.length_singleton];omega⟩
  refine fx_skip ?_
  refine sq_n ?_
  refine xG ?_
  refine lB rfl rfl (bI_add (n:=i1+1) (by omega) (by omega)) ?_
  refine R0 2 O ?_
  exact lq_n (by omega) ⟨i1+1,_,_,_,LZ.m [_,_,_] O,rfl,by omega,all_step hnb (by rw [bad_p hd2 hpp ha1 ha2,hg71,mism_f hg94 hg101 hc108];rfl),by rw [up_step,pair_no hd2 hc111,hLp];simp,(hLq.mono (zd_mono zI)),by omega⟩
 refine fx_eseq ?_
 refine lq_e ?_
 refine sq_n ?_
 refine R4 6 O ?_
 have hLn:(L.map fun t=>tx t.1.1.id).Nodup:=by
  have h:=pairs_nd (dl:=yy.deals) (fun q hq=>hnb q (by omega)) i1
  rw [← hLp,List.map_map] at h
  exact h
 refine fl_callLZ zz [.row u4 116 10 L.length (rowQ (namesB x.entities) x.classes L)] (c_sortF (by omega) (by omega) hLn) rfl rfl rfl fun v132 z132 H132 _ hv132=>?_
 obtain ⟨rfl,rfl,rfl⟩:=hv132
 refine lN ?_
 refine R5 38 O ?_
 refine fx_frzN (z0:=z) (p:=[]) rfl zI (cl_rowQ fun t ht=>(hLq.mono (zd_mono zI)) t (sortQ_mem.1 ht)) (by rw [List.length_map,sortQ_len]) (by omega) fun zr _ hsr=>?_
 refine xT ?_
 refine rQ (.inl rfl) (rt rfl (rt rfl (rt rfl rn))) ?_
 obtain ⟨c,hc,_⟩:=SZ.one hsr
 subst hc
 have he:i1=yy.deals.length:=by omega
 rw [sortQ_map,hLp,he] at hsr
 exact .inr ⟨yy,hyy,by omega,.inr ⟨fun q hq=>hnb q (by omega),c,rfl,hsr⟩⟩
open Go.CE Go.RowKit Go.Num
open Go.Eng (setL)
abbrev PT:=List UInt8×Int×Int×Int×Int×Int×Rat
def sameP (a b:PT):Bool:=decide (a=b)
theorem sameP_t {s1 s2:List UInt8} {k1 p1 q1 i1 o1 k2 p2 q2 i2 o2:Int} {x y:Rat} (h1:s1=s2) (h2:k1=k2) (h3:p1=p2) (h4:q1=q2) (h5:i1=i2) (h6:o1=o2):decide (x=y)=sameP (s1,k1,p1,q1,i1,o1,x) (s2,k2,p2,q2,i2,o2,y):=by
 subst h1 h2 h3 h4 h5 h6
 simp [sameP]
theorem sameP_f {s1 s2:List UInt8} {k1 p1 q1 i1 o1 k2 p2 q2 i2 o2:Int} {x y:Rat} (h:¬ (s1=s2∧k1=k2∧p1=p2∧q1=q2∧i1=i2∧o1=o2∧x=y)):false=sameP (s1,k1,p1,q1,i1,o1,x) (s2,k2,p2,q2,i2,o2,y):=by
 simp only [sameP,Prod.mk.injEq,h,decide_false]
theorem getW:(mkT tS).get 42=none:=by kernel_rfl
theorem handW (mem:Tr Blk) (nx:Nat):(handG 321 117 (handS 184 (handF 106 107 h1))) 42 [] mem nx=some (Ab true,mem,nx):=rfl
theorem works_fc {k:Nat} (hk:1≤k) {z:Mem}:FC (E k) 42 [] z fun v _=>v=Ab true:=fun mem nx hh=>by
 obtain ⟨j,rfl⟩:∃ j,k=j+1:=⟨k - 1,by omega⟩
 refine ⟨_,mem,nx,z,[],?_,Nat.le_refl _,fun _ _ _=>rfl,hh,zle.refl _,fun b k h=>.inl h,fun b h=>(by simp [fps] at h),rfl,rfl⟩
 show evF (mkT tS) (handG 321 117 (handS 184 (handF 106 107 h1))) K0 (j+1) 42 [] mem nx=_
 rw [evF,getW]
 exact handW mem nx
theorem b_tmod {k:IntKind} {a b:Int} (h:b≠0):binW .rem (.int k a) (.int k b)=some (.int k (a.tmod b)):=by simp [binW,Go.Eng.binV,Go.Eng.need,h]
theorem pick_ok {a:Int} {n:Nat} (h:0<n) : -(n:Int)<a.tmod n∧a.tmod n<n∧∃ m:Nat,(a.tmod n+n).tmod n=(m:Nat)∧m≤n:=by
  have h1:(a.tmod n).natAbs<n:=by rw [Int.natAbs_tmod];exact Nat.mod_lt _ h
  have h2:(0:Int)≤a.tmod n+n:=by omega
  refine ⟨by omega,by omega,((a.tmod n+n) % n).toNat,?_,?_⟩
  · rw [Int.tmod_eq_emod_of_nonneg h2,Int.toNat_of_nonneg (Int.emod_nonneg _ (by omega))]
  · have h3 := Int.emod_lt_of_pos (a.tmod n + n) (show (0 : Int) < n by omega)
    omega
theorem c_law20_few {k:Nat} (hk:3≤k) {z:Mem} {x:PFiling} {c0 c1 c2 c3 c4 c5 c6 c7 c8 c9 c10 c11:C} (g0:CZ 8 RBracket z c0 x.brackets) (g1:CZ 1 RW z c1 x.threshold.nm) (g2:CZ 1 RW z c2 x.threshold.dm) (g3:CZ 1 RW z c3 x.cap.nm) (g4:CZ 1 RW z c4 x.cap.dm) (g5:CZ 1 RW z c5 x.interest.nm) (g6:CZ 1 RW z c6 x.interest.dm) (g7:CZ 1 RW z c7 x.floor.nm) (g8:CZ 1 RW z c8 x.floor.dm) (g9:CZ 6 RClass z c9 x.classes) (g10:CZ 1 RS z c10 x.entities) (g11:CZ 6 RYear z c11 x.years):FC (E k) 41 [.agg [Cs x.name,Cs x.parent,c0,Cb x.threshold.n,c1,Cb x.threshold.d,c2,Cb x.cap.n,c3,Cb x.cap.d,c4,Ci x.back,Ci x.forward,Cb x.interest.n,c5,Cb x.interest.d,c6,Cb x.floor.n,c7,Cb x.floor.d,c8,Ci x.keep,c9,c10,c11]] z fun u _=>∃ b:Bool,u=bool_ b∧(b=true→SmF x):=by
 refine fc_of (tS_get41) (by omega) (len1 rfl) fun B j hj=>?_
 refine xR ?_
 refine fl_bx rfl fun b1=>?_
 refine R2 4 O ?_
 refine fl_ldAll rfl mem0 rfl ?_
 refine lZ z (Few (by omega) ⟨_,rfl,mk_filing g0 g1 g2 g3 g4 g5 g6 g7 g8 g9 g10 g11⟩) rfl rfl fun v4 z4 _ ⟨r4,hv4,hs4⟩=>?_
 subst hv4
 refine lM rfl ?_
 refine fl_splitB 5 rfl (fun hg5=>?_) (fun hg5=>?_)
 ·refine lD rfl ?_
  refine lF rfl ?_
  refine lD rfl ?_
  refine fl_ld1 rfl mem0 rfl ?_
  refine lD rfl ?_
  refine fl_lenS rfl g10 ?_
  refine R1 12 O ?_
  refine fl_splitD 11 rfl (fun hg11=>?_) (fun hg11=>?_)
  ·refine lD rfl ?_
   refine lF rfl ?_
   refine lD rfl ?_
   refine fl_ld1 rfl mem0 rfl ?_
   refine lD rfl ?_
   refine fl_lenS rfl g9 ?_
   refine R1 12 O ?_
   refine fl_splitD 17 rfl (fun hg17=>?_) (fun hg17=>?_)
   ·refine lD rfl ?_
    refine lF rfl ?_
    refine lD rfl ?_
    refine fl_ld1 rfl mem0 rfl ?_
    refine lD rfl ?_
    refine fl_lenS rfl g11 ?_
    refine R0 12 O ?_
    refine xT ?_
    exact rI O ⟨_,rfl,fun _=>hs4 hg5⟩
   refine R0 96 O ?_
   refine xT ?_
   exact rI O ⟨_,rfl,fun _=>hs4 hg5⟩
  refine R0 6176 O ?_
  refine xT ?_
  exact rI O ⟨_,rfl,fun _=>hs4 hg5⟩
 refine R0 395296 O ?_
 refine xT ?_
 exact rI O ⟨_,rfl,fun h=>absurd h (by decide)⟩
theorem c_kit_Pick {k:Nat} (hk:1≤k) {z:Mem} {by_:Int} {n0:Nat} (hn:n0≤1000):FC (E k) 40 [Ai by_,Az n0] z fun u _=>∃ m:Nat,u=int_ (m:Nat)∧m≤n0:=by
 refine fc_of (tS_get40) (by omega) (len1 rfl) fun B j hj=>?_
 refine R5 128 O ?_
 refine xD rfl (fun hc6=>?_) (fun hc6=>?_)
 ·refine R5 8 O ?_
  refine fx_rseq ?_
  exact rI O ⟨0,rfl,by omega⟩
 refine R4 16 O ?_
 have hp:=pick_ok (a:=by_) (n:=n0) (by omega)
 refine lB rfl rfl (b_tmod (by omega)) ?_
 refine lC rfl ?_
 refine lB rfl rfl (b_add' (r:=by_.tmod n0+n0) (wi64 (by omega))) ?_
 refine lC rfl ?_
 refine lB rfl rfl (b_tmod (by omega)) ?_
 refine R0 2 O ?_
 refine xT ?_
 refine rI O ?_
 obtain ⟨_,_,m,hm,hl⟩:=hp
 exact ⟨m,congrArg int_ hm,hl⟩
theorem c_pairs_Same {k:Nat} (hk:11≤k) {z:Mem} {s1:List UInt8} {k1 p1 q1 i1 o1:Int} {n1 m1:Bool} {c1 d1:C} {s2:List UInt8} {k2 p2 q2 i2 o2:Int} {n2 m2:Bool} {c2 d2:C} {l1 r1:List UInt32} (hx1:CZ 1 RW z c1 l1) (hy1:CZ 1 RW z d1 r1) (hl1:l1.length≤9000000) (hr1:r1.length≤9000000) {l2 r2:List UInt32} (hx2:CZ 1 RW z c2 l2) (hy2:CZ 1 RW z d2 r2) (hl2:l2.length≤9000000) (hr2:r2.length≤9000000):FC (E k) 51 [.agg [Cs (bs s1),Cu k1,Ci p1,Ci q1,Ci i1,Ci o1,Cb n1,c1,Cb m1,d1],.agg [Cs (bs s2),Cu k2,Ci p2,Ci q2,Ci i2,Ci o2,Cb n2,c2,Cb m2,d2]] z fun u _=>u=Ab (sameP (s1,k1,p1,q1,i1,o1,(valR ((n1,l1),(m1,r1)))) (s2,k2,p2,q2,i2,o2,(valR ((n2,l2),(m2,r2))))):=by
 refine fc_of (tS_get51) (by omega) (len1 rfl) fun B j hj=>?_
 refine xR ?_
 refine fl_bx rfl fun b2=>?_
 refine fl_bx rfl fun b3=>?_
 refine R2 8 O ?_
 refine fl_ld1 rfl Y1 rfl ?_
 refine lF rfl ?_
 refine fl_ld1 rfl mem0 rfl ?_
 refine lB rfl rfl (bS_eql _ _) ?_
 refine lC rfl ?_
 refine fl_splitD 10 rfl (fun hg10=>?_) (fun hg10=>?_)
 ·refine lD rfl ?_
  refine lF rfl ?_
  refine lD rfl ?_
  refine fl_ld1 rfl Y1 rfl ?_
  refine lD rfl ?_
  refine lF rfl ?_
  refine lD rfl ?_
  refine fl_ld1 rfl mem0 rfl ?_
  refine R1 12 O ?_
  refine fl_splitD 17 rfl (fun hg17=>?_) (fun hg17=>?_)
  ·refine lD rfl ?_
   refine lF rfl ?_
   refine lD rfl ?_
   refine fl_ld1 rfl Y1 rfl ?_
   refine lD rfl ?_
   refine lF rfl ?_
   refine lD rfl ?_
   refine fl_ld1 rfl mem0 rfl ?_
   refine R1 12 O ?_
   refine fl_splitD 24 rfl (fun hg24=>?_) (fun hg24=>?_)
   ·refine lD rfl ?_
    refine lF rfl ?_
    refine lD rfl ?_
    refine fl_ld1 rfl Y1 rfl ?_
    refine lD rfl ?_
    refine lF rfl ?_
    refine lD rfl ?_
    refine fl_ld1 rfl mem0 rfl ?_
    refine R1 12 O ?_
    refine fl_splitD 31 rfl (fun hg31=>?_) (fun hg31=>?_)
    ·refine lD rfl ?_
     refine lF rfl ?_
     refine lD rfl ?_
     refine fl_ld1 rfl Y1 rfl ?_
     refine lD rfl ?_
     refine lF rfl ?_
     refine lD rfl ?_
     refine fl_ld1 rfl mem0 rfl ?_
     refine R1 12 O ?_
     refine fl_splitD 38 rfl (fun hg38=>?_) (fun hg38=>?_)
     ·refine lD rfl ?_
      refine lF rfl ?_
      refine lD rfl ?_
      refine fl_ld1 rfl Y1 rfl ?_
      refine lD rfl ?_
      refine lF rfl ?_
      refine lD rfl ?_
      refine fl_ld1 rfl mem0 rfl ?_
      refine R1 12 O ?_
      refine fl_splitD 45 rfl (fun hg45=>?_) (fun hg45=>?_)
      ·refine lD rfl ?_
       refine lF rfl ?_
       refine lD rfl ?_
       refine fl_ld4 rfl Y1 rfl ?_
       refine lD rfl ?_
       refine lF rfl ?_
       refine lD rfl ?_
       refine fl_ld4 rfl mem0 rfl ?_
       refine lD rfl ?_
       refine lE z (c_rat_Same (by omega) hx1 hy1 hl1 hr1 hx2 hy2 hl2 hr2) O O fun z50 _=>?_
       refine R0 6 O ?_
       refine xT ?_
       exact rI O (cQ (sameP_t hg10 hg17 hg24 hg31 hg38 hg45))
      refine R0 192 O ?_
      refine xT ?_
      exact rI O (cQ (sameP_f fun h=>hg45 h.2.2.2.2.2.1))
     refine R0 24640 O ?_
     refine xT ?_
     exact rI O (cQ (sameP_f fun h=>hg38 h.2.2.2.2.1))
    refine R0 3153984 O ?_
    refine xT ?_
    exact rI O (cQ (sameP_f fun h=>hg31 h.2.2.2.1))
   refine R0 403710016 O ?_
   refine xT ?_
   exact rI O (cQ (sameP_f fun h=>hg24 h.2.2.1))
  refine R0 51674882112 O ?_
  refine xT ?_
  exact rI O (cQ (sameP_f fun h=>hg17 h.2.1))
 refine R0 6614384910400 O ?_
 refine xT ?_
 exact rI O (cQ (sameP_f fun h=>hg10 h.1))
open Go.CE Go.RowKit Go.Num
def sumR (l:List Rat):Rat:=l.foldr (· + ·) 0
theorem sumR_app (l:List Rat) (a:Rat):sumR (l++[a])=sumR l+a:=by
 induction l with
 | nil=>show a+0=0+a;rw [Rat.add_zero,Rat.zero_add]
 | cons b l ih=>show b+sumR (l++[a])=b+sumR l+a;rw [ih,Rat.add_assoc]
theorem sumR_perm {l l':List Rat} (h:l.Perm l'):sumR l=sumR l':=by
 induction h with
 | nil=>rfl
 | cons a _ ih=>exact congrArg (a + ·) ih
 | swap a b l=>show b+(a+sumR l)=a+(b+sumR l);rw [← Rat.add_assoc,← Rat.add_assoc,Rat.add_comm b a]
 | trans _ _ h1 h2=>exact h1.trans h2
theorem nodup_of_map {α β:Type} {f:α→β} {l:List α} (h:(l.map f).Nodup):l.Nodup:=by
 unfold List.Nodup at h ⊢
 rw [List.pairwise_map] at h
 exact h.imp fun hne e=>hne (congrArg f e)
theorem nd_inj {α:Type} {l:List α} (h:l.Nodup) {i j:Nat} (hi:i<l.length) (hj:j<l.length) (e:l[i]=l[j]):i=j:=by
 have h:=List.pairwise_iff_getElem.1 h
 rcases Nat.lt_trichotomy i j with h1 | h1 | h1
 ·exact absurd e (h i j hi hj h1)
 ·exact h1
 exact absurd e.symm (h j i hj hi h1)
theorem blt {a b:List UInt8} (h:¬ b<a) (g:¬ a=b):a<b:=Decidable.byContradiction fun h2=>g (List.le_antisymm (List.not_lt.1 h) (List.not_lt.1 h2))
def idF (s:ByteArray) (dl:List PDeal):List PDeal:=dl.filter fun d=>decide (d.id=s)
theorem pos_filter (s:ByteArray) (dl:List PDeal):(posN s dl).filterMap (dl[·]?)=idF s dl:=by
 have key:∀ i,i≤dl.length→(posN s (dl.take i)).filterMap (dl[·]?)=idF s (dl.take i):=by
  intro i
  induction i with
  | zero=>intro _;rfl
  | succ i ih =>
   intro hi
   have ha:dl[i]? = some dl[i]:=List.getElem?_eq_getElem (by omega)
   rw [pos_step ha,List.take_add_one,ha]
   simp only [Option.toList,idF,List.filter_append]
   have ih:=ih (by omega)
   by_cases hs:s=dl[i].id
   ·rw [if_pos hs,List.filterMap_append,ih]
    simp [ha,hs,idF]
   rw [if_neg hs,ih]
   have:¬ dl[i].id=s:=fun e=>hs e.symm
   simp [this,idF]
 have:=key dl.length (Nat.le_refl _)
 rwa [List.take_length] at this
section
variable {nl:List ByteArray} {cl:List PClass} {dl dl':List PDeal} {i p q:Nat} {d a b:PDeal}
def AllOk (nl:List ByteArray) (cl:List PClass) (dl:List PDeal):Prop:=∀ d,d∈dl→wellB nl cl d=true∧∃ a b,idF d.id dl=[a,b]∧mism a b=false
theorem all_of (h:∀ i,i<dl.length→badB nl cl dl i=false):AllOk nl cl dl:=fun d hd=>by
 obtain ⟨i,hi⟩:=List.mem_iff_getElem?.1 hd
 obtain ⟨p,q,a,b,h1,h2,h3,_,h4,h5⟩:=ok_both hi (h i (List.getElem?_eq_some_iff.1 hi).1)
 refine ⟨h4,a,b,?_,h5⟩
 rw [← pos_filter,h1]
 simp [h2,h3]
theorem of_all (h:AllOk nl cl dl):∀ i,i<dl.length→badB nl cl dl i=false:=fun i hi=>by
 have hd:dl[i]? = some dl[i]:=List.getElem?_eq_getElem hi
 obtain ⟨h1,a,b,h2,h3⟩:=h _ (List.mem_of_getElem? hd)
 have hl:(posN dl[i].id dl).length=2:=by
  have e:((posN dl[i].id dl).filterMap (dl[·]?)).length=(posN dl[i].id dl).length:=by
   have:∀ l:List Nat,(∀ x,x∈l→∃ y,dl[x]? = some y)→(l.filterMap (dl[·]?)).length=l.length:=by
    intro l
    induction l with
    | nil=>intro _;rfl
    | cons x l ih =>
     intro h
     obtain ⟨y,hy⟩:=h x (List.mem_cons_self ..)
     rw [List.filterMap_cons_some hy,List.length_cons,List.length_cons,ih fun z hz=>h z (List.mem_cons_of_mem _ hz)]
   exact this _ fun x hx=>by obtain ⟨y,hy,_⟩:=pos_mem.1 hx;exact ⟨y,hy⟩
  rw [← e,pos_filter,h2];rfl
 obtain ⟨p,q,hp⟩:=two_of hl
 obtain ⟨_,⟨a',ha,_⟩,b',hb,_⟩:=pos_two hp
 have e:=pos_filter dl[i].id dl
 rw [hp,h2] at e
 simp [ha,hb] at e
 rw [bad_p hd hp ha hb,e.1,e.2,h1,h3];rfl
theorem mism_comm (h:mism a b=false):mism b a=false:=by
 simp only [mism,Bool.or_eq_false_iff,Bool.not_eq_false',decide_eq_true_eq] at h ⊢
 obtain ⟨⟨⟨h1,h2,h3,h4⟩,h5⟩,h6⟩:=h
 refine ⟨⟨⟨h1.symm,h2.symm,h3.symm,h4.symm⟩,?_⟩,h6.symm⟩
 cases ha:a.give<;>cases hb:b.give<;>simp_all
theorem perm_two {α:Type} {a b:α} {l:List α} (h:[a,b].Perm l):l=[a,b]∨l=[b,a]:=by
 have hl:=h.length_eq
 match l,hl with
 | [c,d],_ =>
  have hc:c=a∨c=b:=by have:=h.mem_iff (a:=c);simp at this;exact this
  rcases hc with rfl | rfl
  ·have:=List.perm_cons c |>.1 h
   have:=List.singleton_perm_singleton.1 this
   subst this;exact .inl rfl
  have h2:[c,a].Perm [c,d]:=(List.Perm.swap _ _ _).trans h
  have:=List.singleton_perm_singleton.1 (List.perm_cons c |>.1 h2)
  subst this;exact .inr rfl
theorem AllOk.perm (h:AllOk nl cl dl) (hp:dl.Perm dl'):AllOk nl cl dl':=fun d hd=>by
 obtain ⟨h1,a,b,h2,h3⟩:=h d (hp.mem_iff.2 hd)
 have h4:(idF d.id dl).Perm (idF d.id dl'):=hp.filter _
 rw [h2] at h4
 rcases perm_two h4 with h5 | h5
 ·exact ⟨h1,a,b,h5,h3⟩
 exact ⟨h1,b,a,h5,mism_comm h3⟩
theorem mism_amt (h:mism a b=false):amtV a=amtV b:=by
 simp only [mism,Bool.or_eq_false_iff,Bool.not_eq_false',decide_eq_true_eq] at h
 exact h.2
theorem mem_pairs (h:AllOk nl cl dl) (x:PDeal×PDeal):x∈pairsUp dl dl.length↔x.1∈dl∧x.1.give=true∧x.2∈dl∧x.2.id=x.1.id∧x.2.give=false:=by
  unfold pairsUp
  rw [List.mem_filterMap]
  constructor
  · rintro ⟨i,_,hi⟩
    obtain ⟨h1,h2,p,q,h3,h4⟩:=pair_inv hi
    obtain ⟨p',q',a,b,k1,k2,k3,k4,_,k5⟩:=ok_both h1 (of_all h i (List.getElem?_eq_some_iff.1 h1).1)
    rw [h3] at k1
    simp only [List.cons.injEq,and_true] at k1
    obtain ⟨rfl,rfl⟩:=k1
    obtain ⟨_,⟨a',ha,hai⟩,b',hb,hbi⟩:=pos_two h3
    rw [k2] at ha
    rw [k3] at hb
    injection ha with ha
    injection hb with hb
    subst ha hb
    have hg:=mism_give k5
    obtain ⟨x1,x2⟩:=x
    refine ⟨List.mem_of_getElem? h1,h2,List.mem_of_getElem? h4,?_⟩
    show x2.id=x1.id∧x2.give=false
    have h2:x1.give=true:=h2
    have hbi:b.id=x1.id:=hbi
    have hai:a.id=x1.id:=hai
    rcases pos_self h1 h3 with rfl | rfl
    · rw [show i + q - i = q by omega, k3] at h4
      rw [k2] at h1
      injection h4 with h4
      injection h1 with h1
      have h4:b=x2:=h4
      have h1:a=x1:=h1
      subst h4 h1
      refine ⟨hbi,?_⟩
      cases hbg:b.give
      · rfl
      · exact absurd (h2.trans hbg.symm) hg
    · rw [show p + i - i = p by omega, k2] at h4
      rw [k3] at h1
      injection h4 with h4
      injection h1 with h1
      have h4:a=x2:=h4
      have h1:b=x1:=h1
      subst h4 h1
      refine ⟨hai,?_⟩
      cases hag:a.give
      · rfl
      · exact absurd (hag.trans h2.symm) hg
  · rintro ⟨h1,h2,h3,h4,h5⟩
    obtain ⟨i,hi⟩:=List.mem_iff_getElem?.1 h1
    obtain ⟨j,hj⟩:=List.mem_iff_getElem?.1 h3
    have hil:=(List.getElem?_eq_some_iff.1 hi).1
    obtain ⟨p,q,a,b,k1,k2,k3,k4,_,k5⟩:=ok_both hi (of_all h i hil)
    have hi2:=pos_self hi k1
    have hj2:j=p∨j=q:=pos_self hj (by rw [h4];exact k1)
    have hne:i≠j:=fun e=>by subst e;rw [hi] at hj;injection hj with hj;rw [← hj,h2] at h5;cases h5
    refine ⟨i,List.mem_range.2 hil,?_⟩
    have e:p+q - i=j:=by omega
    exact (pair_at hi h2 k1 (by rw [e];exact hj)).trans (by cases x;rfl)
theorem pairs_nodup (h:AllOk nl cl dl):(pairsUp dl dl.length).Nodup:=nodup_of_map (pairs_nd (of_all h) dl.length)
theorem pairs_perm (h:AllOk nl cl dl) (hp:dl.Perm dl'):(pairsUp dl dl.length).Perm (pairsUp dl' dl'.length):=
 (List.perm_ext_iff_of_nodup (pairs_nodup h) (pairs_nodup (h.perm hp))).2 fun x=>by
  rw [mem_pairs h,mem_pairs (h.perm hp),hp.mem_iff,hp.mem_iff]
theorem dl_nodup (h:AllOk nl cl dl):dl.Nodup:=by
 unfold List.Nodup
 rw [List.pairwise_iff_getElem]
 intro i j hi hj hij e
 have h1:dl[i]? = some dl[i]:=List.getElem?_eq_getElem hi
 have h2:dl[j]? = some dl[i]:=by rw [List.getElem?_eq_getElem hj,e]
 obtain ⟨p,q,a,b,k1,k2,k3,k4,_,k5⟩:=ok_both h1 (of_all h i hi)
 have g1:=pos_self h1 k1
 have g2:=pos_self h2 k1
 have:i=p∧j=q:=by omega
 obtain ⟨rfl,rfl⟩:=this
 rw [h1] at k2
 rw [h2] at k3
 injection k2 with k2
 injection k3 with k3
 exact mism_give k5 (by rw [← k2,← k3])
theorem other (h:AllOk nl cl dl) (hd:d∈dl):∃ e,e∈dl∧e.id=d.id∧e.give = !d.give∧amtV e=amtV d:=by
 obtain ⟨_,a,b,h2,h3⟩:=h d hd
 have hm:d∈idF d.id dl:=List.mem_filter.2 ⟨hd,by simp⟩
 have ha:a∈idF d.id dl:=by rw [h2];simp
 have hb:b∈idF d.id dl:=by rw [h2];simp
 obtain ⟨ha1,ha2⟩:=List.mem_filter.1 ha
 obtain ⟨hb1,hb2⟩:=List.mem_filter.1 hb
 have hg:=mism_give h3
 have hA:=mism_amt h3
 rw [h2] at hm
 simp only [List.mem_cons,List.not_mem_nil,or_false] at hm
 rcases hm with rfl | rfl
 ·refine ⟨b,hb1,of_decide_eq_true hb2,?_,hA.symm⟩
  cases hx:d.give<;>cases hy:b.give<;>simp_all
 refine ⟨a,ha1,of_decide_eq_true ha2,?_,hA⟩
 cases hx:d.give<;>cases hy:a.give<;>simp_all
theorem same_side (h:AllOk nl cl dl) (ha:a∈dl) (hb:b∈dl) (hi:a.id=b.id) (hg:a.give=b.give):a=b:=by
 obtain ⟨_,u,v,h2,h3⟩:=h a ha
 have g:=mism_give h3
 have m1:a∈idF a.id dl:=List.mem_filter.2 ⟨ha,by simp⟩
 have m2:b∈idF a.id dl:=List.mem_filter.2 ⟨hb,by simp [hi]⟩
 rw [h2] at m1 m2
 simp only [List.mem_cons,List.not_mem_nil,or_false] at m1 m2
 rcases m1 with rfl | rfl<;>rcases m2 with rfl | rfl
 ·rfl
 ·exact absurd hg g
 ·exact absurd hg.symm g
 rfl
theorem pairs_fst (h:AllOk nl cl dl):((pairsUp dl dl.length).map (·.1)).Perm (dl.filter fun d=>d.give):=by
 have hn:((pairsUp dl dl.length).map (·.1)).Nodup:=by
  have:=pairs_nd (of_all h) dl.length
  exact nodup_of_map (f:=fun d:PDeal=>tx d.id) (by rw [List.map_map];exact this)
 refine (List.perm_ext_iff_of_nodup hn ((dl_nodup h).filter _)).2 fun d=>?_
 rw [List.mem_map,List.mem_filter]
 constructor
 ·rintro ⟨x,hx,rfl⟩
  have:=(mem_pairs h x).1 hx
  exact ⟨this.1,this.2.1⟩
 rintro ⟨h1,h2⟩
 obtain ⟨e,g1,g2,g3,_⟩:=other h h1
 exact ⟨(d,e),(mem_pairs h _).2 ⟨h1,h2,g1,g2,by rw [g3,h2];rfl⟩,rfl⟩
theorem pairs_snd (h:AllOk nl cl dl):((pairsUp dl dl.length).map (·.2)).Perm (dl.filter fun d=>!d.give):=by
 have hn:((pairsUp dl dl.length).map (·.2)).Nodup:=by
  have:=pairs_nd (of_all h) dl.length
  refine nodup_of_map (f:=fun d:PDeal=>tx d.id) ?_
  rw [List.map_map]
  have e:(pairsUp dl dl.length).map ((fun d:PDeal=>tx d.id) ∘ fun x=>x.2)=(pairsUp dl dl.length).map fun x=>tx x.1.id:=List.map_congr_left fun x hx=>by
   show tx x.2.id=tx x.1.id
   rw [((mem_pairs h x).1 hx).2.2.2.1]
  rw [e];exact this
 refine (List.perm_ext_iff_of_nodup hn ((dl_nodup h).filter _)).2 fun d=>?_
 rw [List.mem_map,List.mem_filter]
 constructor
 ·rintro ⟨x,hx,rfl⟩
  have:=(mem_pairs h x).1 hx
  exact ⟨this.2.2.1,by rw [this.2.2.2.2];rfl⟩
 rintro ⟨h1,h2⟩
 obtain ⟨e,g1,g2,g3,_⟩:=other h h1
 have h2:d.give=false:=by simpa using h2
 exact ⟨(e,d),(mem_pairs h _).2 ⟨g1,by rw [g3,h2];rfl,h1,g2.symm,h2⟩,rfl⟩
theorem pairs_len (h:AllOk nl cl dl):2 * (pairsUp dl dl.length).length=dl.length:=by
 have h1:=(pairs_fst h).length_eq
 have h2:=(pairs_snd h).length_eq
 rw [List.length_map] at h1 h2
 have h3:=List.length_eq_countP_add_countP (fun d:PDeal=>d.give) (l:=dl)
 rw [List.countP_eq_length_filter,List.countP_eq_length_filter] at h3
 have e:(dl.filter fun d=>decide (¬ d.give=true))=dl.filter fun d=>!d.give:=List.filter_congr fun d _=>by cases d.give<;>rfl
 rw [e] at h3
 omega
def sumG (dl:List PDeal):Rat:=sumR ((dl.filter fun d=>d.give).map amtV)
def sumT (dl:List PDeal):Rat:=sumR ((dl.filter fun d=>!d.give).map amtV)
def sumA (P:List (PDeal×PDeal)):Rat:=sumR (P.map fun x=>amtV x.1)
theorem sum_GA (h:AllOk nl cl dl):sumG dl=sumA (pairsUp dl dl.length):=by
 unfold sumG sumA
 rw [← sumR_perm ((pairs_fst h).map amtV),List.map_map];rfl
theorem sum_TA (h:AllOk nl cl dl):sumT dl=sumA (pairsUp dl dl.length):=by
 unfold sumT sumA
 rw [← sumR_perm ((pairs_snd h).map amtV),List.map_map]
 congr 1
 refine List.map_congr_left fun x hx=>?_
 have hm:=(mem_pairs h x).1 hx
 obtain ⟨e,g1,g2,g3,g4⟩:=other h hm.1
 have:x.2=e:=same_side h hm.2.2.1 g1 (hm.2.2.2.1.trans g2.symm) (by rw [hm.2.2.2.2,g3,hm.2.1];rfl)
 show amtV x.2=amtV x.1
 rw [this,g4]
theorem sumA_sort (P:List (PDeal×PDeal)):sumA (sortP P)=sumA P:=sumR_perm ((List.mergeSort_perm P leP).map _)
theorem sortP_len (P:List (PDeal×PDeal)):(sortP P).length=P.length:=List.length_mergeSort P
theorem sortP_mem {P:List (PDeal×PDeal)} {x:PDeal×PDeal}:x∈sortP P↔x∈P:=(List.mergeSort_perm P leP).mem_iff
theorem sortP_pw (P:List (PDeal×PDeal)):(sortP P).Pairwise fun a b=>leP a b=true:=
  List.pairwise_mergeSort (le := leP) (fun a b c h1 h2 => decide_eq_true (List.le_trans (of_decide_eq_true h1) (of_decide_eq_true h2))) (fun a b => by
    rcases List.le_total (tx a.1.id) (tx b.1.id) with h | h
    · simp [leP,h]
    · simp [leP,h]) P
theorem sort_eq {P P':List (PDeal×PDeal)} (h:P.Perm P') (hn:(P.map fun a=>tx a.1.id).Nodup):sortP P=sortP P':=by
 have h1:(sortP P).Perm (sortP P'):=((List.mergeSort_perm P leP).trans h).trans (List.mergeSort_perm P' leP).symm
 have hi:∀ a b,a∈P→b∈P→tx a.1.id=tx b.1.id→a=b:=fun a b ha hb e=>by
  obtain ⟨i,hi,rfl⟩:=List.mem_iff_getElem.1 ha
  obtain ⟨j,hj,rfl⟩:=List.mem_iff_getElem.1 hb
  have:=nd_inj hn (i:=i) (j:=j) (by rw [List.length_map];exact hi) (by rw [List.length_map];exact hj) (by simpa using e)
  subst this;rfl
 refine List.Perm.eq_of_pairwise (le:=fun a b=>leP a b=true) (fun a b ha hb h2 h3=>?_) (sortP_pw P) (sortP_pw P') h1
 exact hi a b (sortP_mem.1 ha) (h.mem_iff.2 (sortP_mem.1 hb)) (List.le_antisymm (of_decide_eq_true h2) (of_decide_eq_true h3))
theorem asc {P:List (PDeal×PDeal)} (hn:(P.map fun a=>tx a.1.id).Nodup) {i:Nat} {a b:PDeal×PDeal} (ha:(sortP P)[i]? = some a) (hb:(sortP P)[i+1]? = some b):tx a.1.id<tx b.1.id:=by
 obtain ⟨hi,rfl⟩:=List.getElem?_eq_some_iff.1 ha
 obtain ⟨hj,rfl⟩:=List.getElem?_eq_some_iff.1 hb
 have h1:=List.pairwise_iff_getElem.1 (sortP_pw P) i (i+1) hi hj (by omega)
 have hn2:((sortP P).map fun a=>tx a.1.id).Nodup:=((List.mergeSort_perm P leP).map _).nodup_iff.2 hn
 have h2:tx (sortP P)[i].1.id≠tx (sortP P)[i+1].1.id:=fun e=>by
  have:=nd_inj hn2 (i:=i) (j:=i+1) (by rw [List.length_map];exact hi) (by rw [List.length_map];exact hj) (by simpa using e)
  omega
 exact blt (fun h3=>absurd (List.lt_of_le_of_lt (of_decide_eq_true h1) h3) (List.lt_irrefl _)) h2
theorem pl_ne (h:wellB nl cl d=true):placeB nl d.payee≠placeB nl d.payer:=by
 simp only [wellB,Bool.and_eq_true,Bool.not_eq_true',decide_eq_false_iff_not,decide_eq_true_eq] at h
 obtain ⟨⟨⟨⟨⟨h1,h2⟩,h3⟩,_⟩,_⟩,_⟩:=h
 intro e
 obtain ⟨i,a,g1,g2,g3⟩:=fst_get h2
 obtain ⟨j,b,k1,k2,k3⟩:=fst_get h3
 have e2:(i:Int)=j:=g1.symm.trans (e.trans k1)
 have:i=j:=by omega
 subst this
 rw [g2] at k2
 injection k2 with k2
 subst k2
 exact h1 ((of_decide_eq_true g3).symm.trans (of_decide_eq_true k3))
theorem pairs_well (h:AllOk nl cl dl) {x:PDeal×PDeal} (hx:x∈pairsUp dl dl.length):wellB nl cl x.1=true:=(h _ ((mem_pairs h x).1 hx).1).1
theorem sumG_step (ha:dl[i]? = some a):sumG (dl.take (i+1))=if a.give=true then sumG (dl.take i)+amtV a else sumG (dl.take i):=by
 unfold sumG
 rw [List.take_add_one,ha]
 simp only [Option.toList,List.filter_append,List.map_append]
 cases hg:a.give<;>simp [hg,sumR_app]
theorem sumT_step (ha:dl[i]? = some a):sumT (dl.take (i+1))=if a.give=true then sumT (dl.take i) else sumT (dl.take i)+amtV a:=by
 unfold sumT
 rw [List.take_add_one,ha]
 simp only [Option.toList,List.filter_append,List.map_append]
 cases hg:a.give<;>simp [hg,sumR_app]
theorem sumA_step {P:List (PDeal×PDeal)} {x:PDeal×PDeal} (hx:P[i]? = some x):sumA (P.take (i+1))=sumA (P.take i)+amtV x.1:=by
 unfold sumA
 rw [List.take_add_one,hx]
 simp [sumR_app]
end
def turn (dl:List PDeal) (n:Nat):List PDeal:=(dl.drop n).reverse++dl.take n
theorem turn_perm (dl:List PDeal) (n:Nat):dl.Perm (turn dl n):=by
 have h1:(turn dl n).Perm (dl.drop n++dl.take n):=(List.reverse_perm _).append (List.Perm.refl _)
 have h2:(dl.drop n++dl.take n).Perm (dl.take n++dl.drop n):=List.perm_append_comm
 rw [List.take_append_drop] at h2
 exact (h1.trans h2).symm
theorem norm_le {n:Int} {d:Nat} (h:d≠0):(Rat.normalize n d h).num.natAbs≤n.natAbs∧(Rat.normalize n d h).den≤d:=by
 rw [Rat.normalize_eq]
 refine ⟨?_,Nat.div_le_self _ _⟩
 show (n / ((n.natAbs.gcd d:Nat):Int)).natAbs≤n.natAbs
 rw [Int.natAbs_ediv_of_dvd (Int.ofNat_dvd_left.2 (Nat.gcd_dvd_left _ _))]
 exact Nat.div_le_self _ _
theorem len_add {p q:Rat} {k:Nat} (h1:(toL p.num.natAbs).length≤k) (h2:(toL (p.den:Int).natAbs).length≤k) (h3:(toL q.num.natAbs).length≤7) (h4:(toL (q.den:Int).natAbs).length≤7):(toL (p+q).num.natAbs).length≤k+8∧(toL ((p+q).den:Int).natAbs).length≤k+8:=by
 rw [Rat.add_def]
 obtain ⟨g1,g2⟩:=norm_le (n:=p.num * q.den+q.num * p.den) (Nat.mul_ne_zero p.den_nz q.den_nz)
 have m1:=lenMul h1 h4
 have m2:=lenMul h3 h2
 have m3:=lenMul h2 h4
 have m4:=lenAdd (k:=k+7) m1 (by rw [Nat.add_comm k 7];exact m2)
 refine ⟨toL_len.2 (Nat.lt_of_le_of_lt g1 (toL_len.1 m4)),toL_len.2 ?_⟩
 have m5:=toL_len.1 m3
 have e:((p.den:Int) * (q.den:Int)).natAbs=p.den * q.den:=by rw [Int.natAbs_mul];rfl
 rw [e] at m5
 refine Nat.lt_of_le_of_lt (show ((Rat.normalize _ _ _).den:Int).natAbs≤p.den * q.den from g2) (Nat.lt_of_lt_of_le m5 (Nat.pow_le_pow_right (by decide) (by omega)))
end Go.Proofs.YtlceligcgelbdaaGreat

/- Whether filings are small; both sides of the deals brought together, walked. -/
import Derived.WalkKit
import Derived.Orders
import Derived.Test.YtlceligcgelbdaaGreatKF3
set_option linter.unusedVariables false
set_option linter.unusedSimpArgs false
set_option maxRecDepth 100000
set_option maxHeartbeats 1000000
namespace Go.Proofs.YtlceligcgelbdaaGreat
open Go.CE Go.RowKit Go.Num
open Go.Eng (kN)
theorem aZR {k:Nat} (hk:10≤k) {z:dA} {n1 n2:Bool} {c1 c2:C} {l1 l2:List UInt32} (hx:CZ 1 RW z c1 l1) (hy:CZ 1 RW z c2 l2) (h1:l1.length≤9000000) (h2:l2.length≤9000000) {n3 n4:Bool} {c3 c4:C} {l3 l4:List UInt32} (hu:CZ 1 RW z c3 l3) (hw:CZ 1 RW z c4 l4) (h3:l3.length≤9000000) (h4:l4.length≤9000000):FC (E k) 104 [.agg [Cb n1,c1,Cb n2,c2],.agg [Cb n3,c3,Cb n4,c4]] z fun v _=>v=Ab (decide ((valR ((n1,l1),(n2,l2)))=(valR ((n3,l3),(n4,l4))))):=by
 have em1:=Nat.le_trans (Ov (x:=((n1,l1),(n2,l2)))) h1
 have en1:=Nat.le_trans (Ox (x:=((n1,l1),(n2,l2)))) (Nat.succ_le_succ h2)
 have em2:=Nat.le_trans (Ov (x:=((n3,l3),(n4,l4)))) h3
 have en2:=Nat.le_trans (Ox (x:=((n3,l3),(n4,l4)))) (Nat.succ_le_succ h4)
 have om1:=Nat.le_trans em1 (show 9000000≤20000000 by decide)
 have om2:=Nat.le_trans em2 (show 9000000≤20000000 by decide)
 have on1:=Nat.le_trans en1 (show 9000000+1≤20000000 by decide)
 have on2:=Nat.le_trans en2 (show 9000000+1≤20000000 by decide)
 refine eA (bDw) (by omega) (aU O) fun B j hj=>?_
 refine xR ?_
 refine iU O fun b2=>?_
 refine iU O fun b3=>?_
 refine R0 2 O ?_
 refine iN ?_
 refine gl4 O O (.inr Y1) O ?_
 refine gC z (Cf (by omega) hx hy (Nat.le_trans h1 (show 9000000≤20000000 by decide)) (Nat.le_trans h2 (show 9000000≤20000000 by decide))) O O O O fun v6 z6 _ hv6=>?_
 have hw6:=yI (hv6 _ hx.m hy.m jF)
 obtain ⟨c6,d6,hv,hm6,hn6⟩:=hw6
 subst hv
 refine gl4 O O Ht O ?_
 refine gC z6 (Cf (by omega) hu.m hw.m (Nat.le_trans h3 (show 9000000≤20000000 by decide)) (Nat.le_trans h4 (show 9000000≤20000000 by decide))) O O O O fun v8 z8 _ hv8=>?_
 have hw8:=yI (hv8 _ hu.m hw.m jF)
 obtain ⟨c8,d8,hv,hm8,hn8⟩:=hw8
 subst hv
 refine gS O O O ?_
 refine pA O O P1 ?_
 refine lN ?_
 refine gS O O O ?_
 refine pA O O iW ?_
 refine lN ?_
 refine mL ?_
 refine R4 4 O ?_
 refine iP O Y1 O ?_
 refine lF O ?_
 refine iP O mem0 O ?_
 refine lZ z8 (aDU (by omega) hm6.m hm8 om1 om2) O O fun v13 z13 _ hv13=>?_
 rw [jI,jI] at hv13
 subst hv13
 refine R1 4 O ?_
 refine fR 15 O (fun hg15=>?_) (fun hg15=>?_)
 ·refine lD O ?_
  refine lF O ?_
  refine lD O ?_
  refine iP O Y1 O ?_
  refine lD O ?_
  refine lF O ?_
  refine lD O ?_
  refine iP O mem0 O ?_
  refine lD O ?_
  refine lZ z13 (aDU (by omega) hn6.m hn8.m on1 on2) O O fun v20 z20 _ hv20=>?_
  rw [jI,jI] at hv20
  subst hv20
  refine R0 12 O ?_
  refine xT ?_
  exact rI O (cQ (bSc hg15))
 refine R0 384 O ?_
 refine xT ?_
 exact rI O (cQ (bR7 hg15))
theorem aDG {call:eE} {B:pK} {an:List Nat} {j:Nat} {l:List CE.D} {fs:Sf} {T:dA} {tag last:Nat} {pj lj:List Nat} {Q:Sf→Prop} {i:I} {d size:Nat} {x:Go.Eng.Od} {af:List Nat} {b ty:Nat} {cs:List C} (hi:i.o=.load true size x) (hd:i.d=some d) (hg:GK fs i) (hx:fs.ev x=Ap b) (hT:T b (.cells ty cs)) (h:cs.length=size) (hs:Iu (.agg cs) (.agg cs)=true) (hw:FG call B an (j+1) l (fs.put d (.agg cs)) T tag last pj (j::lj) Q):FG call B an j (⟨i,af⟩::l) fs T tag last pj lj Q:=
 Hi (v:=.agg cs) hi hd hg hx hT rfl (by omega) (by rw [List.drop_zero,List.take_of_length_le (by omega)];rfl) hs hw
theorem bRX (a b:Bool):Go.Eng.binBV .eql (.bool a) (.bool b)=some (.bool (a == b)):=by cases a<;>cases b<;>rfl
theorem bFk {call:eE} {B:pK} {fs:Sf} {l:List I} {Q:Sf→Prop} {d:Nat} {x y:Go.Eng.Od} {a1 a2 b1 b2 c1 c2:ByteArray} {k1 k2:Int} (hx:fs.ev x=.agg [Cs a1,Cu k1,Cs b1,Cs c1]) (hy:fs.ev y=.agg [Cs a2,Cu k2,Cs b2,Cs c2])
    (hw:FL call B l (fs.put d (Ab (!decide (a1=a2∧k1=k2∧b1=b2∧c1=c2)))) Q):FL call B (⟨some d,none,.binA true [.s,.i,.s,.s] x y⟩::l) fs Q:=
  aGg (fun _ => rfl) (fun st rf => by
    have hb:∀ a b:ByteArray,J6 a.data.toList b.data.toList=decide (a=b):=fun a b=>by
      rw [D5]
      by_cases h:a=b
      · subst h;simp
      · rw [decide_eq_false h]
        exact beq_eq_false_iff_ne.2 fun e=>h (aZr.1 e)
    have h:eqA [.s,.i,.s,.s] [Cs a1,Cu k1,Cs b1,Cs c1] [Cs a2,Cu k2,Cs b2,Cs c2]=some (decide (a1=a2∧k1=k2∧b1=b2∧c1=c2)):=by
      simp only [eqA,hb]
      by_cases h1:a1=a2<;>by_cases h2:k1=k2<;>by_cases h3:b1=b2<;>by_cases h4:c1=c2<;>simp [h1,h2,h3,h4]
    simp only [bQ,rf.ev,hx,hy,h]
    cases decide (a1=a2∧k1=k2∧b1=b2∧c1=c2)<;>rfl) hw
theorem bHg {F F1 F2:List Fe} {x:Fe} {dl:List lL} {i:Nat} {d:lL} {u':AV} (hI:∀ s:ByteArray,On F (tx s)=B2 s (dl.take i)) (ha:dl[i]? = some d) (h3:x.ix=On F (tx d.id)) (h4:F1++x::F2=F∨(F1++x::F2=F++[x]∧x.u=rC∧x.ix=[])) (h5:∀ y,y∈F1→y.k≠tx d.id) (h1:x.k=tx d.id) :
  ∀ s:ByteArray,On (F1++⟨tx d.id,u',x.n,x.ix++[i]⟩::F2) (tx s)=B2 s (dl.take (i+1)):=fun s=>by
 rw [bK6 h4 h5 h1,aXF ha]
 by_cases hs:s=d.id
 ·subst hs;rw [if_pos rfl,if_pos rfl,h3,hI]
 rw [if_neg fun e=>hs (aZr.1 e),if_neg hs,hI]
theorem bPb {F F1 F2:List Fe} {x:Fe} {i:Nat} {k:List UInt8} {u':AV} (h:∀ w,w∈F→w.ix.length≤40) (hx:x.ix.length<40) (h4:F1++x::F2=F∨(F1++x::F2=F++[x]∧x.u=rC∧x.ix=[])):∀ w,w∈F1++(⟨k,u',x.n,x.ix++[i]⟩:Fe)::F2→w.ix.length≤40:=fun w hw=>by
 have hk:∀ w,w∈F1++x::F2→w.ix.length≤40:=fun w hw=>by
  rcases h4 with h4 | ⟨h4,_⟩
  ·rw [h4] at hw;exact h w hw
  rw [h4] at hw
  rcases List.mem_append.1 hw with hw | hw
  ·exact h w hw
  rw [List.mem_singleton.1 hw];omega
 rcases List.mem_append.1 hw with hw | hw
 ·exact hk w (List.mem_append.2 (.inl hw))
 rcases List.mem_cons.1 hw with rfl | hw
 ·rw [List.length_append,List.length_singleton];omega
 exact hk w (List.mem_append.2 (.inr (List.mem_cons_of_mem _ hw)))
def aM6 (z:dA) (L:List PQ):Prop:=∀ t,t∈L→QOk z t
theorem aM6.mono {z z':dA} {L:List PQ} (h:aM6 z L) (hz:zle z z'):aM6 z' L:=fun t ht=>(h t ht).mono hz
theorem aM6.m {z z':dA} {L:List PQ} (h:aM6 z L) [q:Zl z z']:aM6 z' L:=h.mono q.h
theorem bKQ {z:dA} {L:List PQ} {t:PQ} (h:aM6 z L) (g:QOk z t):aM6 z (L++[t]):=fun a ha=>by
 rcases List.mem_append.1 ha with ha | ha
 ·exact h a ha
 rw [List.mem_singleton.1 ha];exact g
theorem bJg {call:eE} {B:pK} {fs:Sf} {l:List I} {Q:Sf→Prop} {nl:List ByteArray} {cl:List nN} {L:List PQ} {t:PQ} {u:AV} {p q:List HA} (e:fs.H=p++.row u 116 10 (L.length+1) (aG4 nl cl L++J9 nl cl t)::q) (hw:FL call B l (fs.heap (p++.row u 116 10 (L++[t]).length (aG4 nl cl (L++[t]))::q)) Q):FL call B l fs Q:=by
 have e1:aG4 nl cl (L++[t])=aG4 nl cl L++J9 nl cl t:=by
  rw [aG4,List.flatMap_append];simp [aG4]
 rw [e1,List.length_append,List.length_singleton] at hw
 have e2:fs.heap (p++.row u 116 10 (L.length+1) (aG4 nl cl L++J9 nl cl t)::q)=fs:=by cases fs;simp only [Sf.heap] at e ⊢;rw [e]
 rw [e2] at hw
 exact hw
theorem bM4 {a b:lL} (h:¬ (a.id=b.id∧a.kind=b.kind∧a.payee=b.payee∧a.payer=b.payer)):I4 a b=true:=by rw [I4,decide_eq_false h];rfl
theorem bL1 {a b:lL} (h:(a.give == b.give)=true):I4 a b=true:=by rw [I4,h,Bool.or_true];rfl
theorem bNE {a b:lL} (h:(!decide (aBH a=aBH b))=true):I4 a b=true:=by rw [I4,h,Bool.or_true]
theorem bIA {a b:lL} (h:a.id=b.id∧a.kind=b.kind∧a.payee=b.payee∧a.payer=b.payer) (g:(a.give == b.give)=false) (k:(!decide (aBH a=aBH b))=false):I4 a b=false:=by rw [I4,decide_eq_true h,g,k];rfl
theorem aC0 {P:Nat→Prop} {i:Nat} (h:∀ q,q<i→P q) (g:P i):∀ q,q<i+1→P q:=fun q hq=>by
  rcases Nat.lt_or_ge q i with h1 | h1
  · exact h q h1
  · have : q = i := by omega
    subst this;exact g
def bGA (nl:List ByteArray) (cl:List nN) (dl:List lL) (z:dA) (v:AV):Prop:=
 (∃ i,i<dl.length∧aBr nl cl dl i=true∧(∀ q,q<i→aBr nl cl dl q=false)∧v=.tup [rC,B0 (i:Nat),B0 200]) ∨
 ((∀ i,i<dl.length→aBr nl cl dl i=false)∧∃ c,v=.tup [.c c,B0 0,B0 0]∧CZ 10 (aTU nl cl) z c (aDI (L8 dl dl.length)))
theorem aTp {k:Nat} (hk:12≤k) {z:dA} {x:oK} {c0 c1 c2 c3 c4 c5 c6 c7 c8 c9 c10 c11:C} (g0:CZ 8 tI z c0 x.brackets) (g1:CZ 1 RW z c1 x.threshold.nm) (g2:CZ 1 RW z c2 x.threshold.dm) (g3:CZ 1 RW z c3 x.cap.nm) (g4:CZ 1 RW z c4 x.cap.dm) (g5:CZ 1 RW z c5 x.interest.nm) (g6:CZ 1 RW z c6 x.interest.dm) (g7:CZ 1 RW z c7 x.floor.nm) (g8:CZ 1 RW z c8 x.floor.dm) (g9:CZ 6 vR z c9 x.classes) (g10:CZ 1 RS z c10 x.entities) (g11:CZ 6 Gk z c11 x.years) {yr:Int} (hS:SmF x) (hy1 : -9223372036854775808≤yr) (hy2:yr<9223372036854775808):FC (E k) 45 [.agg [Cs x.name,Cs x.parent,c0,Cb x.threshold.n,c1,Cb x.threshold.d,c2,Cb x.cap.n,c3,Cb x.cap.d,c4,Ci x.back,Ci x.forward,Cb x.interest.n,c5,Cb x.interest.d,c6,Cb x.floor.n,c7,Cb x.floor.d,c8,Ci x.keep,c9,c10,c11],Ai yr] z fun v z'=>(¬ (0≤yr∧yr<(x.years.length:Int))∧v=.tup [rC,B0 0,B0 2])∨∃ yy,x.years[yr.toNat]? = some yy∧(0≤yr∧yr<(x.years.length:Int))∧bGA (mB x.entities) x.classes yy.deals (zd z z') v:=by
 refine eA (bIu) (by omega) (aU O) fun B j hj=>?_
 refine xR ?_
 refine iU O fun b2=>?_
 refine R2 256 O ?_
 refine fR 19 O (fun hg19=>?_) (fun hg19=>?_)
 ·refine R3 8192 O ?_
  refine jX ?_
  refine rQ (.inl O) (rt O (rt O (rt O rn))) ?_
  exact .inl ⟨by omega,rfl⟩
 refine R1 4 O ?_
 refine lD O ?_
 refine dK O mem0 O ?_
 refine lD O ?_
 refine aS O g11 ?_
 refine R3 8 O ?_
 refine xD O (fun hc25=>?_) (fun hc25=>?_)
 ·refine R5 32 O ?_
  refine jX ?_
  refine rQ (.inl O) (rt O (rt O (rt O rn))) ?_
  exact .inl ⟨by omega,rfl⟩
 refine cP ?_
 refine iN ?_
 refine aDG (i:=⟨_,_,.load _ _ _⟩) O O trivial O (.inr mem0) O sR ?_
 have hb27:x.entities.length≤1000:=by have:=hS.l2;omega
 refine gC z (aEP (by omega) g0 g1 g2 g3 g4 g5 g6 g7 g8 g9 g10 g11 hb27) O O O O fun v27 z27 hz27 ⟨c27,hv27,hm27⟩=>?_
 subst hv27
 refine G1 2 O ?_
 refine zG O O Ht O ?_
 refine gP O O trivial ?_
 refine mN (cs:=[_,_]) O (lN ?_)
 refine gA O O (fun b7 hT7=>?_)
 refine gS O O O ?_
 refine iI O O iW ?_
 refine lN ?_
 refine mL ?_
 refine R4 4 O ?_
 refine dK O Y1 O ?_
 refine lC O ?_
 obtain ⟨yy,hyy⟩:=pE (l:=x.years) (i:=yr.toNat) (by omega)
 have hSy:=hS.y yy (List.mem_of_getElem? hyy)
 have hdl:=hSy.l2
 refine dE O O g11 yr.toNat (by omega) yy hyy fun b34 p34 cs at34 hR=>?_
 obtain ⟨y0,y1,y2,y3,y4,hcs,q0,q1,q2,q3,q4⟩:=hR
 subst hcs
 refine lF O ?_
 refine nQ (off:=3) (v:=.c y2) O at34.m O (by simp) O ?_
 refine R2 4 O ?_
 refine aKK fun b37=>?_
 refine aQ9 ?_
 refine R2 17 O ?_
 refine aS O q2 ?_
 refine R0 2 O ?_
 refine aT (aQ ?_)
 refine dX (fun n fs=>∃ (i:Nat) (F:List Fe) (ck:Nat),LI z27 [aWs 3 F,bVs b37 F ck,.blk b7 (.cells 228 [c27,c9]),.blk b2 (.cells 101 [Cs x.name,Cs x.parent,c0,Cb x.threshold.n,c1,Cb x.threshold.d,c2,Cb x.cap.n,c3,Cb x.cap.d,c4,Ci x.back,Ci x.forward,Cb x.interest.n,c5,Cb x.interest.d,c6,Cb x.floor.n,c7,Cb x.floor.d,c8,Ci x.keep,c9,c10,c11])] [(4,rC),(7,Ap b7),(8,.c y2),(9,.c (.mp b37)),(38,.c y2),(39,Az yy.deals.length),(40,Az i)] fs∧n=yy.deals.length - i∧(i≤yy.deals.length)∧(∀ s:ByteArray,On F (tx s)=B2 s (yy.deals.take i))∧(∀ w,w∈F→w.ix.length≤40)) ?_ _ ⟨0,[],0,LI.m [] O,rfl,Nat.zero_le _,fun s=>rfl,fun w hw=>absurd hw List.not_mem_nil⟩ (kK (by omega))
 intro n fs ⟨i,F,ck,hL0,hmz0,hi,hI,hFl⟩
 refine hL0.open fun e zl0 hzl0=>?_
 refine R5 8 O ?_
 refine xD O (fun hc41=>?_) (fun hc41=>?_)
 ·refine cP ?_
  refine aT (aQ ?_)
  refine R4 4 O ?_
  obtain ⟨d1,hd1⟩:=pE (l:=yy.deals) (i:=i) (by omega)
  refine dE O O q2 i O d1 hd1 fun b43 p43 cs at43 hR=>?_
  obtain ⟨r0c,r1c,hcs,r0,r1⟩:=hR
  subst hcs
  refine nQ (off:=0) O at43.m O (by simp) O ?_
  refine kC fun b11=>?_
  refine lC O ?_
  refine oI O O O O iW ?_
  obtain ⟨F1,w1,F2,ck1,hw1,hw2,hw3,hw4,hw5,hw6⟩:=bVd d1.id ck F
  obtain ⟨r51,hf51,hv51⟩:=bLq d1.id F
  have hwl:w1.ix.length≤i:=by
   rw [hw3,hI]
   exact Nat.le_trans (bI8 _ _) (by rw [List.length_take];omega)
  refine bPz (p:=[_]) O hw4 ?_
  refine lN ?_
  refine wC ?_
  refine G1 4 O ?_
  refine zG O O Ht O ?_
  refine G1 4 O ?_
  refine zG O O Ht O ?_
  refine bKI (i:=⟨_,_,.look _ _ _ _ _ _⟩) O O trivial O O O O Y2 hf51 hv51 ?_
  refine G1 2 O ?_
  refine wE (k:=.cells 3 [Ci (i:Nat)]) (w:=fun b=>Aw b 1) rfl trivial rfl (fun _=>rfl) (fun st hst=>?_) (fun b53 hT53=>?_)
  ·simp only [eP,zB,AS.ev,hst 52 (by simp [lS.sl,Od.sls,Od.sl])];rfl
  refine bKX (i:=⟨_,_,.app _ _ _ _ _ _⟩) (u:=w1.u) (ty:=3) (ty':=3) (size:=1) (n:=w1.ix.length) (m:=0) (p:=F1.map (Fe.row 3)) (q:=F2.map (Fe.row 3)) (cs:=cE eN w1.ix) O O trivial O O (fun _ _ h=>h.imp (fun h=>h) mC) hw2.symm rfl mem0 (fun _=>mR P1) rfl (by omega) (by omega) fun c54 hc54=>?_
  refine bIW (i:=⟨_,_,.mupd _ _ _ _⟩) O O trivial O O O O O O (hw6 _ (w1.ix++[i])) P3 ?_
  refine mL ?_
  refine eT ?_
  refine xG ?_
  refine bKw (p:=[_,_]) (F1:=F1) (F2:=F2) (k:=tx d1.id) (n:=w1.n) (ix:=w1.ix) (i:=i) O O ?_
  refine lB O O (gI (n:=i+1) (by omega) (by omega)) ?_
  refine R0 2 O ?_
  exact mK (by omega) ⟨i+1,_,_,LI.m [_,_] O,rfl,by omega,bHg hI hd1 hw3 hw4 hw5 hw1,bPb hFl (by omega) hw4⟩
 refine dH ?_
 refine nF ?_
 refine eT ?_
 refine R4 4 O ?_
 refine bJ3 (p:=[]) zl0 O O (fun w hw=>Nat.le_trans (hFl w hw) (by decide)) fun zF hzF hsF=>?_
 refine yB zF (p:=[]) O O O (fun _ h=>h) fun zffm hzffm fm=>?_
 refine oW 116 10 ?_
 have hI2:∀ s:ByteArray,On F (tx s)=B2 s yy.deals:=fun s=>by rw [hI,List.take_of_length_le (by omega)]
 refine lC O ?_
 refine aS O q2 ?_
 refine R0 2 O ?_
 refine aT (aQ ?_)
 refine dX (fun n fs=>∃ (i1:Nat) (L:List PQ) (u4:AV) (zz:dA),LZ zffm zz [.row u4 116 10 L.length (aG4 (mB x.entities) x.classes L),.blk b7 (.cells 228 [c27,c9]),.blk b2 (.cells 101 [Cs x.name,Cs x.parent,c0,Cb x.threshold.n,c1,Cb x.threshold.d,c2,Cb x.cap.n,c3,Cb x.cap.d,c4,Ci x.back,Ci x.forward,Cb x.interest.n,c5,Cb x.interest.d,c6,Cb x.floor.n,c7,Cb x.floor.d,c8,Ci x.keep,c9,c10,c11])] [(4,u4),(7,Ap b7),(8,.c y2),(9,.c (.mp b37)),(56,.c y2),(57,Az yy.deals.length),(58,Az i1)] fs∧n=yy.deals.length - i1∧(i1≤yy.deals.length)∧(∀ q,q<i1→aBr (mB x.entities) x.classes yy.deals q=false)∧(L.map (·.1)=L8 yy.deals i1)∧(aM6 (zd z zz) L)∧(L.length≤i1)) ?_ _ ⟨0,[],rC,_,LZ.m [] O,rfl,Nat.zero_le _,fun q hq=>absurd hq (Nat.not_lt_zero _),rfl,fun t ht=>absurd ht List.not_mem_nil,Nat.le_refl _⟩ (kK (by omega))
 intro n fs ⟨i1,L,u4,zz,hL1,hmz1,hi1,hnb,hLp,hLq,hLl⟩
 refine hL1.open fun e hzz=>?_
 refine R5 8 O ?_
 refine xD O (fun hc59=>?_) (fun hc59=>?_)
 ·refine cP ?_
  refine aT (aQ ?_)
  refine R4 4 O ?_
  obtain ⟨d2,hd2⟩:=pE (l:=yy.deals) (i:=i1) (by omega)
  have hsm:=hSy.r2 d2 (List.mem_of_getElem? hd2)
  refine dE O O q2 i1 O d2 hd2 fun b61 p61 cs at61 hR=>?_
  obtain ⟨u0c,u1c,hcs,u0,u1⟩:=hR
  subst hcs
  refine nQ (off:=0) O at61.m O (by simp) O ?_
  refine kC fun b13=>?_
  refine lC O ?_
  refine oI O O O O iW ?_
  refine lN ?_
  refine R4 8 O ?_
  refine dK O mem0 O ?_
  obtain ⟨r66,hf66,hv66⟩:=bLq d2.id F
  refine bFY O O (zI _ _ fm) hf66 hv66 ?_
  have hu66:aXS F zz:=hsF.m
  replace hu66:=hu66 (tx d2.id)
  rw [hI2] at hu66
  refine R2 9 O ?_
  refine iP O Y2 O ?_
  refine lR O mem0 O ?_
  refine lE zz (aEn (by omega) hm27.m g9.m u0.m u1.m hsm) O O fun z69 hz69=>?_
  refine R1 4 O ?_
  refine nC 71 O (fun hg71=>?_) (fun hg71=>?_)
  ·refine R3 4096 O ?_
   refine jX ?_
   refine nS ?_
   refine L9 ?_
   refine nS ?_
   refine rQ (.inl O) (rt O (rt O (rt O rn))) ?_
   exact .inr ⟨yy,hyy,by omega,.inl ⟨i1,by omega,bLG hd2 (by simpa using hg71),hnb,rfl⟩⟩
  refine lD O ?_
  refine lM O ?_
  refine lD O ?_
  refine aS O hu66 ?_
  refine R3 8 O ?_
  refine wO O (fun hc75=>?_) (fun hc75=>?_)
  ·refine R5 64 O ?_
   refine jX ?_
   refine nS ?_
   refine L9 ?_
   refine nS ?_
   refine rQ (.inl O) (rt O (rt O (rt O rn))) ?_
   exact .inr ⟨yy,hyy,by omega,.inl ⟨i1,by omega,bHq hd2 (by omega),hnb,rfl⟩⟩
  refine cP ?_
  refine iN ?_
  obtain ⟨p1,p2,hpp⟩:=aW4 (l:=B2 d2.id yy.deals) (by omega)
  obtain ⟨hlt,⟨a1,ha1,hia1⟩,a2,ha2,hia2⟩:=aD4 hpp
  have hl1:=(List.getElem?_eq_some_iff.1 ha1).1
  have hl2:=(List.getElem?_eq_some_iff.1 ha2).1
  rw [hpp] at hu66
  refine G1 6 O ?_
  refine gP O O trivial ?_
  refine Hh (zz:=z69) O O hu66.m (0) (O) (by simp) fun p79 hp79=>lN ?_
  refine glP O O hp79 ti ?_
  refine gP O O trivial ?_
  refine dE O O q2 p1 O a1 ha1 fun b81 p81 cs at81 hR=>lN ?_
  obtain ⟨v0c,v1c,hcs,v0,v1⟩:=hR
  subst hcs
  refine oD (i:=⟨_,_,.load _ _ _⟩) (off:=0) O O trivial O at81 ti O (by simp) O sR ?_
  refine G1 6 O ?_
  refine gP O O trivial ?_
  refine Hh (zz:=z69) O O hu66.m (1) (O) (by simp) fun p85 hp85=>lN ?_
  refine glP O O hp85 ti ?_
  refine gP O O trivial ?_
  refine dE O O q2 p2 O a2 ha2 fun b87 p87 cs at87 hR=>lN ?_
  obtain ⟨x0c,x1c,hcs,x0,x1⟩:=hR
  subst hcs
  refine oD (i:=⟨_,_,.load _ _ _⟩) (off:=0) O O trivial O at87 ti O (by simp) O sR ?_
  refine gA O O (fun b15 hT15=>?_)
  refine gA O O (fun b16 hT16=>?_)
  refine gT O O O hT15 ?_
  refine oI O O O O P1 ?_
  refine lN ?_
  refine gS O O O ?_
  refine oI O O O O iW ?_
  refine lN ?_
  refine mL ?_
  refine Xb ?_
  refine iN ?_
  refine aDG (i:=⟨_,_,.load _ _ _⟩) O O trivial O (.inr Y1) O sR ?_
  refine gE z69 (aST (by omega)) O O O O fun z90 hz90=>?_
  refine aDG (i:=⟨_,_,.load _ _ _⟩) O O trivial O (.inr mem0) O sR ?_
  refine gE z90 (aST (by omega)) O O O O fun z92 hz92=>?_
  refine gP O O trivial ?_
  refine bFk O O (lN ?_)
  refine G1 3 O ?_
  refine aLH 94 O (fun hg94=>?_) (fun hg94=>?_)
  ·refine G0 16448 O ?_
   refine R5 256 O ?_
   refine jX ?_
   refine nS ?_
   refine L9 ?_
   refine nS ?_
   refine rQ (.inl O) (rt O (rt O (rt O rn))) ?_
   exact .inr ⟨yy,hyy,by omega,.inl ⟨i1,by omega,by rw [aSX hd2 hpp ha1 ha2,bM4 hg94,Bool.or_true],hnb,rfl⟩⟩
  refine G1 2 O ?_
  refine zG O O (.inr Y1) O ?_
  refine G1 2 O ?_
  refine zG O O Ht O ?_
  refine gP O O O ?_
  refine Ej O O (bRX _ _) (lN ?_)
  refine G1 6 O ?_
  refine aDQ 101 O (fun hg101=>?_) (fun hg101=>?_)
  ·refine G0 128 O ?_
   refine R5 256 O ?_
   refine jX ?_
   refine nS ?_
   refine L9 ?_
   refine nS ?_
   refine rQ (.inl O) (rt O (rt O (rt O rn))) ?_
   exact .inr ⟨yy,hyy,by omega,.inl ⟨i1,by omega,by rw [aSX hd2 hpp ha1 ha2,bL1 hg101,Bool.or_true],hnb,rfl⟩⟩
  refine G1 2 O ?_
  refine gl4 O O (.inr Y1) O ?_
  refine G1 2 O ?_
  refine gl4 O O Ht O ?_
  have hsa1:=hSy.r2 a1 (List.mem_of_getElem? ha1)
  have hsa2:=hSy.r2 a2 (List.mem_of_getElem? ha2)
  refine gE z92 (aZR (by omega) v0.m v1.m (by have:=hsa1.1;omega) (by have:=hsa1.2;omega) x0.m x1.m (by have:=hsa2.1;omega) (by have:=hsa2.2;omega)) O O O O fun z106 hz106=>?_
  refine G0 4 O ?_
  refine Ew ?_
  refine jB O (fun hc108=>?_) (fun hc108=>?_)
  ·refine R5 64 O ?_
   refine jX ?_
   refine nS ?_
   refine L9 ?_
   refine nS ?_
   refine rQ (.inl O) (rt O (rt O (rt O rn))) ?_
   exact .inr ⟨yy,hyy,by omega,.inl ⟨i1,by omega,by rw [aSX hd2 hpp ha1 ha2,bNE hc108,Bool.or_true],hnb,rfl⟩⟩
  refine R4 8 O ?_
  refine dK O Y2 O ?_
  refine lN ?_
  refine jB O (fun hc111=>?_) (fun hc111=>?_)
  ·refine wC ?_
   refine G1 3 O ?_
   refine Ou O O (.inr Y4) O ?_
   refine aDG (i:=⟨_,_,.load _ _ _⟩) O O trivial O (.inr Y2) O sR ?_
   refine G1 6 O ?_
   refine gP O O trivial ?_
   refine Hh (zz:=z106) O O hu66.m (0) (O) (by simp) fun p117 hp117=>lN ?_
   refine glP O O hp117 ti ?_
   refine G1 3 O ?_
   refine gP O O trivial ?_
   refine Hh (zz:=z106) O O hu66.m (1) (O) (by simp) fun p120 hp120=>lN ?_
   refine glP O O hp120 ti ?_
   have hself:=Y0 hd2 hpp
   obtain ⟨a3,ha3⟩:=pE (l:=yy.deals) (i:=p1+p2 - i1) (by omega)
   refine gP O O trivial ?_
   refine lB O O (tG (k:=.i64) (a:=(p1:Nat)) (b:=(p2:Nat)) (r:=((p1+p2:Nat):Int)) (by rw [vF ⟨by omega,by omega⟩];omega)) (lN ?_)
   refine G1 2 O ?_
   refine gP O O trivial ?_
   refine lB O O (wF (k:=.i64) (a:=((p1+p2:Nat):Int)) (b:=(i1:Nat)) (r:=((p1+p2 - i1:Nat):Int)) (by rw [vF ⟨by omega,by omega⟩];omega)) (lN ?_)
   refine gP O O trivial ?_
   refine dE O O q2 (p1+p2 - i1) O a3 ha3 fun b125 p125 cs at125 hR=>lN ?_
   obtain ⟨m0c,m1c,hcs,m0,m1⟩:=hR
   subst hcs
   refine oD (i:=⟨_,_,.load _ _ _⟩) (off:=0) O O trivial O at125 ti O (by simp) O sR ?_
   refine gC z106 (aEf (by omega) hm27.m g9.m u0.m u1.m hsm m0.refl m1.refl) O O O O fun v127 z127 _ ⟨c127,d127,hv,hm127,hn127⟩=>?_
   subst hv
   have hm127:=hm127.mono (qY (hz27.trans (hzl0.trans (hzF.trans (hzffm.trans (hzz.trans (hz69.trans (hz90.trans (hz92.trans hz106)))))))))
   have hn127:=hn127.mono (qY (hz27.trans (hzl0.trans (hzF.trans (hzffm.trans (hzz.trans (hz69.trans (hz90.trans (hz92.trans hz106)))))))))
   refine wE (k:=.cells 116 (aSY (mB x.entities) x.classes d2 a3 c127 d127)) (w:=fun b=>.c (.sl b 0 1 10)) rfl trivial rfl (fun _=>rfl) (fun st hst=>?_) (fun b128 hT128=>?_)
   ·simp only [eP,zB,AS.ev,hst 127 (by simp [lS.sl,Od.sls,Od.sl])];rfl
   refine Dm (i:=⟨_,_,.app _ _ _ _ _ _⟩) O trivial O O O O ?_
   refine mV (n:=L.length) (m:=1) (cs:=aG4 (mB x.entities) x.classes L) O O mem0 O (fun _=>mR P3) (by omega) (by omega) fun c129 hc129=>lN ?_
   refine G0 2 O ?_
   refine eT ?_
   refine xG ?_
   refine bJg (p:=[_,_,_,_]) (t:=((d2,a3),(c127,d127))) O ?_
   refine lB O O (gI (n:=i1+1) (by omega) (by omega)) ?_
   refine R0 2 O ?_
   exact mK (by omega) ⟨i1+1,_,_,_,LZ.m [_,_,_,_] O,rfl,by omega,aC0 hnb (by rw [aSX hd2 hpp ha1 ha2,hg71,bIA hg94 hg101 hc108];rfl),by rw [List.map_append,hLp,aF6,aWM hd2 hc111 hpp ha3];rfl,bKQ (hLq.mono (jO zI)) ⟨hm127,hn127⟩,by rw [List.length_append,List.length_singleton];omega⟩
  refine oC ?_
  refine eT ?_
  refine xG ?_
  refine lB O O (gI (n:=i1+1) (by omega) (by omega)) ?_
  refine R0 2 O ?_
  exact mK (by omega) ⟨i1+1,_,_,_,LZ.m [_,_,_] O,rfl,by omega,aC0 hnb (by rw [aSX hd2 hpp ha1 ha2,hg71,bIA hg94 hg101 hc108];rfl),by rw [aF6,bAy hd2 hc111,hLp];simp,(hLq.mono (jO zI)),by omega⟩
 refine dH ?_
 refine nF ?_
 refine eT ?_
 refine R4 6 O ?_
 have hLn:(L.map fun t=>tx t.1.1.id).Nodup:=by
  have h:=aYd (dl:=yy.deals) (fun q hq=>hnb q (by omega)) i1
  rw [← hLp,List.map_map] at h
  exact h
 refine uW zz [.row u4 116 10 L.length (aG4 (mB x.entities) x.classes L)] (bJS (by omega) (by omega) hLn) O O O fun v132 z132 H132 _ hv132=>?_
 obtain ⟨rfl,rfl,rfl⟩:=hv132
 refine lN ?_
 refine R5 38 O ?_
 refine aOs (z0:=z) (p:=[]) O zI (bAP fun t ht=>(hLq.mono (jO zI)) t (bER.1 ht)) (by rw [List.length_map,bCb]) (by omega) fun zr _ hsr=>?_
 refine xT ?_
 refine rQ (.inl O) (rt O (rt O (rt O rn))) ?_
 obtain ⟨c,hc,_⟩:=SZ.one hsr
 subst hc
 have he:i1=yy.deals.length:=by omega
 rw [bEk,hLp,he] at hsr
 exact .inr ⟨yy,hyy,by omega,.inr ⟨fun q hq=>hnb q (by omega),c,rfl,hsr⟩⟩
open Go.CE Go.RowKit Go.Num
theorem bRq {α:Type} {l:List α} (h:l.Nodup) {i j:Nat} (hi:i<l.length) (hj:j<l.length) (e:l[i]=l[j]):i=j:=by
 have h:=List.pairwise_iff_getElem.1 h
 rcases Nat.lt_trichotomy i j with h1 | h1 | h1
 ·exact absurd e (h i j hi hj h1)
 ·exact h1
 exact absurd e.symm (h j i hj hi h1)
theorem blt {a b:List UInt8} (h:¬ b<a) (g:¬ a=b):a<b:=Decidable.byContradiction fun h2=>g (List.le_antisymm (List.not_lt.1 h) (List.not_lt.1 h2))
section
variable {nl:List ByteArray} {cl:List nN} {dl dl':List lL} {i p q:Nat} {d a b:lL}
theorem aVo (h:I4 a b=false):I4 b a=false:=by
 simp only [I4,Bool.or_eq_false_iff,Bool.not_eq_false',decide_eq_true_eq] at h ⊢
 obtain ⟨⟨⟨h1,h2,h3,h4⟩,h5⟩,h6⟩:=h
 refine ⟨⟨⟨h1.symm,h2.symm,h3.symm,h4.symm⟩,?_⟩,h6.symm⟩
 cases ha:a.give<;>cases hb:b.give<;>simp_all
theorem bEh (P:List (lL×lL)):(aDI P).length=P.length:=List.length_mergeSort P
theorem aKQ {P:List (lL×lL)} {x:lL×lL}:x∈aDI P↔x∈P:=(List.mergeSort_perm P leP).mem_iff
theorem aYg (P:List (lL×lL)):(aDI P).Pairwise fun a b=>leP a b=true:=
  List.pairwise_mergeSort (le := leP) (fun a b c h1 h2 => decide_eq_true (List.le_trans (of_decide_eq_true h1) (of_decide_eq_true h2))) (fun a b => by
    rcases List.le_total (tx a.1.id) (tx b.1.id) with h | h
    · simp [leP,h]
    · simp [leP,h]) P
theorem bKc {P P':List (lL×lL)} (h:P.Perm P') (hn:(P.map fun a=>tx a.1.id).Nodup):aDI P=aDI P':=by
 have h1:(aDI P).Perm (aDI P'):=((List.mergeSort_perm P leP).trans h).trans (List.mergeSort_perm P' leP).symm
 have hi:∀ a b,a∈P→b∈P→tx a.1.id=tx b.1.id→a=b:=fun a b ha hb e=>by
  obtain ⟨i,hi,rfl⟩:=List.mem_iff_getElem.1 ha
  obtain ⟨j,hj,rfl⟩:=List.mem_iff_getElem.1 hb
  have:=bRq hn (i:=i) (j:=j) (by rw [List.length_map];exact hi) (by rw [List.length_map];exact hj) (by simpa using e)
  subst this;rfl
 refine List.Perm.eq_of_pairwise (le:=fun a b=>leP a b=true) (fun a b ha hb h2 h3=>?_) (aYg P) (aYg P') h1
 exact hi a b (aKQ.1 ha) (h.mem_iff.2 (aKQ.1 hb)) (List.le_antisymm (of_decide_eq_true h2) (of_decide_eq_true h3))
end
open Go.CE Go.RowKit
theorem few {k:Nat} (hk:1≤k) {z:dA} {v:AV} {l:List qZ} (hx:SZ 4 S5 z v l):FC (E k) 172 [v] z fun v _=>∃ b:Bool,v=Ab b∧(b=true→∀ a,a∈l→Sm a):=by
 have hxl:=hx.le
 refine eA (bCO) (by omega) (aU O) fun B j hj=>?_
 refine R5 50 O ?_
 refine aT (aQ ?_)
 refine dX (fun n fs=>∃ (i0:Nat) (e:Lq) (zz:dA) (Hx:List HA),fs=⟨e,zz,Hx++[]⟩∧zle z zz∧Vx e [(0,v),(3,Ai (i0:Int))]∧n=l.length - i0∧i0≤l.length∧(∀ a,a∈l.take i0→Sm a)) ?_ _ ⟨0,_,_,[],rfl,zle.refl _,(kM rfl (kM rfl Ez)),rfl,Nat.zero_le _,fun a ha=>by simp at ha⟩ (kK (by omega))
 intro n fs hI
 obtain ⟨i0,e,zl0,Hx,rfl,hzl0,hat,rfl,hi0,hm0⟩:=hI
 refine zQ hat fun e=>?_
 refine uG (List.sublist_append_right _ _) ?_
 refine R4 28 O ?_
 refine aS O hx ?_
 refine R3 4 O ?_
 refine jB O (fun hc7=>?_) (fun hc7=>?_)
 ·have hp7:=iF.1 hc7
  refine cP ?_
  refine aT (aQ ?_)
  refine R4 14 O ?_
  obtain ⟨a12,ha12⟩:=pE (l:=l) (i:=i0) (by omega)
  refine dE O O hx i0 O a12 ha12 fun b12 p12 cs12 at12 hR12=>?_
  obtain ⟨c12_0,c12_1,rfl,h12_0,h12_1⟩:=hR12
  refine R1 4 O ?_
  refine nQ (v:=.c (c12_0)) (off:=1) O (at12.mono (hzl0)) O (aU O) O ?_
  refine aS O h12_0 ?_
  refine R1 6 O ?_
  refine Pg 9 18 (fun r=>[(0,v),(3,Ai (i0:Int)),(27,Ab r)]) ((6<(a12.nm.length:Int))∨(6<(a12.dm.length:Int))) rfl (fun hg=>?_) (fun hg=>?_) (fun e z27 r27 _ hr27=>?_)
  ·refine R1 512 O ?_
   exact zT true rfl zI (kM rfl (kM rfl (kM rfl Ez))) (P8 iF hg)
  ·refine R1 7 O ?_
   refine lD O ?_
   refine dE O O hx i0 O a12 ha12 fun b21 p21 cs21 at21 hR21=>?_
   obtain ⟨c21_0,c21_1,rfl,h21_0,h21_1⟩:=hR21
   refine R1 4 O ?_
   refine lD O ?_
   refine nQ (v:=.c (c21_1)) (off:=3) O (at21.mono (hzl0)) O (aU O) O ?_
   refine lD O ?_
   refine aS O h21_1 ?_
   refine R1 4 O ?_
   exact zT (decide (6<(a12.dm.length:Int))) rfl zI (kM rfl (kM rfl (kM rfl Ez))) (O8 iF hg iF)
  refine lN ?_
  refine jB O (fun hc27=>?_) (fun hc27=>?_)
  ·have hp27:=hr27.1 hc27
   refine R5 6 O ?_
   refine xT ?_
   refine nS ?_
   refine L9 ?_
   refine nS ?_
   exact rI O ⟨false,rfl,fun h=>(by cases h)⟩
  have hp27:=sK hr27 hc27
  simp only [not_or,Classical.not_not] at hp27
  refine oC ?_
  refine eT ?_
  refine xG ?_
  refine lM O ?_
  refine lB O O (tG (r:=((i0+1:Nat):Int)) (vF (by omega))) ?_
  refine R0 3 O ?_
  exact mK (by omega) ⟨i0+1,_,_,[],rfl,hzl0.trans zI,(kM rfl (kM rfl Ez)),rfl,by omega,Gp ha12 hm0 ⟨by omega,by omega⟩⟩
 have hp7:=sK iF hc7
 refine dH ?_
 refine nF ?_
 refine eT ?_
 refine R5 6 O ?_
 refine xT ?_
 exact rI O ⟨true,rfl,fun _ a ha=>hm0 a (by rw [uD (by omega)];exact ha)⟩
theorem bSJ {k:Nat} (hk:1≤k) {z:dA} {v:AV} {l:List ByteArray} (hx:SZ 1 RS z v l):FC (E k) 174 [v] z fun v _=>∃ b:Bool,v=Ab b:=by
 have hxl:=hx.le
 refine eA (bBy) (by omega) (aU O) fun B j hj=>?_
 refine R5 50 O ?_
 refine aT (aQ ?_)
 refine dX (fun n fs=>∃ (i0:Nat) (e:Lq) (zz:dA) (Hx:List HA),fs=⟨e,zz,Hx++[]⟩∧zle z zz∧Vx e [(0,v),(3,Ai (i0:Int))]∧n=l.length - i0∧i0≤l.length) ?_ _ ⟨0,_,_,[],rfl,zle.refl _,(kM rfl (kM rfl Ez)),rfl,Nat.zero_le _⟩ (kK (by omega))
 intro n fs hI
 obtain ⟨i0,e,zl0,Hx,rfl,hzl0,hat,rfl,hi0⟩:=hI
 refine zQ hat fun e=>?_
 refine uG (List.sublist_append_right _ _) ?_
 refine R4 28 O ?_
 refine aS O hx ?_
 refine R3 4 O ?_
 refine jB O (fun hc7=>?_) (fun hc7=>?_)
 ·have hp7:=iF.1 hc7
  refine cP ?_
  refine aT (aQ ?_)
  refine R4 14 O ?_
  obtain ⟨a12,ha12⟩:=pE (l:=l) (i:=i0) (by omega)
  refine dE O O hx i0 O a12 ha12 fun b12 p12 cs12 at12 hR12=>?_
  obtain rfl:=hR12
  refine nQ (v:=.c (Cs a12)) (off:=0) O (at12.mono (hzl0)) O (aU O) O ?_
  refine bKB O ?_
  refine R0 2 O ?_
  refine jB O (fun hc15=>?_) (fun hc15=>?_)
  ·have hp15:=iF.1 hc15
   refine R5 6 O ?_
   refine xT ?_
   refine nS ?_
   refine L9 ?_
   refine nS ?_
   exact rI O ⟨false,rfl⟩
  have hp15:=sK iF hc15
  refine oC ?_
  refine eT ?_
  refine xG ?_
  refine lM O ?_
  refine lB O O (tG (r:=((i0+1:Nat):Int)) (vF (by omega))) ?_
  refine R0 3 O ?_
  exact mK (by omega) ⟨i0+1,_,_,[],rfl,hzl0,(kM rfl (kM rfl Ez)),rfl,by omega⟩
 have hp7:=sK iF hc7
 refine dH ?_
 refine nF ?_
 refine eT ?_
 refine R5 6 O ?_
 refine xT ?_
 exact rI O ⟨true,rfl⟩
open Go.CE Go.RowKit
abbrev RK (z0:dA):RT qZ:=fun _ cs a=>S5 z0 cs a
instance {z0:dA}:RMono (RK z0):=⟨fun _ h=>h⟩
theorem Es {z z1:dA} {a:qZ} {c0 c1:C} (g0:CZ 1 RW z c0 a.nm) (g1:CZ 1 RW z c1 a.dm):RK z z1 [Cb a.n,c0,Cb a.d,c1] a:=Dp g0 g1
theorem bQn {z z1:dA} {c:C} {l:List qZ} (hz:zle z z1) (h:CZ 4 (RK z) (zd z z1) c l):CZ 4 S5 z1 c l:=by
 cases h with
 | nil=>exact .nil
 | em=>exact .em
 | sl b o n k full l hl hm hz' hk hf hh=>exact .sl b o n k full l hl hm hz'.1 hk hf fun i a hi=>RMono.mono (R:=S5) hz (hh i a hi)
theorem bTW {k:Nat} (hk:1≤k) {z:dA} {v:AV} {x:oK} (hx:AZ Pm z v x) (hL:LnF x):FC (E k) 173 [v] z fun v z1=>∃ c l,v=.c c∧CZ 4 (RK z) (zd z z1) c l∧InF x l:=by
  have e0:=hL.l0
  have e1:=hL.l1
  have e3:=hL.l3
  obtain ⟨_,rfl,cx_0,cx_1,cx_2,cx_3,cx_4,cx_5,cx_6,cx_7,cx_8,cx_9,cx_10,cx_11,rfl,hx_0,hx_1,hx_2,hx_3,hx_4,hx_5,hx_6,hx_7,hx_8,hx_9,hx_10,hx_11⟩:=hx
  refine eA (bC0) (by omega) (aU O) fun B j hj=>?_
  refine xR ?_
  refine aDN O O fun b1=>?_
  refine R2 9 O ?_
  refine mQ (v:=.agg [Cb x.threshold.n,cx_1,Cb x.threshold.d,cx_2]) O mem0 (aU O) O ?_
  refine lF O ?_
  refine mQ (v:=.agg [Cb x.cap.n,cx_3,Cb x.cap.d,cx_4]) O mem0 (aU O) O ?_
  refine lF O ?_
  refine mQ (v:=.agg [Cb x.interest.n,cx_5,Cb x.interest.d,cx_6]) O mem0 (aU O) O ?_
  refine lF O ?_
  refine mQ (v:=.agg [Cb x.floor.n,cx_7,Cb x.floor.d,cx_8]) O mem0 (aU O) O ?_
  refine cX O fun b21=>?_
  refine Dq (p:=[]) (n:=4) (size:=4) O O ?_
  have cl0:CL 4 (RK z) z [Cb x.threshold.n,cx_1,Cb x.threshold.d,cx_2,Cb x.cap.n,cx_3,Cb x.cap.d,cx_4,Cb x.interest.n,cx_5,Cb x.interest.d,cx_6,Cb x.floor.n,cx_7,Cb x.floor.d,cx_8] [x.threshold,x.cap,x.interest,x.floor]:=(CL.append (cs:=[Cb x.threshold.n,cx_1,Cb x.threshold.d,cx_2]) (cs':=[Cb x.cap.n,cx_3,Cb x.cap.d,cx_4,Cb x.interest.n,cx_5,Cb x.interest.d,cx_6,Cb x.floor.n,cx_7,Cb x.floor.d,cx_8]) (l:=[x.threshold]) (l':=[x.cap,x.interest,x.floor]) (CL.one rfl (Es hx_1 hx_2)) (CL.append (cs:=[Cb x.cap.n,cx_3,Cb x.cap.d,cx_4]) (cs':=[Cb x.interest.n,cx_5,Cb x.interest.d,cx_6,Cb x.floor.n,cx_7,Cb x.floor.d,cx_8]) (l:=[x.cap]) (l':=[x.interest,x.floor]) (CL.one rfl (Es hx_3 hx_4)) (CL.append (cs:=[Cb x.interest.n,cx_5,Cb x.interest.d,cx_6]) (cs':=[Cb x.floor.n,cx_7,Cb x.floor.d,cx_8]) (l:=[x.interest]) (l':=[x.floor]) (CL.one rfl (Es hx_5 hx_6)) (CL.one rfl (Es hx_7 hx_8)))))
  refine R3 25 O ?_
  refine aT (aQ ?_)
  refine dX (fun n fs=>∃ (i0:Nat) (w0:C) (cs0:List C) (m0:Nat) (l0:List qZ) (e:Lq) (zz:dA) (Hx:List HA),fs=⟨e,zz,Hx++[.row (.c w0) 35 4 m0 cs0,.blk b1 (.cells 101 [Cs x.name,Cs x.parent,cx_0,Cb x.threshold.n,cx_1,Cb x.threshold.d,cx_2,Cb x.cap.n,cx_3,Cb x.cap.d,cx_4,Ci x.back,Ci x.forward,Cb x.interest.n,cx_5,Cb x.interest.d,cx_6,Cb x.floor.n,cx_7,Cb x.floor.d,cx_8,Ci x.keep,cx_9,cx_10,cx_11])]⟩∧zle z zz∧Vx e [(1,Ap b1),(3,.c w0),(4,Ai (i0:Int))]∧n=x.brackets.length - i0∧i0≤x.brackets.length∧CL 4 (RK z) zz cs0 l0∧m0=l0.length∧m0≤4+2 * i0∧pO w0 w0=true∧(∀ r,r∈[x.threshold,x.cap,x.interest,x.floor]→r∈l0)∧(∀ a,a∈x.brackets.take i0→a.frm∈l0∧a.rate∈l0)) ?_ _ ⟨0,_,_,4,[x.threshold,x.cap,x.interest,x.floor],_,_,[],rfl,zle.refl _,(kM rfl (kM rfl (kM rfl Ez))),rfl,Nat.zero_le _,cl0,rfl,by omega,by simp [pO],fun r h=>h,fun a ha=>by simp at ha⟩ (kK (by omega))
  intro n fs hI
  obtain ⟨i0,w0,cs0,m0,l0,e,zl0,Hx,rfl,hzl0,hat,rfl,hi0,hcl0,hlen0,hmb0,hw0,hs0,hm0⟩:=hI
  refine zQ hat fun e=>?_
  refine uG (List.sublist_append_right _ _) ?_
  refine R4 20 O ?_
  refine mQ (v:=.c (cx_0)) O Y1 (aU O) O ?_
  refine aS O hx_0 ?_
  refine R3 4 O ?_
  refine jB O (fun hc26=>?_) (fun hc26=>?_)
  · skip
    have hp26:=iF.1 hc26
    refine cP ?_
    refine aT (aQ ?_)
    refine wC ?_
    refine gP O O F ?_
    refine R0 3 O ?_
    refine gP O O F ?_
    refine R0 2 O ?_
    refine Me (v:=.c (cx_0)) O O (.inr Y1) O (aU O) O ?_
    refine gP O O F ?_
    refine R0 3 O ?_
    obtain ⟨a33,ha33⟩:=pE (l:=x.brackets) (i:=i0) (by omega)
    refine gP O O F ?_
    refine dE O O hx_0 i0 O a33 ha33 fun b33 p33 cs33 at33 hR33=>?_
    refine lN ?_
    obtain ⟨c33_0,c33_1,c33_2,c33_3,rfl,h33_0,h33_1,h33_2,h33_3⟩:=hR33
    refine gP O O F ?_
    refine R0 2 O ?_
    refine glA (v:=.agg [Cb a33.frm.n,c33_0,Cb a33.frm.d,c33_1]) (off:=0) O O at33 (fun _ _ h=>.inl ((hzl0) _ _ h)) O (aU O) O ?_
    refine gP O O F ?_
    refine R0 2 O ?_
    refine Me (v:=.c (cx_0)) O O (.inr Y1) O (aU O) O ?_
    refine gP O O F ?_
    refine R0 3 O ?_
    refine gP O O F ?_
    refine dE O O hx_0 i0 O a33 ha33 fun b39 p39 cs39 at39 hR39=>?_
    refine lN ?_
    obtain ⟨c39_0,c39_1,c39_2,c39_3,rfl,h39_0,h39_1,h39_2,h39_3⟩:=hR39
    refine gP O O F ?_
    refine R0 2 O ?_
    refine glA (v:=.agg [Cb a33.rate.n,c39_2,Cb a33.rate.d,c39_3]) (off:=4) O O at39 (fun _ _ h=>.inl ((hzl0) _ _ h)) O (aU O) O ?_
    refine wE (k:=.cells 35 [Cb a33.frm.n,c33_0,Cb a33.frm.d,c33_1,Cb a33.rate.n,c39_2,Cb a33.rate.d,c39_3]) (w:=fun b=>.c (.sl b 0 2 4)) rfl F rfl (fun _=>rfl) (fun st hst=>?_) (fun b42 hT42=>?_)
    · simp only [eP,zB,AS.ev,hst 35 (by simp [lS.sl,Od.sls,Od.sl]),hst 41 (by simp [lS.sl,Od.sls,Od.sl])];rfl
    refine Dm (i:=⟨_,_,.app _ _ _ _ _ _⟩) O F O O O O ?_
    refine mV O O mem0 O (fun _=>P1) (by omega) (by omega) fun w43 hw43=>?_
    have cl43:CL 4 (RK z) zl0 _ (l0++[a33.frm,a33.rate]):=CL.append hcl0 (CL.append (cs:=[Cb a33.frm.n,c33_0,Cb a33.frm.d,c33_1]) (cs':=[Cb a33.rate.n,c39_2,Cb a33.rate.d,c39_3]) (l:=[a33.frm]) (l':=[a33.rate]) (CL.one rfl (Es h33_0 h33_1)) (CL.one rfl (Es h39_2 h39_3)))
    refine lN ?_
    refine gP O O F ?_
    refine R0 3 O ?_
    refine mL ?_
    refine eT ?_
    refine xG ?_
    refine lM O ?_
    refine lB O O (tG (r:=((i0+1:Nat):Int)) (vF (by omega))) ?_
    refine R0 3 O ?_
    exact mK (by omega) ⟨i0+1,_,_,_,_,_,_,[_],rfl,hzl0,(kM rfl (kM rfl (kM rfl Ez))),rfl,by omega,cl43,by simp;omega,by omega,hw43,fun r h=>by simp [hs0 r h],Gp ha33 (fun a h=>by have:=hm0 a h;simp [this]) (by simp)⟩
  · skip
    have hp26:=sK iF hc26
    refine dH ?_
    refine nF ?_
    refine eT ?_
    refine R5 12 O ?_
    refine aT (aQ ?_)
    refine dX (fun n fs=>∃ (i1:Nat) (w1:C) (cs1:List C) (m1:Nat) (l1:List qZ) (e:Lq) (zz:dA) (Hx:List HA),fs=⟨e,zz,Hx++[.row (.c w1) 35 4 m1 cs1,.blk b1 (.cells 101 [Cs x.name,Cs x.parent,cx_0,Cb x.threshold.n,cx_1,Cb x.threshold.d,cx_2,Cb x.cap.n,cx_3,Cb x.cap.d,cx_4,Ci x.back,Ci x.forward,Cb x.interest.n,cx_5,Cb x.interest.d,cx_6,Cb x.floor.n,cx_7,Cb x.floor.d,cx_8,Ci x.keep,cx_9,cx_10,cx_11])]⟩∧zle zl0 zz∧Vx e [(1,Ap b1),(3,.c w1),(5,Ai (i1:Int))]∧n=x.classes.length - i1∧i1≤x.classes.length∧CL 4 (RK z) zz cs1 l1∧m1=l1.length∧m1≤m0+1 * i1∧pO w1 w1=true∧(∀ r,r∈l0→r∈l1)∧(∀ a,a∈x.classes.take i1→a.arg∈l1)) ?_ _ ⟨0,_,_,m0,l0,_,_,[],rfl,zle.refl _,(kM rfl (kM rfl (kM rfl Ez))),rfl,Nat.zero_le _,hcl0,hlen0,by omega,hw0,fun r h=>h,fun a ha=>by simp at ha⟩ (kK (by omega))
    intro n fs hI
    obtain ⟨i1,w1,cs1,m1,l1,e,zl1,Hx,rfl,hzl1,hat,rfl,hi1,hcl1,hlen1,hmb1,hw1,hs1,hm1⟩:=hI
    refine zQ hat fun e=>?_
    refine uG (List.sublist_append_right _ _) ?_
    refine R4 20 O ?_
    refine mQ (v:=.c (cx_9)) O Y1 (aU O) O ?_
    refine aS O hx_9 ?_
    refine R3 4 O ?_
    refine jB O (fun hc48=>?_) (fun hc48=>?_)
    · skip
      have hp48:=iF.1 hc48
      refine cP ?_
      refine aT (aQ ?_)
      refine xG ?_
      refine R1 5 O ?_
      refine mQ (v:=.c (cx_9)) O Y1 (aU O) O ?_
      refine lM O ?_
      obtain ⟨a55,ha55⟩:=pE (l:=x.classes) (i:=i1) (by omega)
      refine dE O O hx_9 i1 O a55 ha55 fun b55 p55 cs55 at55 hR55=>?_
      obtain ⟨c55_0,c55_1,rfl,h55_0,h55_1⟩:=hR55
      refine lF O ?_
      refine nQ (v:=.agg [Cb a55.arg.n,c55_0,Cb a55.arg.d,c55_1]) (off:=2) O (at55.mono (hzl0.trans hzl1)) O (aU O) O ?_
      refine cX O fun b58=>?_
      refine mV O O mem0 O (fun _=>P1) (by omega) (by omega) fun w59 hw59=>?_
      have cl59:CL 4 (RK z) zl1 _ (l1++[a55.arg]):=CL.append hcl1 (CL.one rfl (Es h55_0 h55_1))
      refine R0 3 O ?_
      refine eT ?_
      refine xG ?_
      refine lM O ?_
      refine lB O O (tG (r:=((i1+1:Nat):Int)) (vF (by omega))) ?_
      refine R0 3 O ?_
      exact mK (by omega) ⟨i1+1,_,_,_,_,_,_,[_],rfl,hzl1,(kM rfl (kM rfl (kM rfl Ez))),rfl,by omega,cl59,by simp;omega,by omega,hw59,fun r h=>by simp [hs1 r h],Gp ha55 (fun a h=>by have:=hm1 a h;simp [this]) (by simp)⟩
    · skip
      have hp48:=sK iF hc48
      refine dH ?_
      refine nF ?_
      refine eT ?_
      refine R5 12 O ?_
      refine aT (aQ ?_)
      refine dX (fun n fs=>∃ (i2:Nat) (w2:C) (cs2:List C) (m2:Nat) (l2:List qZ) (e:Lq) (zz:dA) (Hx:List HA),fs=⟨e,zz,Hx++[.row (.c w2) 35 4 m2 cs2,.blk b1 (.cells 101 [Cs x.name,Cs x.parent,cx_0,Cb x.threshold.n,cx_1,Cb x.threshold.d,cx_2,Cb x.cap.n,cx_3,Cb x.cap.d,cx_4,Ci x.back,Ci x.forward,Cb x.interest.n,cx_5,Cb x.interest.d,cx_6,Cb x.floor.n,cx_7,Cb x.floor.d,cx_8,Ci x.keep,cx_9,cx_10,cx_11])]⟩∧zle zl1 zz∧Vx e [(1,Ap b1),(3,.c w2),(6,Ai (i2:Int))]∧n=x.years.length - i2∧i2≤x.years.length∧CL 4 (RK z) zz cs2 l2∧m2=l2.length∧m2≤m1+240 * i2∧pO w2 w2=true∧(∀ r,r∈l1→r∈l2)∧(∀ a,a∈x.years.take i2→InY a l2)) ?_ _ ⟨0,_,_,m1,l1,_,_,[],rfl,zle.refl _,(kM rfl (kM rfl (kM rfl Ez))),rfl,Nat.zero_le _,hcl1,hlen1,by omega,hw1,fun r h=>h,fun a ha=>by simp at ha⟩ (kK (by omega))
      intro n fs hI
      obtain ⟨i2,w2,cs2,m2,l2,e,zl2,Hx,rfl,hzl2,hat,rfl,hi2,hcl2,hlen2,hmb2,hw2,hs2,hm2⟩:=hI
      refine zQ hat fun e=>?_
      refine uG (List.sublist_append_right _ _) ?_
      refine R4 20 O ?_
      refine mQ (v:=.c (cx_11)) O Y1 (aU O) O ?_
      refine aS O hx_11 ?_
      refine R3 4 O ?_
      refine jB O (fun hc64=>?_) (fun hc64=>?_)
      · skip
        have hp64:=iF.1 hc64
        refine cP ?_
        refine aT (aQ ?_)
        refine R4 4 O ?_
        refine mQ (v:=.c (cx_11)) O Y1 (aU O) O ?_
        refine lM O ?_
        obtain ⟨a70,ha70⟩:=pE (l:=x.years) (i:=i2) (by omega)
        refine dE O O hx_11 i2 O a70 ha70 fun b70 p70 cs70 at70 hR70=>?_
        obtain ⟨c70_0,c70_1,c70_2,c70_3,c70_4,rfl,h70_0,h70_1,h70_2,h70_3,h70_4⟩:=hR70
        refine nQ (v:=.agg [Ci a70.number,c70_0,c70_1,c70_2,c70_3,c70_4]) (off:=0) O (at70.mono (hzl0.trans (hzl1.trans hzl2))) O (aU O) O ?_
        obtain ⟨ly0,ly1,ly2,ly3,ly4⟩:=hL.y _ (List.mem_of_getElem? ha70)
        refine kC fun b7=>?_
        refine vB (cs':=[Ci a70.number,c70_0,c70_1,c70_2,c70_3,c70_4]) O O O iW (by kernel_rfl) O (aU O) ?_
        refine lN ?_
        refine R5 12 O ?_
        refine aT (aQ ?_)
        refine dX (fun n fs=>∃ (i3:Nat) (w3:C) (cs3:List C) (m3:Nat) (l3:List qZ) (e:Lq) (zz:dA) (Hx:List HA),fs=⟨e,zz,Hx++[.blk b7 (.cells 134 [Ci a70.number,c70_0,c70_1,c70_2,c70_3,c70_4]),.row (.c w3) 35 4 m3 cs3,.blk b1 (.cells 101 [Cs x.name,Cs x.parent,cx_0,Cb x.threshold.n,cx_1,Cb x.threshold.d,cx_2,Cb x.cap.n,cx_3,Cb x.cap.d,cx_4,Ci x.back,Ci x.forward,Cb x.interest.n,cx_5,Cb x.interest.d,cx_6,Cb x.floor.n,cx_7,Cb x.floor.d,cx_8,Ci x.keep,cx_9,cx_10,cx_11])]⟩∧zle zl2 zz∧Vx e [(1,Ap b1),(6,Ai (i2:Int)),(7,Ap b7),(3,.c w3),(8,Ai (i3:Int))]∧n=a70.holds.length - i3∧i3≤a70.holds.length∧CL 4 (RK z) zz cs3 l3∧m3=l3.length∧m3≤m2+1 * i3∧pO w3 w3=true∧(∀ r,r∈l2→r∈l3)∧(∀ a,a∈a70.holds.take i3→a.share∈l3)) ?_ _ ⟨0,_,_,m2,l2,_,_,[],rfl,zle.refl _,(kM rfl (kM rfl (kM rfl (kM rfl (kM rfl Ez))))),rfl,Nat.zero_le _,hcl2,hlen2,by omega,hw2,fun r h=>h,fun a ha=>by simp at ha⟩ (kK (by omega))
        intro n fs hI
        obtain ⟨i3,w3,cs3,m3,l3,e,zl3,Hx,rfl,hzl3,hat,rfl,hi3,hcl3,hlen3,hmb3,hw3,hs3,hm3⟩:=hI
        refine zQ hat fun e=>?_
        refine uG (List.sublist_append_right _ _) ?_
        refine R4 20 O ?_
        refine mQ (v:=.c (c70_0)) O mem0 (aU O) O ?_
        refine aS O h70_0 ?_
        refine R3 4 O ?_
        refine jB O (fun hc76=>?_) (fun hc76=>?_)
        · skip
          have hp76:=iF.1 hc76
          refine cP ?_
          refine aT (aQ ?_)
          refine xG ?_
          refine R1 5 O ?_
          refine mQ (v:=.c (c70_0)) O mem0 (aU O) O ?_
          refine lM O ?_
          obtain ⟨a83,ha83⟩:=pE (l:=a70.holds) (i:=i3) (by omega)
          refine dE O O h70_0 i3 O a83 ha83 fun b83 p83 cs83 at83 hR83=>?_
          obtain ⟨c83_0,c83_1,rfl,h83_0,h83_1⟩:=hR83
          refine lF O ?_
          refine nQ (v:=.agg [Cb a83.share.n,c83_0,Cb a83.share.d,c83_1]) (off:=2) O (at83.mono (hzl0.trans (hzl1.trans (hzl2.trans hzl3)))) O (aU O) O ?_
          refine cX O fun b86=>?_
          refine mV O O mem0 O (fun _=>P2) (by omega) (by omega) fun w87 hw87=>?_
          have cl87:CL 4 (RK z) zl3 _ (l3++[a83.share]):=CL.append hcl3 (CL.one rfl (Es h83_0 h83_1))
          refine R0 3 O ?_
          refine eT ?_
          refine xG ?_
          refine lM O ?_
          refine lB O O (tG (r:=((i3+1:Nat):Int)) (vF (by omega))) ?_
          refine R0 3 O ?_
          exact mK (by omega) ⟨i3+1,_,_,_,_,_,_,[_],rfl,hzl3,(kM rfl (kM rfl (kM rfl (kM rfl (kM rfl Ez))))),rfl,by omega,cl87,by simp;omega,by omega,hw87,fun r h=>by simp [hs3 r h],Gp ha83 (fun a h=>by have:=hm3 a h;simp [this]) (by simp)⟩
        · skip
          have hp76:=sK iF hc76
          refine dH ?_
          refine nF ?_
          refine eT ?_
          refine R5 12 O ?_
          refine aT (aQ ?_)
          refine dX (fun n fs=>∃ (i4:Nat) (w4:C) (cs4:List C) (m4:Nat) (l4:List qZ) (e:Lq) (zz:dA) (Hx:List HA),fs=⟨e,zz,Hx++[.blk b7 (.cells 134 [Ci a70.number,c70_0,c70_1,c70_2,c70_3,c70_4]),.row (.c w4) 35 4 m4 cs4,.blk b1 (.cells 101 [Cs x.name,Cs x.parent,cx_0,Cb x.threshold.n,cx_1,Cb x.threshold.d,cx_2,Cb x.cap.n,cx_3,Cb x.cap.d,cx_4,Ci x.back,Ci x.forward,Cb x.interest.n,cx_5,Cb x.interest.d,cx_6,Cb x.floor.n,cx_7,Cb x.floor.d,cx_8,Ci x.keep,cx_9,cx_10,cx_11])]⟩∧zle zl3 zz∧Vx e [(1,Ap b1),(6,Ai (i2:Int)),(7,Ap b7),(3,.c w4),(9,Ai (i4:Int))]∧n=a70.books.length - i4∧i4≤a70.books.length∧CL 4 (RK z) zz cs4 l4∧m4=l4.length∧m4≤m3+1 * i4∧pO w4 w4=true∧(∀ r,r∈l3→r∈l4)∧(∀ a,a∈a70.books.take i4→a.amount∈l4)) ?_ _ ⟨0,_,_,m3,l3,_,_,[],rfl,zle.refl _,(kM rfl (kM rfl (kM rfl (kM rfl (kM rfl Ez))))),rfl,Nat.zero_le _,hcl3,hlen3,by omega,hw3,fun r h=>h,fun a ha=>by simp at ha⟩ (kK (by omega))
          intro n fs hI
          obtain ⟨i4,w4,cs4,m4,l4,e,zl4,Hx,rfl,hzl4,hat,rfl,hi4,hcl4,hlen4,hmb4,hw4,hs4,hm4⟩:=hI
          refine zQ hat fun e=>?_
          refine uG (List.sublist_append_right _ _) ?_
          refine R4 20 O ?_
          refine mQ (v:=.c (c70_1)) O mem0 (aU O) O ?_
          refine aS O h70_1 ?_
          refine R3 4 O ?_
          refine jB O (fun hc92=>?_) (fun hc92=>?_)
          · skip
            have hp92:=iF.1 hc92
            refine cP ?_
            refine aT (aQ ?_)
            refine xG ?_
            refine R1 5 O ?_
            refine mQ (v:=.c (c70_1)) O mem0 (aU O) O ?_
            refine lM O ?_
            obtain ⟨a99,ha99⟩:=pE (l:=a70.books) (i:=i4) (by omega)
            refine dE O O h70_1 i4 O a99 ha99 fun b99 p99 cs99 at99 hR99=>?_
            obtain ⟨c99_0,c99_1,rfl,h99_0,h99_1⟩:=hR99
            refine lF O ?_
            refine nQ (v:=.agg [Cb a99.amount.n,c99_0,Cb a99.amount.d,c99_1]) (off:=2) O (at99.mono (hzl0.trans (hzl1.trans (hzl2.trans (hzl3.trans hzl4))))) O (aU O) O ?_
            refine cX O fun b102=>?_
            refine mV O O mem0 O (fun _=>P2) (by omega) (by omega) fun w103 hw103=>?_
            have cl103:CL 4 (RK z) zl4 _ (l4++[a99.amount]):=CL.append hcl4 (CL.one rfl (Es h99_0 h99_1))
            refine R0 3 O ?_
            refine eT ?_
            refine xG ?_
            refine lM O ?_
            refine lB O O (tG (r:=((i4+1:Nat):Int)) (vF (by omega))) ?_
            refine R0 3 O ?_
            exact mK (by omega) ⟨i4+1,_,_,_,_,_,_,[_],rfl,hzl4,(kM rfl (kM rfl (kM rfl (kM rfl (kM rfl Ez))))),rfl,by omega,cl103,by simp;omega,by omega,hw103,fun r h=>by simp [hs4 r h],Gp ha99 (fun a h=>by have:=hm4 a h;simp [this]) (by simp)⟩
          · skip
            have hp92:=sK iF hc92
            refine dH ?_
            refine nF ?_
            refine eT ?_
            refine R5 12 O ?_
            refine aT (aQ ?_)
            refine dX (fun n fs=>∃ (i5:Nat) (w5:C) (cs5:List C) (m5:Nat) (l5:List qZ) (e:Lq) (zz:dA) (Hx:List HA),fs=⟨e,zz,Hx++[.blk b7 (.cells 134 [Ci a70.number,c70_0,c70_1,c70_2,c70_3,c70_4]),.row (.c w5) 35 4 m5 cs5,.blk b1 (.cells 101 [Cs x.name,Cs x.parent,cx_0,Cb x.threshold.n,cx_1,Cb x.threshold.d,cx_2,Cb x.cap.n,cx_3,Cb x.cap.d,cx_4,Ci x.back,Ci x.forward,Cb x.interest.n,cx_5,Cb x.interest.d,cx_6,Cb x.floor.n,cx_7,Cb x.floor.d,cx_8,Ci x.keep,cx_9,cx_10,cx_11])]⟩∧zle zl4 zz∧Vx e [(1,Ap b1),(6,Ai (i2:Int)),(7,Ap b7),(3,.c w5),(10,Ai (i5:Int))]∧n=a70.deals.length - i5∧i5≤a70.deals.length∧CL 4 (RK z) zz cs5 l5∧m5=l5.length∧m5≤m4+1 * i5∧pO w5 w5=true∧(∀ r,r∈l4→r∈l5)∧(∀ a,a∈a70.deals.take i5→a.amount∈l5)) ?_ _ ⟨0,_,_,m4,l4,_,_,[],rfl,zle.refl _,(kM rfl (kM rfl (kM rfl (kM rfl (kM rfl Ez))))),rfl,Nat.zero_le _,hcl4,hlen4,by omega,hw4,fun r h=>h,fun a ha=>by simp at ha⟩ (kK (by omega))
            intro n fs hI
            obtain ⟨i5,w5,cs5,m5,l5,e,zl5,Hx,rfl,hzl5,hat,rfl,hi5,hcl5,hlen5,hmb5,hw5,hs5,hm5⟩:=hI
            refine zQ hat fun e=>?_
            refine uG (List.sublist_append_right _ _) ?_
            refine R4 20 O ?_
            refine mQ (v:=.c (c70_2)) O mem0 (aU O) O ?_
            refine aS O h70_2 ?_
            refine R3 4 O ?_
            refine jB O (fun hc108=>?_) (fun hc108=>?_)
            · skip
              have hp108:=iF.1 hc108
              refine cP ?_
              refine aT (aQ ?_)
              refine xG ?_
              refine R1 5 O ?_
              refine mQ (v:=.c (c70_2)) O mem0 (aU O) O ?_
              refine lM O ?_
              obtain ⟨a115,ha115⟩:=pE (l:=a70.deals) (i:=i5) (by omega)
              refine dE O O h70_2 i5 O a115 ha115 fun b115 p115 cs115 at115 hR115=>?_
              obtain ⟨c115_0,c115_1,rfl,h115_0,h115_1⟩:=hR115
              refine lF O ?_
              refine nQ (v:=.agg [Cb a115.amount.n,c115_0,Cb a115.amount.d,c115_1]) (off:=6) O (at115.mono (hzl0.trans (hzl1.trans (hzl2.trans (hzl3.trans (hzl4.trans hzl5)))))) O (aU O) O ?_
              refine cX O fun b118=>?_
              refine mV O O mem0 O (fun _=>P2) (by omega) (by omega) fun w119 hw119=>?_
              have cl119:CL 4 (RK z) zl5 _ (l5++[a115.amount]):=CL.append hcl5 (CL.one rfl (Es h115_0 h115_1))
              refine R0 3 O ?_
              refine eT ?_
              refine xG ?_
              refine lM O ?_
              refine lB O O (tG (r:=((i5+1:Nat):Int)) (vF (by omega))) ?_
              refine R0 3 O ?_
              exact mK (by omega) ⟨i5+1,_,_,_,_,_,_,[_],rfl,hzl5,(kM rfl (kM rfl (kM rfl (kM rfl (kM rfl Ez))))),rfl,by omega,cl119,by simp;omega,by omega,hw119,fun r h=>by simp [hs5 r h],Gp ha115 (fun a h=>by have:=hm5 a h;simp [this]) (by simp)⟩
            · skip
              have hp108:=sK iF hc108
              refine dH ?_
              refine nF ?_
              refine eT ?_
              refine R5 12 O ?_
              refine aT (aQ ?_)
              refine dX (fun n fs=>∃ (i6:Nat) (w6:C) (cs6:List C) (m6:Nat) (l6:List qZ) (e:Lq) (zz:dA) (Hx:List HA),fs=⟨e,zz,Hx++[.blk b7 (.cells 134 [Ci a70.number,c70_0,c70_1,c70_2,c70_3,c70_4]),.row (.c w6) 35 4 m6 cs6,.blk b1 (.cells 101 [Cs x.name,Cs x.parent,cx_0,Cb x.threshold.n,cx_1,Cb x.threshold.d,cx_2,Cb x.cap.n,cx_3,Cb x.cap.d,cx_4,Ci x.back,Ci x.forward,Cb x.interest.n,cx_5,Cb x.interest.d,cx_6,Cb x.floor.n,cx_7,Cb x.floor.d,cx_8,Ci x.keep,cx_9,cx_10,cx_11])]⟩∧zle zl5 zz∧Vx e [(1,Ap b1),(6,Ai (i2:Int)),(7,Ap b7),(3,.c w6),(11,Ai (i6:Int))]∧n=a70.stocks.length - i6∧i6≤a70.stocks.length∧CL 4 (RK z) zz cs6 l6∧m6=l6.length∧m6≤m5+2 * i6∧pO w6 w6=true∧(∀ r,r∈l5→r∈l6)∧(∀ a,a∈a70.stocks.take i6→a.margin∈l6∧a.unsold∈l6)) ?_ _ ⟨0,_,_,m5,l5,_,_,[],rfl,zle.refl _,(kM rfl (kM rfl (kM rfl (kM rfl (kM rfl Ez))))),rfl,Nat.zero_le _,hcl5,hlen5,by omega,hw5,fun r h=>h,fun a ha=>by simp at ha⟩ (kK (by omega))
              intro n fs hI
              obtain ⟨i6,w6,cs6,m6,l6,e,zl6,Hx,rfl,hzl6,hat,rfl,hi6,hcl6,hlen6,hmb6,hw6,hs6,hm6⟩:=hI
              refine zQ hat fun e=>?_
              refine uG (List.sublist_append_right _ _) ?_
              refine R4 20 O ?_
              refine mQ (v:=.c (c70_3)) O mem0 (aU O) O ?_
              refine aS O h70_3 ?_
              refine R3 4 O ?_
              refine jB O (fun hc124=>?_) (fun hc124=>?_)
              · skip
                have hp124:=iF.1 hc124
                refine cP ?_
                refine aT (aQ ?_)
                refine wC ?_
                refine gP O O F ?_
                refine R0 3 O ?_
                refine gP O O F ?_
                refine R0 2 O ?_
                refine Me (v:=.c (c70_3)) O O (.inr mem0) O (aU O) O ?_
                refine gP O O F ?_
                refine R0 3 O ?_
                obtain ⟨a131,ha131⟩:=pE (l:=a70.stocks) (i:=i6) (by omega)
                refine gP O O F ?_
                refine dE O O h70_3 i6 O a131 ha131 fun b131 p131 cs131 at131 hR131=>?_
                refine lN ?_
                obtain ⟨c131_0,c131_1,c131_2,c131_3,rfl,h131_0,h131_1,h131_2,h131_3⟩:=hR131
                refine gP O O F ?_
                refine R0 2 O ?_
                refine glA (v:=.agg [Cb a131.margin.n,c131_0,Cb a131.margin.d,c131_1]) (off:=1) O O at131 (fun _ _ h=>.inl ((hzl0.trans (hzl1.trans (hzl2.trans (hzl3.trans (hzl4.trans (hzl5.trans (hzl6))))))) _ _ h)) O (aU O) O ?_
                refine gP O O F ?_
                refine R0 2 O ?_
                refine Me (v:=.c (c70_3)) O O (.inr mem0) O (aU O) O ?_
                refine gP O O F ?_
                refine R0 3 O ?_
                refine gP O O F ?_
                refine dE O O h70_3 i6 O a131 ha131 fun b137 p137 cs137 at137 hR137=>?_
                refine lN ?_
                obtain ⟨c137_0,c137_1,c137_2,c137_3,rfl,h137_0,h137_1,h137_2,h137_3⟩:=hR137
                refine gP O O F ?_
                refine R0 2 O ?_
                refine glA (v:=.agg [Cb a131.unsold.n,c137_2,Cb a131.unsold.d,c137_3]) (off:=5) O O at137 (fun _ _ h=>.inl ((hzl0.trans (hzl1.trans (hzl2.trans (hzl3.trans (hzl4.trans (hzl5.trans (hzl6))))))) _ _ h)) O (aU O) O ?_
                refine wE (k:=.cells 35 [Cb a131.margin.n,c131_0,Cb a131.margin.d,c131_1,Cb a131.unsold.n,c137_2,Cb a131.unsold.d,c137_3]) (w:=fun b=>.c (.sl b 0 2 4)) rfl F rfl (fun _=>rfl) (fun st hst=>?_) (fun b140 hT140=>?_)
                · simp only [eP,zB,AS.ev,hst 133 (by simp [lS.sl,Od.sls,Od.sl]),hst 139 (by simp [lS.sl,Od.sls,Od.sl])];rfl
                refine Dm (i:=⟨_,_,.app _ _ _ _ _ _⟩) O F O O O O ?_
                refine mV O O mem0 O (fun _=>P2) (by omega) (by omega) fun w141 hw141=>?_
                have cl141:CL 4 (RK z) zl6 _ (l6++[a131.margin,a131.unsold]):=CL.append hcl6 (CL.append (cs:=[Cb a131.margin.n,c131_0,Cb a131.margin.d,c131_1]) (cs':=[Cb a131.unsold.n,c137_2,Cb a131.unsold.d,c137_3]) (l:=[a131.margin]) (l':=[a131.unsold]) (CL.one rfl (Es h131_0 h131_1)) (CL.one rfl (Es h137_2 h137_3)))
                refine lN ?_
                refine gP O O F ?_
                refine R0 3 O ?_
                refine mL ?_
                refine eT ?_
                refine xG ?_
                refine lM O ?_
                refine lB O O (tG (r:=((i6+1:Nat):Int)) (vF (by omega))) ?_
                refine R0 3 O ?_
                exact mK (by omega) ⟨i6+1,_,_,_,_,_,_,[_],rfl,hzl6,(kM rfl (kM rfl (kM rfl (kM rfl (kM rfl Ez))))),rfl,by omega,cl141,by simp;omega,by omega,hw141,fun r h=>by simp [hs6 r h],Gp ha131 (fun a h=>by have:=hm6 a h;simp [this]) (by simp)⟩
              · skip
                have hp124:=sK iF hc124
                refine dH ?_
                refine nF ?_
                refine eT ?_
                refine R5 6 O ?_
                refine aQ ?_
                refine dX (fun n fs=>∃ (i7:Nat) (w7:C) (cs7:List C) (m7:Nat) (l7:List qZ) (e:Lq) (zz:dA) (Hx:List HA),fs=⟨e,zz,Hx++[.blk b7 (.cells 134 [Ci a70.number,c70_0,c70_1,c70_2,c70_3,c70_4]),.row (.c w7) 35 4 m7 cs7,.blk b1 (.cells 101 [Cs x.name,Cs x.parent,cx_0,Cb x.threshold.n,cx_1,Cb x.threshold.d,cx_2,Cb x.cap.n,cx_3,Cb x.cap.d,cx_4,Ci x.back,Ci x.forward,Cb x.interest.n,cx_5,Cb x.interest.d,cx_6,Cb x.floor.n,cx_7,Cb x.floor.d,cx_8,Ci x.keep,cx_9,cx_10,cx_11])]⟩∧zle zl6 zz∧Vx e [(1,Ap b1),(6,Ai (i2:Int)),(7,Ap b7),(3,.c w7),(12,Ai (i7:Int))]∧n=a70.solds.length - i7∧i7≤a70.solds.length∧CL 4 (RK z) zz cs7 l7∧m7=l7.length∧m7≤m6+1 * i7∧pO w7 w7=true∧(∀ r,r∈l6→r∈l7)∧(∀ a,a∈a70.solds.take i7→a.share∈l7)) ?_ _ ⟨0,_,_,m6,l6,_,_,[],rfl,zle.refl _,(kM rfl (kM rfl (kM rfl (kM rfl (kM rfl Ez))))),rfl,Nat.zero_le _,hcl6,hlen6,by omega,hw6,fun r h=>h,fun a ha=>by simp at ha⟩ (kK (by omega))
                intro n fs hI
                obtain ⟨i7,w7,cs7,m7,l7,e,zl7,Hx,rfl,hzl7,hat,rfl,hi7,hcl7,hlen7,hmb7,hw7,hs7,hm7⟩:=hI
                refine zQ hat fun e=>?_
                refine uG (List.sublist_append_right _ _) ?_
                refine R4 20 O ?_
                refine mQ (v:=.c (c70_4)) O mem0 (aU O) O ?_
                refine aS O h70_4 ?_
                refine R3 4 O ?_
                refine jB O (fun hc146=>?_) (fun hc146=>?_)
                · skip
                  have hp146:=iF.1 hc146
                  refine cP ?_
                  refine aT (aQ ?_)
                  refine xG ?_
                  refine R1 5 O ?_
                  refine mQ (v:=.c (c70_4)) O mem0 (aU O) O ?_
                  refine lM O ?_
                  obtain ⟨a153,ha153⟩:=pE (l:=a70.solds) (i:=i7) (by omega)
                  refine dE O O h70_4 i7 O a153 ha153 fun b153 p153 cs153 at153 hR153=>?_
                  obtain ⟨c153_0,c153_1,rfl,h153_0,h153_1⟩:=hR153
                  refine lF O ?_
                  refine nQ (v:=.agg [Cb a153.share.n,c153_0,Cb a153.share.d,c153_1]) (off:=1) O (at153.mono (hzl0.trans (hzl1.trans (hzl2.trans (hzl3.trans (hzl4.trans (hzl5.trans (hzl6.trans hzl7)))))))) O (aU O) O ?_
                  refine cX O fun b156=>?_
                  refine mV O O mem0 O (fun _=>P2) (by omega) (by omega) fun w157 hw157=>?_
                  have cl157:CL 4 (RK z) zl7 _ (l7++[a153.share]):=CL.append hcl7 (CL.one rfl (Es h153_0 h153_1))
                  refine R0 3 O ?_
                  refine eT ?_
                  refine xG ?_
                  refine lM O ?_
                  refine lB O O (tG (r:=((i7+1:Nat):Int)) (vF (by omega))) ?_
                  refine R0 3 O ?_
                  exact mK (by omega) ⟨i7+1,_,_,_,_,_,_,[_],rfl,hzl7,(kM rfl (kM rfl (kM rfl (kM rfl (kM rfl Ez))))),rfl,by omega,cl157,by simp;omega,by omega,hw157,fun r h=>by simp [hs7 r h],Gp ha153 (fun a h=>by have:=hm7 a h;simp [this]) (by simp)⟩
                · skip
                  have hp146:=sK iF hc146
                  refine dH ?_
                  refine nF ?_
                  refine eT ?_
                  refine xG ?_
                  refine lM O ?_
                  refine lB O O (tG (r:=((i2+1:Nat):Int)) (vF (by omega))) ?_
                  refine R0 3 O ?_
                  exact mK (by omega) ⟨i2+1,_,_,_,_,_,_,[_],rfl,hzl2.trans (hzl3.trans (hzl4.trans (hzl5.trans (hzl6.trans hzl7)))),(kM rfl (kM rfl (kM rfl Ez))),rfl,by omega,hcl7,hlen7,by omega,hw7,fun r h=>hs7 r (hs6 r (hs5 r (hs4 r (hs3 r (hs2 r h))))),Gp ha70 (fun a h=>(hm2 a h).mono fun r h=>hs7 r (hs6 r (hs5 r (hs4 r (hs3 r h))))) ⟨fun a h=>hs7 _ (hs6 _ (hs5 _ (hs4 _ (hm3 a (by rw [uD (by omega)];exact h))))),fun a h=>hs7 _ (hs6 _ (hs5 _ (hm4 a (by rw [uD (by omega)];exact h)))),fun a h=>hs7 _ (hs6 _ (hm5 a (by rw [uD (by omega)];exact h))),fun a h=>⟨hs7 _ (hm6 a (by rw [uD (by omega)];exact h)).1,hs7 _ (hm6 a (by rw [uD (by omega)];exact h)).2⟩,fun a h=>(hm7 a (by rw [uD (by omega)];exact h))⟩⟩
      · skip
        have hp64:=sK iF hc64
        refine dH ?_
        refine nF ?_
        refine eT ?_
        refine R5 14 O ?_
        refine aOs (z0:=z) (R:=RK z) (p:=[]) O (hzl0.trans (hzl1.trans hzl2)) hcl2 (hlen2.symm) (by omega) fun zfr _ hsfr=>?_
        refine xT ?_
        refine rI O ?_
        refine ⟨_,_,O,hsfr,⟨hs2 _ (hs1 _ (hs0 _ (by simp))),hs2 _ (hs1 _ (hs0 _ (by simp))),hs2 _ (hs1 _ (hs0 _ (by simp))),hs2 _ (hs1 _ (hs0 _ (by simp))),fun a ha=>?_,fun a ha=>?_,fun a ha=>?_⟩⟩
        · have := hm0 a (by rw [uD (by omega)]; exact ha)
          exact ⟨hs2 _ (hs1 _ this.1),hs2 _ (hs1 _ this.2)⟩
        · exact hs2 _ (hm1 a (by rw [uD (by omega)];exact ha))
        · exact hm2 a (by rw [uD (by omega)];exact ha)
theorem bVG {k:Nat} (hk:1≤k) {z:dA} {v:AV} {x:oK} (hx:AZ Pm z v x) (hL:LnF x):FC (E k) 173 [v] z fun v z=>∃ c l,v=.c c∧CZ 4 S5 z c l∧InF x l:=
 (bTW hk hx hL).mono fun v z' hz ⟨c,l,h1,h2,h3⟩=>⟨c,l,h1,bQn hz h2,h3⟩
open Go.CE Go.RowKit
theorem bTO {k:Nat} (hk:1≤k) {z:dA} {v:AV} {x:oK} (hx:AZ Pm z v x) (hL:LnF x):FC (E k) 175 [v] z fun v z=>∃ c l,v=.c c∧CZ 1 RS z c l:=by
 have e0:=hL.l0
 have e1:=hL.l1
 have e2:=hL.l2
 have e3:=hL.l3
 obtain ⟨_,rfl,cx_0,cx_1,cx_2,cx_3,cx_4,cx_5,cx_6,cx_7,cx_8,cx_9,cx_10,cx_11,rfl,hx_0,hx_1,hx_2,hx_3,hx_4,hx_5,hx_6,hx_7,hx_8,hx_9,hx_10,hx_11⟩:=hx
 refine eA (bBD) (by omega) (aU O) fun B j hj=>?_
 refine xR ?_
 refine aDN O O fun b1=>?_
 refine R2 9 O ?_
 refine mQ (v:=.c (Cs x.name)) O mem0 (aU O) O ?_
 refine lF O ?_
 refine mQ (v:=.c (Cs x.parent)) O mem0 (aU O) O ?_
 refine cX O fun b17=>?_
 refine Dq (p:=[]) (n:=2) (size:=1) O O ?_
 have cl0:CL 1 RS z [Cs x.name,Cs x.parent] [x.name,x.parent]:=(CL.append (cs:=[Cs x.name]) (cs':=[Cs x.parent]) (l:=[x.name]) (l':=[x.parent]) (CL.one rfl rfl) (CL.one rfl rfl))
 refine R2 21 O ?_
 refine mQ (v:=.c (cx_10)) O Y1 (aU O) O ?_
 refine aWt O O hx_10 (fun _ _=>iW) (by omega) (by omega) fun w21 hw21 nw21 hn21=>?_
 have cl21:CL 1 RS z _ ([x.name,x.parent]++x.entities):=CL.append cl0 hn21
 refine R3 25 O ?_
 refine aT (aQ ?_)
 refine dX (fun n fs=>∃ (i0:Nat) (w0:C) (cs0:List C) (m0:Nat) (l0:List ByteArray) (e:Lq) (zz:dA) (Hx:List HA),fs=⟨e,zz,Hx++[.row (.c w0) 9 1 m0 cs0,.blk b1 (.cells 101 [Cs x.name,Cs x.parent,cx_0,Cb x.threshold.n,cx_1,Cb x.threshold.d,cx_2,Cb x.cap.n,cx_3,Cb x.cap.d,cx_4,Ci x.back,Ci x.forward,Cb x.interest.n,cx_5,Cb x.interest.d,cx_6,Cb x.floor.n,cx_7,Cb x.floor.d,cx_8,Ci x.keep,cx_9,cx_10,cx_11])]⟩∧zle z zz∧Vx e [(1,Ap b1),(3,.c w0),(4,Ai (i0:Int))]∧n=x.classes.length - i0∧i0≤x.classes.length∧CL 1 RS zz cs0 l0∧m0=l0.length∧m0≤(2+x.entities.length)+1 * i0∧pO w0 w0=true) ?_ _ ⟨0,_,_,(2+x.entities.length),([x.name,x.parent]++x.entities),_,_,[],rfl,zle.refl _,(kM rfl (kM rfl (kM rfl Ez))),rfl,Nat.zero_le _,cl21,by simp<;>omega,by omega,hw21⟩ (kK (by omega))
 intro n fs hI
 obtain ⟨i0,w0,cs0,m0,l0,e,zl0,Hx,rfl,hzl0,hat,rfl,hi0,hcl0,hlen0,hmb0,hw0⟩:=hI
 refine zQ hat fun e=>?_
 refine uG (List.sublist_append_right _ _) ?_
 refine R4 20 O ?_
 refine mQ (v:=.c (cx_9)) O Y1 (aU O) O ?_
 refine aS O hx_9 ?_
 refine R3 4 O ?_
 refine jB O (fun hc26=>?_) (fun hc26=>?_)
 ·have hp26:=iF.1 hc26
  refine cP ?_
  refine aT (aQ ?_)
  refine xG ?_
  refine R1 5 O ?_
  refine mQ (v:=.c (cx_9)) O Y1 (aU O) O ?_
  refine lM O ?_
  obtain ⟨a33,ha33⟩:=pE (l:=x.classes) (i:=i0) (by omega)
  refine dE O O hx_9 i0 O a33 ha33 fun b33 p33 cs33 at33 hR33=>?_
  obtain ⟨c33_0,c33_1,rfl,h33_0,h33_1⟩:=hR33
  refine lF O ?_
  refine nQ (v:=.c (Cs a33.name)) (off:=0) O (at33.mono (hzl0)) O (aU O) O ?_
  refine cX O fun b36=>?_
  refine mV O O mem0 O (fun _=>P1) (by omega) (by omega) fun w37 hw37=>?_
  have cl37:CL 1 RS zl0 _ (l0++[a33.name]):=CL.append hcl0 (CL.one rfl rfl)
  refine R0 3 O ?_
  refine eT ?_
  refine xG ?_
  refine lM O ?_
  refine lB O O (tG (r:=((i0+1:Nat):Int)) (vF (by omega))) ?_
  refine R0 3 O ?_
  exact mK (by omega) ⟨i0+1,_,_,_,_,_,_,[_],rfl,hzl0,(kM rfl (kM rfl (kM rfl Ez))),rfl,by omega,cl37,by simp;omega,by omega,hw37⟩
 have hp26:=sK iF hc26
 refine dH ?_
 refine nF ?_
 refine eT ?_
 refine R5 12 O ?_
 refine aT (aQ ?_)
 refine dX (fun n fs=>∃ (i1:Nat) (w1:C) (cs1:List C) (m1:Nat) (l1:List ByteArray) (e:Lq) (zz:dA) (Hx:List HA),fs=⟨e,zz,Hx++[.row (.c w1) 9 1 m1 cs1,.blk b1 (.cells 101 [Cs x.name,Cs x.parent,cx_0,Cb x.threshold.n,cx_1,Cb x.threshold.d,cx_2,Cb x.cap.n,cx_3,Cb x.cap.d,cx_4,Ci x.back,Ci x.forward,Cb x.interest.n,cx_5,Cb x.interest.d,cx_6,Cb x.floor.n,cx_7,Cb x.floor.d,cx_8,Ci x.keep,cx_9,cx_10,cx_11])]⟩∧zle zl0 zz∧Vx e [(1,Ap b1),(3,.c w1),(5,Ai (i1:Int))]∧n=x.years.length - i1∧i1≤x.years.length∧CL 1 RS zz cs1 l1∧m1=l1.length∧m1≤m0+400 * i1∧pO w1 w1=true) ?_ _ ⟨0,_,_,m0,l0,_,_,[],rfl,zle.refl _,(kM rfl (kM rfl (kM rfl Ez))),rfl,Nat.zero_le _,hcl0,hlen0,by omega,hw0⟩ (kK (by omega))
 intro n fs hI
 obtain ⟨i1,w1,cs1,m1,l1,e,zl1,Hx,rfl,hzl1,hat,rfl,hi1,hcl1,hlen1,hmb1,hw1⟩:=hI
 refine zQ hat fun e=>?_
 refine uG (List.sublist_append_right _ _) ?_
 refine R4 20 O ?_
 refine mQ (v:=.c (cx_11)) O Y1 (aU O) O ?_
 refine aS O hx_11 ?_
 refine R3 4 O ?_
 refine jB O (fun hc42=>?_) (fun hc42=>?_)
 ·have hp42:=iF.1 hc42
  refine cP ?_
  refine aT (aQ ?_)
  refine R4 4 O ?_
  refine mQ (v:=.c (cx_11)) O Y1 (aU O) O ?_
  refine lM O ?_
  obtain ⟨a48,ha48⟩:=pE (l:=x.years) (i:=i1) (by omega)
  refine dE O O hx_11 i1 O a48 ha48 fun b48 p48 cs48 at48 hR48=>?_
  obtain ⟨c48_0,c48_1,c48_2,c48_3,c48_4,rfl,h48_0,h48_1,h48_2,h48_3,h48_4⟩:=hR48
  refine nQ (v:=.agg [Ci a48.number,c48_0,c48_1,c48_2,c48_3,c48_4]) (off:=0) O (at48.mono (hzl0.trans hzl1)) O (aU O) O ?_
  obtain ⟨ly0,ly1,ly2,ly3,ly4⟩:=hL.y _ (List.mem_of_getElem? ha48)
  refine kC fun b6=>?_
  refine vB (cs':=[Ci a48.number,c48_0,c48_1,c48_2,c48_3,c48_4]) O O O iW (by kernel_rfl) O (aU O) ?_
  refine lN ?_
  refine R5 12 O ?_
  refine aT (aQ ?_)
  refine dX (fun n fs=>∃ (i2:Nat) (w2:C) (cs2:List C) (m2:Nat) (l2:List ByteArray) (e:Lq) (zz:dA) (Hx:List HA),fs=⟨e,zz,Hx++[.blk b6 (.cells 134 [Ci a48.number,c48_0,c48_1,c48_2,c48_3,c48_4]),.row (.c w2) 9 1 m2 cs2,.blk b1 (.cells 101 [Cs x.name,Cs x.parent,cx_0,Cb x.threshold.n,cx_1,Cb x.threshold.d,cx_2,Cb x.cap.n,cx_3,Cb x.cap.d,cx_4,Ci x.back,Ci x.forward,Cb x.interest.n,cx_5,Cb x.interest.d,cx_6,Cb x.floor.n,cx_7,Cb x.floor.d,cx_8,Ci x.keep,cx_9,cx_10,cx_11])]⟩∧zle zl1 zz∧Vx e [(1,Ap b1),(5,Ai (i1:Int)),(6,Ap b6),(3,.c w2),(7,Ai (i2:Int))]∧n=a48.holds.length - i2∧i2≤a48.holds.length∧CL 1 RS zz cs2 l2∧m2=l2.length∧m2≤m1+2 * i2∧pO w2 w2=true) ?_ _ ⟨0,_,_,m1,l1,_,_,[],rfl,zle.refl _,(kM rfl (kM rfl (kM rfl (kM rfl (kM rfl Ez))))),rfl,Nat.zero_le _,hcl1,hlen1,by omega,hw1⟩ (kK (by omega))
  intro n fs hI
  obtain ⟨i2,w2,cs2,m2,l2,e,zl2,Hx,rfl,hzl2,hat,rfl,hi2,hcl2,hlen2,hmb2,hw2⟩:=hI
  refine zQ hat fun e=>?_
  refine uG (List.sublist_append_right _ _) ?_
  refine R4 20 O ?_
  refine mQ (v:=.c (c48_0)) O mem0 (aU O) O ?_
  refine aS O h48_0 ?_
  refine R3 4 O ?_
  refine jB O (fun hc54=>?_) (fun hc54=>?_)
  ·have hp54:=iF.1 hc54
   refine cP ?_
   refine aT (aQ ?_)
   refine wC ?_
   refine gP O O F ?_
   refine R0 3 O ?_
   refine gP O O F ?_
   refine R0 2 O ?_
   refine Me (v:=.c (c48_0)) O O (.inr mem0) O (aU O) O ?_
   refine gP O O F ?_
   refine R0 3 O ?_
   obtain ⟨a61,ha61⟩:=pE (l:=a48.holds) (i:=i2) (by omega)
   refine gP O O F ?_
   refine dE O O h48_0 i2 O a61 ha61 fun b61 p61 cs61 at61 hR61=>?_
   refine lN ?_
   obtain ⟨c61_0,c61_1,rfl,h61_0,h61_1⟩:=hR61
   refine gP O O F ?_
   refine R0 2 O ?_
   refine glA (v:=.c (Cs a61.owner)) (off:=0) O O at61 (fun _ _ h=>.inl ((hzl0.trans (hzl1.trans (hzl2))) _ _ h)) O (aU O) O ?_
   refine gP O O F ?_
   refine R0 2 O ?_
   refine Me (v:=.c (c48_0)) O O (.inr mem0) O (aU O) O ?_
   refine gP O O F ?_
   refine R0 3 O ?_
   refine gP O O F ?_
   refine dE O O h48_0 i2 O a61 ha61 fun b67 p67 cs67 at67 hR67=>?_
   refine lN ?_
   obtain ⟨c67_0,c67_1,rfl,h67_0,h67_1⟩:=hR67
   refine gP O O F ?_
   refine R0 2 O ?_
   refine glA (v:=.c (Cs a61.owned)) (off:=1) O O at67 (fun _ _ h=>.inl ((hzl0.trans (hzl1.trans (hzl2))) _ _ h)) O (aU O) O ?_
   refine wE (k:=.cells 9 [Cs a61.owner,Cs a61.owned]) (w:=fun b=>Aw b 2) rfl F rfl (fun _=>rfl) (fun st hst=>?_) (fun b70 hT70=>?_)
   ·simp only [eP,zB,AS.ev,hst 63 (by simp [lS.sl,Od.sls,Od.sl]),hst 69 (by simp [lS.sl,Od.sls,Od.sl])];rfl
   refine Dm (i:=⟨_,_,.app _ _ _ _ _ _⟩) O F O O O O ?_
   refine mV O O mem0 O (fun _=>P2) (by omega) (by omega) fun w71 hw71=>?_
   have cl71:CL 1 RS zl2 _ (l2++[a61.owner,a61.owned]):=CL.append hcl2 (CL.append (cs:=[Cs a61.owner]) (cs':=[Cs a61.owned]) (l:=[a61.owner]) (l':=[a61.owned]) (CL.one rfl rfl) (CL.one rfl rfl))
   refine lN ?_
   refine gP O O F ?_
   refine R0 3 O ?_
   refine mL ?_
   refine eT ?_
   refine xG ?_
   refine lM O ?_
   refine lB O O (tG (r:=((i2+1:Nat):Int)) (vF (by omega))) ?_
   refine R0 3 O ?_
   exact mK (by omega) ⟨i2+1,_,_,_,_,_,_,[_],rfl,hzl2,(kM rfl (kM rfl (kM rfl (kM rfl (kM rfl Ez))))),rfl,by omega,cl71,by simp;omega,by omega,hw71⟩
  have hp54:=sK iF hc54
  refine dH ?_
  refine nF ?_
  refine eT ?_
  refine R5 12 O ?_
  refine aT (aQ ?_)
  refine dX (fun n fs=>∃ (i3:Nat) (w3:C) (cs3:List C) (m3:Nat) (l3:List ByteArray) (e:Lq) (zz:dA) (Hx:List HA),fs=⟨e,zz,Hx++[.blk b6 (.cells 134 [Ci a48.number,c48_0,c48_1,c48_2,c48_3,c48_4]),.row (.c w3) 9 1 m3 cs3,.blk b1 (.cells 101 [Cs x.name,Cs x.parent,cx_0,Cb x.threshold.n,cx_1,Cb x.threshold.d,cx_2,Cb x.cap.n,cx_3,Cb x.cap.d,cx_4,Ci x.back,Ci x.forward,Cb x.interest.n,cx_5,Cb x.interest.d,cx_6,Cb x.floor.n,cx_7,Cb x.floor.d,cx_8,Ci x.keep,cx_9,cx_10,cx_11])]⟩∧zle zl2 zz∧Vx e [(1,Ap b1),(5,Ai (i1:Int)),(6,Ap b6),(3,.c w3),(8,Ai (i3:Int))]∧n=a48.books.length - i3∧i3≤a48.books.length∧CL 1 RS zz cs3 l3∧m3=l3.length∧m3≤m2+2 * i3∧pO w3 w3=true) ?_ _ ⟨0,_,_,m2,l2,_,_,[],rfl,zle.refl _,(kM rfl (kM rfl (kM rfl (kM rfl (kM rfl Ez))))),rfl,Nat.zero_le _,hcl2,hlen2,by omega,hw2⟩ (kK (by omega))
  intro n fs hI
  obtain ⟨i3,w3,cs3,m3,l3,e,zl3,Hx,rfl,hzl3,hat,rfl,hi3,hcl3,hlen3,hmb3,hw3⟩:=hI
  refine zQ hat fun e=>?_
  refine uG (List.sublist_append_right _ _) ?_
  refine R4 20 O ?_
  refine mQ (v:=.c (c48_1)) O mem0 (aU O) O ?_
  refine aS O h48_1 ?_
  refine R3 4 O ?_
  refine jB O (fun hc76=>?_) (fun hc76=>?_)
  ·have hp76:=iF.1 hc76
   refine cP ?_
   refine aT (aQ ?_)
   refine wC ?_
   refine gP O O F ?_
   refine R0 3 O ?_
   refine gP O O F ?_
   refine R0 2 O ?_
   refine Me (v:=.c (c48_1)) O O (.inr mem0) O (aU O) O ?_
   refine gP O O F ?_
   refine R0 3 O ?_
   obtain ⟨a83,ha83⟩:=pE (l:=a48.books) (i:=i3) (by omega)
   refine gP O O F ?_
   refine dE O O h48_1 i3 O a83 ha83 fun b83 p83 cs83 at83 hR83=>?_
   refine lN ?_
   obtain ⟨c83_0,c83_1,rfl,h83_0,h83_1⟩:=hR83
   refine gP O O F ?_
   refine R0 2 O ?_
   refine glA (v:=.c (Cs a83.entity)) (off:=0) O O at83 (fun _ _ h=>.inl ((hzl0.trans (hzl1.trans (hzl2.trans (hzl3)))) _ _ h)) O (aU O) O ?_
   refine gP O O F ?_
   refine R0 2 O ?_
   refine Me (v:=.c (c48_1)) O O (.inr mem0) O (aU O) O ?_
   refine gP O O F ?_
   refine R0 3 O ?_
   refine gP O O F ?_
   refine dE O O h48_1 i3 O a83 ha83 fun b89 p89 cs89 at89 hR89=>?_
   refine lN ?_
   obtain ⟨c89_0,c89_1,rfl,h89_0,h89_1⟩:=hR89
   refine gP O O F ?_
   refine R0 2 O ?_
   refine glA (v:=.c (Cs a83.cls)) (off:=1) O O at89 (fun _ _ h=>.inl ((hzl0.trans (hzl1.trans (hzl2.trans (hzl3)))) _ _ h)) O (aU O) O ?_
   refine wE (k:=.cells 9 [Cs a83.entity,Cs a83.cls]) (w:=fun b=>Aw b 2) rfl F rfl (fun _=>rfl) (fun st hst=>?_) (fun b92 hT92=>?_)
   ·simp only [eP,zB,AS.ev,hst 85 (by simp [lS.sl,Od.sls,Od.sl]),hst 91 (by simp [lS.sl,Od.sls,Od.sl])];rfl
   refine Dm (i:=⟨_,_,.app _ _ _ _ _ _⟩) O F O O O O ?_
   refine mV O O mem0 O (fun _=>P2) (by omega) (by omega) fun w93 hw93=>?_
   have cl93:CL 1 RS zl3 _ (l3++[a83.entity,a83.cls]):=CL.append hcl3 (CL.append (cs:=[Cs a83.entity]) (cs':=[Cs a83.cls]) (l:=[a83.entity]) (l':=[a83.cls]) (CL.one rfl rfl) (CL.one rfl rfl))
   refine lN ?_
   refine gP O O F ?_
   refine R0 3 O ?_
   refine mL ?_
   refine eT ?_
   refine xG ?_
   refine lM O ?_
   refine lB O O (tG (r:=((i3+1:Nat):Int)) (vF (by omega))) ?_
   refine R0 3 O ?_
   exact mK (by omega) ⟨i3+1,_,_,_,_,_,_,[_],rfl,hzl3,(kM rfl (kM rfl (kM rfl (kM rfl (kM rfl Ez))))),rfl,by omega,cl93,by simp;omega,by omega,hw93⟩
  have hp76:=sK iF hc76
  refine dH ?_
  refine nF ?_
  refine eT ?_
  refine R5 12 O ?_
  refine aT (aQ ?_)
  refine dX (fun n fs=>∃ (i4:Nat) (w4:C) (cs4:List C) (m4:Nat) (l4:List ByteArray) (e:Lq) (zz:dA) (Hx:List HA),fs=⟨e,zz,Hx++[.blk b6 (.cells 134 [Ci a48.number,c48_0,c48_1,c48_2,c48_3,c48_4]),.row (.c w4) 9 1 m4 cs4,.blk b1 (.cells 101 [Cs x.name,Cs x.parent,cx_0,Cb x.threshold.n,cx_1,Cb x.threshold.d,cx_2,Cb x.cap.n,cx_3,Cb x.cap.d,cx_4,Ci x.back,Ci x.forward,Cb x.interest.n,cx_5,Cb x.interest.d,cx_6,Cb x.floor.n,cx_7,Cb x.floor.d,cx_8,Ci x.keep,cx_9,cx_10,cx_11])]⟩∧zle zl3 zz∧Vx e [(1,Ap b1),(5,Ai (i1:Int)),(6,Ap b6),(3,.c w4),(9,Ai (i4:Int))]∧n=a48.deals.length - i4∧i4≤a48.deals.length∧CL 1 RS zz cs4 l4∧m4=l4.length∧m4≤m3+4 * i4∧pO w4 w4=true) ?_ _ ⟨0,_,_,m3,l3,_,_,[],rfl,zle.refl _,(kM rfl (kM rfl (kM rfl (kM rfl (kM rfl Ez))))),rfl,Nat.zero_le _,hcl3,hlen3,by omega,hw3⟩ (kK (by omega))
  intro n fs hI
  obtain ⟨i4,w4,cs4,m4,l4,e,zl4,Hx,rfl,hzl4,hat,rfl,hi4,hcl4,hlen4,hmb4,hw4⟩:=hI
  refine zQ hat fun e=>?_
  refine uG (List.sublist_append_right _ _) ?_
  refine R4 20 O ?_
  refine mQ (v:=.c (c48_2)) O mem0 (aU O) O ?_
  refine aS O h48_2 ?_
  refine R3 4 O ?_
  refine jB O (fun hc98=>?_) (fun hc98=>?_)
  ·have hp98:=iF.1 hc98
   refine cP ?_
   refine aT (aQ ?_)
   refine R4 4 O ?_
   refine mQ (v:=.c (c48_2)) O mem0 (aU O) O ?_
   refine lM O ?_
   obtain ⟨a104,ha104⟩:=pE (l:=a48.deals) (i:=i4) (by omega)
   refine dE O O h48_2 i4 O a104 ha104 fun b104 p104 cs104 at104 hR104=>?_
   obtain ⟨c104_0,c104_1,rfl,h104_0,h104_1⟩:=hR104
   refine nQ (v:=.agg [Cb a104.give,Cs a104.id,Cu a104.kind,Cs a104.payee,Cs a104.payer,Cs a104.cls,Cb a104.amount.n,c104_0,Cb a104.amount.d,c104_1]) (off:=0) O (at104.mono (hzl0.trans (hzl1.trans (hzl2.trans (hzl3.trans hzl4))))) O (aU O) O ?_
   refine kC fun b10=>?_
   refine vB (cs':=[Cb a104.give,Cs a104.id,Cu a104.kind,Cs a104.payee,Cs a104.payer,Cs a104.cls,Cb a104.amount.n,c104_0,Cb a104.amount.d,c104_1]) O O O iW (by kernel_rfl) O (aU O) ?_
   refine lN ?_
   refine xG ?_
   refine R1 5 O ?_
   refine mQ (v:=.c (Cs a104.id)) O mem0 (aU O) O ?_
   refine lF O ?_
   refine mQ (v:=.c (Cs a104.payee)) O mem0 (aU O) O ?_
   refine lF O ?_
   refine mQ (v:=.c (Cs a104.payer)) O mem0 (aU O) O ?_
   refine lF O ?_
   refine mQ (v:=.c (Cs a104.cls)) O mem0 (aU O) O ?_
   refine cX O fun b115=>?_
   refine mV O O mem0 O (fun _=>P3) (by omega) (by omega) fun w116 hw116=>?_
   have cl116:CL 1 RS zl4 _ (l4++[a104.id,a104.payee,a104.payer,a104.cls]):=CL.append hcl4 (CL.append (cs:=[Cs a104.id]) (cs':=[Cs a104.payee,Cs a104.payer,Cs a104.cls]) (l:=[a104.id]) (l':=[a104.payee,a104.payer,a104.cls]) (CL.one rfl rfl) (CL.append (cs:=[Cs a104.payee]) (cs':=[Cs a104.payer,Cs a104.cls]) (l:=[a104.payee]) (l':=[a104.payer,a104.cls]) (CL.one rfl rfl) (CL.append (cs:=[Cs a104.payer]) (cs':=[Cs a104.cls]) (l:=[a104.payer]) (l':=[a104.cls]) (CL.one rfl rfl) (CL.one rfl rfl))))
   refine R0 3 O ?_
   refine eT ?_
   refine xG ?_
   refine lM O ?_
   refine lB O O (tG (r:=((i4+1:Nat):Int)) (vF (by omega))) ?_
   refine R0 3 O ?_
   exact mK (by omega) ⟨i4+1,_,_,_,_,_,_,[_,_],rfl,hzl4,(kM rfl (kM rfl (kM rfl (kM rfl (kM rfl Ez))))),rfl,by omega,cl116,by simp;omega,by omega,hw116⟩
  have hp98:=sK iF hc98
  refine dH ?_
  refine nF ?_
  refine eT ?_
  refine R5 12 O ?_
  refine aT (aQ ?_)
  refine dX (fun n fs=>∃ (i5:Nat) (w5:C) (cs5:List C) (m5:Nat) (l5:List ByteArray) (e:Lq) (zz:dA) (Hx:List HA),fs=⟨e,zz,Hx++[.blk b6 (.cells 134 [Ci a48.number,c48_0,c48_1,c48_2,c48_3,c48_4]),.row (.c w5) 9 1 m5 cs5,.blk b1 (.cells 101 [Cs x.name,Cs x.parent,cx_0,Cb x.threshold.n,cx_1,Cb x.threshold.d,cx_2,Cb x.cap.n,cx_3,Cb x.cap.d,cx_4,Ci x.back,Ci x.forward,Cb x.interest.n,cx_5,Cb x.interest.d,cx_6,Cb x.floor.n,cx_7,Cb x.floor.d,cx_8,Ci x.keep,cx_9,cx_10,cx_11])]⟩∧zle zl4 zz∧Vx e [(1,Ap b1),(5,Ai (i1:Int)),(6,Ap b6),(3,.c w5),(11,Ai (i5:Int))]∧n=a48.stocks.length - i5∧i5≤a48.stocks.length∧CL 1 RS zz cs5 l5∧m5=l5.length∧m5≤m4+1 * i5∧pO w5 w5=true) ?_ _ ⟨0,_,_,m4,l4,_,_,[],rfl,zle.refl _,(kM rfl (kM rfl (kM rfl (kM rfl (kM rfl Ez))))),rfl,Nat.zero_le _,hcl4,hlen4,by omega,hw4⟩ (kK (by omega))
  intro n fs hI
  obtain ⟨i5,w5,cs5,m5,l5,e,zl5,Hx,rfl,hzl5,hat,rfl,hi5,hcl5,hlen5,hmb5,hw5⟩:=hI
  refine zQ hat fun e=>?_
  refine uG (List.sublist_append_right _ _) ?_
  refine R4 20 O ?_
  refine mQ (v:=.c (c48_3)) O mem0 (aU O) O ?_
  refine aS O h48_3 ?_
  refine R3 4 O ?_
  refine jB O (fun hc121=>?_) (fun hc121=>?_)
  ·have hp121:=iF.1 hc121
   refine cP ?_
   refine aT (aQ ?_)
   refine xG ?_
   refine R1 5 O ?_
   refine mQ (v:=.c (c48_3)) O mem0 (aU O) O ?_
   refine lM O ?_
   obtain ⟨a128,ha128⟩:=pE (l:=a48.stocks) (i:=i5) (by omega)
   refine dE O O h48_3 i5 O a128 ha128 fun b128 p128 cs128 at128 hR128=>?_
   obtain ⟨c128_0,c128_1,c128_2,c128_3,rfl,h128_0,h128_1,h128_2,h128_3⟩:=hR128
   refine lF O ?_
   refine nQ (v:=.c (Cs a128.id)) (off:=0) O (at128.mono (hzl0.trans (hzl1.trans (hzl2.trans (hzl3.trans (hzl4.trans hzl5)))))) O (aU O) O ?_
   refine cX O fun b131=>?_
   refine mV O O mem0 O (fun _=>P2) (by omega) (by omega) fun w132 hw132=>?_
   have cl132:CL 1 RS zl5 _ (l5++[a128.id]):=CL.append hcl5 (CL.one rfl rfl)
   refine R0 3 O ?_
   refine eT ?_
   refine xG ?_
   refine lM O ?_
   refine lB O O (tG (r:=((i5+1:Nat):Int)) (vF (by omega))) ?_
   refine R0 3 O ?_
   exact mK (by omega) ⟨i5+1,_,_,_,_,_,_,[_],rfl,hzl5,(kM rfl (kM rfl (kM rfl (kM rfl (kM rfl Ez))))),rfl,by omega,cl132,by simp;omega,by omega,hw132⟩
  have hp121:=sK iF hc121
  refine dH ?_
  refine nF ?_
  refine eT ?_
  refine R5 6 O ?_
  refine aQ ?_
  refine dX (fun n fs=>∃ (i6:Nat) (w6:C) (cs6:List C) (m6:Nat) (l6:List ByteArray) (e:Lq) (zz:dA) (Hx:List HA),fs=⟨e,zz,Hx++[.blk b6 (.cells 134 [Ci a48.number,c48_0,c48_1,c48_2,c48_3,c48_4]),.row (.c w6) 9 1 m6 cs6,.blk b1 (.cells 101 [Cs x.name,Cs x.parent,cx_0,Cb x.threshold.n,cx_1,Cb x.threshold.d,cx_2,Cb x.cap.n,cx_3,Cb x.cap.d,cx_4,Ci x.back,Ci x.forward,Cb x.interest.n,cx_5,Cb x.interest.d,cx_6,Cb x.floor.n,cx_7,Cb x.floor.d,cx_8,Ci x.keep,cx_9,cx_10,cx_11])]⟩∧zle zl5 zz∧Vx e [(1,Ap b1),(5,Ai (i1:Int)),(6,Ap b6),(3,.c w6),(12,Ai (i6:Int))]∧n=a48.solds.length - i6∧i6≤a48.solds.length∧CL 1 RS zz cs6 l6∧m6=l6.length∧m6≤m5+1 * i6∧pO w6 w6=true) ?_ _ ⟨0,_,_,m5,l5,_,_,[],rfl,zle.refl _,(kM rfl (kM rfl (kM rfl (kM rfl (kM rfl Ez))))),rfl,Nat.zero_le _,hcl5,hlen5,by omega,hw5⟩ (kK (by omega))
  intro n fs hI
  obtain ⟨i6,w6,cs6,m6,l6,e,zl6,Hx,rfl,hzl6,hat,rfl,hi6,hcl6,hlen6,hmb6,hw6⟩:=hI
  refine zQ hat fun e=>?_
  refine uG (List.sublist_append_right _ _) ?_
  refine R4 20 O ?_
  refine mQ (v:=.c (c48_4)) O mem0 (aU O) O ?_
  refine aS O h48_4 ?_
  refine R3 4 O ?_
  refine jB O (fun hc137=>?_) (fun hc137=>?_)
  ·have hp137:=iF.1 hc137
   refine cP ?_
   refine aT (aQ ?_)
   refine xG ?_
   refine R1 5 O ?_
   refine mQ (v:=.c (c48_4)) O mem0 (aU O) O ?_
   refine lM O ?_
   obtain ⟨a144,ha144⟩:=pE (l:=a48.solds) (i:=i6) (by omega)
   refine dE O O h48_4 i6 O a144 ha144 fun b144 p144 cs144 at144 hR144=>?_
   obtain ⟨c144_0,c144_1,rfl,h144_0,h144_1⟩:=hR144
   refine lF O ?_
   refine nQ (v:=.c (Cs a144.id)) (off:=0) O (at144.mono (hzl0.trans (hzl1.trans (hzl2.trans (hzl3.trans (hzl4.trans (hzl5.trans hzl6))))))) O (aU O) O ?_
   refine cX O fun b147=>?_
   refine mV O O mem0 O (fun _=>P2) (by omega) (by omega) fun w148 hw148=>?_
   have cl148:CL 1 RS zl6 _ (l6++[a144.id]):=CL.append hcl6 (CL.one rfl rfl)
   refine R0 3 O ?_
   refine eT ?_
   refine xG ?_
   refine lM O ?_
   refine lB O O (tG (r:=((i6+1:Nat):Int)) (vF (by omega))) ?_
   refine R0 3 O ?_
   exact mK (by omega) ⟨i6+1,_,_,_,_,_,_,[_],rfl,hzl6,(kM rfl (kM rfl (kM rfl (kM rfl (kM rfl Ez))))),rfl,by omega,cl148,by simp;omega,by omega,hw148⟩
  have hp137:=sK iF hc137
  refine dH ?_
  refine nF ?_
  refine eT ?_
  refine xG ?_
  refine lM O ?_
  refine lB O O (tG (r:=((i1+1:Nat):Int)) (vF (by omega))) ?_
  refine R0 3 O ?_
  exact mK (by omega) ⟨i1+1,_,_,_,_,_,_,[_],rfl,hzl1.trans (hzl2.trans (hzl3.trans (hzl4.trans (hzl5.trans hzl6)))),(kM rfl (kM rfl (kM rfl Ez))),rfl,by omega,hcl6,hlen6,by omega,hw6⟩
 have hp42:=sK iF hc42
 refine dH ?_
 refine nF ?_
 refine eT ?_
 refine R5 14 O ?_
 refine Bd (p:=[]) O hcl1 (hlen1.symm) (by omega) fun zfr3 _ hszfr3=>?_
 refine xT ?_
 exact rI O ⟨_,_,rfl,hszfr3⟩
open Go.CE Go.RowKit
theorem Few {k:Nat} (hk:2≤k) {z:dA} {v:AV} {x:oK} (hx:AZ Pm z v x):FC (E k) 91 [v] z fun v _=>∃ b:Bool,v=Ab b∧(b=true→SmF x):=by
 have e0:=0
 obtain ⟨_,rfl,cx_0,cx_1,cx_2,cx_3,cx_4,cx_5,cx_6,cx_7,cx_8,cx_9,cx_10,cx_11,rfl,hx_0,hx_1,hx_2,hx_3,hx_4,hx_5,hx_6,hx_7,hx_8,hx_9,hx_10,hx_11⟩:=hx
 refine eA (bFP) (by omega) (aU O) fun B j hj=>?_
 refine xR ?_
 refine aDN O O fun b1=>?_
 refine R2 17 O ?_
 refine mQ (v:=.c (cx_0)) O mem0 (aU O) O ?_
 refine aS O hx_0 ?_
 refine R1 6 O ?_
 refine Pg 5 9 (fun r=>[(1,Ap b1),(14,Ab r)]) ((20<(x.brackets.length:Int))∨(70<(x.classes.length:Int))) rfl (fun hg=>?_) (fun hg=>?_) (fun e z14 r14 hz14 hr14=>?_)
 ·refine R1 32 O ?_
  exact zT true rfl zI (kM rfl (kM rfl Ez)) (P8 iF hg)
 ·refine lD O ?_
  refine lF O ?_
  refine lD O ?_
  refine mQ (v:=.c (cx_9)) O mem0 (aU O) O ?_
  refine lD O ?_
  refine aS O hx_9 ?_
  refine R1 4 O ?_
  exact zT (decide (70<(x.classes.length:Int))) rfl zI (kM rfl (kM rfl Ez)) (O8 iF hg iF)
 refine lM O ?_
 refine Pg 5 15 (fun r=>[(1,Ap b1),(20,Ab r)]) (((20<(x.brackets.length:Int))∨(70<(x.classes.length:Int)))∨(260<(x.entities.length:Int))) rfl (fun hg=>?_) (fun hg=>?_) (fun e z20 r20 hz20 hr20=>?_)
 ·refine R1 32 O ?_
  exact zT true rfl zI (kM rfl (kM rfl Ez)) (P8 hr14 hg)
 ·refine lD O ?_
  refine lF O ?_
  refine lD O ?_
  refine mQ (v:=.c (cx_10)) O mem0 (aU O) O ?_
  refine lD O ?_
  refine aS O hx_10 ?_
  refine R1 4 O ?_
  exact zT (decide (260<(x.entities.length:Int))) rfl zI (kM rfl (kM rfl Ez)) (O8 hr14 hg iF)
 refine lM O ?_
 refine Pg 5 21 (fun r=>[(1,Ap b1),(26,Ab r)]) ((((20<(x.brackets.length:Int))∨(70<(x.classes.length:Int)))∨(260<(x.entities.length:Int)))∨(45<(x.years.length:Int))) rfl (fun hg=>?_) (fun hg=>?_) (fun e z26 r26 hz26 hr26=>?_)
 ·refine R1 32 O ?_
  exact zT true rfl zI (kM rfl (kM rfl Ez)) (P8 hr20 hg)
 ·refine lD O ?_
  refine lF O ?_
  refine lD O ?_
  refine mQ (v:=.c (cx_11)) O mem0 (aU O) O ?_
  refine lD O ?_
  refine aS O hx_11 ?_
  refine R1 4 O ?_
  exact zT (decide (45<(x.years.length:Int))) rfl zI (kM rfl (kM rfl Ez)) (O8 hr20 hg iF)
 refine lN ?_
 refine Ew ?_
 refine jB O (fun hc26=>?_) (fun hc26=>?_)
 ·have hp26:=hr26.1 hc26
  refine R5 12 O ?_
  refine jX ?_
  exact rI O ⟨false,rfl,fun h=>(by cases h)⟩
 have hp26:=sK hr26 hc26
 simp only [not_or,Classical.not_not] at hp26
 refine R5 24 O ?_
 refine aT (aQ ?_)
 refine dX (fun n fs=>∃ (i0:Nat) (e:Lq) (zz:dA) (Hx:List HA),fs=⟨e,zz,Hx++[.blk b1 (.cells 101 [Cs x.name,Cs x.parent,cx_0,Cb x.threshold.n,cx_1,Cb x.threshold.d,cx_2,Cb x.cap.n,cx_3,Cb x.cap.d,cx_4,Ci x.back,Ci x.forward,Cb x.interest.n,cx_5,Cb x.interest.d,cx_6,Cb x.floor.n,cx_7,Cb x.floor.d,cx_8,Ci x.keep,cx_9,cx_10,cx_11])]⟩∧zle z26 zz∧Vx e [(1,Ap b1),(3,Ai (i0:Int))]∧n=x.years.length - i0∧i0≤x.years.length∧(∀ a,a∈x.years.take i0→LnY a)) ?_ _ ⟨0,_,_,[],rfl,zle.refl _,(kM rfl (kM rfl Ez)),rfl,Nat.zero_le _,fun a ha=>by simp at ha⟩ (kK (by omega))
 intro n fs hI
 obtain ⟨i0,e,zl0,Hx,rfl,hzl0,hat,rfl,hi0,hm0⟩:=hI
 refine zQ hat fun e=>?_
 refine uG (List.sublist_append_right _ _) ?_
 refine R4 20 O ?_
 refine mQ (v:=.c (cx_11)) O mem0 (aU O) O ?_
 refine aS O hx_11 ?_
 refine R3 4 O ?_
 refine jB O (fun hc31=>?_) (fun hc31=>?_)
 ·have hp31:=iF.1 hc31
  refine cP ?_
  refine aT (aQ ?_)
  refine R4 4 O ?_
  refine mQ (v:=.c (cx_11)) O mem0 (aU O) O ?_
  refine lM O ?_
  obtain ⟨a37,ha37⟩:=pE (l:=x.years) (i:=i0) (by omega)
  refine dE O O hx_11 i0 O a37 ha37 fun b37 p37 cs37 at37 hR37=>?_
  obtain ⟨c37_0,c37_1,c37_2,c37_3,c37_4,rfl,h37_0,h37_1,h37_2,h37_3,h37_4⟩:=hR37
  refine nQ (v:=.agg [Ci a37.number,c37_0,c37_1,c37_2,c37_3,c37_4]) (off:=0) O (at37.mono (hz14.trans (hz20.trans (hz26.trans hzl0)))) O (aU O) O ?_
  refine kC fun b4=>?_
  refine vB (cs':=[Ci a37.number,c37_0,c37_1,c37_2,c37_3,c37_4]) O O O iW (by kernel_rfl) O (aU O) ?_
  refine lN ?_
  refine R4 4 O ?_
  refine mQ (v:=.c (c37_0)) O mem0 (aU O) O ?_
  refine aS O h37_0 ?_
  refine R1 6 O ?_
  refine Pg 5 43 (fun r=>[(1,Ap b1),(3,Ai (i0:Int)),(4,Ap b4),(48,Ab r)]) ((40<(a37.holds.length:Int))∨(40<(a37.books.length:Int))) rfl (fun hg=>?_) (fun hg=>?_) (fun e z48 r48 _ hr48=>?_)
  ·refine R1 32 O ?_
   exact zT true rfl zI (kM rfl (kM rfl (kM rfl (kM rfl Ez)))) (P8 iF hg)
  ·refine lD O ?_
   refine lF O ?_
   refine lD O ?_
   refine mQ (v:=.c (c37_1)) O mem0 (aU O) O ?_
   refine lD O ?_
   refine aS O h37_1 ?_
   refine R1 4 O ?_
   exact zT (decide (40<(a37.books.length:Int))) rfl zI (kM rfl (kM rfl (kM rfl (kM rfl Ez)))) (O8 iF hg iF)
  refine lM O ?_
  refine Pg 5 49 (fun r=>[(1,Ap b1),(3,Ai (i0:Int)),(4,Ap b4),(54,Ab r)]) (((40<(a37.holds.length:Int))∨(40<(a37.books.length:Int)))∨(40<(a37.deals.length:Int))) rfl (fun hg=>?_) (fun hg=>?_) (fun e z54 r54 _ hr54=>?_)
  ·refine R1 32 O ?_
   exact zT true rfl zI (kM rfl (kM rfl (kM rfl (kM rfl Ez)))) (P8 hr48 hg)
  ·refine lD O ?_
   refine lF O ?_
   refine lD O ?_
   refine mQ (v:=.c (c37_2)) O mem0 (aU O) O ?_
   refine lD O ?_
   refine aS O h37_2 ?_
   refine R1 4 O ?_
   exact zT (decide (40<(a37.deals.length:Int))) rfl zI (kM rfl (kM rfl (kM rfl (kM rfl Ez)))) (O8 hr48 hg iF)
  refine lM O ?_
  refine Pg 5 55 (fun r=>[(1,Ap b1),(3,Ai (i0:Int)),(4,Ap b4),(60,Ab r)]) ((((40<(a37.holds.length:Int))∨(40<(a37.books.length:Int)))∨(40<(a37.deals.length:Int)))∨(40<(a37.stocks.length:Int))) rfl (fun hg=>?_) (fun hg=>?_) (fun e z60 r60 _ hr60=>?_)
  ·refine R1 32 O ?_
   exact zT true rfl zI (kM rfl (kM rfl (kM rfl (kM rfl Ez)))) (P8 hr54 hg)
  ·refine lD O ?_
   refine lF O ?_
   refine lD O ?_
   refine mQ (v:=.c (c37_3)) O mem0 (aU O) O ?_
   refine lD O ?_
   refine aS O h37_3 ?_
   refine R1 4 O ?_
   exact zT (decide (40<(a37.stocks.length:Int))) rfl zI (kM rfl (kM rfl (kM rfl (kM rfl Ez)))) (O8 hr54 hg iF)
  refine lM O ?_
  refine Pg 5 61 (fun r=>[(1,Ap b1),(3,Ai (i0:Int)),(66,Ab r)]) (((((40<(a37.holds.length:Int))∨(40<(a37.books.length:Int)))∨(40<(a37.deals.length:Int)))∨(40<(a37.stocks.length:Int)))∨(40<(a37.solds.length:Int))) rfl (fun hg=>?_) (fun hg=>?_) (fun e z66 r66 _ hr66=>?_)
  ·refine R1 32 O ?_
   exact zT true rfl zI (kM rfl (kM rfl (kM rfl Ez))) (P8 hr60 hg)
  ·refine lD O ?_
   refine lF O ?_
   refine lD O ?_
   refine mQ (v:=.c (c37_4)) O mem0 (aU O) O ?_
   refine lD O ?_
   refine aS O h37_4 ?_
   refine R1 4 O ?_
   exact zT (decide (40<(a37.solds.length:Int))) rfl zI (kM rfl (kM rfl (kM rfl Ez))) (O8 hr60 hg iF)
  refine lN ?_
  refine jB O (fun hc66=>?_) (fun hc66=>?_)
  ·have hp66:=hr66.1 hc66
   refine R5 6 O ?_
   refine xT ?_
   refine nS ?_
   refine L9 ?_
   refine nS ?_
   exact rI O ⟨false,rfl,fun h=>(by cases h)⟩
  have hp66:=sK hr66 hc66
  simp only [not_or,Classical.not_not] at hp66
  refine oC ?_
  refine eT ?_
  refine xG ?_
  refine lM O ?_
  refine lB O O (tG (r:=((i0+1:Nat):Int)) (vF (by omega))) ?_
  refine R0 3 O ?_
  exact mK (by omega) ⟨i0+1,_,_,[_],rfl,hzl0.trans zI,(kM rfl (kM rfl Ez)),rfl,by omega,Gp ha37 hm0 ⟨by omega,by omega,by omega,by omega,by omega⟩⟩
 have hp31:=sK iF hc31
 refine dH ?_
 refine nF ?_
 refine eT ?_
 refine xR ?_
 have hL:LnF x:=⟨by omega,by omega,by omega,by omega,fun a ha=>hm0 a (by rw [uD (by omega)];exact ha)⟩
 refine mQ (v:=.agg [Cs x.name,Cs x.parent,cx_0,Cb x.threshold.n,cx_1,Cb x.threshold.d,cx_2,Cb x.cap.n,cx_3,Cb x.cap.d,cx_4,Ci x.back,Ci x.forward,Cb x.interest.n,cx_5,Cb x.interest.d,cx_6,Cb x.floor.n,cx_7,Cb x.floor.d,cx_8,Ci x.keep,cx_9,cx_10,cx_11]) O mem0 (aU O) O ?_
 refine aF7 O (bVG (by omega) ⟨_,O,V2 (hx_0.mono (hz14.trans (hz20.trans (hz26.trans hzl0)))) (hx_1.mono (hz14.trans (hz20.trans (hz26.trans hzl0)))) (hx_2.mono (hz14.trans (hz20.trans (hz26.trans hzl0)))) (hx_3.mono (hz14.trans (hz20.trans (hz26.trans hzl0)))) (hx_4.mono (hz14.trans (hz20.trans (hz26.trans hzl0)))) (hx_5.mono (hz14.trans (hz20.trans (hz26.trans hzl0)))) (hx_6.mono (hz14.trans (hz20.trans (hz26.trans hzl0)))) (hx_7.mono (hz14.trans (hz20.trans (hz26.trans hzl0)))) (hx_8.mono (hz14.trans (hz20.trans (hz26.trans hzl0)))) (hx_9.mono (hz14.trans (hz20.trans (hz26.trans hzl0)))) (hx_10.mono (hz14.trans (hz20.trans (hz26.trans hzl0)))) (hx_11.mono (hz14.trans (hz20.trans (hz26.trans hzl0))))⟩ hL) fun v68 z68 _ ⟨c68,l68,hv68,hc68,hin68⟩=>?_
 subst hv68
 refine aF7 O (few (by omega) hc68) fun v69 z69 _ ⟨r69,hv69,hf69⟩=>?_
 subst hv69
 refine lM O ?_
 refine nC 70 O (fun hg70=>?_) (fun hg70=>?_)
 ·have hp70:=Iff.rfl.1 hg70
  refine lD O ?_
  refine mQ (v:=.agg [Cs x.name,Cs x.parent,cx_0,Cb x.threshold.n,cx_1,Cb x.threshold.d,cx_2,Cb x.cap.n,cx_3,Cb x.cap.d,cx_4,Ci x.back,Ci x.forward,Cb x.interest.n,cx_5,Cb x.interest.d,cx_6,Cb x.floor.n,cx_7,Cb x.floor.d,cx_8,Ci x.keep,cx_9,cx_10,cx_11]) O mem0 (aU O) O ?_
  refine lD O ?_
  refine aF7 O (bTO (by omega) ⟨_,O,V2 (hx_0.mono (hz14.trans (hz20.trans (hz26.trans (hzl0.trans zI))))) (hx_1.mono (hz14.trans (hz20.trans (hz26.trans (hzl0.trans zI))))) (hx_2.mono (hz14.trans (hz20.trans (hz26.trans (hzl0.trans zI))))) (hx_3.mono (hz14.trans (hz20.trans (hz26.trans (hzl0.trans zI))))) (hx_4.mono (hz14.trans (hz20.trans (hz26.trans (hzl0.trans zI))))) (hx_5.mono (hz14.trans (hz20.trans (hz26.trans (hzl0.trans zI))))) (hx_6.mono (hz14.trans (hz20.trans (hz26.trans (hzl0.trans zI))))) (hx_7.mono (hz14.trans (hz20.trans (hz26.trans (hzl0.trans zI))))) (hx_8.mono (hz14.trans (hz20.trans (hz26.trans (hzl0.trans zI))))) (hx_9.mono (hz14.trans (hz20.trans (hz26.trans (hzl0.trans zI))))) (hx_10.mono (hz14.trans (hz20.trans (hz26.trans (hzl0.trans zI))))) (hx_11.mono (hz14.trans (hz20.trans (hz26.trans (hzl0.trans zI)))))⟩ hL) fun v72 z72 _ ⟨c72,l72,hv72,hc72⟩=>?_
  subst hv72
  refine lD O ?_
  refine aF7 O (bSJ (by omega) hc72) fun v73 z73 _ ⟨r73,hv73⟩=>?_
  subst hv73
  refine R0 6 O ?_
  refine xT ?_
  exact rI O ⟨_,rfl,fun h=>SmF.of hL hin68 (hf69 hp70)⟩
 have hp70:=sK Iff.rfl hg70
 refine R0 48 O ?_
 refine xT ?_
 exact rI O ⟨false,rfl,fun h=>(by cases h)⟩
open Go.CE Go.RowKit Go.Num
open Go.Eng (kN)
theorem bGH {p q:Rat}:(p - q).num.sign=0↔p=q:=by
 rw [Int.sign_eq_zero_iff_zero,Rat.num_eq_zero]
 exact ⟨fun h=>by rw [← Rat.sub_add_cancel (a:=p) (b:=q),h,Rat.zero_add],fun h=>by rw [h];exact Rat.sub_self⟩
theorem aWj {k:Nat} (hk:12≤k) {z:dA} {n1 n2:Bool} {c1 c2:C} {l1 l2:List UInt32} (hx:CZ 1 RW z c1 l1) (hy:CZ 1 RW z c2 l2) (h1:l1.length≤19000000) (h2:l2.length≤19000000) {n3 n4:Bool} {c3 c4:C} {l3 l4:List UInt32} (hu:CZ 1 RW z c3 l3) (hw:CZ 1 RW z c4 l4) (h3:l3.length≤19000000) (h4:l4.length≤19000000):FC (E k) 112 [.agg [Cb n1,c1,Cb n2,c2],.agg [Cb n3,c3,Cb n4,c4]] z fun v _=>v=Ab (decide ((valR ((n1,l1),(n2,l2)))=(valR ((n3,l3),(n4,l4))))):=by
 refine eA (bCs) (by omega) (aU O) fun B j hj=>?_
 refine xR ?_
 refine iU O fun b2=>?_
 refine iU O fun b3=>?_
 refine R2 4 O ?_
 refine sL O Y1 O ?_
 refine sL O mem0 O ?_
 refine lE z (aYR (by omega) hx hy h1 h2 hu hw h3 h4) O O fun z7 _=>?_
 refine R0 4 O ?_
 refine xT ?_
 exact rI O (cQ (decide_eq_decide.2 bGH))
end Go.Proofs.YtlceligcgelbdaaGreat

/- Both sides of the deals brought together, walked; what is so of pairs. -/
import Derived.WalkKit
import Derived.Orders
import Derived.Test.YtlceligcgelbdaaGreatMD4
import Derived.Test.YtlceligcgelbdaaGreatMF2
set_option linter.unusedVariables false
set_option linter.unusedSimpArgs false
set_option maxRecDepth 100000
set_option maxHeartbeats 1000000
namespace Go.Proofs.YtlceligcgelbdaaGreat
open Go.CE Go.RowKit Go.Num
open Go.Eng (mR)
theorem N3 {call:iJ} {B:rR} {an:List Nat} {j:Nat} {l:List CE.D} {fs:Sf} {T:fR} {tag last:Nat} {pj lj:List Nat} {Q:Sf→Prop} {i:I} {d size:Nat} {x:Go.Eng.Od} {af:List Nat} {b ty:Nat} {cs:List C} (hi:i.o=.load true size x) (hd:i.d=some d) (hg:GK fs i) (hx:fs.ev x=Ap b) (hT:T b (.cells ty cs)) (h:cs.length=size) (hs:Hy (.agg cs) (.agg cs)=true) (hw:FG call B an (j+1) l (fs.put d (.agg cs)) T tag last pj (j::lj) Q):FG call B an j (⟨i,af⟩::l) fs T tag last pj lj Q:=
 aC4 (v:=.agg cs) hi hd hg hx hT rfl (by omega) (by rw [List.drop_zero,List.take_of_length_le (by omega)];rfl) hs hw
theorem bTg (a b:Bool):Go.Eng.binBV .eql (.bool a) (.bool b)=some (.bool (a == b)):=by cases a<;>cases b<;>rfl
theorem bHV {call:iJ} {B:rR} {fs:Sf} {l:List I} {Q:Sf→Prop} {d:Nat} {x y:Go.Eng.Od} {a1 a2 b1 b2 c1 c2:ByteArray} {k1 k2:Int} (hx:fs.ev x=.agg [Cs a1,Cu k1,Cs b1,Cs c1]) (hy:fs.ev y=.agg [Cs a2,Cu k2,Cs b2,Cs c2])
    (hw:FL call B l (fs.put d (Ab (!decide (a1=a2∧k1=k2∧b1=b2∧c1=c2)))) Q):FL call B (⟨some d,none,.binA true [.s,.i,.s,.s] x y⟩::l) fs Q:=
  aFW (fun _ => rfl) (fun st rf => by
    have hb:∀ a b:ByteArray,J1 a.data.toList b.data.toList=decide (a=b):=fun a b=>by
      rw [Bd]
      by_cases h:a=b
      · subst h;simp
      · rw [decide_eq_false h]
        exact beq_eq_false_iff_ne.2 fun e=>h (aW3.1 e)
    have h:eqA [.s,.i,.s,.s] [Cs a1,Cu k1,Cs b1,Cs c1] [Cs a2,Cu k2,Cs b2,Cs c2]=some (decide (a1=a2∧k1=k2∧b1=b2∧c1=c2)):=by
      simp only [eqA,hb]
      by_cases h1:a1=a2<;>by_cases h2:k1=k2<;>by_cases h3:b1=b2<;>by_cases h4:c1=c2<;>simp [h1,h2,h3,h4]
    simp only [dK,rf.ev,hx,hy,h]
    cases decide (a1=a2∧k1=k2∧b1=b2∧c1=c2)<;>rfl) hw
theorem bEA {F F1 F2:List Fe} {x:Fe} {dl:List mG} {i:Nat} {d:mG} {u':AV} (hI:∀ s:ByteArray,Nn F (tx s)=B0 s (dl.take i)) (ha:dl[i]? = some d) (h3:x.ix=Nn F (tx d.id)) (h4:F1++x::F2=F∨(F1++x::F2=F++[x]∧x.u=qY∧x.ix=[])) (h5:∀ y,y∈F1→y.k≠tx d.id) (h1:x.k=tx d.id) :
  ∀ s:ByteArray,Nn (F1++⟨tx d.id,u',x.n,x.ix++[i]⟩::F2) (tx s)=B0 s (dl.take (i+1)):=fun s=>by
 rw [bJE h4 h5 h1,aV8 ha]
 by_cases hs:s=d.id
 ·subst hs;rw [if_pos rfl,if_pos rfl,h3,hI]
 rw [if_neg fun e=>hs (aW3.1 e),if_neg hs,hI]
theorem bOT {F F1 F2:List Fe} {x:Fe} {i:Nat} {k:List UInt8} {u':AV} (h:∀ w,w∈F→w.ix.length≤40) (hx:x.ix.length<40) (h4:F1++x::F2=F∨(F1++x::F2=F++[x]∧x.u=qY∧x.ix=[])):∀ w,w∈F1++(⟨k,u',x.n,x.ix++[i]⟩:Fe)::F2→w.ix.length≤40:=fun w hw=>by
 have hk:∀ w,w∈F1++x::F2→w.ix.length≤40:=fun w hw=>by
  rcases h4 with h4 | ⟨h4,_⟩
  ·rw [h4] at hw;exact h w hw
  rw [h4] at hw
  rcases List.mem_append.1 hw with hw | hw
  ·exact h w hw
  rw [List.mem_singleton.1 hw];omega
 rcases List.mem_append.1 hw with hw | hw
 ·exact hk w (List.mem_append.2 (.inl hw))
 rcases List.mem_cons.1 hw with rfl | hw
 ·rw [List.length_append,List.length_singleton];omega
 exact hk w (List.mem_append.2 (.inr (List.mem_cons_of_mem _ hw)))
def aL7 (z:fR) (L:List PQ):Prop:=∀ t,t∈L→QOk z t
theorem aL7.mono {z z':fR} {L:List PQ} (h:aL7 z L) (hz:zle z z'):aL7 z' L:=fun t ht=>(h t ht).mono hz
theorem aL7.m {z z':fR} {L:List PQ} (h:aL7 z L) [q:Zl z z']:aL7 z' L:=h.mono q.h
theorem bJa {z:fR} {L:List PQ} {t:PQ} (h:aL7 z L) (g:QOk z t):aL7 z (L++[t]):=fun a ha=>by
 rcases List.mem_append.1 ha with ha | ha
 ·exact h a ha
 rw [List.mem_singleton.1 ha];exact g
theorem bKi {call:iJ} {B:rR} {fs:Sf} {l:List I} {Q:Sf→Prop} {nl:List ByteArray} {cl:List rS} {L:List PQ} {t:PQ} {u:AV} {p q:List HA} (e:fs.H=p++.row u 116 10 (L.length+1) (aE6 nl cl L++J6 nl cl t)::q) (hw:FL call B l (fs.heap (p++.row u 116 10 (L++[t]).length (aE6 nl cl (L++[t]))::q)) Q):FL call B l fs Q:=by
 have e1:aE6 nl cl (L++[t])=aE6 nl cl L++J6 nl cl t:=by
  rw [aE6,List.flatMap_append];simp [aE6]
 rw [e1,List.length_append,List.length_singleton] at hw
 have e2:fs.heap (p++.row u 116 10 (L.length+1) (aE6 nl cl L++J6 nl cl t)::q)=fs:=by cases fs;simp only [Sf.heap] at e ⊢;rw [e]
 rw [e2] at hw
 exact hw
theorem bNj {a b:mG} (h:¬ (a.id=b.id∧a.kind=b.kind∧a.payee=b.payee∧a.payer=b.payer)):Hj a b=true:=by rw [Hj,decide_eq_false h];rfl
theorem bOu {a b:mG} (h:(a.give == b.give)=true):Hj a b=true:=by rw [Hj,h,Bool.or_true];rfl
theorem bNP {a b:mG} (h:(!decide (On a=On b))=true):Hj a b=true:=by rw [Hj,h,Bool.or_true]
theorem bGx {a b:mG} (h:a.id=b.id∧a.kind=b.kind∧a.payee=b.payee∧a.payer=b.payer) (g:(a.give == b.give)=false) (k:(!decide (On a=On b))=false):Hj a b=false:=by rw [Hj,decide_eq_true h,g,k];rfl
theorem aBL {P:Nat→Prop} {i:Nat} (h:∀ q,q<i→P q) (g:P i):∀ q,q<i+1→P q:=fun q hq=>by
  rcases Nat.lt_or_ge q i with h1 | h1
  · exact h q h1
  · have : q = i := by omega
    subst this;exact g
def bDL (nl:List ByteArray) (cl:List rS) (dl:List mG) (z:fR) (v:AV):Prop:=
 (∃ i,i<dl.length∧aAu nl cl dl i=true∧(∀ q,q<i→aAu nl cl dl q=false)∧v=.tup [qY,Bt (i:Nat),Bt 200]) ∨
 ((∀ i,i<dl.length→aAu nl cl dl i=false)∧∃ c,v=.tup [.c c,Bt 0,Bt 0]∧CZ 10 (aSw nl cl) z c (aD8 (Ls dl dl.length)))
theorem aSS {k:Nat} (hk:12≤k) {z:fR} {x:uV} {c0 c1 c2 c3 c4 c5 c6 c7 c8 c9 c10 c11:C} (g0:CZ 8 vF z c0 x.brackets) (g1:CZ 1 RW z c1 x.threshold.nm) (g2:CZ 1 RW z c2 x.threshold.dm) (g3:CZ 1 RW z c3 x.cap.nm) (g4:CZ 1 RW z c4 x.cap.dm) (g5:CZ 1 RW z c5 x.interest.nm) (g6:CZ 1 RW z c6 x.interest.dm) (g7:CZ 1 RW z c7 x.floor.nm) (g8:CZ 1 RW z c8 x.floor.dm) (g9:CZ 6 yM z c9 x.classes) (g10:CZ 1 RS z c10 x.entities) (g11:CZ 6 Ib z c11 x.years) {yr:Int} (hS:SmF x) (hy1 : -9223372036854775808≤yr) (hy2:yr<9223372036854775808):FC (E k) 45 [.agg [Cs x.name,Cs x.parent,c0,Cb x.threshold.n,c1,Cb x.threshold.d,c2,Cb x.cap.n,c3,Cb x.cap.d,c4,Ci x.back,Ci x.forward,Cb x.interest.n,c5,Cb x.interest.d,c6,Cb x.floor.n,c7,Cb x.floor.d,c8,Ci x.keep,c9,c10,c11],Ai yr] z fun v z'=>(¬ (0≤yr∧yr<(x.years.length:Int))∧v=.tup [qY,Bt 0,Bt 2])∨∃ yy,x.years[yr.toNat]? = some yy∧(0≤yr∧yr<(x.years.length:Int))∧bDL (pE x.entities) x.classes yy.deals (zd z z') v:=by
 refine iI (bGH) (by omega) (dN O) fun B j hj=>?_
 refine xR ?_
 refine kN O fun b2=>?_
 refine R2 256 O ?_
 refine iO 19 O (fun hg19=>?_) (fun hg19=>?_)
 ·refine R3 8192 O ?_
  refine mC ?_
  refine rQ (.inl O) (rt O (rt O (rt O rn))) ?_
  exact .inl ⟨by omega,rfl⟩
 refine R1 4 O ?_
 refine lD O ?_
 refine dH O mem0 O ?_
 refine lD O ?_
 refine cX O g11 ?_
 refine R3 8 O ?_
 refine xD O (fun hc25=>?_) (fun hc25=>?_)
 ·refine R5 32 O ?_
  refine mC ?_
  refine rQ (.inl O) (rt O (rt O (rt O rn))) ?_
  exact .inl ⟨by omega,rfl⟩
 refine dX ?_
 refine jF ?_
 refine N3 (i:=⟨_,_,.load _ _ _⟩) O O trivial O (.inr mem0) O sR ?_
 have hb27:x.entities.length≤1000:=by have:=hS.l2;omega
 refine gC z (aS2 (by omega) g0 g1 g2 g3 g4 g5 g6 g7 g8 g9 g10 g11 hb27) O O O O fun v27 z27 hz27 ⟨c27,hv27,hm27⟩=>?_
 subst hv27
 refine G1 2 O ?_
 refine wM O O Ht O ?_
 refine gP O O trivial ?_
 refine pR (cs:=[_,_]) O (lN ?_)
 refine gA O O (fun b7 hT7=>?_)
 refine gS O O O ?_
 refine jI O O lR ?_
 refine lN ?_
 refine nQ ?_
 refine R4 4 O ?_
 refine dH O Y1 O ?_
 refine lC O ?_
 obtain ⟨yy,hyy⟩:=vB (l:=x.years) (i:=yr.toNat) (by omega)
 have hSy:=hS.y yy (List.mem_of_getElem? hyy)
 have hdl:=hSy.l2
 refine eA O O g11 yr.toNat (by omega) yy hyy fun b34 p34 cs at34 hR=>?_
 obtain ⟨y0,y1,y2,y3,y4,hcs,q0,q1,q2,q3,q4⟩:=hR
 subst hcs
 refine lF O ?_
 refine tG (off:=3) (v:=.c y2) O at34.m O (by simp) O ?_
 refine R2 4 O ?_
 refine aJb fun b37=>?_
 refine bEE ?_
 refine R2 17 O ?_
 refine cX O q2 ?_
 refine R0 2 O ?_
 refine dE (bQ ?_)
 refine eT (fun n fs=>∃ (i:Nat) (F:List Fe) (ck:Nat),LI z27 [aT6 3 F,bWY b37 F ck,.blk b7 (.cells 228 [c27,c9]),.blk b2 (.cells 101 [Cs x.name,Cs x.parent,c0,Cb x.threshold.n,c1,Cb x.threshold.d,c2,Cb x.cap.n,c3,Cb x.cap.d,c4,Ci x.back,Ci x.forward,Cb x.interest.n,c5,Cb x.interest.d,c6,Cb x.floor.n,c7,Cb x.floor.d,c8,Ci x.keep,c9,c10,c11])] [(4,qY),(7,Ap b7),(8,.c y2),(9,.c (.mp b37)),(38,.c y2),(39,Az yy.deals.length),(40,Az i)] fs∧n=yy.deals.length - i∧(i≤yy.deals.length)∧(∀ s:ByteArray,Nn F (tx s)=B0 s (yy.deals.take i))∧(∀ w,w∈F→w.ix.length≤40)) ?_ _ ⟨0,[],0,LI.m [] O,rfl,Nat.zero_le _,fun s=>rfl,fun w hw=>absurd hw List.not_mem_nil⟩ (kK (by omega))
 intro n fs ⟨i,F,ck,hL0,hmz0,hi,hI,hFl⟩
 refine hL0.open fun e zl0 hzl0=>?_
 refine R5 8 O ?_
 refine xD O (fun hc41=>?_) (fun hc41=>?_)
 ·refine dX ?_
  refine dE (bQ ?_)
  refine R4 4 O ?_
  obtain ⟨d1,hd1⟩:=vB (l:=yy.deals) (i:=i) (by omega)
  refine eA O O q2 i O d1 hd1 fun b43 p43 cs at43 hR=>?_
  obtain ⟨r0c,r1c,hcs,r0,r1⟩:=hR
  subst hcs
  refine tG (off:=0) O at43.m O (by simp) O ?_
  refine uF fun b11=>?_
  refine lC O ?_
  refine Aa O O O O lR ?_
  obtain ⟨F1,w1,F2,ck1,hw1,hw2,hw3,hw4,hw5,hw6⟩:=bWq d1.id ck F
  obtain ⟨r51,hf51,hv51⟩:=bMo d1.id F
  have hwl:w1.ix.length≤i:=by
   rw [hw3,hI]
   exact Nat.le_trans (bLN _ _) (by rw [List.length_take];omega)
  refine bNI (p:=[_]) O hw4 ?_
  refine lN ?_
  refine Ak ?_
  refine G1 4 O ?_
  refine wM O O Ht O ?_
  refine G1 4 O ?_
  refine wM O O Ht O ?_
  refine bIP (i:=⟨_,_,.look _ _ _ _ _ _⟩) O O trivial O O O O Y2 hf51 hv51 ?_
  refine G1 2 O ?_
  refine xM (k:=.cells 3 [Ci (i:Nat)]) (w:=fun b=>Aw b 1) rfl trivial rfl (fun _=>rfl) (fun st hst=>?_) (fun b53 hT53=>?_)
  ·simp only [eP,yB,AS.ev,hst 52 (by simp [mK.sl,Od.sls,Od.sl])];rfl
  refine bK1 (i:=⟨_,_,.app _ _ _ _ _ _⟩) (u:=w1.u) (ty:=3) (ty':=3) (size:=1) (n:=w1.ix.length) (m:=0) (p:=F1.map (Fe.row 3)) (q:=F2.map (Fe.row 3)) (cs:=cE eN w1.ix) O O trivial O O (fun _ _ h=>h.imp (fun h=>h) mX) hw2.symm rfl mem0 (fun _=>oH P1) rfl (by omega) (by omega) fun c54 hc54=>?_
  refine bK2 (i:=⟨_,_,.mupd _ _ _ _⟩) O O trivial O O O O O O (hw6 _ (w1.ix++[i])) P3 ?_
  refine nQ ?_
  refine iE ?_
  refine xG ?_
  refine bJZ (p:=[_,_]) (F1:=F1) (F2:=F2) (k:=tx d1.id) (n:=w1.n) (ix:=w1.ix) (i:=i) O O ?_
  refine lB O O (iW (n:=i+1) (by omega) (by omega)) ?_
  refine R0 2 O ?_
  exact nN (by omega) ⟨i+1,_,_,LI.m [_,_] O,rfl,by omega,bEA hI hd1 hw3 hw4 hw5 hw1,bOT hFl (by omega) hw4⟩
 refine eE ?_
 refine oC ?_
 refine iE ?_
 refine R4 4 O ?_
 refine bKF (p:=[]) zl0 O O (fun w hw=>Nat.le_trans (hFl w hw) (by decide)) fun zF hzF hsF=>?_
 refine Ju zF (p:=[]) O O O (fun _ h=>h) fun zffm hzffm fm=>?_
 refine uE 116 10 ?_
 have hI2:∀ s:ByteArray,Nn F (tx s)=B0 s yy.deals:=fun s=>by rw [hI,List.take_of_length_le (by omega)]
 refine lC O ?_
 refine cX O q2 ?_
 refine R0 2 O ?_
 refine dE (bQ ?_)
 refine eT (fun n fs=>∃ (i1:Nat) (L:List PQ) (u4:AV) (zz:fR),LZ zffm zz [.row u4 116 10 L.length (aE6 (pE x.entities) x.classes L),.blk b7 (.cells 228 [c27,c9]),.blk b2 (.cells 101 [Cs x.name,Cs x.parent,c0,Cb x.threshold.n,c1,Cb x.threshold.d,c2,Cb x.cap.n,c3,Cb x.cap.d,c4,Ci x.back,Ci x.forward,Cb x.interest.n,c5,Cb x.interest.d,c6,Cb x.floor.n,c7,Cb x.floor.d,c8,Ci x.keep,c9,c10,c11])] [(4,u4),(7,Ap b7),(8,.c y2),(9,.c (.mp b37)),(56,.c y2),(57,Az yy.deals.length),(58,Az i1)] fs∧n=yy.deals.length - i1∧(i1≤yy.deals.length)∧(∀ q,q<i1→aAu (pE x.entities) x.classes yy.deals q=false)∧(L.map (·.1)=Ls yy.deals i1)∧(aL7 (zd z zz) L)∧(L.length≤i1)) ?_ _ ⟨0,[],qY,_,LZ.m [] O,rfl,Nat.zero_le _,fun q hq=>absurd hq (Nat.not_lt_zero _),rfl,fun t ht=>absurd ht List.not_mem_nil,Nat.le_refl _⟩ (kK (by omega))
 intro n fs ⟨i1,L,u4,zz,hL1,hmz1,hi1,hnb,hLp,hLq,hLl⟩
 refine hL1.open fun e hzz=>?_
 refine R5 8 O ?_
 refine xD O (fun hc59=>?_) (fun hc59=>?_)
 ·refine dX ?_
  refine dE (bQ ?_)
  refine R4 4 O ?_
  obtain ⟨d2,hd2⟩:=vB (l:=yy.deals) (i:=i1) (by omega)
  have hsm:=hSy.r2 d2 (List.mem_of_getElem? hd2)
  refine eA O O q2 i1 O d2 hd2 fun b61 p61 cs at61 hR=>?_
  obtain ⟨u0c,u1c,hcs,u0,u1⟩:=hR
  subst hcs
  refine tG (off:=0) O at61.m O (by simp) O ?_
  refine uF fun b13=>?_
  refine lC O ?_
  refine Aa O O O O lR ?_
  refine lN ?_
  refine R4 8 O ?_
  refine dH O mem0 O ?_
  obtain ⟨r66,hf66,hv66⟩:=bMo d2.id F
  refine bHO O O (zI _ _ fm) hf66 hv66 ?_
  have hu66:aWl F zz:=hsF.m
  replace hu66:=hu66 (tx d2.id)
  rw [hI2] at hu66
  refine R2 9 O ?_
  refine jN O Y2 O ?_
  refine J3 O mem0 O ?_
  refine lE zz (aDJ (by omega) hm27.m g9.m u0.m u1.m hsm) O O fun z69 hz69=>?_
  refine R1 4 O ?_
  refine nV 71 O (fun hg71=>?_) (fun hg71=>?_)
  ·refine R3 4096 O ?_
   refine mC ?_
   refine oD ?_
   refine Ou ?_
   refine oD ?_
   refine rQ (.inl O) (rt O (rt O (rt O rn))) ?_
   exact .inr ⟨yy,hyy,by omega,.inl ⟨i1,by omega,bMq hd2 (by simpa using hg71),hnb,rfl⟩⟩
  refine lD O ?_
  refine lM O ?_
  refine lD O ?_
  refine cX O hu66 ?_
  refine R3 8 O ?_
  refine Ae O (fun hc75=>?_) (fun hc75=>?_)
  ·refine R5 64 O ?_
   refine mC ?_
   refine oD ?_
   refine Ou ?_
   refine oD ?_
   refine rQ (.inl O) (rt O (rt O (rt O rn))) ?_
   exact .inr ⟨yy,hyy,by omega,.inl ⟨i1,by omega,bD2 hd2 (by omega),hnb,rfl⟩⟩
  refine dX ?_
  refine jF ?_
  obtain ⟨p1,p2,hpp⟩:=aT9 (l:=B0 d2.id yy.deals) (by omega)
  obtain ⟨hlt,⟨a1,ha1,hia1⟩,a2,ha2,hia2⟩:=aDE hpp
  have hl1:=(List.getElem?_eq_some_iff.1 ha1).1
  have hl2:=(List.getElem?_eq_some_iff.1 ha2).1
  rw [hpp] at hu66
  refine G1 6 O ?_
  refine gP O O trivial ?_
  refine K9 (zz:=z69) O O hu66.m (0) (O) (by simp) fun p79 hp79=>lN ?_
  refine glP O O hp79 ti ?_
  refine gP O O trivial ?_
  refine eA O O q2 p1 O a1 ha1 fun b81 p81 cs at81 hR=>lN ?_
  obtain ⟨v0c,v1c,hcs,v0,v1⟩:=hR
  subst hcs
  refine mU (i:=⟨_,_,.load _ _ _⟩) (off:=0) O O trivial O at81 ti O (by simp) O sR ?_
  refine G1 6 O ?_
  refine gP O O trivial ?_
  refine K9 (zz:=z69) O O hu66.m (1) (O) (by simp) fun p85 hp85=>lN ?_
  refine glP O O hp85 ti ?_
  refine gP O O trivial ?_
  refine eA O O q2 p2 O a2 ha2 fun b87 p87 cs at87 hR=>lN ?_
  obtain ⟨x0c,x1c,hcs,x0,x1⟩:=hR
  subst hcs
  refine mU (i:=⟨_,_,.load _ _ _⟩) (off:=0) O O trivial O at87 ti O (by simp) O sR ?_
  refine gA O O (fun b15 hT15=>?_)
  refine gA O O (fun b16 hT16=>?_)
  refine gT O O O hT15 ?_
  refine Aa O O O O P1 ?_
  refine lN ?_
  refine gS O O O ?_
  refine Aa O O O O lR ?_
  refine lN ?_
  refine nQ ?_
  refine Z6 ?_
  refine jF ?_
  refine N3 (i:=⟨_,_,.load _ _ _⟩) O O trivial O (.inr Y1) O sR ?_
  refine gE z69 (aND (by omega)) O O O O fun z90 hz90=>?_
  refine N3 (i:=⟨_,_,.load _ _ _⟩) O O trivial O (.inr mem0) O sR ?_
  refine gE z90 (aND (by omega)) O O O O fun z92 hz92=>?_
  refine gP O O trivial ?_
  refine bHV O O (lN ?_)
  refine G1 3 O ?_
  refine aJS 94 O (fun hg94=>?_) (fun hg94=>?_)
  ·refine G0 16448 O ?_
   refine R5 256 O ?_
   refine mC ?_
   refine oD ?_
   refine Ou ?_
   refine oD ?_
   refine rQ (.inl O) (rt O (rt O (rt O rn))) ?_
   exact .inr ⟨yy,hyy,by omega,.inl ⟨i1,by omega,by rw [aSE hd2 hpp ha1 ha2,bNj hg94,Bool.or_true],hnb,rfl⟩⟩
  refine G1 2 O ?_
  refine wM O O (.inr Y1) O ?_
  refine G1 2 O ?_
  refine wM O O Ht O ?_
  refine gP O O O ?_
  refine A8 O O (bTg _ _) (lN ?_)
  refine G1 6 O ?_
  refine aDC 101 O (fun hg101=>?_) (fun hg101=>?_)
  ·refine G0 128 O ?_
   refine R5 256 O ?_
   refine mC ?_
   refine oD ?_
   refine Ou ?_
   refine oD ?_
   refine rQ (.inl O) (rt O (rt O (rt O rn))) ?_
   exact .inr ⟨yy,hyy,by omega,.inl ⟨i1,by omega,by rw [aSE hd2 hpp ha1 ha2,bOu hg101,Bool.or_true],hnb,rfl⟩⟩
  refine G1 2 O ?_
  refine gl4 O O (.inr Y1) O ?_
  refine G1 2 O ?_
  refine gl4 O O Ht O ?_
  have hsa1:=hSy.r2 a1 (List.mem_of_getElem? ha1)
  have hsa2:=hSy.r2 a2 (List.mem_of_getElem? ha2)
  refine gE z92 (aW9 (by omega) v0.m v1.m (by have:=hsa1.1;omega) (by have:=hsa1.2;omega) x0.m x1.m (by have:=hsa2.1;omega) (by have:=hsa2.2;omega)) O O O O fun z106 hz106=>?_
  refine G0 4 O ?_
  refine Ez ?_
  refine kJ O (fun hc108=>?_) (fun hc108=>?_)
  ·refine R5 64 O ?_
   refine mC ?_
   refine oD ?_
   refine Ou ?_
   refine oD ?_
   refine rQ (.inl O) (rt O (rt O (rt O rn))) ?_
   exact .inr ⟨yy,hyy,by omega,.inl ⟨i1,by omega,by rw [aSE hd2 hpp ha1 ha2,bNP hc108,Bool.or_true],hnb,rfl⟩⟩
  refine R4 8 O ?_
  refine dH O Y2 O ?_
  refine lN ?_
  refine kJ O (fun hc111=>?_) (fun hc111=>?_)
  ·refine Ak ?_
   refine G1 3 O ?_
   refine O8 O O (.inr Y4) O ?_
   refine N3 (i:=⟨_,_,.load _ _ _⟩) O O trivial O (.inr Y2) O sR ?_
   refine G1 6 O ?_
   refine gP O O trivial ?_
   refine K9 (zz:=z106) O O hu66.m (0) (O) (by simp) fun p117 hp117=>lN ?_
   refine glP O O hp117 ti ?_
   refine G1 3 O ?_
   refine gP O O trivial ?_
   refine K9 (zz:=z106) O O hu66.m (1) (O) (by simp) fun p120 hp120=>lN ?_
   refine glP O O hp120 ti ?_
   have hself:=Tv hd2 hpp
   obtain ⟨a3,ha3⟩:=vB (l:=yy.deals) (i:=p1+p2 - i1) (by omega)
   refine gP O O trivial ?_
   refine lB O O (tI (k:=.i64) (a:=(p1:Nat)) (b:=(p2:Nat)) (r:=((p1+p2:Nat):Int)) (by rw [vR ⟨by omega,by omega⟩];omega)) (lN ?_)
   refine G1 2 O ?_
   refine gP O O trivial ?_
   refine lB O O (wN (k:=.i64) (a:=((p1+p2:Nat):Int)) (b:=(i1:Nat)) (r:=((p1+p2 - i1:Nat):Int)) (by rw [vR ⟨by omega,by omega⟩];omega)) (lN ?_)
   refine gP O O trivial ?_
   refine eA O O q2 (p1+p2 - i1) O a3 ha3 fun b125 p125 cs at125 hR=>lN ?_
   obtain ⟨m0c,m1c,hcs,m0,m1⟩:=hR
   subst hcs
   refine mU (i:=⟨_,_,.load _ _ _⟩) (off:=0) O O trivial O at125 ti O (by simp) O sR ?_
   refine gC z106 (aDH (by omega) hm27.m g9.m u0.m u1.m hsm m0.refl m1.refl) O O O O fun v127 z127 _ ⟨c127,d127,hv,hm127,hn127⟩=>?_
   subst hv
   have hm127:=hm127.mono (vS (hz27.trans (hzl0.trans (hzF.trans (hzffm.trans (hzz.trans (hz69.trans (hz90.trans (hz92.trans hz106)))))))))
   have hn127:=hn127.mono (vS (hz27.trans (hzl0.trans (hzF.trans (hzffm.trans (hzz.trans (hz69.trans (hz90.trans (hz92.trans hz106)))))))))
   refine xM (k:=.cells 116 (Z9 (pE x.entities) x.classes d2 a3 c127 d127)) (w:=fun b=>.c (.sl b 0 1 10)) rfl trivial rfl (fun _=>rfl) (fun st hst=>?_) (fun b128 hT128=>?_)
   ·simp only [eP,yB,AS.ev,hst 127 (by simp [mK.sl,Od.sls,Od.sl])];rfl
   refine D5 (i:=⟨_,_,.app _ _ _ _ _ _⟩) O trivial O O O O ?_
   refine rA (n:=L.length) (m:=1) (cs:=aE6 (pE x.entities) x.classes L) O O mem0 O (fun _=>oH P3) (by omega) (by omega) fun c129 hc129=>lN ?_
   refine G0 2 O ?_
   refine iE ?_
   refine xG ?_
   refine bKi (p:=[_,_,_,_]) (t:=((d2,a3),(c127,d127))) O ?_
   refine lB O O (iW (n:=i1+1) (by omega) (by omega)) ?_
   refine R0 2 O ?_
   exact nN (by omega) ⟨i1+1,_,_,_,LZ.m [_,_,_,_] O,rfl,by omega,aBL hnb (by rw [aSE hd2 hpp ha1 ha2,hg71,bGx hg94 hg101 hc108];rfl),by rw [List.map_append,hLp,aGx,aTV hd2 hc111 hpp ha3];rfl,bJa (hLq.mono (nJ zI)) ⟨hm127,hn127⟩,by rw [List.length_append,List.length_singleton];omega⟩
  refine mQ ?_
  refine iE ?_
  refine xG ?_
  refine lB O O (iW (n:=i1+1) (by omega) (by omega)) ?_
  refine R0 2 O ?_
  exact nN (by omega) ⟨i1+1,_,_,_,LZ.m [_,_,_] O,rfl,by omega,aBL hnb (by rw [aSE hd2 hpp ha1 ha2,hg71,bGx hg94 hg101 hc108];rfl),by rw [aGx,aYA hd2 hc111,hLp];simp,(hLq.mono (nJ zI)),by omega⟩
 refine eE ?_
 refine oC ?_
 refine iE ?_
 refine R4 6 O ?_
 have hLn:(L.map fun t=>tx t.1.1.id).Nodup:=by
  have h:=aVp (dl:=yy.deals) (fun q hq=>hnb q (by omega)) i1
  rw [← hLp,List.map_map] at h
  exact h
 refine Dm zz [.row u4 116 10 L.length (aE6 (pE x.entities) x.classes L)] (bLM (by omega) (by omega) hLn) O O O fun v132 z132 H132 _ hv132=>?_
 obtain ⟨rfl,rfl,rfl⟩:=hv132
 refine lN ?_
 refine R5 38 O ?_
 refine aZN (z0:=z) (p:=[]) O zI (aYm fun t ht=>(hLq.mono (nJ zI)) t (bBT.1 ht)) (by rw [List.length_map,bB1]) (by omega) fun zr _ hsr=>?_
 refine xT ?_
 refine rQ (.inl O) (rt O (rt O (rt O rn))) ?_
 obtain ⟨c,hc,_⟩:=SZ.one hsr
 subst hc
 have he:i1=yy.deals.length:=by omega
 rw [bDJ,hLp,he] at hsr
 exact .inr ⟨yy,hyy,by omega,.inr ⟨fun q hq=>hnb q (by omega),c,rfl,hsr⟩⟩
open Go.CE Go.RowKit Go.Num
theorem bQs {α:Type} {l:List α} (h:l.Nodup) {i j:Nat} (hi:i<l.length) (hj:j<l.length) (e:l[i]=l[j]):i=j:=by
 have h:=List.pairwise_iff_getElem.1 h
 rcases Nat.lt_trichotomy i j with h1 | h1 | h1
 ·exact absurd e (h i j hi hj h1)
 ·exact h1
 exact absurd e.symm (h j i hj hi h1)
theorem blt {a b:List UInt8} (h:¬ b<a) (g:¬ a=b):a<b:=Decidable.byContradiction fun h2=>g (List.le_antisymm (List.not_lt.1 h) (List.not_lt.1 h2))
section
variable {nl:List ByteArray} {cl:List rS} {dl dl':List mG} {i p q:Nat} {d a b:mG}
theorem aS6 (h:Hj a b=false):Hj b a=false:=by
 simp only [Hj,Bool.or_eq_false_iff,Bool.not_eq_false',decide_eq_true_eq] at h ⊢
 obtain ⟨⟨⟨h1,h2,h3,h4⟩,h5⟩,h6⟩:=h
 refine ⟨⟨⟨h1.symm,h2.symm,h3.symm,h4.symm⟩,?_⟩,h6.symm⟩
 cases ha:a.give<;>cases hb:b.give<;>simp_all
theorem aIb {P:List (mG×mG)} {x:mG×mG}:x∈aD8 P↔x∈P:=(List.mergeSort_perm P leP).mem_iff
theorem aWv (P:List (mG×mG)):(aD8 P).Pairwise fun a b=>leP a b=true:=
  List.pairwise_mergeSort (le := leP) (fun a b c h1 h2 => decide_eq_true (List.le_trans (of_decide_eq_true h1) (of_decide_eq_true h2))) (fun a b => by
    rcases List.le_total (tx a.1.id) (tx b.1.id) with h | h
    · simp [leP,h]
    · simp [leP,h]) P
theorem bLq {P P':List (mG×mG)} (h:P.Perm P') (hn:(P.map fun a=>tx a.1.id).Nodup):aD8 P=aD8 P':=by
 have h1:(aD8 P).Perm (aD8 P'):=((List.mergeSort_perm P leP).trans h).trans (List.mergeSort_perm P' leP).symm
 have hi:∀ a b,a∈P→b∈P→tx a.1.id=tx b.1.id→a=b:=fun a b ha hb e=>by
  obtain ⟨i,hi,rfl⟩:=List.mem_iff_getElem.1 ha
  obtain ⟨j,hj,rfl⟩:=List.mem_iff_getElem.1 hb
  have:=bQs hn (i:=i) (j:=j) (by rw [List.length_map];exact hi) (by rw [List.length_map];exact hj) (by simpa using e)
  subst this;rfl
 refine List.Perm.eq_of_pairwise (le:=fun a b=>leP a b=true) (fun a b ha hb h2 h3=>?_) (aWv P) (aWv P') h1
 exact hi a b (aIb.1 ha) (h.mem_iff.2 (aIb.1 hb)) (List.le_antisymm (of_decide_eq_true h2) (of_decide_eq_true h3))
end
open Go.CE Go.RowKit Go.Num
open Go.Eng (mR)
abbrev PT:=List UInt8×Int×Int×Int×Int×Int×Rat
def aTD (a b:PT):Bool:=decide (a=b)
theorem bJp {s1 s2:List UInt8} {k1 p1 q1 i1 o1 k2 p2 q2 i2 o2:Int} {x y:Rat} (h1:s1=s2) (h2:k1=k2) (h3:p1=p2) (h4:q1=q2) (h5:i1=i2) (h6:o1=o2):decide (x=y)=aTD (s1,k1,p1,q1,i1,o1,x) (s2,k2,p2,q2,i2,o2,y):=by
 subst h1 h2 h3 h4 h5 h6
 simp [aTD]
theorem aCl {s1 s2:List UInt8} {k1 p1 q1 i1 o1 k2 p2 q2 i2 o2:Int} {x y:Rat} (h:¬ (s1=s2∧k1=k2∧p1=p2∧q1=q2∧i1=i2∧o1=o2∧x=y)):false=aTD (s1,k1,p1,q1,i1,o1,x) (s2,k2,p2,q2,i2,o2,y):=by
 simp only [aTD,Prod.mk.injEq,h,decide_false]
theorem bE6 {p q:Rat}:(p - q).num.sign=0↔p=q:=by
 rw [Int.sign_eq_zero_iff_zero,Rat.num_eq_zero]
 exact ⟨fun h=>by rw [← Rat.sub_add_cancel (a:=p) (b:=q),h,Rat.zero_add],fun h=>by rw [h];exact Rat.sub_self⟩
theorem cA2:(pM tS).get 42=none:=by kernel_rfl
theorem bSv (mem:Tr jX) (nx:Nat):(aBD 321 117 (aAd 184 (Uw 106 107 h1))) 42 [] mem nx=some (Ab true,mem,nx):=rfl
theorem aWd {k:Nat} (hk:1≤k) {z:fR}:FC (E k) 42 [] z fun v _=>v=Ab true:=fun mem nx hh=>by
 obtain ⟨j,rfl⟩:∃ j,k=j+1:=⟨k - 1,by omega⟩
 refine ⟨_,mem,nx,z,[],?_,Nat.le_refl _,fun _ _ _=>rfl,hh,zle.refl _,fun b k h=>.inl h,fun b h=>(by simp [qT] at h),rfl,rfl⟩
 show evF (pM tS) (aBD 321 117 (aAd 184 (Uw 106 107 h1))) K0 (j+1) 42 [] mem nx=_
 rw [evF,cA2]
 exact bSv mem nx
theorem aWi {k:Nat} (hk:3≤k) {z:fR} {x:uV} {c0 c1 c2 c3 c4 c5 c6 c7 c8 c9 c10 c11:C} (g0:CZ 8 vF z c0 x.brackets) (g1:CZ 1 RW z c1 x.threshold.nm) (g2:CZ 1 RW z c2 x.threshold.dm) (g3:CZ 1 RW z c3 x.cap.nm) (g4:CZ 1 RW z c4 x.cap.dm) (g5:CZ 1 RW z c5 x.interest.nm) (g6:CZ 1 RW z c6 x.interest.dm) (g7:CZ 1 RW z c7 x.floor.nm) (g8:CZ 1 RW z c8 x.floor.dm) (g9:CZ 6 yM z c9 x.classes) (g10:CZ 1 RS z c10 x.entities) (g11:CZ 6 Ib z c11 x.years):FC (E k) 41 [.agg [Cs x.name,Cs x.parent,c0,Cb x.threshold.n,c1,Cb x.threshold.d,c2,Cb x.cap.n,c3,Cb x.cap.d,c4,Ci x.back,Ci x.forward,Cb x.interest.n,c5,Cb x.interest.d,c6,Cb x.floor.n,c7,Cb x.floor.d,c8,Ci x.keep,c9,c10,c11]] z fun u _=>∃ b:Bool,u=oO b∧(b=true→SmF x):=by
 refine iI (bEf) (by omega) (dN O) fun B j hj=>?_
 refine xR ?_
 refine kN O fun b1=>?_
 refine R2 4 O ?_
 refine J3 O mem0 O ?_
 refine lZ z (Few (by omega) ⟨_,O,L9 g0 g1 g2 g3 g4 g5 g6 g7 g8 g9 g10 g11⟩) O O fun v4 z4 _ ⟨r4,hv4,hs4⟩=>?_
 subst hv4
 refine lM O ?_
 refine nV 5 O (fun hg5=>?_) (fun hg5=>?_)
 ·refine lD O ?_
  refine lF O ?_
  refine lD O ?_
  refine dH O mem0 O ?_
  refine lD O ?_
  refine cX O g10 ?_
  refine R1 12 O ?_
  refine iO 11 O (fun hg11=>?_) (fun hg11=>?_)
  ·refine lD O ?_
   refine lF O ?_
   refine lD O ?_
   refine dH O mem0 O ?_
   refine lD O ?_
   refine cX O g9 ?_
   refine R1 12 O ?_
   refine iO 17 O (fun hg17=>?_) (fun hg17=>?_)
   ·refine lD O ?_
    refine lF O ?_
    refine lD O ?_
    refine dH O mem0 O ?_
    refine lD O ?_
    refine cX O g11 ?_
    refine R0 12 O ?_
    refine xT ?_
    exact rI O ⟨_,rfl,fun _=>hs4 hg5⟩
   refine R0 96 O ?_
   refine xT ?_
   exact rI O ⟨_,rfl,fun _=>hs4 hg5⟩
  refine R0 6176 O ?_
  refine xT ?_
  exact rI O ⟨_,rfl,fun _=>hs4 hg5⟩
 refine R0 395296 O ?_
 refine xT ?_
 exact rI O ⟨_,rfl,fun h=>absurd h (by decide)⟩
theorem aF9 {k:Nat} (hk:12≤k) {z:fR} {n1 n2:Bool} {c1 c2:C} {l1 l2:List UInt32} (hx:CZ 1 RW z c1 l1) (hy:CZ 1 RW z c2 l2) (h1:l1.length≤19000000) (h2:l2.length≤19000000) {n3 n4:Bool} {c3 c4:C} {l3 l4:List UInt32} (hu:CZ 1 RW z c3 l3) (hw:CZ 1 RW z c4 l4) (h3:l3.length≤19000000) (h4:l4.length≤19000000):FC (E k) 112 [.agg [Cb n1,c1,Cb n2,c2],.agg [Cb n3,c3,Cb n4,c4]] z fun v _=>v=Ab (decide ((valR ((n1,l1),(n2,l2)))=(valR ((n3,l3),(n4,l4))))):=by
 refine iI (bDG) (by omega) (dN O) fun B j hj=>?_
 refine xR ?_
 refine kN O fun b2=>?_
 refine kN O fun b3=>?_
 refine R2 4 O ?_
 refine qZ O Y1 O ?_
 refine qZ O mem0 O ?_
 refine lE z (aWh (by omega) hx hy h1 h2 hu hw h3 h4) O O fun z7 _=>?_
 refine R0 4 O ?_
 refine xT ?_
 exact rI O (cQ (decide_eq_decide.2 bE6))
theorem aTY {k:Nat} (hk:13≤k) {z:fR} {s1:List UInt8} {k1 p1 q1 i1 o1:Int} {n1 m1:Bool} {c1 d1:C} {s2:List UInt8} {k2 p2 q2 i2 o2:Int} {n2 m2:Bool} {c2 d2:C} {l1 r1:List UInt32} (hx1:CZ 1 RW z c1 l1) (hy1:CZ 1 RW z d1 r1) (hl1:l1.length≤9000000) (hr1:r1.length≤9000000) {l2 r2:List UInt32} (hx2:CZ 1 RW z c2 l2) (hy2:CZ 1 RW z d2 r2) (hl2:l2.length≤9000000) (hr2:r2.length≤9000000):FC (E k) 52 [.agg [Cs (bs s1),Cu k1,Ci p1,Ci q1,Ci i1,Ci o1,Cb n1,c1,Cb m1,d1],.agg [Cs (bs s2),Cu k2,Ci p2,Ci q2,Ci i2,Ci o2,Cb n2,c2,Cb m2,d2]] z fun u _=>u=Ab (aTD (s1,k1,p1,q1,i1,o1,(valR ((n1,l1),(m1,r1)))) (s2,k2,p2,q2,i2,o2,(valR ((n2,l2),(m2,r2))))):=by
 refine iI (bGy) (by omega) (dN O) fun B j hj=>?_
 refine xR ?_
 refine kN O fun b2=>?_
 refine kN O fun b3=>?_
 refine R2 8 O ?_
 refine dH O Y1 O ?_
 refine lF O ?_
 refine dH O mem0 O ?_
 refine lB O O (bOB _ _) ?_
 refine lC O ?_
 refine iO 10 O (fun hg10=>?_) (fun hg10=>?_)
 ·refine lD O ?_
  refine lF O ?_
  refine lD O ?_
  refine dH O Y1 O ?_
  refine lD O ?_
  refine lF O ?_
  refine lD O ?_
  refine dH O mem0 O ?_
  refine R1 12 O ?_
  refine iO 17 O (fun hg17=>?_) (fun hg17=>?_)
  ·refine lD O ?_
   refine lF O ?_
   refine lD O ?_
   refine dH O Y1 O ?_
   refine lD O ?_
   refine lF O ?_
   refine lD O ?_
   refine dH O mem0 O ?_
   refine R1 12 O ?_
   refine iO 24 O (fun hg24=>?_) (fun hg24=>?_)
   ·refine lD O ?_
    refine lF O ?_
    refine lD O ?_
    refine dH O Y1 O ?_
    refine lD O ?_
    refine lF O ?_
    refine lD O ?_
    refine dH O mem0 O ?_
    refine R1 12 O ?_
    refine iO 31 O (fun hg31=>?_) (fun hg31=>?_)
    ·refine lD O ?_
     refine lF O ?_
     refine lD O ?_
     refine dH O Y1 O ?_
     refine lD O ?_
     refine lF O ?_
     refine lD O ?_
     refine dH O mem0 O ?_
     refine R1 12 O ?_
     refine iO 38 O (fun hg38=>?_) (fun hg38=>?_)
     ·refine lD O ?_
      refine lF O ?_
      refine lD O ?_
      refine dH O Y1 O ?_
      refine lD O ?_
      refine lF O ?_
      refine lD O ?_
      refine dH O mem0 O ?_
      refine R1 12 O ?_
      refine iO 45 O (fun hg45=>?_) (fun hg45=>?_)
      ·refine lD O ?_
       refine lF O ?_
       refine lD O ?_
       refine qZ O Y1 O ?_
       refine lD O ?_
       refine lF O ?_
       refine lD O ?_
       refine qZ O mem0 O ?_
       refine lD O ?_
       refine lE z (aF9 (by omega) hx1 hy1 (Nat.le_trans hl1 (by decide)) (Nat.le_trans hr1 (by decide)) hx2 hy2 (Nat.le_trans hl2 (by decide)) (Nat.le_trans hr2 (by decide))) O O fun z50 _=>?_
       refine R0 6 O ?_
       refine xT ?_
       exact rI O (cQ (bJp hg10 hg17 hg24 hg31 hg38 hg45))
      refine R0 192 O ?_
      refine xT ?_
      exact rI O (cQ (aCl fun h=>hg45 h.2.2.2.2.2.1))
     refine R0 24640 O ?_
     refine xT ?_
     exact rI O (cQ (aCl fun h=>hg38 h.2.2.2.2.1))
    refine R0 3153984 O ?_
    refine xT ?_
    exact rI O (cQ (aCl fun h=>hg31 h.2.2.2.1))
   refine R0 403710016 O ?_
   refine xT ?_
   exact rI O (cQ (aCl fun h=>hg24 h.2.2.1))
  refine R0 51674882112 O ?_
  refine xT ?_
  exact rI O (cQ (aCl fun h=>hg17 h.2.1))
 refine R0 6614384910400 O ?_
 refine xT ?_
 exact rI O (cQ (aCl fun h=>hg10 h.1))
end Go.Proofs.YtlceligcgelbdaaGreat

/- The reference: both sides brought together; the eliminated totals, walked. -/
import Derived.WalkKit
import Derived.Orders
import Derived.Test.YtlceligcgelbdaaGreatKF6
set_option linter.unusedVariables false
set_option linter.unusedSimpArgs false
set_option maxRecDepth 100000
set_option maxHeartbeats 1000000
namespace Go.Proofs.YtlceligcgelbdaaGreat
open Go.CE Go.RowKit Go.Num
open Go.Eng (kN)
section
variable {nl:List ByteArray} {cl:List nN} {x:lL} {i:Nat} {a:nN}
theorem aJb (h:uT nl x.payee<0):false=Bo nl cl x:=by
 have h:¬ 0≤uT nl x.payee:=Int.not_le.2 h
 simp [Bo,h]
theorem aJe (h:uT nl x.payer<0):false=Bo nl cl x:=by
 have h:¬ 0≤uT nl x.payer:=Int.not_le.2 h
 simp [Bo,h]
theorem aJ1 (h:x.payee=x.payer):false=Bo nl cl x:=by simp [Bo,h]
theorem aKW (h:wN cl x.cls<0):false=Bo nl cl x:=by
 have h:¬ 0≤wN cl x.cls:=Int.not_le.2 h
 simp [Bo,h]
theorem aI4 (h1:¬ uT nl x.payee<0) (h2:¬ uT nl x.payer<0) (h3:¬ x.payee=x.payer) (h4:wN cl x.cls=(i:Int)) (ha:cl[i]? = some a) (h5:a.kind∈uQ x.kind x.give):decide ((aBH x).num.sign > 0)=Bo nl cl x:=by
 have h1:=Int.not_lt.1 h1
 have h2:=Int.not_lt.1 h2
 simp [Bo,h1,h2,h3,h4,ha,h5]
theorem aKJ (h1:¬ uT nl x.payee<0) (h2:¬ uT nl x.payer<0) (h3:¬ x.payee=x.payer) (h4:wN cl x.cls=(i:Int)) (ha:cl[i]? = some a) (h5:¬ a.kind∈uQ x.kind x.give):false=Bo nl cl x:=by
 have h1:=Int.not_lt.1 h1
 have h2:=Int.not_lt.1 h2
 simp [Bo,h1,h2,h3,h4,ha,h5]
end
theorem bUp (a b:Bool):Go.Eng.binBV .neq (.bool a) (.bool b)=some (.bool (!(a == b))):=by cases a<;>cases b<;>rfl
theorem aTn {k:Nat} (hk:1≤k) {z:dA} {v:AV} {dl:List lL} {n0:Nat} {d:lL} (hx:SZ 10 aGn z v dl) (hd:dl[n0]? = some d):FC (E k) 94 [v,Az n0] z fun u _=>u=B0 (aHs (Nw d.id n0 dl)):=by
 have hxl:=hx.le
 refine eA (bGQ) (by omega) (aU O) fun B j hj=>?_
 refine R5 128 O ?_
 refine aT (aQ ?_)
 refine dX (fun n fs=>∃ (i:Nat) (o:Int),LI z [] [(0,v),(1,Az n0),(5,Ai o),(6,Az i)] fs∧n=dl.length - i∧(i≤dl.length)∧(o=aHs (Nw d.id n0 (dl.take i)))∧((Nw d.id n0 (dl.take i)).length≤1)) ?_ _ ⟨0,-1,LI.m [] O,rfl,Nat.zero_le _,rfl,Nat.zero_le _⟩ (kK (by omega))
 intro n fs ⟨i,o,hL0,hmz0,hi,ho,hol⟩
 refine hL0.open fun e zl0 _=>?_
 refine R4 24 O ?_
 refine aS O hx ?_
 refine R3 4 O ?_
 refine xD O (fun hc10=>?_) (fun hc10=>?_)
 ·refine cP ?_
  refine aT (aQ ?_)
  refine Xb ?_
  refine iN ?_
  obtain ⟨a,ha⟩:=pE (l:=dl) (i:=i) (by omega)
  refine G1 16 O ?_
  refine yP 16 O (fun hg16=>?_) (fun hg16=>?_)
  ·refine G0 4096 O ?_
   refine R5 4 O ?_
   refine dH ?_
   refine eT ?_
   refine xG ?_
   refine lC O ?_
   refine lB O O (gI (n:=i+1) (by omega) (by omega)) ?_
   refine R0 2 O ?_
   exact mK (by omega) ⟨i+1,o,LI.m [] O,rfl,by omega,by rw [aWb ha (fun h=>h.2 (Int.ofNat.inj hg16))];exact ho,by rw [aWb ha (fun h=>h.2 (Int.ofNat.inj hg16))];exact hol⟩
  refine G1 5 O ?_
  refine gP O O O ?_
  refine dE O O hx i O a ha fun b19 p19 cs at19 hR=>lN ?_
  obtain ⟨r0c,r1c,hcs,r0,r1⟩:=hR
  subst hcs
  refine G1 2 O ?_
  refine oD (i:=⟨_,_,.load _ _ _⟩) (off:=1) O O O O at19 ti O (by simp) O sR ?_
  refine G1 5 O ?_
  refine gP O O O ?_
  refine dE O O hx n0 O d hd fun b24 p24 cs at24 hR=>lN ?_
  obtain ⟨s0c,s1c,hcs,s0,s1⟩:=hR
  subst hcs
  refine G1 2 O ?_
  refine oD (i:=⟨_,_,.load _ _ _⟩) (off:=1) O O O O at24 ti O (by simp) O sR ?_
  refine gP O O O ?_
  refine lB O O (bGL _ _) (lN ?_)
  refine G0 2 O ?_
  refine Ew ?_
  refine wO O (fun hc28=>?_) (fun hc28=>?_)
  ·refine dH ?_
   refine eT ?_
   refine xG ?_
   refine lC O ?_
   refine lB O O (gI (n:=i+1) (by omega) (by omega)) ?_
   refine R0 2 O ?_
   exact mK (by omega) ⟨i+1,o,LI.m [] O,rfl,by omega,by rw [aWb ha (fun h=>hc28 h.1.symm)];exact ho,by rw [aWb ha (fun h=>hc28 h.1.symm)];exact hol⟩
  refine R5 64 O ?_
  refine xD O (fun hc30=>?_) (fun hc30=>?_)
  ·refine R5 8 O ?_
   refine jX ?_
   refine nS ?_
   refine L9 ?_
   refine nS ?_
   exact rI O (congrArg B0 (bI3 ha (by omega) hc28.symm (fun e=>hg16 (congrArg Int.ofNat e))).symm)
  refine cP ?_
  refine xG ?_
  refine R0 4 O ?_
  refine eT ?_
  refine xG ?_
  refine lC O ?_
  refine lB O O (gI (n:=i+1) (by omega) (by omega)) ?_
  refine R0 2 O ?_
  exact mK (by omega) ⟨i+1,_,LI.m [] O,rfl,by omega,by rw [bAG ha (by omega) hol hc28.symm (fun e=>hg16 (congrArg Int.ofNat e))];rfl,by rw [bAG ha (by omega) hol hc28.symm (fun e=>hg16 (congrArg Int.ofNat e))];exact Nat.le_refl _⟩
 refine dH ?_
 refine nF ?_
 refine eT ?_
 refine R5 8 O ?_
 refine xT ?_
 exact rI O (congrArg B0 (by rw [ho,List.take_of_length_le (by omega)]))
theorem aWu {k:Nat} (hk:9≤k) {z:dA} {x:oK} {c0 c1 c2 c3 c4 c5 c6 c7 c8 c9 c10 c11:C} (g0:CZ 8 tI z c0 x.brackets) (g1:CZ 1 RW z c1 x.threshold.nm) (g2:CZ 1 RW z c2 x.threshold.dm) (g3:CZ 1 RW z c3 x.cap.nm) (g4:CZ 1 RW z c4 x.cap.dm) (g5:CZ 1 RW z c5 x.interest.nm) (g6:CZ 1 RW z c6 x.interest.dm) (g7:CZ 1 RW z c7 x.floor.nm) (g8:CZ 1 RW z c8 x.floor.dm) (g9:CZ 6 vR z c9 x.classes) (g10:CZ 1 RS z c10 x.entities) (g11:CZ 6 Gk z c11 x.years) (hb:x.entities.length≤1000) {y:lL} {cy0 cy1:C} (gy0:CZ 1 RW z cy0 y.amount.nm) (gy1:CZ 1 RW z cy1 y.amount.dm) (hS:Sm y.amount):FC (E k) 95 [.agg (kF x c0 c1 c2 c3 c4 c5 c6 c7 c8 c9 c10 c11),.agg [Cb y.give,Cs y.id,Cu y.kind,Cs y.payee,Cs y.payer,Cs y.cls,Cb y.amount.n,cy0,Cb y.amount.d,cy1]] z fun u _=>u=nE (Bo (mB x.entities) x.classes y):=by
 refine eA (bHa) (by omega) (aU O) fun B j hj=>?_
 refine xR ?_
 refine iU O fun b2=>?_
 refine iU O fun b3=>?_
 refine R2 4 O ?_
 refine lR O Y1 O ?_
 refine lZ z (Tq (by omega) g0 g1 g2 g3 g4 g5 g6 g7 g8 g9 g10 g11 hb) O O fun v8 z8 _ ⟨c8,hv8,hm8⟩=>?_
 subst hv8
 refine R2 9 O ?_
 refine dK O Y1 O ?_
 refine lF O ?_
 refine dK O mem0 O ?_
 refine lE z8 (Jt (by omega) g9.m) O O fun z13 _=>?_
 refine R2 41 O ?_
 refine dK O mem0 O ?_
 refine lE z13 (F4 (by omega) hm8.m) O O fun z17 _=>?_
 refine R1 4 O ?_
 refine fR 19 O (fun hg19=>?_) (fun hg19=>?_)
 ·refine R3 4202560 O ?_
  refine jX ?_
  refine rI O ?_
  first | exact congrArg nE (aJb hg19) | exact congrArg nE (aJe hg26) | exact congrArg nE (aJ1 hg33) | exact congrArg nE (aKW hc36) | exact congrArg nE (aI4 hg19 hg26 hg33 hi44 ha44 hg48) | exact congrArg nE (aKJ hg19 hg26 hg33 hi44 ha44 hg48)
 refine R1 5 O ?_
 refine lD O ?_
 refine dK O mem0 O ?_
 refine lD O ?_
 refine lE z17 (F4 (by omega) hm8.m) O O fun z23 _=>?_
 refine R1 12 O ?_
 refine fR 26 O (fun hg26=>?_) (fun hg26=>?_)
 ·refine R3 32832 O ?_
  refine jX ?_
  refine rI O ?_
  first | exact congrArg nE (aJb hg19) | exact congrArg nE (aJe hg26) | exact congrArg nE (aJ1 hg33) | exact congrArg nE (aKW hc36) | exact congrArg nE (aI4 hg19 hg26 hg33 hi44 ha44 hg48) | exact congrArg nE (aKJ hg19 hg26 hg33 hi44 ha44 hg48)
 refine lD O ?_
 refine lF O ?_
 refine lD O ?_
 refine dK O mem0 O ?_
 refine lD O ?_
 refine lF O ?_
 refine lD O ?_
 refine dK O mem0 O ?_
 refine lD O ?_
 refine lB O O (aAI _ _) ?_
 refine R1 6 O ?_
 refine fR 33 O (fun hg33=>?_) (fun hg33=>?_)
 ·refine R3 256 O ?_
  refine jX ?_
  refine rI O ?_
  first | exact congrArg nE (aJb hg19) | exact congrArg nE (aJe hg26) | exact congrArg nE (aJ1 hg33) | exact congrArg nE (aKW hc36) | exact congrArg nE (aI4 hg19 hg26 hg33 hi44 ha44 hg48) | exact congrArg nE (aKJ hg19 hg26 hg33 hi44 ha44 hg48)
 refine R3 17 O ?_
 refine xD O (fun hc36=>?_) (fun hc36=>?_)
 ·refine R5 8 O ?_
  refine jX ?_
  refine rI O ?_
  first | exact congrArg nE (aJb hg19) | exact congrArg nE (aJe hg26) | exact congrArg nE (aJ1 hg33) | exact congrArg nE (aKW hc36) | exact congrArg nE (aI4 hg19 hg26 hg33 hi44 ha44 hg48) | exact congrArg nE (aKJ hg19 hg26 hg33 hi44 ha44 hg48)
 refine cP ?_
 refine iN ?_
 refine G1 2 O ?_
 refine zG O O Ht O ?_
 refine G1 2 O ?_
 refine zG O O Ht O ?_
 refine G1 2 O ?_
 refine zG O O (.inr Y1) O ?_
 refine G1 3 O ?_
 obtain ⟨i44,a44,hi44,ha44,hp44⟩:=aWN (Int.not_lt.1 hc36)
 refine gP O O F ?_
 refine dE O O g9 i44 hi44 a44 ha44 fun b44 p44 cs at44 hR=>lN ?_
 obtain ⟨c44,d44,hcs,q44,r44⟩:=hR
 subst hcs
 refine G1 2 O ?_
 refine oD (i:=⟨_,_,.load _ _ _⟩) (off:=1) O O F O at44 ti O (by simp) O sR ?_
 refine gE z23 (aXg (by omega)) O O O O fun z47 _=>?_
 refine G1 3 O ?_
 refine yP 48 O (fun hg48=>?_) (fun hg48=>?_)
 ·refine G1 2 O ?_
  refine gl4 O O Ht O ?_
  refine gE z47 (aGt (by omega) gy0.m gy1.m (by have:=hS.1;omega) (by have:=hS.2;omega)) O O O O fun z51 _=>?_
  refine G0 12 O ?_
  refine xT ?_
  refine rI O ?_
  first | exact congrArg nE (aJb hg19) | exact congrArg nE (aJe hg26) | exact congrArg nE (aJ1 hg33) | exact congrArg nE (aKW hc36) | exact congrArg nE (aI4 hg19 hg26 hg33 hi44 ha44 hg48) | exact congrArg nE (aKJ hg19 hg26 hg33 hi44 ha44 hg48)
 refine G0 96 O ?_
 refine xT ?_
 refine rI O ?_
 first | exact congrArg nE (aJb hg19) | exact congrArg nE (aJe hg26) | exact congrArg nE (aJ1 hg33) | exact congrArg nE (aKW hc36) | exact congrArg nE (aI4 hg19 hg26 hg33 hi44 ha44 hg48) | exact congrArg nE (aKJ hg19 hg26 hg33 hi44 ha44 hg48)
theorem aM8 {k:Nat} (hk:13≤k) {z:dA} {x:lL} {c0 c1:C} (g0:CZ 1 RW z c0 x.amount.nm) (g1:CZ 1 RW z c1 x.amount.dm) (hS:Sm x.amount) {y:lL} {cy0 cy1:C} (gy0:CZ 1 RW z cy0 y.amount.nm) (gy1:CZ 1 RW z cy1 y.amount.dm) (hS2:Sm y.amount):FC (E k) 96 [.agg [Cb x.give,Cs x.id,Cu x.kind,Cs x.payee,Cs x.payer,Cs x.cls,Cb x.amount.n,c0,Cb x.amount.d,c1],.agg [Cb y.give,Cs y.id,Cu y.kind,Cs y.payee,Cs y.payer,Cs y.cls,Cb y.amount.n,cy0,Cb y.amount.d,cy1]] z fun u _=>u=nE (!I4 x y):=by
 refine eA (bFi) (by omega) (aU O) fun B j hj=>?_
 refine xR ?_
 refine iU O fun b2=>?_
 refine iU O fun b3=>?_
 refine R2 8 O ?_
 refine dK O Y1 O ?_
 refine lF O ?_
 refine dK O mem0 O ?_
 refine lB O O (aAI _ _) ?_
 refine lC O ?_
 refine fR 10 O (fun hg10=>?_) (fun hg10=>?_)
 ·refine lD O ?_
  refine lF O ?_
  refine lD O ?_
  refine dK O Y1 O ?_
  refine lD O ?_
  refine lF O ?_
  refine lD O ?_
  refine dK O mem0 O ?_
  refine R1 12 O ?_
  refine fR 17 O (fun hg17=>?_) (fun hg17=>?_)
  ·refine lD O ?_
   refine lF O ?_
   refine lD O ?_
   refine dK O Y1 O ?_
   refine lD O ?_
   refine lF O ?_
   refine lD O ?_
   refine dK O mem0 O ?_
   refine lD O ?_
   refine lB O O (aAI _ _) ?_
   refine R1 6 O ?_
   refine fR 24 O (fun hg24=>?_) (fun hg24=>?_)
   ·refine lD O ?_
    refine lF O ?_
    refine lD O ?_
    refine dK O Y1 O ?_
    refine lD O ?_
    refine lF O ?_
    refine lD O ?_
    refine dK O mem0 O ?_
    refine lD O ?_
    refine lB O O (aAI _ _) ?_
    refine R1 6 O ?_
    refine fR 31 O (fun hg31=>?_) (fun hg31=>?_)
    ·refine lD O ?_
     refine lF O ?_
     refine lD O ?_
     refine dK O Y1 O ?_
     refine lD O ?_
     refine lF O ?_
     refine lD O ?_
     refine dK O mem0 O ?_
     refine lD O ?_
     refine Ej O O (bUp _ _) ?_
     refine R1 6 O ?_
     refine aJo 38 O (fun hg38=>?_) (fun hg38=>?_)
     ·refine lD O ?_
      refine lF O ?_
      refine lD O ?_
      refine sL O Y1 O ?_
      refine lD O ?_
      refine lF O ?_
      refine lD O ?_
      refine sL O mem0 O ?_
      refine lD O ?_
      refine lE z (aWj (by omega) g0 g1 (by have:=hS.1;omega) (by have:=hS.2;omega) gy0 gy1 (by have:=hS2.1;omega) (by have:=hS2.2;omega)) O O fun z43 _=>?_
      refine R0 6 O ?_
      refine xT ?_
      exact rI O (congrArg nE (by simp [*,I4]))
     refine R0 192 O ?_
     refine xT ?_
     exact rI O (congrArg nE (by simp [*,I4]))
    refine R0 24640 O ?_
    refine xT ?_
    exact rI O (congrArg nE (by simp [*,I4]))
   refine R0 3153984 O ?_
   refine xT ?_
   exact rI O (congrArg nE (by simp [*,I4]))
  refine R0 403710016 O ?_
  refine xT ?_
  exact rI O (congrArg nE (by simp [*,I4]))
 refine R0 51674882112 O ?_
 refine xT ?_
 exact rI O (congrArg nE (by simp [*,I4]))
open Go.CE Go.RowKit Go.Num
open Go.Eng (kN)
def kle (a b:PQ):Prop:=tx a.1.1.id≤tx b.1.1.id
theorem q10 {nl:List ByteArray} {cl:List nN} (t:PQ):(J9 nl cl t).length=10:=rfl
section
variable {L A B:List PQ} {t:PQ} {P:List (lL×lL)} {z:dA}
theorem bLv (hAB:A++B=L) (hs:L.Pairwise kle) (h1:A=[]∨∃ A' c,A=A'++[c]∧¬ tx t.1.1.id<tx c.1.1.id) (h2:∀ b,b∈B→kle t b):(A++t::B).Pairwise kle:=
 bGK (le:=kle) (fun a b c=>List.le_trans) (by rw [hAB];exact hs) (h1.imp id fun ⟨A',c,e,h⟩=>⟨A',c,e,List.not_lt.1 h⟩) h2
theorem bLF (hAB:A++B=L) (hp:(L.map (·.1)).Perm P):((A++t::B).map (·.1)).Perm (P++[t.1]):=by
 subst hAB
 have h:(A++t::B).Perm ((A++B)++[t]):=List.perm_middle.trans (List.perm_append_singleton _ _).symm
 refine (h.map _).trans ?_
 rw [List.map_append]
 exact hp.append_right _
theorem bLJ (hAB:A++B=L) (h:aM6 z L) (g:QOk z t):aM6 z (A++t::B):=fun a ha=>by
 subst hAB
 rcases List.mem_append.1 ha with ha | ha
 ·exact h a (List.mem_append_left _ ha)
 rcases List.mem_cons.1 ha with rfl | ha
 ·exact g
 exact h a (List.mem_append_right _ ha)
theorem bOD {c:PQ} (h:tx t.1.1.id<tx c.1.1.id) (hB:∀ b,b∈B→kle t b):∀ b,b∈c::B→kle t b:=fun b hb=>by
 rcases List.mem_cons.1 hb with rfl | hb
 ·exact List.le_of_lt h
 exact hB b hb
theorem bJo (hp:(L.map (·.1)).Perm P) (hs:L.Pairwise kle) (hn:(P.map fun a=>tx a.1.id).Nodup):L.map (·.1)=aDI P:=by
 rw [← bKc hp ((hp.map fun a=>tx a.1.id).nodup_iff.2 hn)]
 refine (List.mergeSort_of_pairwise (le:=leP) ?_).symm
 rw [List.pairwise_map]
 refine List.Pairwise.imp (R:=kle) (fun h=>?_) hs
 exact decide_eq_true h
end
theorem aTj {k:Nat} (hk:14≤k) {z:dA} {x:oK} {c0 c1 c2 c3 c4 c5 c6 c7 c8 c9 c10 c11:C} (g0:CZ 8 tI z c0 x.brackets) (g1:CZ 1 RW z c1 x.threshold.nm) (g2:CZ 1 RW z c2 x.threshold.dm) (g3:CZ 1 RW z c3 x.cap.nm) (g4:CZ 1 RW z c4 x.cap.dm) (g5:CZ 1 RW z c5 x.interest.nm) (g6:CZ 1 RW z c6 x.interest.dm) (g7:CZ 1 RW z c7 x.floor.nm) (g8:CZ 1 RW z c8 x.floor.dm) (g9:CZ 6 vR z c9 x.classes) (g10:CZ 1 RS z c10 x.entities) (g11:CZ 6 Gk z c11 x.years) {yr:Int} (hS:SmF x) (hy1 : -9223372036854775808≤yr) (hy2:yr<9223372036854775808):FC (E k) 44 [.agg (kF x c0 c1 c2 c3 c4 c5 c6 c7 c8 c9 c10 c11),Ai yr] z fun v z'=>(¬ (0≤yr∧yr<(x.years.length:Int))∧v=.tup [rC,B0 0,B0 2])∨∃ yy,x.years[yr.toNat]? = some yy∧(0≤yr∧yr<(x.years.length:Int))∧bGA (mB x.entities) x.classes yy.deals z' v:=by
 refine eA (bFq) (by omega) (aU O) fun B j hj=>?_
 refine xR ?_
 refine iU O fun b2=>?_
 refine R2 256 O ?_
 refine fR 15 O (fun hg15=>?_) (fun hg15=>?_)
 ·refine R3 8192 O ?_
  refine jX ?_
  refine rQ (.inl O) (rt O (rt O (rt O rn))) ?_
  exact .inl ⟨by omega,rfl⟩
 refine R1 4 O ?_
 refine lD O ?_
 refine dK O mem0 O ?_
 refine lD O ?_
 refine aS O g11 ?_
 refine R3 8 O ?_
 refine xD O (fun hc21=>?_) (fun hc21=>?_)
 ·refine R5 32 O ?_
  refine jX ?_
  refine rQ (.inl O) (rt O (rt O (rt O rn))) ?_
  exact .inl ⟨by omega,rfl⟩
 refine R4 8 O ?_
 refine dK O mem0 O ?_
 refine lC O ?_
 obtain ⟨yy,hyy⟩:=pE (l:=x.years) (i:=yr.toNat) (by omega)
 have hSy:=hS.y yy (List.mem_of_getElem? hyy)
 have hdl:=hSy.l2
 have hb27:x.entities.length≤1000:=by have:=hS.l2;omega
 refine dE O O g11 yr.toNat (by omega) yy hyy fun b25 p25 cs at25 hR=>?_
 obtain ⟨y0,y1,y2,y3,y4,hcs,q0,q1,q2,q3,q4⟩:=hR
 subst hcs
 refine lF O ?_
 refine nQ (off:=3) (v:=.c y2) O at25 O (by simp) O ?_
 refine R2 8 O ?_
 refine oW 123 10 ?_
 refine lN ?_
 refine R5 8 O ?_
 refine aT (aQ ?_)
 refine dX (fun n fs=>∃ (i:Nat) (L:List PQ) (u8:AV) (nL:Nat) (zz:dA),LZ z zz [.row u8 123 10 nL (L.flatMap (J9 (mB x.entities) x.classes)),.blk b2 (.cells 106 (kF x c0 c1 c2 c3 c4 c5 c6 c7 c8 c9 c10 c11))] [(2,Ap b2),(7,.c y2),(8,u8),(9,Az i)] fs∧n=yy.deals.length - i∧(i≤yy.deals.length)∧(∀ q,q<i→aBr (mB x.entities) x.classes yy.deals q=false)∧((L.map (·.1)).Perm (L8 yy.deals i))∧(L.Pairwise kle)∧(aM6 zz L)∧(L.length≤i)∧(nL=L.length)) ?_ _ ⟨0,[],rC,0,_,LZ.m [] O,rfl,Nat.zero_le _,fun q hq=>absurd hq (Nat.not_lt_zero _),List.Perm.refl _,List.Pairwise.nil,fun t ht=>absurd ht List.not_mem_nil,Nat.le_refl _,rfl⟩ (kK (by omega))
 intro n fs ⟨i,L,u8,nL,zz,hL0,hmz0,hi,hnb,hLp,hLs,hLq,hLl,hnL⟩
 refine hL0.open fun e _=>?_
 refine R4 16 O ?_
 refine aS O q2 ?_
 refine R3 4 O ?_
 refine xD O (fun hc31=>?_) (fun hc31=>?_)
 ·refine cP ?_
  refine aT (aQ ?_)
  refine xR ?_
  obtain ⟨d1,hd1⟩:=pE (l:=yy.deals) (i:=i) (by omega)
  have hsm:=hSy.r2 d1 (List.mem_of_getElem? hd1)
  refine R1 4 O ?_
  refine lE zz (aTn (by omega) q2.m hd1) O O fun z36 _=>?_
  refine R3 5 O ?_
  refine iN ?_
  refine aDG (i:=⟨_,_,.load _ _ _⟩) O O F O (.inr Y1) O sR ?_
  refine G1 4 O ?_
  refine gP O O F ?_
  refine dE O O q2 i O d1 hd1 fun b40 p40 cs at40 hR=>lN ?_
  obtain ⟨e40xc,e40yc,hcs,e40x,e40y⟩:=hR
  subst hcs
  refine oD (i:=⟨_,_,.load _ _ _⟩) (off:=0) O O F O at40 ti O (by simp) O sR ?_
  refine gE z36 (aWu (by omega) g0.m g1.m g2.m g3.m g4.m g5.m g6.m g7.m g8.m g9.m g10.m g11.m hb27 e40x.m e40y.m hsm) O O O O fun z42 _=>?_
  refine G1 4 O ?_
  refine aDQ 44 O (fun hg44=>?_) (fun hg44=>?_)
  ·refine G0 32776 O ?_
   refine R5 256 O ?_
   refine jX ?_
   refine nS ?_
   refine L9 ?_
   refine nS ?_
   refine rQ (.inl O) (rt O (rt O (rt O rn))) ?_
   exact .inr ⟨yy,hyy,by omega,.inl ⟨i,by omega,bLG hd1 (by simpa using hg44),hnb,rfl⟩⟩
  refine G1 25 O ?_
  refine yP 48 O (fun hg48=>?_) (fun hg48=>?_)
  ·refine G0 2048 O ?_
   refine R5 256 O ?_
   refine jX ?_
   refine nS ?_
   refine L9 ?_
   refine nS ?_
   refine rQ (.inl O) (rt O (rt O (rt O rn))) ?_
   exact .inr ⟨yy,hyy,by omega,.inl ⟨i,by omega,bOW hd1 hg48,hnb,rfl⟩⟩
  obtain ⟨kk,e1,p1,p2,hk1,he1,hpp,hkk,hkn,hkl⟩:=bIV hd1 (Int.not_lt.1 hg48)
  have hsm2:=hSy.r2 e1 (List.mem_of_getElem? he1)
  have hek:yy.deals[p1+p2 - i]? = some e1:=by rw [← hkk];exact he1
  refine G1 4 O ?_
  refine gP O O O ?_
  refine dE O O q2 i O d1 hd1 fun b51 p51 cs at51 hR=>lN ?_
  obtain ⟨e51xc,e51yc,hcs,e51x,e51y⟩:=hR
  subst hcs
  refine oD (i:=⟨_,_,.load _ _ _⟩) (off:=0) O O O O at51 ti O (by simp) O sR ?_
  refine G1 6 O ?_
  refine gP O O O ?_
  refine dE O O q2 kk hk1 e1 he1 fun b55 p55 cs at55 hR=>lN ?_
  obtain ⟨e55xc,e55yc,hcs,e55x,e55y⟩:=hR
  subst hcs
  refine oD (i:=⟨_,_,.load _ _ _⟩) (off:=0) O O O O at55 ti O (by simp) O sR ?_
  refine gE z42 (aM8 (by omega) e51x.m e51y.m hsm e55x.m e55y.m hsm2) O O O O fun z57 _=>?_
  refine G0 4 O ?_
  refine Ew ?_
  refine jB O (fun hc59=>?_) (fun hc59=>?_)
  ·refine R5 64 O ?_
   refine jX ?_
   refine nS ?_
   refine L9 ?_
   refine nS ?_
   refine rQ (.inl O) (rt O (rt O (rt O rn))) ?_
   exact .inr ⟨yy,hyy,by omega,.inl ⟨i,by omega,by rw [bAe hd1 hpp hek,show I4 d1 e1=true by simpa using hc59,Bool.or_true],hnb,rfl⟩⟩
  refine R4 32 O ?_
  refine dE O O q2 i O d1 hd1 fun b63 p63 cs at63 hR=>?_
  obtain ⟨s0c,s1c,hcs,s0,s1⟩:=hR
  subst hcs
  refine lF O ?_
  refine nQ (off:=0) O at63.m O (by simp) O ?_
  refine R3 4 O ?_
  refine jB O (fun hc66=>?_) (fun hc66=>?_)
  ·refine dH ?_
   refine eT ?_
   refine xG ?_
   refine lC O ?_
   refine lB O O (gI (n:=i+1) (by omega) (by omega)) ?_
   refine R0 2 O ?_
   exact mK (by omega) ⟨i+1,L,_,_,_,LZ.m [] O,rfl,by omega,aC0 hnb (by rw [bAe hd1 hpp hek,hg44];simpa using hc59),by rw [aF6,bAy hd1 (by simpa using hc66)];simpa using hLp,hLs,hLq.m,by omega,hnL⟩
  refine R4 4 O ?_
  refine lR O Y1 O ?_
  refine lZ z57 (Tq (by omega) g0.m g1.m g2.m g3.m g4.m g5.m g6.m g7.m g8.m g9.m g10.m g11.m hb27) O O fun v68 z68 _ ⟨c68,hv68,hm68⟩=>?_
  subst hv68
  refine R0 3 O ?_
  refine iN ?_
  refine G1 9 O ?_
  refine gP O O F ?_
  refine dE O O q2 i O d1 hd1 fun b72 p72 cs at72 hR=>lN ?_
  obtain ⟨e72xc,e72yc,hcs,e72x,e72y⟩:=hR
  subst hcs
  refine G1 2 O ?_
  refine oD (i:=⟨_,_,.load _ _ _⟩) (off:=1) O O F O at72 ti O (by simp) O sR ?_
  refine G1 4 O ?_
  refine gP O O F ?_
  refine dE O O q2 i O d1 hd1 fun b77 p77 cs at77 hR=>lN ?_
  obtain ⟨e77xc,e77yc,hcs,e77x,e77y⟩:=hR
  subst hcs
  refine G1 2 O ?_
  refine oD (i:=⟨_,_,.load _ _ _⟩) (off:=2) O O F O at77 ti O (by simp) O sR ?_
  refine G1 9 O ?_
  refine gP O O F ?_
  refine dE O O q2 i O d1 hd1 fun b83 p83 cs at83 hR=>lN ?_
  obtain ⟨e83xc,e83yc,hcs,e83x,e83y⟩:=hR
  subst hcs
  refine G1 2 O ?_
  refine oD (i:=⟨_,_,.load _ _ _⟩) (off:=3) O O F O at83 ti O (by simp) O sR ?_
  refine gE z68 (F4 (by omega) hm68) O O O O fun z86 _=>?_
  refine G1 9 O ?_
  refine gP O O F ?_
  refine dE O O q2 i O d1 hd1 fun b90 p90 cs at90 hR=>lN ?_
  obtain ⟨e90xc,e90yc,hcs,e90x,e90y⟩:=hR
  subst hcs
  refine G1 2 O ?_
  refine oD (i:=⟨_,_,.load _ _ _⟩) (off:=4) O O F O at90 ti O (by simp) O sR ?_
  refine gE z86 (F4 (by omega) hm68.m) O O O O fun z93 _=>?_
  refine G1 2 O ?_
  refine zG O O (.inr Y1) O ?_
  refine G1 4 O ?_
  refine gP O O F ?_
  refine dE O O q2 i O d1 hd1 fun b98 p98 cs at98 hR=>lN ?_
  obtain ⟨e98xc,e98yc,hcs,e98x,e98y⟩:=hR
  subst hcs
  refine G1 2 O ?_
  refine oD (i:=⟨_,_,.load _ _ _⟩) (off:=5) O O F O at98 ti O (by simp) O sR ?_
  refine gE z93 (Jt (by omega) g9.m) O O O O fun z101 _=>?_
  refine G1 2 O ?_
  refine zG O O (.inr Y1) O ?_
  refine G1 6 O ?_
  refine gP O O F ?_
  refine dE O O q2 kk hk1 e1 he1 fun b106 p106 cs at106 hR=>lN ?_
  obtain ⟨e106xc,e106yc,hcs,e106x,e106y⟩:=hR
  subst hcs
  refine G1 2 O ?_
  refine oD (i:=⟨_,_,.load _ _ _⟩) (off:=5) O O F O at106 ti O (by simp) O sR ?_
  refine gE z101 (Jt (by omega) g9.m) O O O O fun z109 _=>?_
  refine G1 4 O ?_
  refine gP O O F ?_
  refine dE O O q2 i O d1 hd1 fun b112 p112 cs at112 hR=>lN ?_
  obtain ⟨e112xc,e112yc,hcs,e112x,e112y⟩:=hR
  subst hcs
  refine G1 2 O ?_
  refine oD (i:=⟨_,_,.load _ _ _⟩) (off:=6) O O F O at112 ti O (by simp) O sR ?_
  refine gC z109 (Bq (by omega) e112x.m e112y.m (by have:=hsm.1;omega) (by have:=hsm.2;omega)) O O O O fun v115 z115 _ hv115=>?_
  have hw115:=yI (hv115 _ e112x.m e112y.m jF)
  obtain ⟨c115,d115,hv,hm115,hn115⟩:=hw115
  subst hv
  refine gP O O F ?_
  refine mN (cs:=(aSY (mB x.entities) x.classes d1 e1 c115 d115)) (by kernel_rfl) (lN ?_)
  refine wE (k:=.cells 123 (aSY (mB x.entities) x.classes d1 e1 c115 d115)) (w:=fun b=>.c (.sl b 0 1 10)) rfl F rfl (fun _=>rfl) (fun st hst=>?_) (fun b117 hT117=>?_)
  ·simp only [eP,zB,AS.ev,hst 116 (by simp [lS.sl,Od.sls,Od.sl])];rfl
  refine Dm (i:=⟨_,_,.app _ _ _ _ _ _⟩) O F O O O O ?_
  refine mV (n:=nL) (m:=1) (cs:=L.flatMap (J9 (mB x.entities) x.classes)) O O mem0 O (fun _=>mR iW) (by omega) (by omega) fun c118 hc118=>lN ?_
  refine G0 2 O ?_
  refine xR ?_
  refine aZ9 (p:=[_]) (f:=(J9 (mB x.entities) x.classes)) (R:=L) (t:=((d1,e1),(c115,d115))) O ?_
  refine aGu (p:=[_]) O (by omega) fun bR hbR=>?_
  injection hbR with hbR
  subst hbR
  refine lC O ?_
  refine aCT O O ?_
  refine lB O O (vO (n:=nL) (by omega) (by omega)) ?_
  refine R0 2 O ?_
  refine aQ ?_
  refine dX (fun n fs=>∃ (A:List PQ) (B:List PQ) (ka:Nat),LI z115 [.blk bR (.cells 123 ((A++((d1,e1),(c115,d115))::B).flatMap (J9 (mB x.entities) x.classes))),.blk b2 (.cells 106 (kF x c0 c1 c2 c3 c4 c5 c6 c7 c8 c9 c10 c11))] [(2,Ap b2),(7,.c y2),(8,.c (.sl bR 0 (nL+1) 10)),(9,Az i),(12,Az ka)] fs∧n=ka∧(A++B=L)∧(ka=A.length)∧(∀ b,b∈B→kle ((d1,e1),(c115,d115)) b)) ?_ _ ⟨L,[],nL,LI.m [_] O,rfl,List.append_nil _,hnL,fun b hb=>absurd hb List.not_mem_nil⟩ (kK (by omega))
  intro n fs ⟨A,B,ka,hL1,hmz1,hAB,hka,hB⟩
  refine hL1.open fun e zl1 _=>?_
  refine Xb ?_
  refine iN ?_
  have hkl2:A.length+B.length=L.length:=by
   have h:=congrArg List.length hAB
   rw [List.length_append] at h
   omega
  have hLn:(A++((d1,e1),(c115,d115))::B).length=nL+1:=by
   rw [List.length_append,List.length_cons];omega
  refine G1 8 O ?_
  refine yP 124 O (fun hg124=>?_) (fun hg124=>?_)
  ·obtain ⟨A1,a1,hA1,hl1⟩:=bA3 (A:=A) (by omega)
   have hL1:A++((d1,e1),(c115,d115))::B=A1++a1::(((d1,e1),(c115,d115))::B):=by rw [hA1,List.append_assoc];rfl
   refine G1 4 O ?_
   refine gP O O O ?_
   refine lB O O (vO (n:=ka - 1) (by omega) (by omega)) (lN ?_)
   refine gP O O O ?_
   refine oO O O (ka - 1) (O) (by omega) (lN ?_)
   refine G1 2 O ?_
   refine aBO q10 A1 a1 (((d1,e1),(c115,d115))::B) hL1 0 (i:=⟨_,_,.load _ _ _⟩) O O O O (.inr mem0) (by omega) (by decide) O sR ?_
   refine G1 4 O ?_
   refine gP O O O ?_
   refine oO O O (ka) (O) (by omega) (lN ?_)
   refine G1 2 O ?_
   refine aBO q10 A ((d1,e1),(c115,d115)) (B) O 0 (i:=⟨_,_,.load _ _ _⟩) O O O O (.inr mem0) (by omega) (by decide) O sR ?_
   refine gP O O O ?_
   refine lB O O (bH9 _ _) (lN ?_)
   refine G0 2 O ?_
   refine Ew ?_
   refine xD O (fun hc137=>?_) (fun hc137=>?_)
   ·refine cP ?_
    refine aT (aQ ?_)
    refine wC ?_
    refine G1 4 O ?_
    refine gP O O F ?_
    refine lB O O (vO (n:=ka - 1) (by omega) (by omega)) (lN ?_)
    refine G1 16 O ?_
    refine gP O O F ?_
    refine oO O O (ka) (O) (by omega) (lN ?_)
    refine aBO q10 A ((d1,e1),(c115,d115)) (B) O 0 (i:=⟨_,_,.load _ _ _⟩) O O F O (.inr mem0) (by omega) (by decide) O sR ?_
    refine G1 4 O ?_
    refine gP O O F ?_
    refine lB O O (vO (n:=ka - 1) (by omega) (by omega)) (lN ?_)
    refine gP O O F ?_
    refine oO O O (ka - 1) (O) (by omega) (lN ?_)
    refine aBO q10 A1 a1 (((d1,e1),(c115,d115))::B) hL1 0 (i:=⟨_,_,.load _ _ _⟩) O O F O (.inr mem0) (by omega) (by decide) O sR ?_
    refine gP O O F ?_
    refine oO O O (ka - 1) (O) (by omega) (lN ?_)
    refine gS O O O ?_
    refine aGQ O O O iW O (bBa (q10 (nl:=(mB x.entities)) (cl:=x.classes)) (k:=ka - 1) (n:=nL+1) (by omega) (by omega) hLn) ?_
    refine lN ?_
    refine gP O O F ?_
    refine oO O O (ka) (O) (by omega) (lN ?_)
    refine gS O O O ?_
    refine vB (cs':=(A1++((d1,e1),(c115,d115))::a1::B).flatMap (J9 (mB x.entities) x.classes)) O O O iW (aX9 q10 A1 a1 ((d1,e1),(c115,d115)) B hL1 O O (by omega) (by omega)) O (bF9 (q10 (nl:=(mB x.entities)) (cl:=x.classes)) O (k1:=ka - 1) (k2:=ka) (n:=nL+1) (by omega) (by omega) (by omega) (by omega) hLn) ?_
    refine lN ?_
    refine mL ?_
    refine eT ?_
    refine xG ?_
    refine lC O ?_
    refine lB O O (vO (n:=ka - 1) (by omega) (by omega)) ?_
    refine R0 2 O ?_
    exact mK (by omega) ⟨A1,a1::B,ka - 1,LI.m [] O,rfl,by rw [← hAB,hA1,List.append_assoc];rfl,by omega,bOD hc137 hB⟩
   refine dH ?_
   refine nF ?_
   refine eT ?_
   refine xG ?_
   refine Dq (p:=[]) (n:=nL+1) (size:=10) O (by rw [aAl q10,hLn]) ?_
   refine lC O ?_
   refine lB O O (gI (n:=i+1) (by omega) (by omega)) ?_
   refine R0 2 O ?_
   exact mK (by omega) ⟨i+1,A++((d1,e1),(c115,d115))::B,_,_,_,LZ.m [] O,rfl,by omega,aC0 hnb (by rw [bAe hd1 hpp hek,hg44];simpa using hc59),by rw [aF6,aWM hd1 (by simpa using hc66) hpp hek];exact bLF hAB hLp,bLv hAB hLs (.inr ⟨A1,a1,hA1,hc137⟩) hB,bLJ hAB hLq.m ⟨hm115.m,hn115.m⟩,by omega,hLn.symm⟩
  refine G0 8192 O ?_
  refine R5 4 O ?_
  refine dH ?_
  refine nF ?_
  refine eT ?_
  refine xG ?_
  refine Dq (p:=[]) (n:=nL+1) (size:=10) O (by rw [aAl q10,hLn]) ?_
  refine lC O ?_
  refine lB O O (gI (n:=i+1) (by omega) (by omega)) ?_
  refine R0 2 O ?_
  exact mK (by omega) ⟨i+1,A++((d1,e1),(c115,d115))::B,_,_,_,LZ.m [] O,rfl,by omega,aC0 hnb (by rw [bAe hd1 hpp hek,hg44];simpa using hc59),by rw [aF6,aWM hd1 (by simpa using hc66) hpp hek];exact bLF hAB hLp,bLv hAB hLs (.inl (List.eq_nil_of_length_eq_zero (by omega))) hB,bLJ hAB hLq.m ⟨hm115.m,hn115.m⟩,by omega,hLn.symm⟩
 refine dH ?_
 refine nF ?_
 refine eT ?_
 refine R5 38 O ?_
 refine Bd (p:=[]) O (bAP hLq) (by rw [List.length_map,hnL]) (by omega) fun zr _ hsr=>?_
 refine xT ?_
 refine rQ (.inl O) (rt O (rt O (rt O rn))) ?_
 obtain ⟨c,hc,_⟩:=SZ.one hsr
 subst hc
 have he:i=yy.deals.length:=by omega
 rw [bJo hLp hLs (aYd (fun q hq=>hnb q (by omega)) i),he] at hsr
 exact .inr ⟨yy,hyy,by omega,.inr ⟨fun q hq=>hnb q (by omega),c,rfl,hsr⟩⟩
open Go.CE Go.RowKit Go.Num
open Go.Eng (kN)
def aZ4 (x:oK) (yr n1 n2:Int) (P:List (lL×lL)):Prop:=
 (¬ (0≤yr∧yr<(x.years.length:Int))∧n1=0∧n2=2∧P=[])∨∃ yy,x.years[yr.toNat]? = some yy∧(0≤yr∧yr<(x.years.length:Int))∧((∃ i:Nat,i<yy.deals.length∧aBr (mB x.entities) x.classes yy.deals i=true∧(∀ q,q<i→aBr (mB x.entities) x.classes yy.deals q=false)∧n1=(i:Int)∧n2=200∧P=[])∨((∀ i,i<yy.deals.length→aBr (mB x.entities) x.classes yy.deals i=false)∧n1=0∧n2=0∧P=aDI (L8 yy.deals yy.deals.length)))
section
variable {x:oK} {yr n1 n2 m1 m2:Int} {P P':List (lL×lL)} {z:dA} {v:AV}
theorem aYy (h:(¬ (0≤yr∧yr<(x.years.length:Int))∧v=.tup [rC,B0 0,B0 2])∨∃ yy,x.years[yr.toNat]? = some yy∧(0≤yr∧yr<(x.years.length:Int))∧bGA (mB x.entities) x.classes yy.deals z v):∃ u n1 n2 P,v=.tup [u,B0 n1,B0 n2]∧SZ 10 (aTU (mB x.entities) x.classes) z u P∧aZ4 x yr n1 n2 P:=by
 rcases h with ⟨h0,h⟩ | ⟨yy,h1,h2,h3⟩
 ·exact ⟨_,_,_,_,h,.nil,.inl ⟨h0,rfl,rfl,rfl⟩⟩
 rcases h3 with ⟨i,g1,g2,g3,h⟩ | ⟨h4,c,h,h5⟩
 ·exact ⟨_,_,_,_,h,.nil,.inr ⟨yy,h1,h2,.inl ⟨i,g1,g2,g3,rfl,rfl,rfl⟩⟩⟩
 exact ⟨_,_,_,_,h,h5,.inr ⟨yy,h1,h2,.inr ⟨h4,rfl,rfl,rfl⟩⟩⟩
theorem bUi (h:aZ4 x yr n1 n2 P) (g:aZ4 x yr m1 m2 P'):n1=m1∧n2=m2∧P=P':=by
 rcases h with ⟨h0,h1,h2,h3⟩ | ⟨yy,h1,h2,h3⟩<;>rcases g with ⟨g0,g1,g2,g3⟩ | ⟨y',g1,g2,g3⟩
 ·exact ⟨h1.trans g1.symm,h2.trans g2.symm,h3.trans g3.symm⟩
 ·exact absurd g2 h0
 ·exact absurd h2 g0
 rw [h1] at g1
 injection g1 with g1
 subst g1
 rcases h3 with ⟨i,a1,a2,a3,a4,a5,a6⟩ | ⟨a3,a4,a5,a6⟩<;>rcases g3 with ⟨i',b1,b2,b3,b4,b5,b6⟩ | ⟨b3,b4,b5,b6⟩
 ·have:i=i':=by
   rcases Nat.lt_trichotomy i i' with h | h | h
   ·have:=b3 i h;rw [a2] at this;cases this
   ·exact h
   have:=a3 i' h;rw [b2] at this;cases this
  subst this
  exact ⟨a4.trans b4.symm,a5.trans b5.symm,a6.trans b6.symm⟩
 ·have:=b3 i a1;rw [a2] at this;cases this
 ·have:=a3 i' b1;rw [b2] at this;cases this
 exact ⟨a4.trans b4.symm,a5.trans b5.symm,a6.trans b6.symm⟩
theorem bGI (hS:SmF x) (h:aZ4 x yr n1 n2 P):∀ a,a∈P→Sm a.1.amount:=fun a ha=>by
 rcases h with ⟨_,_,_,rfl⟩ | ⟨yy,h1,h2,h3⟩
 ·cases ha
 rcases h3 with ⟨_,_,_,_,_,_,rfl⟩ | ⟨_,_,_,rfl⟩
 ·cases ha
 have ha:=aKQ.1 ha
 obtain ⟨i,_,hi⟩:=List.mem_filterMap.1 ha
 exact (hS.y yy (List.mem_of_getElem? h1)).r2 a.1 (List.mem_of_getElem? (aSV hi).1)
end
def bE5 (x:oK) (yr n:Int) (T:List (List Rat)):Prop:=(n=2∧¬ aXt x yr∧T=[])∨(n=0∧aXt x yr∧∃ yy,x.years[yr.toNat]? = some yy∧T=aFm (mB x.entities) x.classes yy.books)
theorem aYw {x:oK} {yr:Int} {z:dA} {v:AV} (h:bIb x yr z v):∃ cu n T,v=.tup [.agg [cu],B0 n]∧CZ 1 (RC 4 RV) z cu T∧bE5 x yr n T:=by
 rcases h with ⟨h,h1⟩ | ⟨yy,cu,h0,h1,h,h2⟩
 ·exact ⟨_,_,_,h,SZ.nil,.inl ⟨rfl,h1,rfl⟩⟩
 exact ⟨_,_,_,h,h2,.inr ⟨rfl,h1,yy,h0,rfl⟩⟩
theorem bTK {x:oK} {yr n m:Int} {T T':List (List Rat)} (h:bE5 x yr n T) (g:bE5 x yr m T'):n=m∧T=T':=by
 rcases h with ⟨h1,h2,h3⟩ | ⟨h1,h2,yy,h3,h4⟩<;>rcases g with ⟨g1,g2,g3⟩ | ⟨g1,g2,y',g3,g4⟩
 ·exact ⟨h1.trans g1.symm,h3.trans g3.symm⟩
 ·exact absurd g2 h2
 ·exact absurd h2 g2
 rw [h3] at g3
 injection g3 with g3
 subst g3
 exact ⟨h1.trans g1.symm,h4.trans g4.symm⟩
theorem bTy {x:oK} {yr n:Int} {T:List (List Rat)} (hS:SmF x) (h:bE5 x yr n T):(T.map (·.map J4)).length≤1000∧∀ r,r∈T.map (·.map J4)→r.length≤1000∧∀ q,q∈r→q.nm.length≤1000∧q.dm.length≤1000:=by
 rcases h with ⟨_,_,rfl⟩ | ⟨_,_,yy,h3,rfl⟩
 ·exact ⟨Nat.zero_le _,fun r hr=>by cases hr⟩
 have hy:=hS.y yy (List.mem_of_getElem? h3)
 have h1:=hS.l1
 have h2:=hS.l2
 have h4:=hy.l1
 exact bSW (aXB (aXa (by rw [Be];omega) (by omega) hy.r1 h4)) (by decide)
def prF (nl:List ByteArray) (cl:List nN) (a:lL×lL):PPr:=⟨tx a.1.id,a.1.kind,uT nl a.1.payee,uT nl a.1.payer,wN cl a.1.cls,wN cl a.2.cls,J4 (aBH a.1)⟩
theorem bFS {nl:List ByteArray} {cl:List nN} {z:dA} {v:AV} {P:List (lL×lL)} (h:SZ 10 (aTU nl cl) z v P):SZ 10 RPr z v (P.map (prF nl cl)):=aSJ h fun cs a ⟨c,d,h1,h2,h3⟩=>⟨c,d,h1,h2,h3⟩
def enF (e:PEq):PEn:=⟨e.1.1,e.1.2,J4 e.2⟩
theorem bHM {z:dA} {v:AV} {l:List PEq} (h:SZ 6 REq z v l):SZ 6 REn z v (l.map enF):=aSJ h fun cs e ⟨c,d,h1,h2,h3⟩=>⟨c,d,h1,h2,h3⟩
section
variable {x:oK} {yr n1 n2 m1 m2:Int} {P:List (lL×lL)}
theorem Sr (hS:SmF x) (h:aZ4 x yr n1 n2 P):P.length≤40∧∀ a,a∈P→Sm a.1.amount:=by
 refine ⟨?_,bGI hS h⟩
 rcases h with ⟨_,_,_,rfl⟩ | ⟨yy,h1,h2,h3⟩
 ·exact Nat.zero_le _
 rcases h3 with ⟨_,_,_,_,_,_,rfl⟩ | ⟨_,_,_,rfl⟩
 ·exact Nat.zero_le _
 have:=(hS.y yy (List.mem_of_getElem? h1)).l2
 rw [bEh]
 refine Nat.le_trans (List.length_filterMap_le _ _) ?_
 rw [List.length_range]
 exact this
theorem bPM {nl:List ByteArray} {cl:List nN} (h:∀ a,a∈P→Sm a.1.amount):∀ a,a∈P.map (prF nl cl)→a.am.nm.length≤8∧a.am.dm.length≤8:=fun a ha=>by
 obtain ⟨b,hb,rfl⟩:=List.mem_map.1 ha
 have hs:=h b hb
 exact ⟨Nat.le_trans Ov (Nat.le_trans hs.1 (by decide)),Nat.le_trans Ox (Nat.le_trans (Nat.succ_le_succ hs.2) (by decide))⟩
theorem bLp {nl:List ByteArray} {cl:List nN} (hS:SmF x) (h:aZ4 x yr n1 n2 P):∀ a,a∈P.map (prF nl cl)→a.am.nm.length≤9000000∧a.am.dm.length≤9000000:=fun a ha=>⟨Nat.le_trans (bPM (bGI hS h) a ha).1 (by decide),Nat.le_trans (bPM (bGI hS h) a ha).2 (by decide)⟩
theorem bSs {ms:List Bool} {l:List PPr} {e:PEq} (h:e∈xM ms l):∃ a,a∈l∧e.2 = -(rv a.am):=by
 obtain ⟨a,ha,he⟩:=List.mem_flatMap.1 h
 refine ⟨a,ha,?_⟩
 split at he
 ·rcases List.mem_cons.1 he with rfl | he
  ·rfl
  rw [List.mem_singleton.1 he]
 cases he
theorem aXm {nl:List ByteArray} {cl:List nN} {ms:List Bool} (h:P.length≤40) (hs:∀ a,a∈P→Sm a.1.amount):((xM ms (P.map (prF nl cl))).map enF).length≤1000∧∀ a,a∈(xM ms (P.map (prF nl cl))).map enF→a.am.nm.length≤100∧a.am.dm.length≤100:=by
 constructor
 ·rw [List.length_map]
  refine Nat.le_trans aSL ?_
  rw [List.length_map]
  omega
 intro a ha
 obtain ⟨e,he,rfl⟩:=List.mem_map.1 ha
 obtain ⟨b,hb,h2⟩:=bSs he
 have hb2:=bPM hs b hb
 show (toL e.2.num.natAbs).length≤100∧(toL (e.2.den:Int).natAbs).length≤100
 rw [h2,Rat.neg_num,Int.natAbs_neg,Rat.neg_den]
 exact ⟨Nat.le_trans Ov (Nat.le_trans hb2.1 (by decide)),Nat.le_trans Ox (Nat.le_trans (Nat.succ_le_succ hb2.2) (by decide))⟩
end
def bOY (x:oK) (yr:Int) (ms:List Bool) (n1 n2:Int) (T:List (List Rat)):Prop:=∃ m1 m2 P,aZ4 x yr m1 m2 P∧((m2≠0∧n1=m1∧n2=m2∧T=[])∨(m2=0∧∃ n T',bE5 x yr n T'∧n1=0∧n2=n∧((n≠0∧T=[])∨(n=0∧T=R9 T' ((xM ms (P.map (prF (mB x.entities) x.classes))).map enF)))))
def bSU (x:oK) (yr:Int) (ms:List Bool) (z:dA) (v:AV):Prop:=∃ cu n1 n2 T,v=.tup [.agg [cu],B0 n1,B0 n2]∧CZ 1 (RC 4 RV) z cu T∧bOY x yr ms n1 n2 T
theorem bPg {x:oK} {yr:Int} {ms:List Bool} {n1 n2 k1 k2:Int} {T T':List (List Rat)} (h:bOY x yr ms n1 n2 T) (g:bOY x yr ms k1 k2 T'):n1=k1∧n2=k2∧T=T':=by
 obtain ⟨m1,m2,P,h1,h⟩:=h
 obtain ⟨p1,p2,P',g1,g⟩:=g
 obtain ⟨rfl,rfl,rfl⟩:=bUi h1 g1
 rcases h with ⟨a1,a2,a3,a4⟩ | ⟨a1,n,U,a2,a3,a4,a5⟩<;>rcases g with ⟨b1,b2,b3,b4⟩ | ⟨b1,m,U',b2,b3,b4,b5⟩
 ·exact ⟨a2.trans b2.symm,a3.trans b3.symm,a4.trans b4.symm⟩
 ·exact absurd b1 a1
 ·exact absurd a1 b1
 obtain ⟨rfl,rfl⟩:=bTK a2 b2
 refine ⟨a3.trans b3.symm,a4.trans b4.symm,?_⟩
 rcases a5 with ⟨c1,c2⟩ | ⟨c1,c2⟩<;>rcases b5 with ⟨d1,d2⟩ | ⟨d1,d2⟩
 ·exact c2.trans d2.symm
 ·exact absurd d1 c1
 ·exact absurd c1 d1
 exact c2.trans d2.symm
theorem aWe {k:Nat} (hk:14≤k) {z:dA} {x:oK} {c0 c1 c2 c3 c4 c5 c6 c7 c8 c9 c10 c11:C} (g0:CZ 8 tI z c0 x.brackets) (g1:CZ 1 RW z c1 x.threshold.nm) (g2:CZ 1 RW z c2 x.threshold.dm) (g3:CZ 1 RW z c3 x.cap.nm) (g4:CZ 1 RW z c4 x.cap.dm) (g5:CZ 1 RW z c5 x.interest.nm) (g6:CZ 1 RW z c6 x.interest.dm) (g7:CZ 1 RW z c7 x.floor.nm) (g8:CZ 1 RW z c8 x.floor.dm) (g9:CZ 6 vR z c9 x.classes) (g10:CZ 1 RS z c10 x.entities) (g11:CZ 6 Gk z c11 x.years) {yr:Int} {cm:C} {ms:List Bool} (hv:CZ 1 (RE Value.bool) z cm ms) (hS:SmF x) (hy1 : -9223372036854775808≤yr) (hy2:yr<9223372036854775808):FC (E k) 55 [.agg (kF x c0 c1 c2 c3 c4 c5 c6 c7 c8 c9 c10 c11),Ai yr,.c cm] z fun u z'=>bSU x yr ms z' u:=by
 refine eA (bFh) (by omega) (aU O) fun B j hj=>?_
 refine xR ?_
 refine iU O fun b3=>?_
 refine kC fun b6=>?_
 refine R2 8 O ?_
 refine lR O Y1 O ?_
 refine lC O ?_
 refine lZ z (aTp (x:=x) (by omega) g0 g1 g2 g3 g4 g5 g6 g7 g8 g9 g10 g11 hS hy1 hy2) O O fun v13 z13 _ hm13=>?_
 obtain ⟨u1,m1,m2,P,hv13,hS1,hR1⟩:=aYy hm13
 subst hv13
 have hS1z:=hS1.mono jF
 refine R3 4721 O ?_
 refine wO O (fun hc18=>?_) (fun hc18=>?_)
 ·refine R4 4 O ?_
  refine mN (cs:=[_]) O ?_
  refine R1 7 O ?_
  refine Ef O O iW ?_
  refine R0 7 O ?_
  refine jX ?_
  refine rQ (.inl O) (C4 O mem0 O (rt O (rt O rn))) ?_
  exact ⟨_,_,_,_,rfl,SZ.nil,⟨_,_,_,hR1,.inl ⟨hc18,rfl,rfl,rfl⟩⟩⟩
 refine R4 4 O ?_
 refine lR O Y1 O ?_
 refine lC O ?_
 refine lZ z13 (aSz (x:=x) (by omega) g0.m g1.m g2.m g3.m g4.m g5.m g6.m g7.m g8.m g9.m g10.m g11.m hS hy1 hy2) O O fun v25 z25 _ hm25=>?_
 obtain ⟨cu,n,T,hv25,hS2,hR2⟩:=aYw hm25
 subst hv25
 refine R1 9 O ?_
 refine Ef O O iW ?_
 refine R3 73 O ?_
 refine wO O (fun hc29=>?_) (fun hc29=>?_)
 ·refine R4 4 O ?_
  refine mN (cs:=[_]) O ?_
  refine lM O ?_
  refine Ef O O iW ?_
  refine R0 6 O ?_
  refine jX ?_
  refine rQ (.inl O) (C4 O mem0 O (rt O (rt O rn))) ?_
  exact ⟨_,_,_,_,rfl,SZ.nil,⟨_,_,_,hR1,.inr ⟨hc18,_,_,hR2,rfl,rfl,.inl ⟨hc29,rfl⟩⟩⟩⟩
 refine cP ?_
 refine iN ?_
 have hn0:n=0:=hc29
 have hTB:=bTy hS hR2
 have hPs:=bLp (nl:=mB x.entities) (cl:=x.classes) hS hR1
 refine Hi (i:=⟨_,_,.load _ _ _⟩) O O F O (.inr mem0) O (Nat.le_refl _) O sR ?_
 refine G1 6 O ?_
 refine gC z25 (Ny (by omega) hv.m (bFS hS1z.m) (by rw [List.length_map];exact Nat.le_trans (Sr hS hR1).1 (by decide)) hPs) O O O O fun v35 z35 _ ⟨cE,hv35,hE⟩=>?_
 subst hv35
 refine gC z35 (aXi (by omega) (aDY hS2.m) hTB.1 hTB.2 (bHM hE) (aXm (Sr hS hR1).1 (Sr hS hR1).2).1 (aXm (Sr hS hR1).1 (Sr hS hR1).2).2) O O O O fun v36 z36 _ ⟨cu36,hv36,hk36⟩=>?_
 subst hv36
 rw [aKd] at hk36
 refine gS O O O ?_
 refine Ef O O iW ?_
 refine lN ?_
 refine G0 4 O ?_
 refine xT ?_
 refine rQ (.inl O) (C4 O mem0 O (rt O (rt O rn))) ?_
 exact ⟨_,_,_,_,rfl,hk36,⟨_,_,_,hR1,.inr ⟨hc18,_,_,hR2,rfl,hn0.symm,.inr ⟨hn0,rfl⟩⟩⟩⟩
theorem aTi {k:Nat} (hk:15≤k) {z:dA} {x:oK} {c0 c1 c2 c3 c4 c5 c6 c7 c8 c9 c10 c11:C} (g0:CZ 8 tI z c0 x.brackets) (g1:CZ 1 RW z c1 x.threshold.nm) (g2:CZ 1 RW z c2 x.threshold.dm) (g3:CZ 1 RW z c3 x.cap.nm) (g4:CZ 1 RW z c4 x.cap.dm) (g5:CZ 1 RW z c5 x.interest.nm) (g6:CZ 1 RW z c6 x.interest.dm) (g7:CZ 1 RW z c7 x.floor.nm) (g8:CZ 1 RW z c8 x.floor.dm) (g9:CZ 6 vR z c9 x.classes) (g10:CZ 1 RS z c10 x.entities) (g11:CZ 6 Gk z c11 x.years) {yr:Int} {cm:C} {ms:List Bool} (hv:CZ 1 (RE Value.bool) z cm ms) (hS:SmF x) (hy1 : -9223372036854775808≤yr) (hy2:yr<9223372036854775808):FC (E k) 56 [.agg (kF x c0 c1 c2 c3 c4 c5 c6 c7 c8 c9 c10 c11),Ai yr,.c cm] z fun u z'=>bSU x yr ms z' u:=by
 refine eA (bFa) (by omega) (aU O) fun B j hj=>?_
 refine xR ?_
 refine iU O fun b3=>?_
 refine kC fun b6=>?_
 refine R2 8 O ?_
 refine lR O Y1 O ?_
 refine lC O ?_
 refine lZ z (aTj (x:=x) (by omega) g0 g1 g2 g3 g4 g5 g6 g7 g8 g9 g10 g11 hS hy1 hy2) O O fun v16 z16 _ hm16=>?_
 obtain ⟨u1,m1,m2,P,hv16,hS1,hR1⟩:=aYy hm16
 subst hv16
 have hS1z:=hS1
 refine R3 4721 O ?_
 refine wO O (fun hc21=>?_) (fun hc21=>?_)
 ·refine R4 4 O ?_
  refine mN (cs:=[_]) O ?_
  refine R1 7 O ?_
  refine Ef O O iW ?_
  refine R0 7 O ?_
  refine jX ?_
  refine rQ (.inl O) (C4 O mem0 O (rt O (rt O rn))) ?_
  exact ⟨_,_,_,_,rfl,SZ.nil,⟨_,_,_,hR1,.inl ⟨hc21,rfl,rfl,rfl⟩⟩⟩
 refine R4 4 O ?_
 refine lR O Y1 O ?_
 refine lC O ?_
 refine lZ z16 (aTc (x:=x) (by omega) g0.m g1.m g2.m g3.m g4.m g5.m g6.m g7.m g8.m g9.m g10.m g11.m hS hy1 hy2) O O fun v28 z28 _ hm28=>?_
 obtain ⟨cu,n,T,hv28,hS2,hR2⟩:=aYw hm28
 subst hv28
 refine R1 9 O ?_
 refine kC fun b12=>?_
 refine Ef O O iW ?_
 refine R3 73 O ?_
 refine wO O (fun hc32=>?_) (fun hc32=>?_)
 ·refine R4 4 O ?_
  refine mN (cs:=[_]) O ?_
  refine lM O ?_
  refine Ef O O P1 ?_
  refine R0 6 O ?_
  refine jX ?_
  refine rQ (.inl O) (C4 O Y1 O (rt O (rt O rn))) ?_
  exact ⟨_,_,_,_,rfl,SZ.nil,⟨_,_,_,hR1,.inr ⟨hc21,_,_,hR2,rfl,rfl,.inl ⟨hc32,rfl⟩⟩⟩⟩
 refine cP ?_
 refine iN ?_
 have hn0:n=0:=hc32
 have hTB:=bTy hS hR2
 have hPs:=bLp (nl:=mB x.entities) (cl:=x.classes) hS hR1
 refine Hi (i:=⟨_,_,.load _ _ _⟩) O O F O (.inr mem0) O (Nat.le_refl _) O sR ?_
 refine G1 6 O ?_
 refine gC z28 (aNN (by omega) hv.m (bFS hS1z.m) (by rw [List.length_map];exact Nat.le_trans (Sr hS hR1).1 (by decide)) hPs) O O O O fun v38 z38 _ ⟨cE,hv38,hE⟩=>?_
 subst hv38
 refine gC z38 (aTl (by omega) (aDY hS2.m) hTB.1 hTB.2 (bHM hE) (aXm (Sr hS hR1).1 (Sr hS hR1).2).1 (aXm (Sr hS hR1).1 (Sr hS hR1).2).2) O O O O fun v39 z39 _ ⟨cu39,hv39,hk39⟩=>?_
 subst hv39
 rw [aKd] at hk39
 refine gS O O O ?_
 refine Ef O O P1 ?_
 refine lN ?_
 refine G0 4 O ?_
 refine xT ?_
 refine rQ (.inl O) (C4 O Y1 O (rt O (rt O rn))) ?_
 exact ⟨_,_,_,_,rfl,hk39,⟨_,_,_,hR1,.inr ⟨hc21,_,_,hR2,rfl,hn0.symm,.inr ⟨hn0,(bQj _ _).symm⟩⟩⟩⟩
end Go.Proofs.YtlceligcgelbdaaGreat

/- The law, walked. -/
import Derived.WalkKit
import Derived.Orders
import Derived.Test.YtlceligcgelbdaaGreatMA7
import Derived.Test.YtlceligcgelbdaaGreatMF5
set_option linter.unusedVariables false
set_option linter.unusedSimpArgs false
set_option maxRecDepth 100000
set_option maxHeartbeats 1000000
namespace Go.Proofs.YtlceligcgelbdaaGreat
open Go.CE Go.RowKit Go.Num
open Go.Eng (mR)
def bKG (x:uV) (yr n1 n2:Int) (P:List (mG×mG)):Prop:=
 (¬ (0≤yr∧yr<(x.years.length:Int))∧n1=0∧n2=2∧P=[])∨∃ yy,x.years[yr.toNat]? = some yy∧(0≤yr∧yr<(x.years.length:Int))∧((∃ i:Nat,i<yy.deals.length∧aAu (pE x.entities) x.classes yy.deals i=true∧(∀ q,q<i→aAu (pE x.entities) x.classes yy.deals q=false)∧n1=(i:Int)∧n2=200∧P=[])∨((∀ i,i<yy.deals.length→aAu (pE x.entities) x.classes yy.deals i=false)∧n1=0∧n2=0∧P=aD8 (Ls yy.deals yy.deals.length)))
section
variable {x:uV} {yr n1 n2 m1 m2:Int} {P P':List (mG×mG)} {z:fR} {v:AV}
theorem aWK (h:(¬ (0≤yr∧yr<(x.years.length:Int))∧v=.tup [qY,Bt 0,Bt 2])∨∃ yy,x.years[yr.toNat]? = some yy∧(0≤yr∧yr<(x.years.length:Int))∧bDL (pE x.entities) x.classes yy.deals z v):∃ u n1 n2 P,v=.tup [u,Bt n1,Bt n2]∧SZ 10 (aSw (pE x.entities) x.classes) z u P∧bKG x yr n1 n2 P:=by
 rcases h with ⟨h0,h⟩ | ⟨yy,h1,h2,h3⟩
 ·exact ⟨_,_,_,_,h,.nil,.inl ⟨h0,rfl,rfl,rfl⟩⟩
 rcases h3 with ⟨i,g1,g2,g3,h⟩ | ⟨h4,c,h,h5⟩
 ·exact ⟨_,_,_,_,h,.nil,.inr ⟨yy,h1,h2,.inl ⟨i,g1,g2,g3,rfl,rfl,rfl⟩⟩⟩
 exact ⟨_,_,_,_,h,h5,.inr ⟨yy,h1,h2,.inr ⟨h4,rfl,rfl,rfl⟩⟩⟩
theorem bTk (h:bKG x yr n1 n2 P) (g:bKG x yr m1 m2 P'):n1=m1∧n2=m2∧P=P':=by
 rcases h with ⟨h0,h1,h2,h3⟩ | ⟨yy,h1,h2,h3⟩<;>rcases g with ⟨g0,g1,g2,g3⟩ | ⟨y',g1,g2,g3⟩
 ·exact ⟨h1.trans g1.symm,h2.trans g2.symm,h3.trans g3.symm⟩
 ·exact absurd g2 h0
 ·exact absurd h2 g0
 rw [h1] at g1
 injection g1 with g1
 subst g1
 rcases h3 with ⟨i,a1,a2,a3,a4,a5,a6⟩ | ⟨a3,a4,a5,a6⟩<;>rcases g3 with ⟨i',b1,b2,b3,b4,b5,b6⟩ | ⟨b3,b4,b5,b6⟩
 ·have:i=i':=by
   rcases Nat.lt_trichotomy i i' with h | h | h
   ·have:=b3 i h;rw [a2] at this;cases this
   ·exact h
   have:=a3 i' h;rw [b2] at this;cases this
  subst this
  exact ⟨a4.trans b4.symm,a5.trans b5.symm,a6.trans b6.symm⟩
 ·have:=b3 i a1;rw [a2] at this;cases this
 ·have:=a3 i' b1;rw [b2] at this;cases this
 exact ⟨a4.trans b4.symm,a5.trans b5.symm,a6.trans b6.symm⟩
theorem bSE (hS:SmF x) (h:bKG x yr n1 n2 P):∀ a,a∈P→Sm a.1.amount:=fun a ha=>by
 rcases h with ⟨_,_,_,rfl⟩ | ⟨yy,h1,h2,h3⟩
 ·cases ha
 rcases h3 with ⟨_,_,_,_,_,_,rfl⟩ | ⟨_,_,_,rfl⟩
 ·cases ha
 have ha:=aIb.1 ha
 obtain ⟨i,_,hi⟩:=List.mem_filterMap.1 ha
 exact (hS.y yy (List.mem_of_getElem? h1)).r2 a.1 (List.mem_of_getElem? (aSI hi).1)
end
theorem bDS {nl:List ByteArray} {cl:List rS} {x y:mG} {c d:C} {U:fR} {lc ld:List UInt32} (hc:CZ 1 RW U c lc) (hd:CZ 1 RW U d ld):SRL (Z9 nl cl x y c d) [Cs ⟨#[]⟩,Cu 0,Ci 0,Ci 0,Ci 0,Ci 0,Cb false,Cz,Cb false,Cz]:=
 .cons (.s _ _) (.cons (.i _ _ _) (.cons (.i _ _ _) (.cons (.i _ _ _) (.cons (.i _ _ _) (.cons (.i _ _ _) (.cons (.b _ _) (.cons (SR.refl_row hc) (.cons (.b _ _) (.cons (SR.refl_row hd) .nil)))))))))
theorem aEw {k:Nat} (hk:15≤k) {z:fR} {x:uV} {c0 c1 c2 c3 c4 c5 c6 c7 c8 c9 c10 c11:C} (g0:CZ 8 vF z c0 x.brackets) (g1:CZ 1 RW z c1 x.threshold.nm) (g2:CZ 1 RW z c2 x.threshold.dm) (g3:CZ 1 RW z c3 x.cap.nm) (g4:CZ 1 RW z c4 x.cap.dm) (g5:CZ 1 RW z c5 x.interest.nm) (g6:CZ 1 RW z c6 x.interest.dm) (g7:CZ 1 RW z c7 x.floor.nm) (g8:CZ 1 RW z c8 x.floor.dm) (g9:CZ 6 yM z c9 x.classes) (g10:CZ 1 RS z c10 x.entities) (g11:CZ 6 Ib z c11 x.years) {yr:Int} (hy1 : -9223372036854775808≤yr) (hy2:yr<9223372036854775808):FC (E k) 7 [.agg (kF x c0 c1 c2 c3 c4 c5 c6 c7 c8 c9 c10 c11),Ai yr] z fun u _=>u=oO true:=by
 refine iI (bL3) (by omega) (dN O) fun B j hj=>?_
 refine bLP fun hB0=>?_
 refine xR ?_
 refine kN O fun b2=>?_
 refine R2 8 O ?_
 refine J3 O mem0 O ?_
 refine lZ z (aWi (by omega) g0 g1 g2 g3 g4 g5 g6 g7 g8 g9 g10 g11) O O fun v16 z16 _ ⟨b16,hv16,hs16⟩=>?_
 subst hv16
 refine R3 4 O ?_
 refine kJ O (fun hc17=>?_) (fun hc17=>?_)
 ·refine R4 4 O ?_
  refine lE z16 (aWd (by omega)) O O fun z18 _=>?_
  refine R0 3 O ?_
  refine mC ?_
  refine rI O ?_
  rfl
 refine R4 4 O ?_
 have hS:SmF x:=hs16 (by simpa using hc17)
 refine J3 O mem0 O ?_
 refine lZ z16 (aOU (by omega) ⟨_,O,L9 g0.m g1.m g2.m g3.m g4.m g5.m g6.m g7.m g8.m g9.m g10.m g11.m⟩ hS) O O fun v20 z20 _ ⟨cs20,hv20,hR20⟩=>?_
 obtain ⟨d0,d1,d2,d3,d4,d5,d6,d7,d8,d9,d10,d11,hcs,r0,r1,r2,r3,r4,r5,r6,r7,r8,r9,r10,r11⟩:=hR20
 subst hcs
 subst hv20
 refine uF fun b5=>?_
 refine Aa O O O O lR ?_
 refine lN ?_
 refine xR ?_
 refine J3 O mem0 O ?_
 refine lC O ?_
 refine lZ z20 (aSW (x:=x) (by omega) r0 r1 r2 r3 r4 r5 r6 r7 r8 r9 r10 r11 hS hy1 hy2) O O fun v24 z24 _ hm24=>?_
 obtain ⟨u0,n1,n2,P0,hv24,hS0,hR0⟩:=aWK hm24
 subst hv24
 refine R3 1137 O ?_
 refine dE (bQ ?_)
 refine eT (fun n fs=>∃ (t:Nat),LI z24 [.blk b5 (.cells 106 (kF x d0 d1 d2 d3 d4 d5 d6 d7 d8 d9 d10 d11)),.blk b2 (.cells 101 (kF x c0 c1 c2 c3 c4 c5 c6 c7 c8 c9 c10 c11))] [(1,Ai yr),(2,Ap b2),(5,Ap b5),(6,u0),(7,Bt n1),(8,Bt n2),(9,Az t)] fs∧n=2 - t∧(t≤2)) ?_ _ ⟨0,LI.m [] O,rfl,Nat.zero_le _⟩ (kK (by omega))
 intro n fs ⟨t,hL0,hmz0,ht⟩
 refine hL0.open fun e zl0 _=>?_
 refine R5 32 O ?_
 refine xD O (fun hc29=>?_) (fun hc29=>?_)
 ·refine dX ?_
  refine dE (bQ ?_)
  refine xR ?_
  refine J3 O Y1 O ?_
  refine lC O ?_
  refine lZ zl0 (aSS (x:=x) (by omega) g0.m g1.m g2.m g3.m g4.m g5.m g6.m g7.m g8.m g9.m g10.m g11.m hS hy1 hy2) O O fun v35 z35 _ hm35=>?_
  obtain ⟨u1,m1,m2,P1,hv35,hS1,hR1⟩:=aWK hm35
  subst hv35
  obtain ⟨e1,e2,e3⟩:=bTk hR0 hR1
  subst e1 e2 e3
  have hS1z:=hS1.mono kY
  refine R2 3697 O ?_
  refine lB O O D1 ?_
  refine R1 14 O ?_
  refine lD O ?_
  refine lB O O D1 ?_
  refine R1 30 O ?_
  refine lD O ?_
  refine lE z35 (aUy (by omega) hS1z hS0.m (bSE hS hR0)) O O fun z50 _=>?_
  refine R2 64 O ?_
  refine bEF (zA:=zl0) (zB:=z35) zI zI zI fun G zt hG _=>?_
  have hpl:=hS1.le
  refine R0 2 O ?_
  refine bQ ?_
  refine eT (fun n fs=>∃ (i:Nat) (G1:List HA),LI zt (.blk b5 (.cells 106 (kF x d0 d1 d2 d3 d4 d5 d6 d7 d8 d9 d10 d11))::.blk b2 (.cells 101 (kF x c0 c1 c2 c3 c4 c5 c6 c7 c8 c9 c10 c11))::G1) [(1,Ai yr),(2,Ap b2),(5,Ap b5),(6,u0),(7,Bt n1),(8,Bt n2),(9,Az t),(10,u1),(13,Az i)] fs∧n=P0.length - i∧(i≤P0.length)∧(GS (zd zl0 z35) G1)) ?_ _ ⟨0,G,LI.m [] O,rfl,Nat.zero_le _,hG⟩ (kK (by omega))
  intro n fs ⟨i,G1,hL1,hmz1,hi,hG1⟩
  refine hL1.open fun e zl1 _=>?_
  refine R4 24 O ?_
  refine cX O hS1 ?_
  refine R3 4 O ?_
  refine xD O (fun hc56=>?_) (fun hc56=>?_)
  ·refine dX ?_
   refine dE (bQ ?_)
   refine R4 4 O ?_
   obtain ⟨a,ha⟩:=vB (l:=P0) (i:=i) (by omega)
   obtain ⟨bL,oL,nL,csL,hu,hin,hat,hcl,hR⟩:=hS1.cs ha
   obtain ⟨qc,qd,hcs,q0,q1⟩:=hR
   subst hcs
   have hql:=q0.le
   refine R0 2 O ?_
   refine dE (bQ ?_)
   refine eT (fun n fs=>∃ (kk:Nat) (G2:List HA),LI zl1 (.blk b5 (.cells 106 (kF x d0 d1 d2 d3 d4 d5 d6 d7 d8 d9 d10 d11))::.blk b2 (.cells 101 (kF x c0 c1 c2 c3 c4 c5 c6 c7 c8 c9 c10 c11))::G2) [(1,Ai yr),(2,Ap b2),(5,Ap b5),(6,u0),(7,Bt n1),(8,Bt n2),(9,Az t),(10,u1),(13,Az i),(14,Az kk)] fs∧n=(toL (On a.1).num.natAbs).length - kk∧(kk≤(toL (On a.1).num.natAbs).length)∧(GS (zd zl0 z35) G2)) ?_ _ ⟨0,G1,LI.m [] O,rfl,Nat.zero_le _,hG1⟩ (kK (by omega))
   intro n fs ⟨kk,G2,hL2,hmz2,hkk,hG2⟩
   refine hL2.open fun e zl2 _=>?_
   refine R4 4 O ?_
   obtain ⟨tyL,c1L,hkL,hlL,hsL⟩:=hG2.at hat
   have hlL:oL+i * 10+10≤c1L.length:=hlL
   obtain ⟨w66,hw66,hr66⟩:=bOg 7 hsL rfl
   obtain ⟨l66,hl66,hn66⟩:=hr66.rowL q0
   refine R1 10 O ?_
   refine oP hu O i O hin ?_
   refine R1 8 O ?_
   refine mL (v:=.c w66) O (mX (mX hkL)) (by omega) (congrArg (Ek false) hw66) ?_
   refine cX O hl66 ?_
   refine R3 4 O ?_
   refine xD O (fun hc68=>?_) (fun hc68=>?_)
   ·refine dX ?_
    refine dE (bQ ?_)
    refine xG ?_
    refine R1 5 O ?_
    refine oP hu O i O hin ?_
    refine R1 8 O ?_
    refine mL (v:=.c w66) O (mX (mX hkL)) (by omega) (congrArg (Ek false) hw66) ?_
    refine lC O ?_
    refine eA O O hl66 kk O _ (List.getElem?_eq_getElem (by omega)) fun b79 p79 cs at79 hR79=>?_
    have hR79:cs=_:=hR79
    subst hR79
    refine aZi (p:=p79) (off:=0) O hG2 O O O at79 (Nat.le_refl _) (.cons (.i _ _ _) .nil) fun G3 hG3=>?_
    refine lN ?_
    refine iE ?_
    refine xG ?_
    refine lC O ?_
    refine lB O O (iW (n:=kk+1) (by omega) (by omega)) ?_
    refine R0 2 O ?_
    exact nN (by omega) ⟨kk+1,G3,LI.m [] O,rfl,by omega,hG3⟩
   refine eE ?_
   refine oC ?_
   refine iE ?_
   refine xG ?_
   refine R1 5 O ?_
   refine pR (cs:=[_,_,_,_,_,_,_,_,_,_]) O ?_
   refine oP hu O i O hin ?_
   refine aZi (p:=oL+i * 10) (off:=0) O hG2 O O O hat (Nat.le_refl _) (bDS q0 q1) fun G3 hG3=>?_
   refine lN ?_
   refine iE ?_
   refine xG ?_
   refine lC O ?_
   refine lB O O (iW (n:=i+1) (by omega) (by omega)) ?_
   refine R0 2 O ?_
   exact nN (by omega) ⟨i+1,G3,LI.m [] O,rfl,by omega,hG3⟩
  refine eE ?_
  refine oC ?_
  refine iE ?_
  refine xG ?_
  refine bHp (H':=[_,_]) (List.sublist_append_left [_,_] _) ?_
  refine lC O ?_
  refine lB O O (iW (n:=t+1) (by omega) (by omega)) ?_
  refine R0 2 O ?_
  exact nN (by omega) ⟨t+1,LI.m [] O,rfl,by omega⟩
 refine eE ?_
 refine oC ?_
 refine iE ?_
 refine jF ?_
 refine N3 (i:=⟨_,_,.load _ _ _⟩) O O F O (.inr Y1) O sR ?_
 refine gC zl0 (aOU (by omega) ⟨_,O,L9 g0.m g1.m g2.m g3.m g4.m g5.m g6.m g7.m g8.m g9.m g10.m g11.m⟩ hS) O O O O fun v85 z85 _ ⟨cs85,hv85,hR85⟩=>?_
 obtain ⟨f0,f1,f2,f3,f4,f5,f6,f7,f8,f9,f10,f11,hcs,s0,s1,s2,s3,s4,s5,s6,s7,s8,s9,s10,s11⟩:=hR85
 subst hcs
 subst hv85
 refine N3 (i:=⟨_,_,.load _ _ _⟩) O O F O (.inr mem0) O sR ?_
 refine gE z85 (bG9 (x:=x) (by omega) s0 s1 s2 s3 s4 s5 s6 s7 s8 s9 s10 s11 r0.m r1.m r2.m r3.m r4.m r5.m r6.m r7.m r8.m r9.m r10.m r11.m) O O O O fun z87 _=>?_
 refine G1 3 O ?_
 refine gE z87 (aWd (by omega)) O O O O fun z89 _=>?_
 refine G0 6 O ?_
 refine xT ?_
 refine rI O ?_
 rfl
end Go.Proofs.YtlceligcgelbdaaGreat

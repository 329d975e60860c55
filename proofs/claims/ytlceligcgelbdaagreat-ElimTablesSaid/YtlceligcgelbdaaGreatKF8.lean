/- The examples; the reference's filing; the law, walked. -/
import Derived.WalkKit
import Derived.Orders
import Derived.Test.YtlceligcgelbdaaGreatKF7
set_option linter.unusedVariables false
set_option linter.unusedSimpArgs false
set_option maxRecDepth 100000
set_option maxHeartbeats 1000000
namespace Go.Proofs.YtlceligcgelbdaaGreat
open Go.CE Go.RowKit Go.Num
open Go.Eng (kN)
def P0:PPr:=⟨[105],1,0,1,0,1,J4 (Rat.divInt 120 1)⟩
def LW:List PEn:=[⟨0,0,J4 ((-120:Int):Rat)⟩,⟨1,1,J4 ((-120:Int):Rat)⟩]
theorem bG9:∀ a,a∈[P0]→a.am.nm.length≤9000000∧a.am.dm.length≤9000000:=fun a ha=>by
 simp at ha;subst ha
 have hd:=Xs (a:=120) (b:=1) (by decide)
 exact ⟨Nat.le_trans (zH hd.1) (Nat.le_trans (m:=1) (pG.2 (by decide)) (by decide)),Nat.le_trans (zH (b:=((1:Int)).natAbs) (by rw [Int.natAbs_natCast];exact hd.2)) (Nat.le_trans (m:=1) (pG.2 (by decide)) (by decide))⟩
theorem bRU {z:dA} {b ty:Nat} {c d:C} (h:z b (.cells ty [Ci 0,Ci 0,Cb (decide ((((-120:Int):Rat)).num<0)),c,Cb (decide (((((-120:Int):Rat)).den:Int)<0)),d,Ci 1,Ci 1,Cb (decide ((((-120:Int):Rat)).num<0)),c,Cb (decide (((((-120:Int):Rat)).den:Int)<0)),d])) (h1:CZ 1 RW z c (toL (((-120:Int):Rat)).num.natAbs)) (h2:CZ 1 RW z d (toL ((((-120:Int):Rat)).den:Int).natAbs)):SZ 6 REn z (.c (.sl b 0 2 6)) LW:=
  CL.sz (l := LW) ⟨rfl, fun i a hi => match i, hi with
    | 0,hi=>by injection hi with hi;subst hi;exact ⟨rfl,c,d,rfl,h1,h2⟩
    | 1,hi=>by injection hi with hi;subst hi;exact ⟨rfl,c,d,rfl,h1,h2⟩
    | i+2,hi=>by simp [LW] at hi⟩ rfl (aU rfl) h
theorem bOo : -(rv P0.am)=((-120:Int):Rat):=by
 rw [show rv P0.am=Rat.divInt 120 1 from bFV _]
 decide +kernel
theorem bRn:xM [false,true] [P0]=[]:=by simp [xM,isB,P0]
theorem bRj {z:dA} {c:C} (h:CZ 6 REq z c (xM [true,true] [P0])):SZ 6 REn z (.c c) LW:=by
 have e:xM [true,true] [P0]=[(((0:Int),(0:Int)),-(rv P0.am)),((1,1),-(rv P0.am))]:=by simp [xM,isB,P0]
 rw [e,bOo] at h
 exact aSJ (f:=fun e:PEq=>(⟨e.1.1,e.1.2,J4 e.2⟩:PEn)) h fun cs e ⟨c,d,h1,h2,h3⟩=>⟨c,d,h1,h2,h3⟩
theorem Rk {k:Nat} (hk:14≤k) {z:dA}  : FC (E k) 13 [] z fun u _=>u=nE true:=by
 refine eA (bGZ) (by omega) (aU O) fun B j hj=>?_
 refine R4 8 O ?_
 refine lZ z (bGW (n:=120) (d:=1) (by omega) (by decide) (by decide) (by decide) (by decide) (by decide)) O O fun v5 z5 hz5 hv5=>?_
 have hv5:=yI hv5
 obtain ⟨c5,d5,hv,hm5,hn5⟩:=hv5
 subst hv
 refine mN (cs:=[Cs ⟨#[105]⟩,Cu 1,Ci 0,Ci 1,Ci 0,Ci 1,Cb (decide (((Rat.divInt 120 1):Rat).num<0)),c5,Cb (decide (((((Rat.divInt 120 1):Rat).den:Nat):Int)<0)),d5]) O ?_
 refine kC fun b1=>?_
 refine oI O O O O iW ?_
 refine lN ?_
 refine xR ?_
 refine cX (cs:=[Cb true,Cb true]) O fun b7=>?_
 refine yB z5 (p:=[]) O O O (fun _ h=>h) fun zff7 hzff7 f7=>?_
 refine lR O mem0 O ?_
 refine cX O fun b9=>?_
 refine yB zff7 (p:=[]) O O O (fun _ h=>h) fun zff9 hzff9 f9=>?_
 refine lZ zff9 (Ny (ms:=[true,true]) (l:=[P0]) (by omega) (CL.sz (Oe (e:=Value.bool) (l:=[true,true])) O (aU O) (zI _ _ f7)) (CL.sz (CL.one (R:=RPr) (a:=P0) O ⟨_,_,O,hm5.m,hn5.m⟩) O (aU O) f9) (aU O) bG9) O O fun v10 z10 hz10 ⟨c10,hv10,hk10⟩=>?_
 subst hv10
 refine R2 5 O ?_
 refine cX (cs:=[Cb false,Cb true]) O fun b11=>?_
 refine yB z10 (p:=[]) O O O (fun _ h=>h) fun zff11 hzff11 f11=>?_
 refine lR O mem0 O ?_
 refine cX O fun b13=>?_
 refine yB zff11 (p:=[]) O O O (fun _ h=>h) fun zff13 hzff13 f13=>?_
 refine lZ zff13 (Ny (ms:=[false,true]) (l:=[P0]) (by omega) (CL.sz (Oe (e:=Value.bool) (l:=[false,true])) O (aU O) (zI _ _ f11)) (CL.sz (CL.one (R:=RPr) (a:=P0) O ⟨_,_,O,hm5.m,hn5.m⟩) O (aU O) f13) (aU O) bG9) O O fun v14 z14 hz14 ⟨c14,hv14,hk14⟩=>?_
 subst hv14
 refine R2 5 O ?_
 refine lZ z14 (aTq (n := -120) (by omega) (by decide) (by decide)) O O fun v15 z15 _ hv15=>?_
 have hv15:=yI hv15
 obtain ⟨c15,d15,hv,hm15,hn15⟩:=hv15
 subst hv
 have hm15:=hm15.mono (qY (hz5.trans (hzff7.trans (hzff9.trans (hz10.trans (hzff11.trans (hzff13.trans hz14)))))))
 have hn15:=hn15.mono (qY (hz5.trans (hzff7.trans (hzff9.trans (hz10.trans (hzff11.trans (hzff13.trans hz14)))))))
 refine uM fun b4=>?_
 refine pA O O iW ?_
 refine lN ?_
 refine R4 6 O ?_
 refine sL O mem0 O ?_
 refine mN (cs:=[Ci 0,Ci 0,Cb (decide (((((-120:Int):Rat)):Rat).num<0)),c15,Cb (decide (((((((-120:Int):Rat)):Rat).den:Nat):Int)<0)),d15]) O ?_
 refine sL O mem0 O ?_
 refine mN (cs:=[Ci 1,Ci 1,Cb (decide (((((-120:Int):Rat)):Rat).num<0)),c15,Cb (decide (((((((-120:Int):Rat)):Rat).den:Nat):Int)<0)),d15]) O ?_
 refine cX (cs:=[Ci 0,Ci 0,Cb (decide (((((-120:Int):Rat)):Rat).num<0)),c15,Cb (decide (((((((-120:Int):Rat)):Rat).den:Nat):Int)<0)),d15,Ci 1,Ci 1,Cb (decide (((((-120:Int):Rat)):Rat).num<0)),c15,Cb (decide (((((((-120:Int):Rat)):Rat).den:Nat):Int)<0)),d15]) O fun b21=>?_
 refine yB z15 (p:=[]) O O O (fun _ h=>h) fun zff21 _ f21=>?_
 refine lE zff21 (aWE (l:=LW) (by omega) (bRj hk10.m) (bRU f21 hm15.m hn15.m)) O O fun z22 _=>?_
 refine R1 7 O ?_
 refine lD O ?_
 refine aS O hk14 ?_
 refine R0 12 O ?_
 refine xT ?_
 exact rI O (congrArg nE (decide_eq_true (by rw [bRn];rfl)))
open Go.CE Go.RowKit
theorem Et {k:Nat} (hk:2≤k) {z:dA} {v:AV} {x:qZ} (hx:AZ S5 z v x) (hb:Sm x):FC (E k) 61 [v] z fun v z=>AZ S5 z v x:=by
 obtain ⟨_,rfl,c0,c1,rfl,h0,h1⟩:=hx
 refine (aWk hk h0 h1 (by have:=hb.1;omega) (by have:=hb.2;omega)).mono fun v z' hz ⟨c,d,hv,m,n⟩=>?_
 exact ⟨_,hv,Dp (m.mono jF) (n.mono jF)⟩
theorem bGz {k:Nat} (hk:3≤k) {z:dA} {v:AV} {x:aGA} (hx:AZ Gk z v x) (hS:SmY x):FC (E k) 93 [v] z fun v z=>AZ Gk z v x:=by
 have e0:=hS.l0
 have e1:=hS.l1
 have e2:=hS.l2
 have e3:=hS.l3
 have e4:=hS.l4
 obtain ⟨_,rfl,cx_0,cx_1,cx_2,cx_3,cx_4,rfl,hx_0,hx_1,hx_2,hx_3,hx_4⟩:=hx
 refine eA (bFX) (by omega) (aU O) fun B j hj=>?_
 refine xR ?_
 refine aDN O O fun b1=>?_
 refine kC fun b2=>?_
 refine lN (xR (oW 332 5 (oW 328 9 (oW 220 10 (oW 324 6 (oW 320 6 (lF O (mQ (v:=Ai x.number) O (mC (mC Y4)) (aU O) O ?_))))))))
 refine He (cs:=[Ci x.number,Cz,Cz,Cz,Cz,Cz]) (by kernel_rfl) ?_
 refine kC fun b3=>?_
 refine vB (cs':=[Ci x.number,Cz,Cz,Cz,Cz,Cz]) O O O iW (by kernel_rfl) O (aU O) ?_
 refine lN (R5 12 O ?_)
 refine aT (aQ ?_)
 refine dX (fun n fs=>∃ (i0:Nat) (w0:C) (cs0:List C) (e:Lq) (zz:dA) (Hx:List HA),fs=⟨e,zz,Hx++[.blk b3 (.cells 215 [Ci x.number,w0,Cz,Cz,Cz,Cz]),.row (.c w0) 320 6 i0 cs0,.row (rC) 324 6 0 [],.row (rC) 220 10 0 [],.row (rC) 328 9 0 [],.row (rC) 332 5 0 [],.blk b2 (.cells 215 [Ci 0,Cz,Cz,Cz,Cz,Cz]),.blk b1 (.cells 134 [Ci x.number,cx_0,cx_1,cx_2,cx_3,cx_4])]⟩∧zle z zz∧Vx e [(1,Ap b1),(2,Ap b2),(3,Ap b3),(4,Ai (i0:Int))]∧n=x.holds.length - i0∧i0≤x.holds.length∧CL 6 aMF zz cs0 (x.holds.take i0)∧pO w0 w0=true) ?_ _ ⟨0,_,_,_,_,[],rfl,zle.refl _,(kM rfl (kM rfl (kM rfl (kM rfl Ez)))),rfl,Nat.zero_le _,CL.nil,rfl⟩ (kK (by omega))
 intro n fs hI
 obtain ⟨i0,w0,cs0,e,zl0,Hx,rfl,hzl0,hat,rfl,hi0,hcl0,hw0⟩:=hI
 refine zQ hat fun e=>?_
 refine uG (List.sublist_append_right _ _) (R4 20 O (mQ (v:=.c (cx_0)) O (mC (mC (mC Y4))) (aU O) O (aS O hx_0 (R3 4 O ?_))))
 refine jB O (fun hc20=>?_) (fun hc20=>?_)
 ·have hp20:=iF.1 hc20
  refine cP ?_
  refine aT (aQ ?_)
  refine R4 4 O (mQ (v:=.c (cx_0)) O (mC (mC (mC Y4))) (aU O) O (lM O ?_))
  obtain ⟨a26,ha26⟩:=pE (l:=x.holds) (i:=i0) (by omega)
  refine dE O O hx_0 i0 O a26 ha26 fun b26 p26 cs26 at26 hR26=>?_
  obtain ⟨c26_0,c26_1,rfl,h26_0,h26_1⟩:=hR26
  refine nQ (v:=.agg [Cs a26.owner,Cs a26.owned,Cb a26.share.n,c26_0,Cb a26.share.d,c26_1]) (off:=0) O (at26.mono (hzl0)) O (aU O) O ?_
  refine kC fun b5=>?_
  refine vB (cs':=[Cs a26.owner,Cs a26.owned,Cb a26.share.n,c26_0,Cb a26.share.d,c26_1]) O O O iW (by kernel_rfl) O (aU O) ?_
  refine lN (wC (gP O O F (R0 2 O (Me (v:=.c (w0)) O O (.inr Y1) O (aU O) O (gP O O F (R0 2 O (Me (v:=.c (Cs a26.owner)) O O (.inr mem0) O (aU O) O (gP O O F (R0 2 O (Me (v:=.c (Cs a26.owned)) O O (.inr mem0) O (aU O) O (gP O O F (R0 2 O (Me (v:=.agg (kR a26.share c26_0 c26_1)) O O (.inr mem0) O (aU O) O ?_)))))))))))))
  refine Bg (i:=⟨_,_,.call _ _⟩) O O F O O O (Et (by omega) ⟨_,O,Dp (h26_0.mono (hzl0)) (h26_1.mono (hzl0))⟩ (hS.r0 _ (List.mem_of_getElem? ha26))) fun v36 z36 _ ⟨_,hv36,c36_0,c36_1,hq36,h36_0,h36_1⟩=>?_
  subst hq36
  subst hv36
  refine gP O O F ?_
  refine He (cs:=[Cs a26.owner,Cs a26.owned,Cb a26.share.n,c36_0,Cb a26.share.d,c36_1]) (by kernel_rfl) ?_
  refine lN ?_
  refine wE (k:=.cells 320 [Cs a26.owner,Cs a26.owned,Cb a26.share.n,c36_0,Cb a26.share.d,c36_1]) (w:=fun b=>.c (.sl b 0 1 6)) rfl F rfl (fun _=>rfl) (fun st hst=>?_) (fun b38 hT38=>?_)
  ·simp only [eP,zB,AS.ev,hst 37 (by simp [lS.sl,Od.sls,Od.sl])];rfl
  refine Dm (i:=⟨_,_,.app _ _ _ _ _ _⟩) O F O O O O ?_
  refine mV O O mem0 O (fun _=>P3) (by omega) (by omega) fun w39 hw39=>?_
  have cl39:CL 6 aMF z36 _ ((x.holds.take i0)++[a26]):=CL.append hcl0.m (CL.one rfl (bK0 h36_0 h36_1))
  refine lN (gP O O F (R0 2 O (gS O O O ?_)))
  refine vB (cs':=[Ci x.number,w39,Cz,Cz,Cz,Cz]) O O O P2 (by kernel_rfl) O (aU O) ?_
  refine lN (mL (eT (xG (lM O (lB O O (tG (r:=((i0+1:Nat):Int)) (vF (by omega))) (R0 3 O ?_))))))
  exact mK (by omega) ⟨i0+1,_,_,_,_,[_,_],rfl,hzl0.trans zI,(kM rfl (kM rfl (kM rfl (kM rfl Ez)))),rfl,by omega,(by rw [← Ei ha26];exact cl39),hw39⟩
 have hp20:=sK iF hc20
 refine dH (nF (eT (R5 12 O ?_)))
 refine aT (aQ ?_)
 refine dX (fun n fs=>∃ (i1:Nat) (w1:C) (cs1:List C) (e:Lq) (zz:dA) (Hx:List HA),fs=⟨e,zz,Hx++[.blk b3 (.cells 215 [Ci x.number,w0,w1,Cz,Cz,Cz]),.row (.c w0) 320 6 i0 cs0,.row (.c w1) 324 6 i1 cs1,.row (rC) 220 10 0 [],.row (rC) 328 9 0 [],.row (rC) 332 5 0 [],.blk b2 (.cells 215 [Ci 0,Cz,Cz,Cz,Cz,Cz]),.blk b1 (.cells 134 [Ci x.number,cx_0,cx_1,cx_2,cx_3,cx_4])]⟩∧zle zl0 zz∧Vx e [(1,Ap b1),(2,Ap b2),(3,Ap b3),(6,Ai (i1:Int))]∧n=x.books.length - i1∧i1≤x.books.length∧CL 6 aMb zz cs1 (x.books.take i1)∧pO w1 w1=true) ?_ _ ⟨0,_,_,_,_,[],rfl,zle.refl _,(kM rfl (kM rfl (kM rfl (kM rfl Ez)))),rfl,Nat.zero_le _,CL.nil,rfl⟩ (kK (by omega))
 intro n fs hI
 obtain ⟨i1,w1,cs1,e,zl1,Hx,rfl,hzl1,hat,rfl,hi1,hcl1,hw1⟩:=hI
 refine zQ hat fun e=>?_
 refine uG (List.sublist_append_right _ _) (R4 20 O (mQ (v:=.c (cx_1)) O (mC (mC (mC Y4))) (aU O) O (aS O hx_1 (R3 4 O ?_))))
 refine jB O (fun hc45=>?_) (fun hc45=>?_)
 ·have hp45:=iF.1 hc45
  refine cP ?_
  refine aT (aQ ?_)
  refine R4 4 O (mQ (v:=.c (cx_1)) O (mC (mC (mC Y4))) (aU O) O (lM O ?_))
  obtain ⟨a51,ha51⟩:=pE (l:=x.books) (i:=i1) (by omega)
  refine dE O O hx_1 i1 O a51 ha51 fun b51 p51 cs51 at51 hR51=>?_
  obtain ⟨c51_0,c51_1,rfl,h51_0,h51_1⟩:=hR51
  refine nQ (v:=.agg [Cs a51.entity,Cs a51.cls,Cb a51.amount.n,c51_0,Cb a51.amount.d,c51_1]) (off:=0) O (at51.mono (hzl0.trans hzl1)) O (aU O) O ?_
  refine kC fun b7=>?_
  refine vB (cs':=[Cs a51.entity,Cs a51.cls,Cb a51.amount.n,c51_0,Cb a51.amount.d,c51_1]) O O O iW (by kernel_rfl) O (aU O) ?_
  refine lN (wC (gP O O F (R0 2 O (Me (v:=.c (w1)) O O (.inr Y1) O (aU O) O (gP O O F (R0 2 O (Me (v:=.c (Cs a51.entity)) O O (.inr mem0) O (aU O) O (gP O O F (R0 2 O (Me (v:=.c (Cs a51.cls)) O O (.inr mem0) O (aU O) O (gP O O F (R0 2 O (Me (v:=.agg (kR a51.amount c51_0 c51_1)) O O (.inr mem0) O (aU O) O ?_)))))))))))))
  refine Bg (i:=⟨_,_,.call _ _⟩) O O F O O O (Et (by omega) ⟨_,O,Dp (h51_0.mono (hzl0.trans hzl1)) (h51_1.mono (hzl0.trans hzl1))⟩ (hS.r1 _ (List.mem_of_getElem? ha51))) fun v61 z61 _ ⟨_,hv61,c61_0,c61_1,hq61,h61_0,h61_1⟩=>?_
  subst hq61
  subst hv61
  refine gP O O F ?_
  refine He (cs:=[Cs a51.entity,Cs a51.cls,Cb a51.amount.n,c61_0,Cb a51.amount.d,c61_1]) (by kernel_rfl) ?_
  refine lN ?_
  refine wE (k:=.cells 324 [Cs a51.entity,Cs a51.cls,Cb a51.amount.n,c61_0,Cb a51.amount.d,c61_1]) (w:=fun b=>.c (.sl b 0 1 6)) rfl F rfl (fun _=>rfl) (fun st hst=>?_) (fun b63 hT63=>?_)
  ·simp only [eP,zB,AS.ev,hst 62 (by simp [lS.sl,Od.sls,Od.sl])];rfl
  refine Dm (i:=⟨_,_,.app _ _ _ _ _ _⟩) O F O O O O ?_
  refine mV O O mem0 O (fun _=>(mR P3)) (by omega) (by omega) fun w64 hw64=>?_
  have cl64:CL 6 aMb z61 _ ((x.books.take i1)++[a51]):=CL.append hcl1.m (CL.one rfl (bKr h61_0 h61_1))
  refine lN (gP O O F (R0 2 O (gS O O O ?_)))
  refine vB (cs':=[Ci x.number,w0,w64,Cz,Cz,Cz]) O O O P2 (by kernel_rfl) O (aU O) ?_
  refine lN (mL (eT (xG (lM O (lB O O (tG (r:=((i1+1:Nat):Int)) (vF (by omega))) (R0 3 O ?_))))))
  exact mK (by omega) ⟨i1+1,_,_,_,_,[_,_],rfl,hzl1.trans zI,(kM rfl (kM rfl (kM rfl (kM rfl Ez)))),rfl,by omega,(by rw [← Ei ha51];exact cl64),hw64⟩
 have hp45:=sK iF hc45
 refine dH (nF (eT (R5 12 O ?_)))
 refine aT (aQ ?_)
 refine dX (fun n fs=>∃ (i2:Nat) (w2:C) (cs2:List C) (e:Lq) (zz:dA) (Hx:List HA),fs=⟨e,zz,Hx++[.blk b3 (.cells 215 [Ci x.number,w0,w1,w2,Cz,Cz]),.row (.c w0) 320 6 i0 cs0,.row (.c w1) 324 6 i1 cs1,.row (.c w2) 220 10 i2 cs2,.row (rC) 328 9 0 [],.row (rC) 332 5 0 [],.blk b2 (.cells 215 [Ci 0,Cz,Cz,Cz,Cz,Cz]),.blk b1 (.cells 134 [Ci x.number,cx_0,cx_1,cx_2,cx_3,cx_4])]⟩∧zle zl1 zz∧Vx e [(1,Ap b1),(2,Ap b2),(3,Ap b3),(8,Ai (i2:Int))]∧n=x.deals.length - i2∧i2≤x.deals.length∧CL 10 aGn zz cs2 (x.deals.take i2)∧pO w2 w2=true) ?_ _ ⟨0,_,_,_,_,[],rfl,zle.refl _,(kM rfl (kM rfl (kM rfl (kM rfl Ez)))),rfl,Nat.zero_le _,CL.nil,rfl⟩ (kK (by omega))
 intro n fs hI
 obtain ⟨i2,w2,cs2,e,zl2,Hx,rfl,hzl2,hat,rfl,hi2,hcl2,hw2⟩:=hI
 refine zQ hat fun e=>?_
 refine uG (List.sublist_append_right _ _) (R4 20 O (mQ (v:=.c (cx_2)) O (mC (mC (mC Y4))) (aU O) O (aS O hx_2 (R3 4 O ?_))))
 refine jB O (fun hc70=>?_) (fun hc70=>?_)
 ·have hp70:=iF.1 hc70
  refine cP ?_
  refine aT (aQ ?_)
  refine R4 4 O (mQ (v:=.c (cx_2)) O (mC (mC (mC Y4))) (aU O) O (lM O ?_))
  obtain ⟨a76,ha76⟩:=pE (l:=x.deals) (i:=i2) (by omega)
  refine dE O O hx_2 i2 O a76 ha76 fun b76 p76 cs76 at76 hR76=>?_
  obtain ⟨c76_0,c76_1,rfl,h76_0,h76_1⟩:=hR76
  refine nQ (v:=.agg [Cb a76.give,Cs a76.id,Cu a76.kind,Cs a76.payee,Cs a76.payer,Cs a76.cls,Cb a76.amount.n,c76_0,Cb a76.amount.d,c76_1]) (off:=0) O (at76.mono (hzl0.trans (hzl1.trans hzl2))) O (aU O) O ?_
  refine kC fun b9=>?_
  refine vB (cs':=[Cb a76.give,Cs a76.id,Cu a76.kind,Cs a76.payee,Cs a76.payer,Cs a76.cls,Cb a76.amount.n,c76_0,Cb a76.amount.d,c76_1]) O O O iW (by kernel_rfl) O (aU O) ?_
  refine lN (wC (gP O O F (R0 2 O (Me (v:=.c (w2)) O O (.inr Y1) O (aU O) O (gP O O F (R0 2 O (Me (v:=Ab a76.give) O O (.inr mem0) O (aU O) O (gP O O F (R0 2 O (Me (v:=.c (Cs a76.id)) O O (.inr mem0) O (aU O) O (gP O O F (R0 2 O (Me (v:=.c (Cu a76.kind)) O O (.inr mem0) O (aU O) O (gP O O F (R0 2 O ?_)))))))))))))))
  refine Me (v:=.c (Cs a76.payee)) O O (.inr mem0) O (aU O) O (gP O O F (R0 2 O (Me (v:=.c (Cs a76.payer)) O O (.inr mem0) O (aU O) O (gP O O F (R0 2 O (Me (v:=.c (Cs a76.cls)) O O (.inr mem0) O (aU O) O (gP O O F (R0 2 O (Me (v:=.agg (kR a76.amount c76_0 c76_1)) O O (.inr mem0) O (aU O) O ?_)))))))))
  refine Bg (i:=⟨_,_,.call _ _⟩) O O F O O O (Et (by omega) ⟨_,O,Dp (h76_0.mono (hzl0.trans (hzl1.trans hzl2))) (h76_1.mono (hzl0.trans (hzl1.trans hzl2)))⟩ (hS.r2 _ (List.mem_of_getElem? ha76))) fun v94 z94 _ ⟨_,hv94,c94_0,c94_1,hq94,h94_0,h94_1⟩=>?_
  subst hq94
  subst hv94
  refine gP O O F ?_
  refine He (cs:=[Cb a76.give,Cs a76.id,Cu a76.kind,Cs a76.payee,Cs a76.payer,Cs a76.cls,Cb a76.amount.n,c94_0,Cb a76.amount.d,c94_1]) (by kernel_rfl) ?_
  refine lN ?_
  refine wE (k:=.cells 220 [Cb a76.give,Cs a76.id,Cu a76.kind,Cs a76.payee,Cs a76.payer,Cs a76.cls,Cb a76.amount.n,c94_0,Cb a76.amount.d,c94_1]) (w:=fun b=>.c (.sl b 0 1 10)) rfl F rfl (fun _=>rfl) (fun st hst=>?_) (fun b96 hT96=>?_)
  ·simp only [eP,zB,AS.ev,hst 95 (by simp [lS.sl,Od.sls,Od.sl])];rfl
  refine Dm (i:=⟨_,_,.app _ _ _ _ _ _⟩) O F O O O O ?_
  refine mV O O mem0 O (fun _=>(mR (mR P3))) (by omega) (by omega) fun w97 hw97=>?_
  have cl97:CL 10 aGn z94 _ ((x.deals.take i2)++[a76]):=CL.append hcl2.m (CL.one rfl (bJY h94_0 h94_1))
  refine lN (gP O O F (R0 2 O (gS O O O ?_)))
  refine vB (cs':=[Ci x.number,w0,w1,w97,Cz,Cz]) O O O P2 (by kernel_rfl) O (aU O) ?_
  refine lN (mL (eT (xG (lM O (lB O O (tG (r:=((i2+1:Nat):Int)) (vF (by omega))) (R0 3 O ?_))))))
  exact mK (by omega) ⟨i2+1,_,_,_,_,[_,_],rfl,hzl2.trans zI,(kM rfl (kM rfl (kM rfl (kM rfl Ez)))),rfl,by omega,(by rw [← Ei ha76];exact cl97),hw97⟩
 have hp70:=sK iF hc70
 refine dH (nF (eT (R5 12 O ?_)))
 refine aT (aQ ?_)
 refine dX (fun n fs=>∃ (i3:Nat) (w3:C) (cs3:List C) (e:Lq) (zz:dA) (Hx:List HA),fs=⟨e,zz,Hx++[.blk b3 (.cells 215 [Ci x.number,w0,w1,w2,w3,Cz]),.row (.c w0) 320 6 i0 cs0,.row (.c w1) 324 6 i1 cs1,.row (.c w2) 220 10 i2 cs2,.row (.c w3) 328 9 i3 cs3,.row (rC) 332 5 0 [],.blk b2 (.cells 215 [Ci 0,Cz,Cz,Cz,Cz,Cz]),.blk b1 (.cells 134 [Ci x.number,cx_0,cx_1,cx_2,cx_3,cx_4])]⟩∧zle zl2 zz∧Vx e [(1,Ap b1),(2,Ap b2),(3,Ap b3),(10,Ai (i3:Int))]∧n=x.stocks.length - i3∧i3≤x.stocks.length∧CL 9 aDq zz cs3 (x.stocks.take i3)∧pO w3 w3=true) ?_ _ ⟨0,_,_,_,_,[],rfl,zle.refl _,(kM rfl (kM rfl (kM rfl (kM rfl Ez)))),rfl,Nat.zero_le _,CL.nil,rfl⟩ (kK (by omega))
 intro n fs hI
 obtain ⟨i3,w3,cs3,e,zl3,Hx,rfl,hzl3,hat,rfl,hi3,hcl3,hw3⟩:=hI
 refine zQ hat fun e=>?_
 refine uG (List.sublist_append_right _ _) (R4 20 O (mQ (v:=.c (cx_3)) O (mC (mC (mC Y4))) (aU O) O (aS O hx_3 (R3 4 O ?_))))
 refine jB O (fun hc103=>?_) (fun hc103=>?_)
 ·have hp103:=iF.1 hc103
  refine cP ?_
  refine aT (aQ ?_)
  refine R4 4 O (mQ (v:=.c (cx_3)) O (mC (mC (mC Y4))) (aU O) O (lM O ?_))
  obtain ⟨a109,ha109⟩:=pE (l:=x.stocks) (i:=i3) (by omega)
  refine dE O O hx_3 i3 O a109 ha109 fun b109 p109 cs109 at109 hR109=>?_
  obtain ⟨c109_0,c109_1,c109_2,c109_3,rfl,h109_0,h109_1,h109_2,h109_3⟩:=hR109
  refine nQ (v:=.agg [Cs a109.id,Cb a109.margin.n,c109_0,Cb a109.margin.d,c109_1,Cb a109.unsold.n,c109_2,Cb a109.unsold.d,c109_3]) (off:=0) O (at109.mono (hzl0.trans (hzl1.trans (hzl2.trans hzl3)))) O (aU O) O ?_
  refine kC fun b11=>?_
  refine vB (cs':=[Cs a109.id,Cb a109.margin.n,c109_0,Cb a109.margin.d,c109_1,Cb a109.unsold.n,c109_2,Cb a109.unsold.d,c109_3]) O O O iW (by kernel_rfl) O (aU O) ?_
  refine lN (wC (gP O O F (R0 2 O (Me (v:=.c (w3)) O O (.inr Y1) O (aU O) O (gP O O F (R0 2 O (Me (v:=.c (Cs a109.id)) O O (.inr mem0) O (aU O) O (gP O O F (R0 2 O (Me (v:=.agg (kR a109.margin c109_0 c109_1)) O O (.inr mem0) O (aU O) O ?_))))))))))
  refine Bg (i:=⟨_,_,.call _ _⟩) O O F O O O (Et (by omega) ⟨_,O,Dp (h109_0.mono (hzl0.trans (hzl1.trans (hzl2.trans hzl3)))) (h109_1.mono (hzl0.trans (hzl1.trans (hzl2.trans hzl3))))⟩ (hS.r3 _ (List.mem_of_getElem? ha109))) fun v117 z117 _ ⟨_,hv117,c117_0,c117_1,hq117,h117_0,h117_1⟩=>?_
  subst hq117
  subst hv117
  refine gP O O F (R0 2 O (Me (v:=.agg (kR a109.unsold c109_2 c109_3)) O O (.inr mem0) O (aU O) O ?_))
  refine Bg (i:=⟨_,_,.call _ _⟩) O O F O O O (Et (by omega) ⟨_,O,Dp (h109_2.mono (hzl0.trans (hzl1.trans (hzl2.trans (hzl3.trans zI))))) (h109_3.mono (hzl0.trans (hzl1.trans (hzl2.trans (hzl3.trans zI)))))⟩ (hS.r3' _ (List.mem_of_getElem? ha109))) fun v120 z120 _ ⟨_,hv120,c120_0,c120_1,hq120,h120_0,h120_1⟩=>?_
  subst hq120
  subst hv120
  refine gP O O F ?_
  refine He (cs:=[Cs a109.id,Cb a109.margin.n,c117_0,Cb a109.margin.d,c117_1,Cb a109.unsold.n,c120_0,Cb a109.unsold.d,c120_1]) (by kernel_rfl) ?_
  refine lN ?_
  refine wE (k:=.cells 328 [Cs a109.id,Cb a109.margin.n,c117_0,Cb a109.margin.d,c117_1,Cb a109.unsold.n,c120_0,Cb a109.unsold.d,c120_1]) (w:=fun b=>.c (.sl b 0 1 9)) rfl F rfl (fun _=>rfl) (fun st hst=>?_) (fun b122 hT122=>?_)
  ·simp only [eP,zB,AS.ev,hst 121 (by simp [lS.sl,Od.sls,Od.sl])];rfl
  refine Dm (i:=⟨_,_,.app _ _ _ _ _ _⟩) O F O O O O ?_
  refine mV O O mem0 O (fun _=>(mR (mR (mR P3)))) (by omega) (by omega) fun w123 hw123=>?_
  have cl123:CL 9 aDq z120 _ ((x.stocks.take i3)++[a109]):=CL.append hcl3.m (CL.one rfl (bFO h117_0.m h117_1.m h120_0 h120_1))
  refine lN (gP O O F (R0 2 O (gS O O O ?_)))
  refine vB (cs':=[Ci x.number,w0,w1,w2,w123,Cz]) O O O P2 (by kernel_rfl) O (aU O) ?_
  refine lN (mL (eT (xG (lM O (lB O O (tG (r:=((i3+1:Nat):Int)) (vF (by omega))) (R0 3 O ?_))))))
  exact mK (by omega) ⟨i3+1,_,_,_,_,[_,_],rfl,hzl3.trans zI,(kM rfl (kM rfl (kM rfl (kM rfl Ez)))),rfl,by omega,(by rw [← Ei ha109];exact cl123),hw123⟩
 have hp103:=sK iF hc103
 refine dH (nF (eT (R5 12 O ?_)))
 refine aT (aQ ?_)
 refine dX (fun n fs=>∃ (i4:Nat) (w4:C) (cs4:List C) (e:Lq) (zz:dA) (Hx:List HA),fs=⟨e,zz,Hx++[.blk b3 (.cells 215 [Ci x.number,w0,w1,w2,w3,w4]),.row (.c w0) 320 6 i0 cs0,.row (.c w1) 324 6 i1 cs1,.row (.c w2) 220 10 i2 cs2,.row (.c w3) 328 9 i3 cs3,.row (.c w4) 332 5 i4 cs4,.blk b2 (.cells 215 [Ci 0,Cz,Cz,Cz,Cz,Cz]),.blk b1 (.cells 134 [Ci x.number,cx_0,cx_1,cx_2,cx_3,cx_4])]⟩∧zle zl3 zz∧Vx e [(1,Ap b1),(2,Ap b2),(3,Ap b3),(12,Ai (i4:Int))]∧n=x.solds.length - i4∧i4≤x.solds.length∧CL 5 aLV zz cs4 (x.solds.take i4)∧pO w4 w4=true) ?_ _ ⟨0,_,_,_,_,[],rfl,zle.refl _,(kM rfl (kM rfl (kM rfl (kM rfl Ez)))),rfl,Nat.zero_le _,CL.nil,rfl⟩ (kK (by omega))
 intro n fs hI
 obtain ⟨i4,w4,cs4,e,zl4,Hx,rfl,hzl4,hat,rfl,hi4,hcl4,hw4⟩:=hI
 refine zQ hat fun e=>?_
 refine uG (List.sublist_append_right _ _) (R4 20 O (mQ (v:=.c (cx_4)) O (mC (mC (mC Y4))) (aU O) O (aS O hx_4 (R3 4 O ?_))))
 refine jB O (fun hc129=>?_) (fun hc129=>?_)
 ·have hp129:=iF.1 hc129
  refine cP ?_
  refine aT (aQ ?_)
  refine wC (gP O O F (R0 2 O (Me (v:=.c (w4)) O O (.inr mem0) O (aU O) O (gP O O F (R0 2 O (Me (v:=.c (cx_4)) O O (.inr (mC (mC (mC Y4)))) O (aU O) O (gP O O F (R0 3 O ?_))))))))
  obtain ⟨a137,ha137⟩:=pE (l:=x.solds) (i:=i4) (by omega)
  refine gP O O F ?_
  refine dE O O hx_4 i4 O a137 ha137 fun b137 p137 cs137 at137 hR137=>?_
  refine lN ?_
  obtain ⟨c137_0,c137_1,rfl,h137_0,h137_1⟩:=hR137
  refine gP O O F (R0 2 O (glA (v:=.c (Cs a137.id)) (off:=0) O O at137 (fun _ _ h=>.inl ((hzl0.trans (hzl1.trans (hzl2.trans (hzl3.trans (hzl4))))) _ _ h)) O (aU O) O (gP rfl rfl F (R0 2 O (Me (v:=.c (cx_4)) O O (.inr (mC (mC (mC Y4)))) O (aU O) O (gP rfl rfl F (R0 3 O (gP rfl rfl F ?_))))))))
  refine dE O O hx_4 i4 O a137 ha137 fun b143 p143 cs143 at143 hR143=>?_
  refine lN ?_
  obtain ⟨c143_0,c143_1,rfl,h143_0,h143_1⟩:=hR143
  refine gP O O F (R0 2 O (glA (v:=.agg (kR a137.share c143_0 c143_1)) (off:=1) O O at143 (fun _ _ h=>.inl ((hzl0.trans (hzl1.trans (hzl2.trans (hzl3.trans (hzl4))))) _ _ h)) O (aU O) O ?_))
  refine Bg (i:=⟨_,_,.call _ _⟩) O O F O O O (Et (by omega) ⟨_,O,Dp (h143_0.mono (hzl0.trans (hzl1.trans (hzl2.trans (hzl3.trans hzl4))))) (h143_1.mono (hzl0.trans (hzl1.trans (hzl2.trans (hzl3.trans hzl4)))))⟩ (hS.r4 _ (List.mem_of_getElem? ha137))) fun v146 z146 _ ⟨_,hv146,c146_0,c146_1,hq146,h146_0,h146_1⟩=>?_
  subst hq146
  subst hv146
  refine gP O O F ?_
  refine He (cs:=[Cs a137.id,Cb a137.share.n,c146_0,Cb a137.share.d,c146_1]) (by kernel_rfl) ?_
  refine lN ?_
  refine wE (k:=.cells 332 [Cs a137.id,Cb a137.share.n,c146_0,Cb a137.share.d,c146_1]) (w:=fun b=>.c (.sl b 0 1 5)) rfl F rfl (fun _=>rfl) (fun st hst=>?_) (fun b148 hT148=>?_)
  ·simp only [eP,zB,AS.ev,hst 147 (by simp [lS.sl,Od.sls,Od.sl])];rfl
  refine Dm (i:=⟨_,_,.app _ _ _ _ _ _⟩) O F O O O O ?_
  refine mV O O mem0 O (fun _=>(mR (mR (mR P3)))) (by omega) (by omega) fun w149 hw149=>?_
  have cl149:CL 5 aLV z146 _ ((x.solds.take i4)++[a137]):=CL.append hcl4.m (CL.one rfl (bLe h146_0 h146_1))
  refine lN (gP O O F (R0 2 O (gS O O O ?_)))
  refine vB (cs':=[Ci x.number,w0,w1,w2,w3,w149]) O O O P1 (by kernel_rfl) O (aU O) ?_
  refine lN (mL (eT (xG (lM O (lB O O (tG (r:=((i4+1:Nat):Int)) (vF (by omega))) (R0 3 O ?_))))))
  exact mK (by omega) ⟨i4+1,_,_,_,_,[_],rfl,hzl4.trans zI,(kM rfl (kM rfl (kM rfl (kM rfl Ez)))),rfl,by omega,(by rw [← Ei ha137];exact cl149),hw149⟩
 have hp129:=sK iF hc129
 refine dH (nF (eT (xR (mQ (v:=.agg [Ci x.number,w0,w1,w2,w3,w4]) O mem0 (aU O) O ?_))))
 refine vB (cs':=[Ci x.number,w0,w1,w2,w3,w4]) O O O (mR (mR (mR P3))) (by kernel_rfl) O (aU O) ?_
 refine lN ?_
 refine Bd (p:=[_]) O (hcl0.mono (hzl1.trans (hzl2.trans (hzl3.trans hzl4)))) (by rw [List.length_take];omega) (by omega) fun zfr06 _ hszfr06=>?_
 rw [uD (l:=x.holds) (by omega)] at hszfr06
 refine Bd (p:=[_]) O (hcl1.mono (hzl2.trans (hzl3.trans (hzl4.trans zI)))) (by rw [List.length_take];omega) (by omega) fun zfr17 _ hszfr17=>?_
 rw [uD (l:=x.books) (by omega)] at hszfr17
 refine Bd (p:=[_]) O (hcl2.mono (hzl3.trans (hzl4.trans zI))) (by rw [List.length_take];omega) (by omega) fun zfr28 _ hszfr28=>?_
 rw [uD (l:=x.deals) (by omega)] at hszfr28
 refine Bd (p:=[_]) O (hcl3.mono (hzl4.trans zI)) (by rw [List.length_take];omega) (by omega) fun zfr39 _ hszfr39=>?_
 rw [uD (l:=x.stocks) (by omega)] at hszfr39
 refine Bd (p:=[_]) O hcl4.m (by rw [List.length_take];omega) (by omega) fun zfr410 _ hszfr410=>?_
 rw [uD (l:=x.solds) (by omega)] at hszfr410
 refine xT (rQ (.inl O) (rc O Y1 (aU O) O rn) ?_)
 exact ⟨_,rfl,aWh hszfr06.m hszfr17.m hszfr28.m hszfr39.m hszfr410⟩
open Go.CE Go.RowKit
theorem aZ2 {k:Nat} (hk:4≤k) {z:dA} {v:AV} {x:oK} (hx:AZ Pm z v x) (hS:SmF x):FC (E k) 43 [v] z fun v z=>AZ Pm z v x:=by
 have e0:=hS.l0
 have e1:=hS.l1
 have e2:=hS.l2
 have e3:=hS.l3
 obtain ⟨_,rfl,cx_0,cx_1,cx_2,cx_3,cx_4,cx_5,cx_6,cx_7,cx_8,cx_9,cx_10,cx_11,rfl,hx_0,hx_1,hx_2,hx_3,hx_4,hx_5,hx_6,hx_7,hx_8,hx_9,hx_10,hx_11⟩:=hx
 refine eA (bHy) (by omega) (aU O) fun B j hj=>?_
 refine xR ?_
 refine aDN O O fun b1=>?_
 refine kC fun b2=>?_
 refine lN (iN (gP O O F (R0 2 O (Me (v:=.c (Cs x.name)) O O (.inr Y1) O (aU O) O (gP O O F (R0 2 O (Me (v:=.c (Cs x.parent)) O O (.inr Y1) O (aU O) O (gP O O F (R0 2 O (Me (v:=.agg (kR x.threshold cx_1 cx_2)) O O (.inr Y1) O (aU O) O ?_))))))))))
 refine Bg (i:=⟨_,_,.call _ _⟩) O O F O O O (Et (by omega) ⟨_,O,Dp hx_1 hx_2⟩ hS.t) fun v14 z14 hz14 ⟨_,hv14,c14_0,c14_1,hq14,h14_0,h14_1⟩=>?_
 subst hq14
 subst hv14
 refine gP O O F (R0 2 O (Me (v:=.agg (kR x.cap cx_3 cx_4)) O O (.inr Y1) O (aU O) O ?_))
 refine Bg (i:=⟨_,_,.call _ _⟩) O O F O O O (Et (by omega) ⟨_,O,Dp hx_3.m hx_4.m⟩ hS.c) fun v17 z17 hz17 ⟨_,hv17,c17_0,c17_1,hq17,h17_0,h17_1⟩=>?_
 subst hq17
 subst hv17
 refine gP O O F (R0 2 O (Me (v:=Ai x.back) O O (.inr Y1) O (aU O) O (gP O O F (R0 2 O (Me (v:=Ai x.forward) O O (.inr Y1) O (aU O) O (gP O O F (R0 2 O (Me (v:=.agg (kR x.interest cx_5 cx_6)) O O (.inr Y1) O (aU O) O ?_))))))))
 refine Bg (i:=⟨_,_,.call _ _⟩) O O F O O O (Et (by omega) ⟨_,O,Dp hx_5.m hx_6.m⟩ hS.i) fun v24 z24 hz24 ⟨_,hv24,c24_0,c24_1,hq24,h24_0,h24_1⟩=>?_
 subst hq24
 subst hv24
 refine gP O O F (R0 2 O (Me (v:=.agg (kR x.floor cx_7 cx_8)) O O (.inr Y1) O (aU O) O ?_))
 refine Bg (i:=⟨_,_,.call _ _⟩) O O F O O O (Et (by omega) ⟨_,O,Dp hx_7.m hx_8.m⟩ hS.g) fun v27 z27 hz27 ⟨_,hv27,c27_0,c27_1,hq27,h27_0,h27_1⟩=>?_
 subst hq27
 subst hv27
 refine gP O O F (R0 2 O (Me (v:=Ai x.keep) O O (.inr Y1) O (aU O) O (gP O O F ?_)))
 refine He (cs:=[Cs x.name,Cs x.parent,Cz,Cb x.threshold.n,c14_0,Cb x.threshold.d,c14_1,Cb x.cap.n,c17_0,Cb x.cap.d,c17_1,Ci x.back,Ci x.forward,Cb x.interest.n,c24_0,Cb x.interest.d,c24_1,Cb x.floor.n,c27_0,Cb x.floor.d,c27_1,Ci x.keep,Cz,Cz,Cz]) (by kernel_rfl) ?_
 refine lN ?_
 refine wE (k:=.cells 106 [(Cs ⟨#[]⟩),(Cs ⟨#[]⟩),Cz,Cb false,Cz,Cb false,Cz,Cb false,Cz,Cb false,Cz,Ci 0,Ci 0,Cb false,Cz,Cb false,Cz,Cb false,Cz,Cb false,Cz,Ci 0,Cz,Cz,Cz]) (w:=fun b=>Ap b) rfl F rfl (fun _=>rfl) (fun st hst=>?_) (fun b3 hT3=>?_)
 ·simp only [eP,zB,AS.ev];rfl
 refine gS O O O ?_
 refine vB (cs':=[Cs x.name,Cs x.parent,Cz,Cb x.threshold.n,c14_0,Cb x.threshold.d,c14_1,Cb x.cap.n,c17_0,Cb x.cap.d,c17_1,Ci x.back,Ci x.forward,Cb x.interest.n,c24_0,Cb x.interest.d,c24_1,Cb x.floor.n,c27_0,Cb x.floor.d,c27_1,Ci x.keep,Cz,Cz,Cz]) O O O iW (by kernel_rfl) O (aU O) ?_
 refine lN (mL (xR (oW 215 6 (oW 9 1 (oW 168 6 (oW 208 8 (lF O (mQ (v:=.c Cz) O Y4 (aU O) O (lF O (mQ (v:=.c (cx_10)) O (mC (mC Y4)) (aU O) O ?_))))))))))
 refine aWt O O hx_10.m (fun _ _=>P2) (by omega) (by omega) fun w35 hw35 nw35 hn35=>?_
 have cl35:CL 1 RS z27 _ ([]++x.entities):=CL.append CL.nil hn35
 refine lF O ?_
 refine vB (cs':=[Cs x.name,Cs x.parent,Cz,Cb x.threshold.n,c14_0,Cb x.threshold.d,c14_1,Cb x.cap.n,c17_0,Cb x.cap.d,c17_1,Ci x.back,Ci x.forward,Cb x.interest.n,c24_0,Cb x.interest.d,c24_1,Cb x.floor.n,c27_0,Cb x.floor.d,c27_1,Ci x.keep,Cz,w35,Cz]) O O O (mR P3) (by kernel_rfl) O (aU O) ?_
 refine lN (R5 12 O ?_)
 refine aT (aQ ?_)
 refine dX (fun n fs=>∃ (i0:Nat) (w0:C) (cs0:List C) (e:Lq) (zz:dA) (Hx:List HA),fs=⟨e,zz,Hx++[.row (.c w0) 208 8 i0 cs0,.row (rC) 168 6 0 [],.row (.c w35) 9 1 (0+x.entities.length) ([]++nw35),.row (rC) 215 6 0 [],.blk b3 (.cells 106 [Cs x.name,Cs x.parent,w0,Cb x.threshold.n,c14_0,Cb x.threshold.d,c14_1,Cb x.cap.n,c17_0,Cb x.cap.d,c17_1,Ci x.back,Ci x.forward,Cb x.interest.n,c24_0,Cb x.interest.d,c24_1,Cb x.floor.n,c27_0,Cb x.floor.d,c27_1,Ci x.keep,Cz,w35,Cz]),.blk b2 (.cells 106 [(Cs ⟨#[]⟩),(Cs ⟨#[]⟩),Cz,Cb false,Cz,Cb false,Cz,Cb false,Cz,Cb false,Cz,Ci 0,Ci 0,Cb false,Cz,Cb false,Cz,Cb false,Cz,Cb false,Cz,Ci 0,Cz,Cz,Cz]),.blk b1 (.cells 101 (kF x cx_0 cx_1 cx_2 cx_3 cx_4 cx_5 cx_6 cx_7 cx_8 cx_9 cx_10 cx_11))]⟩∧zle z27 zz∧Vx e [(1,Ap b1),(2,Ap b2),(3,Ap b3),(4,Ai (i0:Int))]∧n=x.brackets.length - i0∧i0≤x.brackets.length∧CL 8 tI zz cs0 (x.brackets.take i0)∧pO w0 w0=true) ?_ _ ⟨0,_,_,_,_,[],rfl,zle.refl _,(kM rfl (kM rfl (kM rfl (kM rfl Ez)))),rfl,Nat.zero_le _,CL.nil,rfl⟩ (kK (by omega))
 intro n fs hI
 obtain ⟨i0,w0,cs0,e,zl0,Hx,rfl,hzl0,hat,rfl,hi0,hcl0,hw0⟩:=hI
 refine zQ hat fun e=>?_
 refine uG (List.sublist_append_right _ _) (R4 20 O (mQ (v:=.c (cx_0)) O (mC (mC Y4)) (aU O) O (aS O hx_0 (R3 4 O ?_))))
 refine jB O (fun hc41=>?_) (fun hc41=>?_)
 ·have hp41:=iF.1 hc41
  refine cP ?_
  refine aT (aQ ?_)
  refine wC (gP O O F (R0 2 O (Me (v:=.c (w0)) O O (.inr Y4) O (aU O) O (gP O O F (R0 2 O (Me (v:=.c (cx_0)) O O (.inr (mC (mC Y4))) O (aU O) O (gP O O F (R0 3 O ?_))))))))
  obtain ⟨a49,ha49⟩:=pE (l:=x.brackets) (i:=i0) (by omega)
  refine gP O O F ?_
  refine dE O O hx_0 i0 O a49 ha49 fun b49 p49 cs49 at49 hR49=>?_
  refine lN ?_
  obtain ⟨c49_0,c49_1,c49_2,c49_3,rfl,h49_0,h49_1,h49_2,h49_3⟩:=hR49
  refine gP O O F (R0 2 O (glA (v:=.agg (kR a49.frm c49_0 c49_1)) (off:=0) O O at49 (fun _ _ h=>.inl ((hz14.trans (hz17.trans (hz24.trans (hz27.trans (hzl0))))) _ _ h)) O (aU O) O ?_))
  refine Bg (i:=⟨_,_,.call _ _⟩) O O F O O O (Et (by omega) ⟨_,O,Dp (h49_0.mono (hz14.trans (hz17.trans (hz24.trans (hz27.trans hzl0))))) (h49_1.mono (hz14.trans (hz17.trans (hz24.trans (hz27.trans hzl0)))))⟩ (hS.r0 _ (List.mem_of_getElem? ha49))) fun v52 z52 _ ⟨_,hv52,c52_0,c52_1,hq52,h52_0,h52_1⟩=>?_
  subst hq52
  subst hv52
  refine gP O O F (R0 2 O (Me (v:=.c (cx_0)) O O (.inr (mC (mC Y4))) O (aU O) O (gP O O F (R0 3 O (gP O O F ?_)))))
  refine dE O O hx_0 i0 O a49 ha49 fun b56 p56 cs56 at56 hR56=>?_
  refine lN ?_
  obtain ⟨c56_0,c56_1,c56_2,c56_3,rfl,h56_0,h56_1,h56_2,h56_3⟩:=hR56
  refine gP O O F (R0 2 O (glA (v:=.agg (kR a49.rate c56_2 c56_3)) (off:=4) O O at56 (fun _ _ h=>.inl ((hz14.trans (hz17.trans (hz24.trans (hz27.trans (hzl0))))) _ _ h)) O (aU O) O ?_))
  refine Bg (i:=⟨_,_,.call _ _⟩) O O F O O O (Et (by omega) ⟨_,O,Dp (h56_2.mono (hz14.trans (hz17.trans (hz24.trans (hz27.trans (hzl0.trans zI)))))) (h56_3.mono (hz14.trans (hz17.trans (hz24.trans (hz27.trans (hzl0.trans zI))))))⟩ (hS.r0' _ (List.mem_of_getElem? ha49))) fun v59 z59 _ ⟨_,hv59,c59_0,c59_1,hq59,h59_0,h59_1⟩=>?_
  subst hq59
  subst hv59
  refine gP O O F ?_
  refine He (cs:=[Cb a49.frm.n,c52_0,Cb a49.frm.d,c52_1,Cb a49.rate.n,c59_0,Cb a49.rate.d,c59_1]) (by kernel_rfl) ?_
  refine lN ?_
  refine wE (k:=.cells 208 [Cb a49.frm.n,c52_0,Cb a49.frm.d,c52_1,Cb a49.rate.n,c59_0,Cb a49.rate.d,c59_1]) (w:=fun b=>.c (.sl b 0 1 8)) rfl F rfl (fun _=>rfl) (fun st hst=>?_) (fun b61 hT61=>?_)
  ·simp only [eP,zB,AS.ev,hst 60 (by simp [lS.sl,Od.sls,Od.sl])];rfl
  refine Dm (i:=⟨_,_,.app _ _ _ _ _ _⟩) O F O O O O ?_
  refine mV O O mem0 O (fun _=>P1) (by omega) (by omega) fun w62 hw62=>?_
  have cl62:CL 8 tI z59 _ ((x.brackets.take i0)++[a49]):=CL.append hcl0.m (CL.one rfl (aZn h52_0.m h52_1.m h59_0 h59_1))
  refine lN (gP O O F (R0 2 O (gS O O O ?_)))
  refine vB (cs':=[Cs x.name,Cs x.parent,w62,Cb x.threshold.n,c14_0,Cb x.threshold.d,c14_1,Cb x.cap.n,c17_0,Cb x.cap.d,c17_1,Ci x.back,Ci x.forward,Cb x.interest.n,c24_0,Cb x.interest.d,c24_1,Cb x.floor.n,c27_0,Cb x.floor.d,c27_1,Ci x.keep,Cz,w35,Cz]) O O O (mR (mR P3)) (by kernel_rfl) O (aU O) ?_
  refine lN (mL (eT (xG (lM O (lB O O (tG (r:=((i0+1:Nat):Int)) (vF (by omega))) (R0 3 O ?_))))))
  exact mK (by omega) ⟨i0+1,_,_,_,_,[_],rfl,hzl0.trans zI,(kM rfl (kM rfl (kM rfl (kM rfl Ez)))),rfl,by omega,(by rw [← Ei ha49];exact cl62),hw62⟩
 have hp41:=sK iF hc41
 refine dH (nF (eT (R5 12 O ?_)))
 refine aT (aQ ?_)
 refine dX (fun n fs=>∃ (i1:Nat) (w1:C) (cs1:List C) (e:Lq) (zz:dA) (Hx:List HA),fs=⟨e,zz,Hx++[.row (.c w0) 208 8 i0 cs0,.row (.c w1) 168 6 i1 cs1,.row (.c w35) 9 1 (0+x.entities.length) ([]++nw35),.row (rC) 215 6 0 [],.blk b3 (.cells 106 [Cs x.name,Cs x.parent,w0,Cb x.threshold.n,c14_0,Cb x.threshold.d,c14_1,Cb x.cap.n,c17_0,Cb x.cap.d,c17_1,Ci x.back,Ci x.forward,Cb x.interest.n,c24_0,Cb x.interest.d,c24_1,Cb x.floor.n,c27_0,Cb x.floor.d,c27_1,Ci x.keep,w1,w35,Cz]),.blk b2 (.cells 106 [(Cs ⟨#[]⟩),(Cs ⟨#[]⟩),Cz,Cb false,Cz,Cb false,Cz,Cb false,Cz,Cb false,Cz,Ci 0,Ci 0,Cb false,Cz,Cb false,Cz,Cb false,Cz,Cb false,Cz,Ci 0,Cz,Cz,Cz]),.blk b1 (.cells 101 (kF x cx_0 cx_1 cx_2 cx_3 cx_4 cx_5 cx_6 cx_7 cx_8 cx_9 cx_10 cx_11))]⟩∧zle zl0 zz∧Vx e [(1,Ap b1),(2,Ap b2),(3,Ap b3),(5,Ai (i1:Int))]∧n=x.classes.length - i1∧i1≤x.classes.length∧CL 6 vR zz cs1 (x.classes.take i1)∧pO w1 w1=true) ?_ _ ⟨0,_,_,_,_,[],rfl,zle.refl _,(kM rfl (kM rfl (kM rfl (kM rfl Ez)))),rfl,Nat.zero_le _,CL.nil,rfl⟩ (kK (by omega))
 intro n fs hI
 obtain ⟨i1,w1,cs1,e,zl1,Hx,rfl,hzl1,hat,rfl,hi1,hcl1,hw1⟩:=hI
 refine zQ hat fun e=>?_
 refine uG (List.sublist_append_right _ _) (R4 20 O (mQ (v:=.c (cx_9)) O (mC (mC Y4)) (aU O) O (aS O hx_9 (R3 4 O ?_))))
 refine jB O (fun hc68=>?_) (fun hc68=>?_)
 ·have hp68:=iF.1 hc68
  refine cP ?_
  refine aT (aQ ?_)
  refine R4 4 O (mQ (v:=.c (cx_9)) O (mC (mC Y4)) (aU O) O (lM O ?_))
  obtain ⟨a74,ha74⟩:=pE (l:=x.classes) (i:=i1) (by omega)
  refine dE O O hx_9 i1 O a74 ha74 fun b74 p74 cs74 at74 hR74=>?_
  obtain ⟨c74_0,c74_1,rfl,h74_0,h74_1⟩:=hR74
  refine nQ (v:=.agg [Cs a74.name,Cu a74.kind,Cb a74.arg.n,c74_0,Cb a74.arg.d,c74_1]) (off:=0) O (at74.mono (hz14.trans (hz17.trans (hz24.trans (hz27.trans (hzl0.trans hzl1)))))) O (aU O) O ?_
  refine kC fun b6=>?_
  refine vB (cs':=[Cs a74.name,Cu a74.kind,Cb a74.arg.n,c74_0,Cb a74.arg.d,c74_1]) O O O iW (by kernel_rfl) O (aU O) ?_
  refine lN (wC (gP O O F (R0 2 O (Me (v:=.c (w1)) O O (.inr (mC Y4)) O (aU O) O (gP O O F (R0 2 O (Me (v:=.c (Cs a74.name)) O O (.inr mem0) O (aU O) O (gP O O F (R0 2 O (Me (v:=.c (Cu a74.kind)) O O (.inr mem0) O (aU O) O (gP O O F (R0 2 O (Me (v:=.agg (kR a74.arg c74_0 c74_1)) O O (.inr mem0) O (aU O) O ?_)))))))))))))
  refine Bg (i:=⟨_,_,.call _ _⟩) O O F O O O (Et (by omega) ⟨_,O,Dp (h74_0.mono (hz14.trans (hz17.trans (hz24.trans (hz27.trans (hzl0.trans hzl1)))))) (h74_1.mono (hz14.trans (hz17.trans (hz24.trans (hz27.trans (hzl0.trans hzl1))))))⟩ (hS.r1 _ (List.mem_of_getElem? ha74))) fun v84 z84 _ ⟨_,hv84,c84_0,c84_1,hq84,h84_0,h84_1⟩=>?_
  subst hq84
  subst hv84
  refine gP O O F ?_
  refine He (cs:=[Cs a74.name,Cu a74.kind,Cb a74.arg.n,c84_0,Cb a74.arg.d,c84_1]) (by kernel_rfl) ?_
  refine lN ?_
  refine wE (k:=.cells 168 [Cs a74.name,Cu a74.kind,Cb a74.arg.n,c84_0,Cb a74.arg.d,c84_1]) (w:=fun b=>.c (.sl b 0 1 6)) rfl F rfl (fun _=>rfl) (fun st hst=>?_) (fun b86 hT86=>?_)
  ·simp only [eP,zB,AS.ev,hst 85 (by simp [lS.sl,Od.sls,Od.sl])];rfl
  refine Dm (i:=⟨_,_,.app _ _ _ _ _ _⟩) O F O O O O ?_
  refine mV O O mem0 O (fun _=>P3) (by omega) (by omega) fun w87 hw87=>?_
  have cl87:CL 6 vR z84 _ ((x.classes.take i1)++[a74]):=CL.append hcl1.m (CL.one rfl (bIm h84_0 h84_1))
  refine lN (gP O O F (R0 2 O (gS O O O ?_)))
  refine vB (cs':=[Cs x.name,Cs x.parent,w0,Cb x.threshold.n,c14_0,Cb x.threshold.d,c14_1,Cb x.cap.n,c17_0,Cb x.cap.d,c17_1,Ci x.back,Ci x.forward,Cb x.interest.n,c24_0,Cb x.interest.d,c24_1,Cb x.floor.n,c27_0,Cb x.floor.d,c27_1,Ci x.keep,w87,w35,Cz]) O O O (mR (mR (mR P3))) (by kernel_rfl) O (aU O) ?_
  refine lN (mL (eT (xG (lM O (lB O O (tG (r:=((i1+1:Nat):Int)) (vF (by omega))) (R0 3 O ?_))))))
  exact mK (by omega) ⟨i1+1,_,_,_,_,[_,_],rfl,hzl1.trans zI,(kM rfl (kM rfl (kM rfl (kM rfl Ez)))),rfl,by omega,(by rw [← Ei ha74];exact cl87),hw87⟩
 have hp68:=sK iF hc68
 refine dH (nF (eT (R5 12 O ?_)))
 refine aT (aQ ?_)
 refine dX (fun n fs=>∃ (i2:Nat) (w2:C) (cs2:List C) (e:Lq) (zz:dA) (Hx:List HA),fs=⟨e,zz,Hx++[.row (.c w0) 208 8 i0 cs0,.row (.c w1) 168 6 i1 cs1,.row (.c w35) 9 1 (0+x.entities.length) ([]++nw35),.row (.c w2) 215 6 i2 cs2,.blk b3 (.cells 106 [Cs x.name,Cs x.parent,w0,Cb x.threshold.n,c14_0,Cb x.threshold.d,c14_1,Cb x.cap.n,c17_0,Cb x.cap.d,c17_1,Ci x.back,Ci x.forward,Cb x.interest.n,c24_0,Cb x.interest.d,c24_1,Cb x.floor.n,c27_0,Cb x.floor.d,c27_1,Ci x.keep,w1,w35,w2]),.blk b2 (.cells 106 [(Cs ⟨#[]⟩),(Cs ⟨#[]⟩),Cz,Cb false,Cz,Cb false,Cz,Cb false,Cz,Cb false,Cz,Ci 0,Ci 0,Cb false,Cz,Cb false,Cz,Cb false,Cz,Cb false,Cz,Ci 0,Cz,Cz,Cz]),.blk b1 (.cells 101 (kF x cx_0 cx_1 cx_2 cx_3 cx_4 cx_5 cx_6 cx_7 cx_8 cx_9 cx_10 cx_11))]⟩∧zle zl1 zz∧Vx e [(1,Ap b1),(2,Ap b2),(3,Ap b3),(7,Ai (i2:Int))]∧n=x.years.length - i2∧i2≤x.years.length∧CL 6 Gk zz cs2 (x.years.take i2)∧pO w2 w2=true) ?_ _ ⟨0,_,_,_,_,[],rfl,zle.refl _,(kM rfl (kM rfl (kM rfl (kM rfl Ez)))),rfl,Nat.zero_le _,CL.nil,rfl⟩ (kK (by omega))
 intro n fs hI
 obtain ⟨i2,w2,cs2,e,zl2,Hx,rfl,hzl2,hat,rfl,hi2,hcl2,hw2⟩:=hI
 refine zQ hat fun e=>?_
 refine uG (List.sublist_append_right _ _) (R4 20 O (mQ (v:=.c (cx_11)) O (mC (mC Y4)) (aU O) O (aS O hx_11 (R3 4 O ?_))))
 refine jB O (fun hc93=>?_) (fun hc93=>?_)
 ·have hp93:=iF.1 hc93
  refine cP ?_
  refine aT (aQ ?_)
  refine wC (gP O O F (R0 2 O (Me (v:=.c (w2)) O O (.inr Y4) O (aU O) O (gP O O F (R0 2 O (Me (v:=.c (cx_11)) O O (.inr (mC (mC Y4))) O (aU O) O (gP O O F (R0 3 O ?_))))))))
  obtain ⟨a101,ha101⟩:=pE (l:=x.years) (i:=i2) (by omega)
  refine gP O O F ?_
  refine dE O O hx_11 i2 O a101 ha101 fun b101 p101 cs101 at101 hR101=>?_
  refine lN ?_
  obtain ⟨c101_0,c101_1,c101_2,c101_3,c101_4,rfl,h101_0,h101_1,h101_2,h101_3,h101_4⟩:=hR101
  refine glA (v:=.agg [Ci a101.number,c101_0,c101_1,c101_2,c101_3,c101_4]) (off:=0) O O at101 (fun _ _ h=>.inl ((hz14.trans (hz17.trans (hz24.trans (hz27.trans (hzl0.trans (hzl1.trans (hzl2))))))) _ _ h)) O (aU O) O ?_
  refine Bg (i:=⟨_,_,.call _ _⟩) O O F O O O (bGz (by omega) ⟨_,O,aWh (h101_0.mono (hz14.trans (hz17.trans (hz24.trans (hz27.trans (hzl0.trans (hzl1.trans hzl2))))))) (h101_1.mono (hz14.trans (hz17.trans (hz24.trans (hz27.trans (hzl0.trans (hzl1.trans hzl2))))))) (h101_2.mono (hz14.trans (hz17.trans (hz24.trans (hz27.trans (hzl0.trans (hzl1.trans hzl2))))))) (h101_3.mono (hz14.trans (hz17.trans (hz24.trans (hz27.trans (hzl0.trans (hzl1.trans hzl2))))))) (h101_4.mono (hz14.trans (hz17.trans (hz24.trans (hz27.trans (hzl0.trans (hzl1.trans hzl2)))))))⟩ (hS.y _ (List.mem_of_getElem? ha101))) fun v103 z103 _ ⟨_,hv103,c103_0,c103_1,c103_2,c103_3,c103_4,hq103,h103_0,h103_1,h103_2,h103_3,h103_4⟩=>?_
  subst hq103
  subst hv103
  refine wE (k:=.cells 215 [Ci a101.number,c103_0,c103_1,c103_2,c103_3,c103_4]) (w:=fun b=>.c (.sl b 0 1 6)) rfl F rfl (fun _=>rfl) (fun st hst=>?_) (fun b104 hT104=>?_)
  ·simp only [eP,zB,AS.ev,hst 103 (by simp [lS.sl,Od.sls,Od.sl])];rfl
  refine Dm (i:=⟨_,_,.app _ _ _ _ _ _⟩) O F O O O O ?_
  refine mV O O mem0 O (fun _=>(mR P3)) (by omega) (by omega) fun w105 hw105=>?_
  have cl105:CL 6 Gk z103 _ ((x.years.take i2)++[a101]):=CL.append hcl2.m (CL.one rfl (aWh h103_0 h103_1 h103_2 h103_3 h103_4))
  refine lN (gP O O F (R0 2 O (gS O O O ?_)))
  refine vB (cs':=[Cs x.name,Cs x.parent,w0,Cb x.threshold.n,c14_0,Cb x.threshold.d,c14_1,Cb x.cap.n,c17_0,Cb x.cap.d,c17_1,Ci x.back,Ci x.forward,Cb x.interest.n,c24_0,Cb x.interest.d,c24_1,Cb x.floor.n,c27_0,Cb x.floor.d,c27_1,Ci x.keep,w1,w35,w105]) O O O (mR (mR P3)) (by kernel_rfl) O (aU O) ?_
  refine lN (mL (eT (xG (lM O (lB O O (tG (r:=((i2+1:Nat):Int)) (vF (by omega))) (R0 3 O ?_))))))
  exact mK (by omega) ⟨i2+1,_,_,_,_,[_],rfl,hzl2.trans zI,(kM rfl (kM rfl (kM rfl (kM rfl Ez)))),rfl,by omega,(by rw [← Ei ha101];exact cl105),hw105⟩
 have hp93:=sK iF hc93
 refine dH (nF (eT (xR (mQ (v:=.agg [Cs x.name,Cs x.parent,w0,Cb x.threshold.n,c14_0,Cb x.threshold.d,c14_1,Cb x.cap.n,c17_0,Cb x.cap.d,c17_1,Ci x.back,Ci x.forward,Cb x.interest.n,c24_0,Cb x.interest.d,c24_1,Cb x.floor.n,c27_0,Cb x.floor.d,c27_1,Ci x.keep,w1,w35,w2]) O Y4 (aU O) O ?_))))
 refine vB (cs':=[Cs x.name,Cs x.parent,w0,Cb x.threshold.n,c14_0,Cb x.threshold.d,c14_1,Cb x.cap.n,c17_0,Cb x.cap.d,c17_1,Ci x.back,Ci x.forward,Cb x.interest.n,c24_0,Cb x.interest.d,c24_1,Cb x.floor.n,c27_0,Cb x.floor.d,c27_1,Ci x.keep,w1,w35,w2]) O O O (mR (mR P3)) (by kernel_rfl) O (aU O) ?_
 refine lN ?_
 refine Bd (p:=[]) O (hcl0.mono (hzl1.trans hzl2)) (by rw [List.length_take];omega) (by omega) fun zfr08 _ hszfr08=>?_
 rw [uD (l:=x.brackets) (by omega)] at hszfr08
 refine Bd (p:=[]) O (hcl1.mono (hzl2.trans zI)) (by rw [List.length_take];omega) (by omega) fun zfr19 _ hszfr19=>?_
 rw [uD (l:=x.classes) (by omega)] at hszfr19
 refine Bd (p:=[]) O (cl35.mono (hzl0.trans (hzl1.trans (hzl2.trans zI)))) (by simp) (by omega) fun zfr210 _ hszfr210=>?_
 refine Bd (p:=[]) O hcl2.m (by rw [List.length_take];omega) (by omega) fun zfr311 _ hszfr311=>?_
 rw [uD (l:=x.years) (by omega)] at hszfr311
 refine xT (rQ (.inl O) (rc O Y1 (aU O) O rn) ?_)
 exact ⟨_,rfl,V2 hszfr08.m (h14_0.mono (hz17.trans (hz24.trans (hz27.trans (hzl0.trans (hzl1.trans (hzl2.trans zI))))))) (h14_1.mono (hz17.trans (hz24.trans (hz27.trans (hzl0.trans (hzl1.trans (hzl2.trans zI))))))) (h17_0.mono (hz24.trans (hz27.trans (hzl0.trans (hzl1.trans (hzl2.trans zI)))))) (h17_1.mono (hz24.trans (hz27.trans (hzl0.trans (hzl1.trans (hzl2.trans zI)))))) (h24_0.mono (hz27.trans (hzl0.trans (hzl1.trans (hzl2.trans zI))))) (h24_1.mono (hz27.trans (hzl0.trans (hzl1.trans (hzl2.trans zI))))) (h27_0.mono (hzl0.trans (hzl1.trans (hzl2.trans zI)))) (h27_1.mono (hzl0.trans (hzl1.trans (hzl2.trans zI)))) hszfr19.m hszfr210.m hszfr311⟩
open Go.CE Go.RowKit Go.Num
open Go.Eng (kN)
theorem bLo {k:IntKind} {a:Int}:pS .eql (.int k a) (.int k a)=some (.bool true):=by simp [pS,Go.Eng.binV,Go.Eng.need]
theorem aXd {k:Nat} (hk:3≤k) {z:dA} {x:oK} {c0 c1 c2 c3 c4 c5 c6 c7 c8 c9 c10 c11:C} (g0:CZ 8 tI z c0 x.brackets) (g1:CZ 1 RW z c1 x.threshold.nm) (g2:CZ 1 RW z c2 x.threshold.dm) (g3:CZ 1 RW z c3 x.cap.nm) (g4:CZ 1 RW z c4 x.cap.dm) (g5:CZ 1 RW z c5 x.interest.nm) (g6:CZ 1 RW z c6 x.interest.dm) (g7:CZ 1 RW z c7 x.floor.nm) (g8:CZ 1 RW z c8 x.floor.dm) (g9:CZ 6 vR z c9 x.classes) (g10:CZ 1 RS z c10 x.entities) (g11:CZ 6 Gk z c11 x.years):FC (E k) 54 [.agg (kF x c0 c1 c2 c3 c4 c5 c6 c7 c8 c9 c10 c11)] z fun u _=>∃ b:Bool,u=nE b∧(b=true→SmF x):=by
 refine eA (bHf) (by omega) (aU O) fun B j hj=>?_
 refine xR ?_
 refine iU O fun b1=>?_
 refine R2 4 O ?_
 refine lR O mem0 O ?_
 refine lZ z (Few (by omega) ⟨_,O,V2 g0 g1 g2 g3 g4 g5 g6 g7 g8 g9 g10 g11⟩) O O fun v4 z4 _ ⟨r4,hv4,hs4⟩=>?_
 subst hv4
 refine lM O ?_
 refine nC 5 O (fun hg5=>?_) (fun hg5=>?_)
 ·refine lD O ?_
  refine lF O ?_
  refine lD O ?_
  refine dK O mem0 O ?_
  refine lD O ?_
  refine aS O g10 ?_
  refine R1 12 O ?_
  refine fR 11 O (fun hg11=>?_) (fun hg11=>?_)
  ·refine lD O ?_
   refine lF O ?_
   refine lD O ?_
   refine dK O mem0 O ?_
   refine lD O ?_
   refine aS O g9 ?_
   refine R1 12 O ?_
   refine fR 17 O (fun hg17=>?_) (fun hg17=>?_)
   ·refine lD O ?_
    refine lF O ?_
    refine lD O ?_
    refine dK O mem0 O ?_
    refine lD O ?_
    refine aS O g11 ?_
    refine R0 12 O ?_
    refine xT ?_
    exact rI O ⟨_,rfl,fun _=>hs4 hg5⟩
   refine R0 96 O ?_
   refine xT ?_
   exact rI O ⟨_,rfl,fun _=>hs4 hg5⟩
  refine R0 6176 O ?_
  refine xT ?_
  exact rI O ⟨_,rfl,fun _=>hs4 hg5⟩
 refine R0 395296 O ?_
 refine xT ?_
 exact rI O ⟨_,rfl,fun h=>absurd h (by decide)⟩
theorem aFv {k:Nat} (hk:16≤k) {z:dA} {x:oK} {c0 c1 c2 c3 c4 c5 c6 c7 c8 c9 c10 c11:C} (g0:CZ 8 tI z c0 x.brackets) (g1:CZ 1 RW z c1 x.threshold.nm) (g2:CZ 1 RW z c2 x.threshold.dm) (g3:CZ 1 RW z c3 x.cap.nm) (g4:CZ 1 RW z c4 x.cap.dm) (g5:CZ 1 RW z c5 x.interest.nm) (g6:CZ 1 RW z c6 x.interest.dm) (g7:CZ 1 RW z c7 x.floor.nm) (g8:CZ 1 RW z c8 x.floor.dm) (g9:CZ 6 vR z c9 x.classes) (g10:CZ 1 RS z c10 x.entities) (g11:CZ 6 Gk z c11 x.years) {yr:Int} (hy1 : -9223372036854775808≤yr) (hy2:yr<9223372036854775808) {cm:C} {ms:List Bool} (hv:CZ 1 (RE Value.bool) z cm ms):FC (E k) 10 [.agg (kF x c0 c1 c2 c3 c4 c5 c6 c7 c8 c9 c10 c11),Ai yr,.c cm] z fun u _=>u=nE true:=by
 refine eA (bH0) (by omega) (aU O) fun B j hj=>?_
 refine xR ?_
 refine iU O fun b3=>?_
 refine R2 8 O ?_
 refine lR O mem0 O ?_
 refine lZ z (aXd (by omega) g0 g1 g2 g3 g4 g5 g6 g7 g8 g9 g10 g11) O O fun v14 z14 _ ⟨b14,hv14,hs14⟩=>?_
 subst hv14
 refine R1 4 O ?_
 refine nC 16 O (fun hg16=>?_) (fun hg16=>?_)
 ·refine R2 256 O ?_
  refine lE z14 (Rk (by omega)) O O fun z21 hz21=>?_
  refine R0 3 O ?_
  refine jX ?_
  refine rI O ?_
  rfl
 refine lD O ?_
 refine lC O ?_
 refine lD O ?_
 refine aS O hv ?_
 refine R3 8 O ?_
 refine xD O (fun hc20=>?_) (fun hc20=>?_)
 ·refine R4 4 O ?_
  refine lE z14 (Rk (by omega)) O O fun z21 hz21=>?_
  refine R0 3 O ?_
  refine jX ?_
  refine rI O ?_
  rfl
 refine R4 4 O ?_
 have hS:SmF x:=hs14 (bOQ hg16)
 refine lR O mem0 O ?_
 refine R1 4 O ?_
 refine lZ z14 (aWe (x:=x) (by omega) g0.m g1.m g2.m g3.m g4.m g5.m g6.m g7.m g8.m g9.m g10.m g11.m hv.m hS hy1 hy2) O O fun v26 z26 _ hm26=>?_
 obtain ⟨ca,n1,n2,T,hv26,hS26,hR26⟩:=hm26
 subst hv26
 refine R1 17 O ?_
 refine kC fun b7=>?_
 refine Ef O O iW ?_
 refine R2 11 O ?_
 refine lR O Y1 O ?_
 refine lZ z26 (aZ2 (by omega) ⟨_,O,V2 g0.m g1.m g2.m g3.m g4.m g5.m g6.m g7.m g8.m g9.m g10.m g11.m⟩ hS) O O fun v32 z32 _ ⟨cs32,hv32,hR32⟩=>?_
 obtain ⟨d0,d1,d2,d3,d4,d5,d6,d7,d8,d9,d10,d11,hcs,r0,r1,r2,r3,r4,r5,r6,r7,r8,r9,r10,r11⟩:=hR32
 subst hcs
 subst hv32
 refine R1 4 O ?_
 refine lZ z32 (aTi (x:=x) (by omega) r0 r1 r2 r3 r4 r5 r6 r7 r8 r9 r10 r11 hv.m hS hy1 hy2) O O fun v35 z35 _ hm35=>?_
 obtain ⟨cb,m1,m2,T5,hv35,hS35,hR35⟩:=hm35
 subst hv35
 refine R1 17 O ?_
 refine kC fun b10=>?_
 refine Ef O O iW ?_
 refine R2 11 O ?_
 obtain ⟨e1,e2,e3⟩:=bPg hR26 hR35
 subst e1 e2 e3
 refine R1 7 O ?_
 refine lB O O bLo ?_
 refine R1 14 O ?_
 refine lD O ?_
 refine lB O O bLo ?_
 refine R1 6 O ?_
 refine lD O ?_
 refine lR O Y1 O ?_
 refine lD O ?_
 refine lR O mem0 O ?_
 refine lD O ?_
 refine lE z35 (aZP (by omega) (aDY hS26.m) (aDY hS35)) O O fun z50 _=>?_
 refine R1 6 O ?_
 refine lD O ?_
 refine lE z50 (Rk (by omega)) O O fun z53 _=>?_
 refine R0 6 O ?_
 refine xT ?_
 refine rI O ?_
 rfl
end Go.Proofs.YtlceligcgelbdaaGreat

/- Pairs' entries: a range over a function; the reference's, walked. -/
import Derived.WalkKit
import Derived.Orders
import Derived.Test.YtlceligcgelbdaaGreatKF5
set_option linter.unusedVariables false
set_option linter.unusedSimpArgs false
set_option maxRecDepth 100000
set_option maxHeartbeats 1000000
namespace Go.Proofs.YtlceligcgelbdaaGreat
open Go.CE Go.RowKit Go.Num
open Go.Eng (kN)
theorem bGa {call:eE} {B:pK} {an:List Nat} {j:Nat} {l:List CE.D} {fs:Sf} {T:dA} {tag last:Nat} {pj lj:List Nat} {Q:Sf→Prop} (z0:dA) {i:I} {d b:Nat} {t:Go.Eng.Od} {args:List Go.Eng.Od} {vs:List AV} {af:List Nat} {Hs Hr:List HA} {Post:dA→List HA→Prop} (hc:Lp call (1000000+b) vs z0 Hs (aXQ Post)) (hi:i.o=.callv t args) (ht:fs.ev t=.c (.yl b)) (hd:i.d=some d) (hg:GK fs i) (hbits:Nat.beq (an.getD j 0 ||| last) (an.getD j 0)=true) (hpj:(pj.all fun q=>(an.getD j 0).testBit q)=true)
  (ha:args.map fs.ev=vs) (hz0:fs.z=z0) (hzT:∀ b k,T b k→z0 b k) (e:fs.H=Hs++Hr) (hw:∀ z' H',zle z0 z'→Post z' H'→FG call B an (j+1) l (fs.res d (Ab true) z' (H'++Hr)) T (j+1) (an.getD j 0 ||| (1 <<< j)) [] lj Q):FG call B an j (⟨i,af⟩::l) fs T tag last pj lj Q:=by
 subst hz0
 exact bOc (D:=⟨fs,T,tag,last,pj,lj⟩) hi hd hg hbits hpj ht ha hzT e hc hw
theorem aWg {k:Nat} (hk:12≤k) {z:dA} {id:ByteArray} {kd py pr inn ou:Int} {n1 n2:Bool} {c1 c2:C}:FC (E k) 126 [.agg [Cs id,Cu kd,Ci py,Ci pr,Ci inn,Ci ou,Cb n1,c1,Cb n2,c2]] z fun v z'=>∃ b,v=.c (.fn 209 [] [(false,[.ptr b 0])])∧z' b (.cells 116 [Cs id,Cu kd,Ci py,Ci pr,Ci inn,Ci ou,Cb n1,c1,Cb n2,c2]):=by
 refine eA (bDP) (by omega) (aU O) fun B j hj=>?_
 refine xR ?_
 refine iU O fun b1=>?_
 refine R2 4 O ?_
 refine aZu O O ?_
 refine yB z (p:=[]) O O O (fun _ h=>h) fun zff1 _ f1=>?_
 refine R0 3 O ?_
 refine xT ?_
 exact rI O ⟨_,rfl,f1⟩
theorem aXq {k:Nat} (hk:11≤k) {call':eE} (hA:Agr (E k) call') {b pb:Nat} {id:ByteArray} {kd py pr inn ou:Int} {n1 n2:Bool} {c1 c2:C} {l1 l2:List UInt32} {z:dA} {H:List HA} (hp:At z pb 0 [Cs id,Cu kd,Ci py,Ci pr,Ci inn,Ci ou,Cb n1,c1,Cb n2,c2]) (hx:CZ 1 RW z c1 l1) (hy:CZ 1 RW z c2 l2) (h1:l1.length≤9000000) (h2:l2.length≤9000000)
  {J:List (Int×Int)→dA→List HA→Prop} (hJ:∀ L z z' H,zle z z'→J L z H→J L z' H) {L:List (Int×Int)} (hY:∀ L1 (e:Int×Int) z' H' c d,L1.length≤L.length+1→J L1 z' H'→zle z z'→CZ 1 RW z' c (toL (-(Num.valR ((n1,l1),(n2,l2)))).num.natAbs)→CZ 1 RW z' d (toL ((-(Num.valR ((n1,l1),(n2,l2)))).den:Int).natAbs)→Lp call' (1000000+b) [.agg [Ci e.1,Ci e.2,Cb (decide (((-(Num.valR ((n1,l1),(n2,l2)))):Rat).num<0)),c,Cb (decide (((((-(Num.valR ((n1,l1),(n2,l2)))):Rat).den:Nat):Int)<0)),d]] z' H' (aXQ (J (L1++[e])))) (h0:J L z H) :
  Lp (aX7 call' K0 aMr.e.x) 0 [.c (.yl b),Ap pb] z H fun _ z' H'=>J (L++[(py,inn)]++[(pr,ou)]) z' H':=by
 refine bGV fun B=>?_
 refine bB9 ?_
 refine G1 5 O ?_
 refine oD (i:=⟨_,_,.load _ _ _⟩) (off:=2) O O F O hp.m (fun _ _ h=>h) rfl (by simp) rfl sR ?_
 refine G1 2 O ?_
 refine oD (i:=⟨_,_,.load _ _ _⟩) (off:=4) O O F O hp.m (fun _ _ h=>h) rfl (by simp) rfl sR ?_
 refine G1 2 O ?_
 refine oD (i:=⟨_,_,.load _ _ _⟩) (off:=6) O O F O hp.m (fun _ _ h=>h) rfl (by simp) rfl sR ?_
 refine gC z (FC.agr hA (aVN (by omega) hx.m hy.m h1 h2)) O O O O fun v3 z1 hz1 hv3=>?_
 have hv3:=yI hv3
 obtain ⟨c3,d3,hv,hm3,hn3⟩:=hv3
 subst hv
 refine gP O O F ?_
 refine mN (cs:=[_,_,_,_,_,_]) O (lN ?_)
 have hy3:=hY L (py,inn) z1 H c3 d3 (by simp) (hJ _ _ _ _ zI h0) zI (hm3.mono jF) (hn3.mono jF)
 refine bGa z1 (i:=⟨_,_,.callv _ _⟩) (Hr:=[]) hy3 O O O F O O O O (fun _ _ h=>zI _ _ h) (List.append_nil _).symm fun z2 H3 hz2 hJ3=>?_
 refine mL ?_
 refine aRo O ?_
 rw [List.append_nil]
 refine aXu ?_
 refine G1 5 O ?_
 refine oD (i:=⟨_,_,.load _ _ _⟩) (off:=3) O O F O (hp.mono (hz1.trans hz2)) (fun _ _ h=>h) rfl (by simp) rfl sR ?_
 refine G1 2 O ?_
 refine oD (i:=⟨_,_,.load _ _ _⟩) (off:=5) O O F O (hp.mono (hz1.trans hz2)) (fun _ _ h=>h) rfl (by simp) rfl sR ?_
 refine G1 2 O ?_
 refine oD (i:=⟨_,_,.load _ _ _⟩) (off:=6) O O F O (hp.mono (hz1.trans hz2)) (fun _ _ h=>h) rfl (by simp) rfl sR ?_
 refine gC z2 (FC.agr hA (aVN (by omega) (hx.mono (hz1.trans hz2)) (hy.mono (hz1.trans hz2)) h1 h2)) O O O O fun v13 z3 _ hv13=>?_
 have hv13:=yI hv13
 obtain ⟨c13,d13,hv,hm13,hn13⟩:=hv13
 subst hv
 refine gP O O F ?_
 refine mN (cs:=[_,_,_,_,_,_]) O (lN ?_)
 have hy13:=hY (L++[(py,inn)]) (pr,ou) z3 H3 c13 d13 (by simp) (hJ _ _ _ _ zI hJ3) (((hz1.trans hz2).trans zI)) (hm13.mono jF) (hn13.mono jF)
 refine bGa z3 (i:=⟨_,_,.callv _ _⟩) (Hr:=[]) hy13 O O O F O O O O (fun _ _ h=>zI _ _ h) (List.append_nil _).symm fun z4 H13 _ hJ13=>?_
 refine mL ?_
 exact ⟨.inr rfl,[],H13,rn,by rw [List.append_nil];exact List.Sublist.refl _,hJ13⟩
open Go.CE Go.RowKit Go.Num
open Go.Eng (kN)
def isB (e:Int) (l:List Bool):Bool:=decide (0≤e) && l.getD e.toNat false
theorem xP {e:Int} {l:List Bool} (h1:0≤e) (h2:e.toNat<l.length):isB e l=l[e.toNat]:=by simp [isB,h1,h2]
theorem Vz {e:Int} {l:List Bool} (h:(l.length:Int)≤e):isB e l=false:=by
 have h2:l.length≤e.toNat:=by omega
 simp [isB,h2]
theorem Wj {e:Int} {l:List Bool} (h:e<0):isB e l=false:=by
 have h2:¬ 0≤e:=by omega
 simp [isB,h2]
theorem at1 {z:dA} {b ty:Nat} {c:C} (h:z b (.cells ty [c])):At z b 0 [c]:=⟨_,[c],h,rfl,by simp,rfl⟩
instance:RMono (RE Value.bool):=⟨fun _ h=>h⟩
structure PPr where
 id:List UInt8
 kd:Int
 py:Int
 pr:Int
 inn:Int
 ou:Int
 am:qZ
def RPr:RT PPr:=fun z cs a=>∃ c d,cs=[Cs (bs a.id),Cu a.kd,Ci a.py,Ci a.pr,Ci a.inn,Ci a.ou,Cb a.am.n,c,Cb a.am.d,d]∧CZ 1 RW z c a.am.nm∧CZ 1 RW z d a.am.dm
instance:RMono RPr:=⟨fun hz ⟨c,d,h,g0,g1⟩=>⟨c,d,h,g0.mono hz,g1.mono hz⟩⟩
abbrev PEq:=(Int×Int)×Rat
def REq:RT PEq:=fun z cs e=>∃ c d,cs=[Ci e.1.1,Ci e.1.2,Cb (decide (e.2.num<0)),c,Cb (decide ((e.2.den:Int)<0)),d]∧CZ 1 RW z c (toL e.2.num.natAbs)∧CZ 1 RW z d (toL (e.2.den:Int).natAbs)
instance:RMono REq:=⟨fun hz ⟨c,d,h,g0,g1⟩=>⟨c,d,h,g0.mono hz,g1.mono hz⟩⟩
def xM (ms:List Bool) (l:List PPr):List PEq:=l.flatMap fun a=>if (isB a.py ms && isB a.pr ms)=true then [((a.py,a.inn),-(rv a.am)),((a.pr,a.ou),-(rv a.am))] else []
theorem aXh {ms:List Bool} {l:List PPr} {i:Nat} {a:PPr} (ha:l[i]? = some a) (h:(isB a.py ms && isB a.pr ms)=true):xM ms (l.take (i+1))=xM ms (l.take i)++[(a.py,a.inn),(a.pr,a.ou)].map fun e=>(e,-(rv a.am)):=by
 rw [xM,xM,D6 ha,List.flatMap_append]
 congr 1
 simp only [List.flatMap_cons,List.flatMap_nil,if_pos h]
 rfl
theorem bAS {ms:List Bool} {l:List PPr} {i:Nat} {a:PPr} (ha:l[i]? = some a) (h:(isB a.py ms && isB a.pr ms)=false):xM ms (l.take (i+1))=xM ms (l.take i):=by
 rw [xM,xM,D6 ha,List.flatMap_append]
 simp only [List.flatMap_cons,List.flatMap_nil,h,Bool.false_eq_true,if_false,List.append_nil]
theorem aSL {ms:List Bool} {l:List PPr}:(xM ms l).length≤2 * l.length:=by
 induction l with
 | nil=>simp [xM]
 | cons a l ih =>
  have e:xM ms (a::l)=(if (isB a.py ms && isB a.pr ms)=true then [((a.py,a.inn),-(rv a.am)),((a.pr,a.ou),-(rv a.am))] else [])++xM ms l:=rfl
  rw [e,List.length_append,List.length_cons]
  split
  ·simp;omega
  simp;omega
def JE (b4:Nat) (F:List PEq) (q:Rat) (L:List (Int×Int)):dA→List HA→Prop:=fun z H=>∃ cv csy m,H=[.blk b4 (.cells 25 [cv]),.row (.c cv) 145 6 m csy]∧(F++L.map fun e=>(e,q)).length=m∧CL 6 REq z csy (F++L.map fun e=>(e,q))
theorem JE.mono {b4:Nat} {F:List PEq} {q:Rat} {L:List (Int×Int)} {z z':dA} {H:List HA} (h:JE b4 F q L z H) (hz:zle z z'):JE b4 F q L z' H:=by
 obtain ⟨cv,csy,m,h1,h2,h3⟩:=h
 exact ⟨cv,csy,m,h1,h2,h3.mono hz⟩
theorem bM0 {b4 m:Nat} {F:List PEq} {q:Rat} {z:dA} {cu:C} {csx:List C} (h:CL 6 REq z csx F) (hm:F.length=m):JE b4 F q [] z [.blk b4 (.cells 25 [cu]),.row (.c cu) 145 6 m csx]:=⟨cu,csx,m,rfl,by simpa using hm,by simpa using h⟩
theorem bFW {F:List PEq} {q:Rat} {L:List (Int×Int)} {m:Nat} (h:(F++L.map fun e=>(e,q)).length=m) (hF:F.length≤2000) (hL:L.length≤([]:List (Int×Int)).length+1):m≤2001:=by
 rw [List.length_append,List.length_map] at h
 simp only [List.length_nil] at hL
 omega
theorem bRY {b:Bool} (h:(!b)=true):b=false:=by cases b<;>simp_all
theorem bOQ {b:Bool} (h:(!b)=false):b=true:=by cases b<;>simp_all
theorem bAp {call:eE} {B:pK} {fs:Sf} {l:List I} {Q:Sf→Prop} {x a b:HA} {q:List HA} (e:fs.H=a::b::x::q) (hw:FL call B l (fs.heap (x::a::b::q)) Q):FL call B l fs Q:=aD8 (by rw [e];exact (List.Perm.cons _ (List.Perm.swap _ _ _)).trans (List.Perm.swap _ _ _)) hw
theorem bAE {F:List PEq} {q:Rat} {L:List (Int×Int)} {e:Int×Int}:F++(L++[e]).map (fun e=>(e,q))=(F++L.map fun e=>(e,q))++[(e,q)]:=by rw [List.map_append,← List.append_assoc];rfl
theorem bQC {F:List PEq} {q:Rat} {L:List (Int×Int)} {e:Int×Int}:(F++(L++[e]).map (fun e=>(e,q))).length=(F++L.map fun e=>(e,q)).length+1:=by rw [bAE,List.length_append];rfl
theorem aBK {k:Nat} (hk:1≤k) {z:dA} {e:Int} {b:Nat} {c:C} {ms:List Bool} (hb:At z b 0 [c]) (hv:CZ 1 (RE Value.bool) z c ms):FC (E k) 111 [Ai e,Ap b] z fun u _=>u=Ab (isB e ms):=by
 refine eA (bDk) (by omega) (aU O) fun B j hj=>?_
 refine R4 64 O ?_
 refine fR 6 O (fun hg6=>?_) (fun hg6=>?_)
 ·refine lD O ?_
  refine lC O ?_
  refine lD O ?_
  refine Zm O hb ?_
  refine lD O ?_
  refine aS O hv ?_
  refine R1 12 O ?_
  refine fR 12 O (fun hg12=>?_) (fun hg12=>?_)
  ·refine lD O ?_
   refine Zm O hb ?_
   refine lD O ?_
   refine lC O ?_
   refine lD O ?_
   refine Hh O O hv (e.toNat) (by omega) (by omega) fun p15 hp15=>?_
   refine lD O ?_
   refine uO O hp15 ?_
   refine R0 6 O ?_
   refine xT ?_
   exact rI O (cQ (xP (by omega) (by omega)).symm)
  refine R0 96 O ?_
  refine xT ?_
  exact rI O (cQ (Vz (by omega)).symm)
 refine R0 6176 O ?_
 refine xT ?_
 exact rI O (cQ (Wj (by omega)).symm)
theorem aWm {k:Nat} (hk:2≤k) {z:dA} {s1:List UInt8} {k1 p1 q1 i1 o1:Int} {n1 m1:Bool} {c1 d1:C} {cm:C} {ms:List Bool} (hv:CZ 1 (RE Value.bool) z cm ms):FC (E k) 48 [.agg [Cs (bs s1),Cu k1,Ci p1,Ci q1,Ci i1,Ci o1,Cb n1,c1,Cb m1,d1],.c cm] z fun u _=>u=Ab (isB p1 ms && isB q1 ms):=by
 refine eA (bGG) (by omega) (aU O) fun B j hj=>?_
 refine xR ?_
 refine iU O fun b2=>?_
 refine aDN O O fun b3=>?_
 refine R2 4 O ?_
 refine yB z (p:=[]) O O O (fun _ h=>h) fun zffb _ fb=>?_
 refine aZu O O ?_
 refine R2 21 O ?_
 refine dK O mem0 O ?_
 refine aJ6 zffb O (aBK (by omega) (at1 fb) hv.m) O O fun v10 z10 _ hv10=>?_
 subst hv10
 refine lM O ?_
 refine nC 11 O (fun hg11=>?_) (fun hg11=>?_)
 ·refine R1 5 O ?_
  refine lD O ?_
  refine dK O mem0 O ?_
  refine lD O ?_
  refine aJ6 z10 O (aBK (by omega) (at1 (zI _ _ fb)) hv.m) O O fun v15 z15 _ hv15=>?_
  subst hv15
  refine R0 6 O ?_
  refine xT ?_
  refine rI O ?_
  rw [hg11];rfl
 refine R0 96 O ?_
 refine xT ?_
 refine rI O ?_
 rw [hg11];rfl
theorem Ny {k:Nat} (hk:13≤k) {z:dA} {cm:C} {w:AV} {ms:List Bool} {l:List PPr} (hv:CZ 1 (RE Value.bool) z cm ms) (hx:SZ 10 RPr z w l) (hl:l.length≤1000) (hs:∀ a,a∈l→a.am.nm.length≤9000000∧a.am.dm.length≤9000000):FC (E k) 58 [.c cm,w] z fun u z'=>∃ c,u=.c c∧CZ 6 REq z' c (xM ms l):=by
  have hxl:=hx.le
  refine eA (bGd) (by omega) (aU O) fun B j hj=>?_
  refine xR ?_
  refine kC fun b4=>?_
  refine lN ?_
  refine R4 12 O ?_
  refine aS O hx ?_
  refine oW 145 6 ?_
  refine aD8 (List.Perm.swap _ _ _) ?_
  refine R0 2 O ?_
  refine aT (aQ ?_)
  refine dX (fun n fs=>∃ (i:Nat) (cu:C) (csx:List C) (m:Nat) (zz:dA),LZ z zz [.blk b4 (.cells 25 [cu]),.row (.c cu) 145 6 m csx] [(0,.c cm),(4,Ap b4),(8,w),(9,Az l.length),(10,Az i)] fs∧n=l.length - i∧(i≤l.length)∧((xM ms (l.take i)).length=m)∧(CL 6 REq zz csx (xM ms (l.take i)))) ?_ _ ⟨0,Cz,[],0,_,LZ.m [] O,rfl,Nat.zero_le _,rfl,CL.nil⟩ (kK (by omega))
  intro n fs ⟨i,cu,csx,m,zz,hL0,hmz0,hi,hm0,hc⟩
  refine hL0.open fun e hzz=>?_
  refine R5 8 O ?_
  refine xD O (fun hc11=>?_) (fun hc11=>?_)
  · skip
    refine cP ?_
    refine aT (aQ ?_)
    refine xR ?_
    obtain ⟨a,ha⟩:=pE (l:=l) (i:=i) (by omega)
    obtain ⟨hs1,hs2⟩:=hs a (List.mem_of_getElem? ha)
    have hlm:(xM ms (l.take i)).length≤2000:=Nat.le_trans aSL (by rw [List.length_take];omega)
    refine dE (zz:=zz) O O hx.m i O a ha fun b12 p12 cs at12 hR=>?_
    obtain ⟨c12,d12,hcs,q12,r12⟩:=hR
    subst hcs
    refine nQ (off:=0) O at12 O (by simp) O ?_
    refine kC fun b6=>?_
    refine oI O O O O iW ?_
    refine lN ?_
    refine R4 4 O ?_
    refine bAA O ?_
    refine lR O Y2 O ?_
    refine lC O ?_
    refine lE zz (aWm (by omega) hv.m) O O fun z16 hz16=>?_
    refine R3 4 O ?_
    refine jB O (fun hc17=>?_) (fun hc17=>?_)
    · skip
      refine dH ?_
      refine eT ?_
      refine xG ?_
      refine bAp O ?_
      refine lB O O (gI (n:=i+1) (by omega) (by omega)) ?_
      refine R0 2 O ?_
      exact mK (by omega) ⟨i+1,cu,csx,m,_,LZ.m [_] O,rfl,by omega,by rw [bAS ha (bRY hc17)];exact hm0,by rw [bAS ha (bRY hc17)];exact hc.m⟩
    · skip
      refine R4 4 O ?_
      refine lR O Y2 O ?_
      refine lZ z16 (aWg (by omega)) O O fun v19 z19 hz19 ⟨b19,hv19,hk19⟩=>?_
      subst hv19
      refine lN ?_
      refine aQ ?_
      refine bH5 (us:=[]) (cs:=[(false,[.ptr b19 0])]) (Hs:=[.blk b4 (.cells 25 [cu]),.row (.c cu) 145 6 m csx]) (Hr:=_) (Post:=(JE b4 (xM ms (l.take i)) (-(rv a.am))) [(a.py,a.inn),(a.pr,a.ou)]) O O O (fun call' b hA hY=>?_) fun z40 H40 hz40 hJ40=>?_
      · refine (aXq (by omega) hA (L := []) ⟨_, _, hk19, rfl, by simp, rfl⟩ (q12.m) (r12.m) hs1 hs2 (J := (JE b4 (xM ms (l.take i)) (-(rv a.am)))) (fun L z z' H hz h => h.mono hz) (fun L e z5 H5 c d hLl hj _ h5 g5 => hY _ _ _ _ rfl fun B => ?_) (bM0 (hc.m) hm0))
        obtain ⟨cv,csy,m2,rfl,hm2,hcl2⟩:=hj
        refine xR ?_
        refine kC fun b7=>?_
        refine oI O O O O iW ?_
        refine lN ?_
        refine aQ ?_
        refine xG ?_
        refine dK O Y1 O ?_
        refine lR O mem0 O ?_
        refine cX O fun b23=>?_
        refine mV (n:=m2) (m:=1) (cs:=csy) O O mem0 O (fun _=>mR P2) (by have:=bFW hm2 hlm hLl;omega) (by have:=bFW hm2 hlm hLl;omega) fun c24 hc24=>?_
        refine aFH O O P2 ?_
        refine lN ?_
        exact ⟨rfl,_,List.sublist_append_right [_,_] _,c24,_,m2+1,rfl,by rw [bQC,hm2],by rw [bAE];exact hcl2.append (CL.one rfl ⟨_,_,rfl,h5,g5⟩)⟩
      obtain ⟨cv,csy,m2,rfl,hm2,hc2⟩:=hJ40
      refine eT ?_
      refine xG ?_
      refine bAp O ?_
      refine lB O O (gI (n:=i+1) (by omega) (by omega)) ?_
      refine R0 2 O ?_
      exact mK (by omega) ⟨i+1,cv,csy,m2,_,LZ.mk [_] (hzz.trans (hz16.trans (hz19.trans hz40))) (kM rfl (kM rfl (kM rfl (kM rfl (kM rfl Ez))))),rfl,by omega,by rw [aXh ha (bOQ hc17)];exact hm2,by rw [aXh ha (bOQ hc17)];exact hc2⟩
  · skip
    refine dH ?_
    refine nF ?_
    refine eT ?_
    refine xR ?_
    refine dK O mem0 O ?_
    refine aFH O O iW ?_
    refine lN ?_
    refine Bd (p:=[_]) O (hc) hm0 (by have:=aSL (ms:=ms) (l:=l.take i);rw [List.length_take] at this;omega) fun zr _ hsr=>?_
    refine xT ?_
    refine rQ (.inl O) (rc O mem0 (Nat.le_refl _) O rn) ?_
    rw [List.take_of_length_le (by omega)] at hsr
    exact ⟨_,rfl,hsr⟩
open Go.CE Go.RowKit Go.Num
open Go.Eng (kN)
theorem Ja {x y:Bool} (h:x=false∨False):false=(x && y):=by rcases h with h | h;rw [h];rfl;exact h.elim
theorem aA5 {x y:Bool} (h:x=true) (g:y=false∨False):false=(x && y):=by rcases g with g | g;rw [h,g];rfl;exact g.elim
theorem aUp {x y w:Bool} (h:x=true) (g:y=w):w=(x && y):=by rw [h,g];rfl
theorem CL.two {α:Type} {size:Nat} {R:RT α} {z:dA} {a b:List C} {x y:α} (ha:a.length=size) (hx:R z a x) (hy:R z b y) (hb:b.length=size:=by rfl):CL size R z (a++b) [x,y]:=(CL.one ha hx).append (CL.one hb hy)
theorem aWx {k:Nat} (hk:1≤k) {z:dA} {s1:List UInt8} {k1 p1 q1 i1 o1:Int} {n1 m1:Bool} {c1 d1:C} {cm:C} {ms:List Bool} (hv:CZ 1 (RE Value.bool) z cm ms):FC (E k) 49 [.agg [Cs (bs s1),Cu k1,Ci p1,Ci q1,Ci i1,Ci o1,Cb n1,c1,Cb m1,d1],.c cm] z fun u _=>u=Ab (isB p1 ms && isB q1 ms):=by
 refine eA (bHH) (by omega) (aU O) fun B j hj=>?_
 refine xR ?_
 refine iU O fun b2=>?_
 refine R2 8 O ?_
 refine dK O mem0 O ?_
 refine R1 4 O ?_
 refine fR 8 O (fun hg8=>?_) (fun hg8=>?_)
 ·refine lD O ?_
  refine lF O ?_
  refine lD O ?_
  refine dK O mem0 O ?_
  refine lD O ?_
  refine lC O ?_
  refine lD O ?_
  refine aS O hv ?_
  refine R1 12 O ?_
  refine fR 15 O (fun hg15=>?_) (fun hg15=>?_)
  ·refine R1 4 O ?_
   refine lD O ?_
   refine dK O mem0 O ?_
   refine lD O ?_
   refine Hh O O hv (p1.toNat) (by omega) (by omega) fun p19 hp19=>?_
   refine lD O ?_
   refine uO O hp19 ?_
   refine R1 6 O ?_
   refine nC 22 O (fun hg22=>?_) (fun hg22=>?_)
   ·refine lD O ?_
    refine lF O ?_
    refine lD O ?_
    refine dK O mem0 O ?_
    refine R1 12 O ?_
    refine fR 27 O (fun hg27=>?_) (fun hg27=>?_)
    ·refine lD O ?_
     refine lF O ?_
     refine lD O ?_
     refine dK O mem0 O ?_
     refine lD O ?_
     refine lC O ?_
     refine lD O ?_
     refine aS O hv ?_
     refine R1 12 O ?_
     refine fR 34 O (fun hg34=>?_) (fun hg34=>?_)
     ·refine R1 4 O ?_
      refine lD O ?_
      refine dK O mem0 O ?_
      refine lD O ?_
      refine Hh O O hv (q1.toNat) (by omega) (by omega) fun p38 hp38=>?_
      refine lD O ?_
      refine uO O hp38 ?_
      refine R0 6 O ?_
      refine xT ?_
      refine rI O ?_
      first | exact cQ (Ja (.inl (Wj (e:=p1) (l:=ms) (by omega)))) | exact cQ (Ja (.inl (Vz (e:=p1) (l:=ms) (by omega)))) | exact cQ (Ja (.inl ((xP (e:=p1) (l:=ms) (by omega) (by omega)).trans (by assumption)))) | exact cQ (aA5 ((xP (e:=p1) (l:=ms) (by omega) (by omega)).trans (by assumption)) (.inl (Wj (e:=q1) (l:=ms) (by omega)))) | exact cQ (aA5 ((xP (e:=p1) (l:=ms) (by omega) (by omega)).trans (by assumption)) (.inl (Vz (e:=q1) (l:=ms) (by omega)))) | exact cQ (aUp ((xP (e:=p1) (l:=ms) (by omega) (by omega)).trans (by assumption)) (xP (e:=q1) (l:=ms) (by omega) (by omega)))
     refine R0 192 O ?_
     refine xT ?_
     refine rI O ?_
     first | exact cQ (Ja (.inl (Wj (e:=p1) (l:=ms) (by omega)))) | exact cQ (Ja (.inl (Vz (e:=p1) (l:=ms) (by omega)))) | exact cQ (Ja (.inl ((xP (e:=p1) (l:=ms) (by omega) (by omega)).trans (by assumption)))) | exact cQ (aA5 ((xP (e:=p1) (l:=ms) (by omega) (by omega)).trans (by assumption)) (.inl (Wj (e:=q1) (l:=ms) (by omega)))) | exact cQ (aA5 ((xP (e:=p1) (l:=ms) (by omega) (by omega)).trans (by assumption)) (.inl (Vz (e:=q1) (l:=ms) (by omega)))) | exact cQ (aUp ((xP (e:=p1) (l:=ms) (by omega) (by omega)).trans (by assumption)) (xP (e:=q1) (l:=ms) (by omega) (by omega)))
    refine R0 24640 O ?_
    refine xT ?_
    refine rI O ?_
    first | exact cQ (Ja (.inl (Wj (e:=p1) (l:=ms) (by omega)))) | exact cQ (Ja (.inl (Vz (e:=p1) (l:=ms) (by omega)))) | exact cQ (Ja (.inl ((xP (e:=p1) (l:=ms) (by omega) (by omega)).trans (by assumption)))) | exact cQ (aA5 ((xP (e:=p1) (l:=ms) (by omega) (by omega)).trans (by assumption)) (.inl (Wj (e:=q1) (l:=ms) (by omega)))) | exact cQ (aA5 ((xP (e:=p1) (l:=ms) (by omega) (by omega)).trans (by assumption)) (.inl (Vz (e:=q1) (l:=ms) (by omega)))) | exact cQ (aUp ((xP (e:=p1) (l:=ms) (by omega) (by omega)).trans (by assumption)) (xP (e:=q1) (l:=ms) (by omega) (by omega)))
   refine R0 788496 O ?_
   refine xT ?_
   refine rI O ?_
   first | exact cQ (Ja (.inl (Wj (e:=p1) (l:=ms) (by omega)))) | exact cQ (Ja (.inl (Vz (e:=p1) (l:=ms) (by omega)))) | exact cQ (Ja (.inl ((xP (e:=p1) (l:=ms) (by omega) (by omega)).trans (by assumption)))) | exact cQ (aA5 ((xP (e:=p1) (l:=ms) (by omega) (by omega)).trans (by assumption)) (.inl (Wj (e:=q1) (l:=ms) (by omega)))) | exact cQ (aA5 ((xP (e:=p1) (l:=ms) (by omega) (by omega)).trans (by assumption)) (.inl (Vz (e:=q1) (l:=ms) (by omega)))) | exact cQ (aUp ((xP (e:=p1) (l:=ms) (by omega) (by omega)).trans (by assumption)) (xP (e:=q1) (l:=ms) (by omega) (by omega)))
  refine R0 100927552 O ?_
  refine xT ?_
  refine rI O ?_
  first | exact cQ (Ja (.inl (Wj (e:=p1) (l:=ms) (by omega)))) | exact cQ (Ja (.inl (Vz (e:=p1) (l:=ms) (by omega)))) | exact cQ (Ja (.inl ((xP (e:=p1) (l:=ms) (by omega) (by omega)).trans (by assumption)))) | exact cQ (aA5 ((xP (e:=p1) (l:=ms) (by omega) (by omega)).trans (by assumption)) (.inl (Wj (e:=q1) (l:=ms) (by omega)))) | exact cQ (aA5 ((xP (e:=p1) (l:=ms) (by omega) (by omega)).trans (by assumption)) (.inl (Vz (e:=q1) (l:=ms) (by omega)))) | exact cQ (aUp ((xP (e:=p1) (l:=ms) (by omega) (by omega)).trans (by assumption)) (xP (e:=q1) (l:=ms) (by omega) (by omega)))
 refine R0 12918726720 O ?_
 refine xT ?_
 refine rI O ?_
 first | exact cQ (Ja (.inl (Wj (e:=p1) (l:=ms) (by omega)))) | exact cQ (Ja (.inl (Vz (e:=p1) (l:=ms) (by omega)))) | exact cQ (Ja (.inl ((xP (e:=p1) (l:=ms) (by omega) (by omega)).trans (by assumption)))) | exact cQ (aA5 ((xP (e:=p1) (l:=ms) (by omega) (by omega)).trans (by assumption)) (.inl (Wj (e:=q1) (l:=ms) (by omega)))) | exact cQ (aA5 ((xP (e:=p1) (l:=ms) (by omega) (by omega)).trans (by assumption)) (.inl (Vz (e:=q1) (l:=ms) (by omega)))) | exact cQ (aUp ((xP (e:=p1) (l:=ms) (by omega) (by omega)).trans (by assumption)) (xP (e:=q1) (l:=ms) (by omega) (by omega)))
theorem aNN {k:Nat} (hk:9≤k) {z:dA} {cm:C} {w:AV} {ms:List Bool} {l:List PPr} (hv:CZ 1 (RE Value.bool) z cm ms) (hx:SZ 10 RPr z w l) (hl:l.length≤1000) (hs:∀ a,a∈l→a.am.nm.length≤9000000∧a.am.dm.length≤9000000):FC (E k) 123 [.c cm,w] z fun u z'=>∃ c,u=.c c∧CZ 6 REq z' c (xM ms l):=by
 have hxl:=hx.le
 refine eA (bDu) (by omega) (aU O) fun B j hj=>?_
 refine R4 16 O ?_
 refine oW 151 6 ?_
 refine lN ?_
 refine R5 8 O ?_
 refine aT (aQ ?_)
 refine dX (fun n fs=>∃ (i:Nat) (cu:C) (csx:List C) (m:Nat) (zz:dA),LZ z zz [.row (.c cu) 151 6 m csx] [(0,.c cm),(1,w),(5,.c cu),(6,Az i)] fs∧n=l.length - i∧(i≤l.length)∧((xM ms (l.take i)).length=m)∧(CL 6 REq zz csx (xM ms (l.take i)))) ?_ _ ⟨0,Cz,[],0,_,LZ.m [] O,rfl,Nat.zero_le _,rfl,CL.nil⟩ (kK (by omega))
 intro n fs ⟨i,cu,csx,m,zz,hL0,hmz0,hi,hm0,hc⟩
 refine hL0.open fun e _=>?_
 refine R4 24 O ?_
 refine aS O hx ?_
 refine R3 4 O ?_
 refine xD O (fun hc11=>?_) (fun hc11=>?_)
 ·refine cP ?_
  refine aT (aQ ?_)
  refine R4 10 O ?_
  obtain ⟨a,ha⟩:=pE (l:=l) (i:=i) (by omega)
  obtain ⟨hs1,hs2⟩:=hs a (List.mem_of_getElem? ha)
  have hlm:(xM ms (l.take i)).length≤2000:=Nat.le_trans aSL (by rw [List.length_take];omega)
  refine dE (zz:=zz) O O hx.m i O a ha fun b16 p16 cs at16 hR=>?_
  obtain ⟨c16,d16,hcs,q16,r16⟩:=hR
  subst hcs
  refine nQ (off:=0) O at16 O (by simp) O ?_
  refine lC O ?_
  refine lE zz (aWx (by omega) hv.m) O O fun z19 _=>?_
  refine lN ?_
  refine jB O (fun hc19=>?_) (fun hc19=>?_)
  ·refine R4 10 O ?_
   refine dE (zz:=z19) O O hx.m i O a ha fun b22 p22 cs at22 hR=>?_
   obtain ⟨c22,d22,hcs,q22,r22⟩:=hR
   subst hcs
   refine lF O ?_
   refine nQ (off:=6) O at22 O (by simp) O ?_
   refine lZ z19 (aMu (by omega) q22 r22 (by omega) (by omega)) O O fun v25 z25 _ hv25=>?_
   have hw25:=yI (hv25 _ q22.m r22.m jF)
   obtain ⟨c25,d25,hv,hm25,hn25⟩:=hw25
   subst hv
   refine uM fun b7=>?_
   refine pA O O iW ?_
   refine lN ?_
   refine wC ?_
   refine G1 10 O ?_
   refine gP O O F ?_
   refine dE O O hx i O a ha fun b29 p29 cs at29 hR=>lN ?_
   obtain ⟨q29,r29,hcs,h29q,h29r⟩:=hR
   subst hcs
   refine G1 2 O ?_
   refine oD (i:=⟨_,_,.load _ _ _⟩) (off:=2) O O F O at29 ti O (by simp) O sR ?_
   refine G1 5 O ?_
   refine gP O O F ?_
   refine dE O O hx i O a ha fun b34 p34 cs at34 hR=>lN ?_
   obtain ⟨q34,r34,hcs,h34q,h34r⟩:=hR
   subst hcs
   refine G1 2 O ?_
   refine oD (i:=⟨_,_,.load _ _ _⟩) (off:=4) O O F O at34 ti O (by simp) O sR ?_
   refine Hi (i:=⟨_,_,.load _ _ _⟩) O O F O (.inr mem0) O (Nat.le_refl _) O sR ?_
   refine gP O O F ?_
   refine mN (cs:=[Ci a.py,Ci a.inn,Cb (decide ((-(rv a.am)).num<0)),c25,Cb (decide (((-(rv a.am)).den:Int)<0)),d25]) O (lN ?_)
   refine G1 5 O ?_
   refine gP O O F ?_
   refine dE O O hx i O a ha fun b41 p41 cs at41 hR=>lN ?_
   obtain ⟨q41,r41,hcs,h41q,h41r⟩:=hR
   subst hcs
   refine G1 2 O ?_
   refine oD (i:=⟨_,_,.load _ _ _⟩) (off:=3) O O F O at41 ti O (by simp) O sR ?_
   refine G1 5 O ?_
   refine gP O O F ?_
   refine dE O O hx i O a ha fun b46 p46 cs at46 hR=>lN ?_
   obtain ⟨q46,r46,hcs,h46q,h46r⟩:=hR
   subst hcs
   refine G1 2 O ?_
   refine oD (i:=⟨_,_,.load _ _ _⟩) (off:=5) O O F O at46 ti O (by simp) O sR ?_
   refine Hi (i:=⟨_,_,.load _ _ _⟩) O O F O (.inr mem0) O (Nat.le_refl _) O sR ?_
   refine gP O O F ?_
   refine mN (cs:=[Ci a.pr,Ci a.ou,Cb (decide ((-(rv a.am)).num<0)),c25,Cb (decide (((-(rv a.am)).den:Int)<0)),d25]) O (lN ?_)
   refine wE (k:=.cells 151 [Ci a.py,Ci a.inn,Cb (decide ((-(rv a.am)).num<0)),c25,Cb (decide (((-(rv a.am)).den:Int)<0)),d25,Ci a.pr,Ci a.ou,Cb (decide ((-(rv a.am)).num<0)),c25,Cb (decide (((-(rv a.am)).den:Int)<0)),d25]) (w:=fun b=>.c (.sl b 0 2 6)) rfl F rfl (fun _=>rfl) (fun st hst=>?_) (fun b51 hT51=>?_)
   ·simp only [eP,zB,AS.ev,hst 38 (by simp [lS.sl,Od.sls,Od.sl]),hst 50 (by simp [lS.sl,Od.sls,Od.sl])];rfl
   refine Dm (i:=⟨_,_,.app _ _ _ _ _ _⟩) O F O O O O ?_
   refine mV (n:=m) (m:=2) (cs:=csx) O O mem0 O (fun _=>mR P1) (by omega) (by omega) fun c52 hc52=>lN ?_
   refine G0 2 O ?_
   refine eT ?_
   refine xG ?_
   refine lC O ?_
   refine lB O O (gI (n:=i+1) (by omega) (by omega)) ?_
   refine R0 2 O ?_
   exact mK (by omega) ⟨i+1,c52,_,m+2,_,LZ.m [_,_] O,rfl,by omega,by rw [aXh ha hc19,List.length_append,hm0];rfl,by rw [aXh ha hc19];exact (hc.m).append (CL.two (a:=[Ci a.py,Ci a.inn,Cb (decide ((-(rv a.am)).num<0)),c25,Cb (decide (((-(rv a.am)).den:Int)<0)),d25]) (b:=[Ci a.pr,Ci a.ou,Cb (decide ((-(rv a.am)).num<0)),c25,Cb (decide (((-(rv a.am)).den:Int)<0)),d25]) rfl ⟨_,_,rfl,hm25,hn25⟩ ⟨_,_,rfl,hm25,hn25⟩)⟩
  refine oC ?_
  refine eT ?_
  refine xG ?_
  refine lC O ?_
  refine lB O O (gI (n:=i+1) (by omega) (by omega)) ?_
  refine R0 2 O ?_
  exact mK (by omega) ⟨i+1,cu,csx,m,_,LZ.m [] O,rfl,by omega,by rw [bAS ha hc19];exact hm0,by rw [bAS ha hc19];exact hc.m⟩
 refine dH ?_
 refine nF ?_
 refine eT ?_
 refine xR ?_
 refine aO9 (p:=[]) O (hc) hm0 (by have:=aSL (ms:=ms) (l:=l.take i);rw [List.length_take] at this;omega) fun zr _ hsr=>?_
 rw [List.take_of_length_le (by omega)] at hsr
 refine R0 4 O ?_
 refine xT ?_
 exact rI O ⟨_,rfl,hsr⟩
end Go.Proofs.YtlceligcgelbdaaGreat

/- The references' naturals in limbs of 16 bits, walked (1). -/
import Derived.WalkKit
import Derived.Orders
import Derived.Test.YtcnpoojdochapaaGreatDoorRD2
set_option linter.unusedVariables false
set_option linter.unusedSimpArgs false
set_option maxRecDepth 100000
set_option maxHeartbeats 1000000
namespace Go.Proofs.YtcnpoojdochapaaGreatDoor
open Go.CE Go.RowKit Go.Num
open Go.Eng (oH)
theorem bLn (a:Nat):pR .rem (.int .i64 (a:Nat)) (.int .i64 2)=some (.int .i64 ((a % 2:Nat):Int)):=aTV (by omega) (by omega) (by omega)
theorem aLR {a:Nat} (h:a<9223372036854775808):pR .quo (.int .i64 (a:Nat)) (.int .i64 2)=some (.int .i64 ((a / 2:Nat):Int)):=aTp (by omega) (by omega) (wI (by omega) (by omega))
theorem aWD {call:jO} {B:sY} {fs:Sf} {l:List I} {Q:Sf→Prop} {d ty n:Nat} {zero:List Value} {y:Go.Eng.Od} (hy:fs.ev y=Ai (n:Nat)) (hz:(Vt 1 (zero.map fun v=>C.v v)).length=1) (hw:∀ b,FL call B l (fs.own d (Aw b 1) (Ib eN b ty [n])) Q):FL call B (⟨some d,none,.bslice ty 1 1 zero [(0,y)]⟩::l) fs Q:=by
 refine kO (cs:=cE eN [n]) ?_ hw
 obtain ⟨c,hc⟩:=List.length_eq_one_iff.1 hz
 rw [hc]
 simp only [aEP,hy,AV.cells?]
 rfl
def Pr (l:List Nat) (o:List UInt32) (i:Nat):Prop:=∀ j,mU o j=dX (l.take i) (2 * j)+65536 * dX (l.take i) (2 * j+1)
theorem bKf (l:List Nat) (n:Nat):Pr l (List.replicate n 0) 0:=fun j=>by
 simp only [List.take_zero,dX,mU,List.getD_eq_getElem?_getD,List.getElem?_nil,List.getElem?_replicate]
 split<;>rfl
theorem wN {l:List Nat} {i x:Nat}:dX (l.take i) x=if x<i then dX l x else 0:=by
 by_cases h:x<i
 ·rw [if_pos h,aUn h]
 rw [if_neg h,K5 (by rw [List.length_take];omega)]
theorem bOS {l:List Nat} {o:List UInt32} {i:Nat} (h:Pr l o i) (h2:i % 2=1) (ok:Vz l):mU o (i / 2)<65536:=by
 rw [h,wN,wN,if_pos (by omega),if_neg (by omega)]
 have:=qY ok (2 * (i / 2))
 omega
theorem bKJ {l:List Nat} {o:List UInt32} {i:Nat} (h:Pr l o i) (h2:i % 2=0) (hi:i<l.length) (ho:i / 2<o.length) (h8:dX l i<65536):Pr l (o.set (i / 2) (UInt32.ofNat (dX l i))) (i+1):=fun j=>by
 rw [aS8 (by show _<4294967296;omega) ho,wN,wN]
 by_cases hj:j=i / 2
 ·rw [if_pos hj,if_pos (by omega),if_neg (by omega),show 2 * j=i by omega];rfl
 rw [if_neg hj,h,wN,wN]
 have e:∀ x,x≠i→(x<i↔x<i+1):=fun x hx=>by omega
 simp only [e (2 * j) (by omega),e (2 * j+1) (by omega)]
theorem bNb {l:List Nat} {o:List UInt32} {i:Nat} (h:Pr l o i) (h2:¬ i % 2=0) (hi:i<l.length) (ho:i / 2<o.length) (h7:mU o (i / 2)<65536) (h8:dX l i<65536):Pr l (o.set (i / 2) (UInt32.ofNat (mU o (i / 2)+65536 * dX l i))) (i+1):=fun j=>by
 rw [aS8 (by show _<4294967296;omega) ho,wN,wN]
 by_cases hj:j=i / 2
 ·have h3:=h j
  rw [wN,wN,if_pos (by omega),if_neg (by omega),Nat.mul_zero,Nat.add_zero] at h3
  rw [if_pos hj,if_pos (by omega),if_pos (by omega),← hj,h3,show 2 * j+1=i by omega]
 rw [if_neg hj,h,wN,wN]
 have e:∀ x,x≠i→(x<i↔x<i+1):=fun x hx=>by omega
 simp only [e (2 * j) (by omega),e (2 * j+1) (by omega)]
theorem bQl {l:List Nat} {o:List UInt32} {i:Nat} (h:Pr l o i) (hl:o.length=(l.length+1) / 2) (hi:l.length≤i) (ok:Vz l):o=J7 l:=aZy (by rw [hl,V0]) fun j=>by
 rw [aGn j ok,h,List.take_of_length_le hi]
theorem bTy {x:Nat} {b o0 o:List Nat} {i k c:Nat} (h:Mr x b o0 o i k c) (hc:k<b.length∨0<c):k≤b.length:=by
 rcases Nat.lt_or_ge b.length k with h1 | h1
 ·have:=(h.kc h1).1;omega
 exact h1
theorem bA3 {n m : Nat} (h : ¬ ((qB n).length : Int) = ((qB m).length : Int)) : decide (((qB n).length : Int) < ((qB m).length : Int)) = decide (n < m) := decide_eq_decide.2 ⟨fun h => bKi (by omega), fun h2 => by
  have:=aLW (Nat.le_of_lt h2);omega⟩
theorem bCs {n m i : Nat} (he : ∀ j, i ≤ j → dX (qB n) j = dX (qB m) j) (h0 : 0 < i) (h : ¬ ((dX (qB n) (i - 1) : Nat) : Int) = (dX (qB m) (i - 1) : Nat)) : decide (((dX (qB n) (i - 1) : Nat) : Int) < (dX (qB m) (i - 1) : Nat)) = decide (n < m) := decide_eq_decide.2 ⟨fun h => aLP he h0 h, fun h2 => by
  rcases Int.lt_trichotomy ((dX (qB n) (i - 1):Nat):Int) (dX (qB m) (i - 1):Nat) with h3 | h3 | h3
  · exact h3
  · exact absurd h3 h
  · have:=aLP (fun j hj=>(he j hj).symm) h0 h3;omega⟩
theorem bHS {n m i:Nat} (he:∀ j,i≤j→dX (qB n) j=dX (qB m) j) (h0:i=0):false=decide (n<m):=(decide_eq_false (by rw [aZJ fun j=>he j (by omega)];omega)).symm
theorem bKv {x:Nat} (h:x<65536):Vz [x]:=aBL aS2 h
theorem bQj (x:Nat):Num.hv [x]=x:=by simp [Num.hv]
theorem bAS {x:Nat} {l:List Nat} (h:x<65536) (ok:Vz l):Vz ([x]++l):=fun y hy=>by
 rcases List.mem_append.1 hy with hy | hy
 ·rw [List.mem_singleton.1 hy];exact h
 exact ok y hy
theorem bHb (x r:Nat):Num.hv ([x]++qB r)=x+65536 * r:=by
 show x+65536 * Num.hv (qB r)=_
 rw [yP]
theorem bD8 {x B k:Nat} (h:x<65536 * B) (hk:(qB B).length<k):(qB x).length≤k:=by
 refine Le.2 ?_
 have h1:=Le.1 (Nat.le_of_lt_succ (show (qB B).length<k - 1+1 by omega))
 obtain ⟨j,rfl⟩:∃ j,k=j+1:=⟨k - 1,by omega⟩
 rw [Nat.add_sub_cancel] at h1
 rw [Nat.pow_succ]
 have:B * 65536≤Num.H ^ j * 65536:=Nat.mul_le_mul_right _ (Nat.le_of_lt h1)
 show x<Num.H ^ j * 65536
 omega
theorem bEa (x B:Nat):x - x / B * B=x % B:=by
 have:=Nat.div_add_mod' x B
 omega
theorem O6 {k:Nat} (hk:1≤k) {z:dE} {v:AV} {l:List Nat} (ok:Vz l) (hx:SZ 1 RN z v l):FC (E k) 208 [v] z fun v' _=>∀ zz,SZ 1 RN zz v l→SZ 1 RN zz v' (qB (hv l)):=by
 have hxl:=hx.le
 refine cX (bBh) (by omega) (aU O) fun B j hj=>?_
 refine R5 4 O ?_
 refine aT (aQ ?_)
 refine eA (fun n fs=>∃ (v':AV) (m:Nat),LI z [] [(0,v')] fs∧n=m∧(m≤l.length)∧(hv (l.take m)=hv l)∧(∀ zz,SZ 1 RN zz v l→SZ 1 RN zz v' (l.take m))) ?_ _ ⟨v,l.length,LI.m [] O,rfl,Nat.le_refl _,by rw [List.take_length],fun zz h=>by rw [List.take_length];exact h⟩ (kK (by omega))
 intro n fs ⟨v',m,hL0,hmz0,hm,hq,ht⟩
 refine hL0.open fun e zl0 hzl0=>?_
 refine R4 12 O (Tv O (ht _ (hx.mono (hzl0))) (mS hm) (R1 4 O ?_))
 refine iW 6 O (fun hg6=>?_) (fun hg6=>?_)
 ·refine R1 7 O (lD O (Tv O (ht _ (hx.mono (hzl0))) (mS hm) (lD O (lB O O (Dx (n:=m - 1) (by omega) (by omega)) (lD O ?_)))))
  refine wC O O (ht _ (hx.mono (hzl0))) (m - 1) (O) (by rw [mS hm];omega) fun p11 hp11=>?_
  refine lD O (wF O hp11 (R3 8 O ?_))
  refine xD O (fun hc14=>?_) (fun hc14=>?_)
  ·refine dA (aQ (xG (R1 7 O (Tv O (ht _ (hx.mono (hzl0))) (mS hm) (lB O O (Dx (n:=m - 1) (by omega) (by omega)) ?_)))))
   refine aS6 (i:=0) (j:=m - 1) O (ht _ (hx.mono (hzl0))) O ⟨_,O⟩ (by omega) (by rw [mS hm];omega) ?_
   refine R0 3 O ?_
   exact lQ (by omega) ⟨aVL v' 0 (m - 1),m - 1,LI.m [] O,rfl,by omega,(aTn (by omega) hm (by omega)).trans hq,fun zz h=>by have:=(ht zz h).sub (i:=0) (j:=m - 1) (by omega) (by rw [mS hm];omega);rwa [List.drop_zero,List.take_take,Nat.min_eq_left (by omega)] at this⟩
  refine dK (nQ (dN (R5 14 O (xT (rI O ?_)))))
  intro zz h
  rw [← aDV ok hm hq (.inr (by omega))]
  exact ht zz h
 refine R3 1024 O (dK (nQ (dN (R5 14 O (xT (rI O ?_))))))
 intro zz h
 rw [← aDV ok hm hq (.inl (by omega))]
 exact ht zz h
theorem Bt {k:Nat} (hk:2≤k) {z:dE} {v:AV} {l:List UInt32} (hx:SZ 1 RW z v l) (hl:l.length≤10000000000):FC (E k) 152 [v] z fun v' z'=>SZ 1 RN (zd z z') v' (qB (val l)):=by
 refine cX (bAM) (by omega) (aU O) fun B j hj=>?_
 refine R4 64 O (wM 3 1 (R0 2 O ?_))
 refine aT (aQ ?_)
 refine eA (fun n fs=>∃ (i:Nat) (o:List Nat) (u:AV),LI z [It eN u 3 o] [(0,v),(3,u),(4,Az i)] fs∧n=l.length - i∧(i≤l.length)∧(o=aEs (l.take i))) ?_ _ ⟨0,[],C4,LI.m [] O,rfl,Nat.zero_le _,rfl⟩ (kK (by omega))
 intro n fs ⟨i,o,u,hL0,hmz0,hi,ho⟩
 refine hL0.open fun e zl0 _=>?_
 refine R4 24 O (aS O hx (R3 4 O ?_))
 refine xD O (fun hc8=>?_) (fun hc8=>?_)
 ·refine dA ?_
  refine aT (aQ ?_)
  refine Hj ?_
  have hoi:o.length=2 * i:=by rw [ho,aE5,mS hi]
  refine G1 11 O (gP O O F ?_)
  refine rS (zz:=zl0) O O hx.m (i) (O) (by omega) fun p14 hp14=>lN ?_
  refine glP O O hp14 ti (gP O O F ?_)
  refine lB O O ((aX2 (qG l i))) (lN ?_)
  refine gP O O F ?_
  refine mB O (wI (O) (by omega)) (lN ?_)
  refine G1 5 O (gP O O F ?_)
  refine rS (zz:=zl0) O O hx.m (i) (O) (by omega) fun p20 hp20=>lN ?_
  refine glP O O hp20 ti (gP O O F ?_)
  refine lB O O ((aYa (qG l i))) (lN ?_)
  refine gP O O F ?_
  refine mB O (wI (O) (bL6 l i)) (lN ?_)
  refine qT (k:=.cells 3 (cE eN [mU l i % 65536,mU l i / 65536])) (w:=fun b=>Aw b 2) rfl F rfl (fun _=>rfl) (fun st hst=>?_) (fun b24 hT24=>?_)
  ·simp only [eE,uZ,AS.ev,hst 17 (by simp [jM.sl,Od.sls,Od.sl]),hst 23 (by simp [jM.sl,Od.sls,Od.sl])];rfl
  refine K9 (i:=⟨_,_,.app _ _ _ _ _ _⟩) O F O O O O ?_
  refine aYg (e:=eN) (s:=[mU l i % 65536,mU l i / 65536]) O O mem0 (fun _=>D5 iP) (by simp only [List.length_cons,List.length_nil];omega) (by simp only [List.length_cons,List.length_nil];omega) fun c25 hc25=>?_
  refine lN (G0 2 O (dN (xG (lC O (lB O O (eP (n:=i+1) (by omega) (by omega)) (wM 3 1 (R0 2 O ?_)))))))
  exact lQ (by omega) ⟨i+1,_,_,LI.m [_,_] O,rfl,by omega,aVd ho (by omega)⟩
 refine dK (nQ (dN (xR ?_)))
 obtain rfl:o=aEs l:=by rw [ho,List.take_of_length_le (by omega)]
 have hhl:=aE5 l
 refine Fq z zl0 (p:=[]) O O zI (by omega) fun zfo _ hfo=>?_
 refine lM O ?_
 refine lZ zfo (O6 (by omega) (aV9 l) (hfo.mono gU)) O O fun v27 z27 hz27 ht27=>?_
 refine R0 3 O (xT (rI O ?_))
 have hr:=ht27 _ (hfo.mono (mX (hz27)))
 rwa [aVh] at hr
theorem Ov {k:Nat} (hk:1≤k) {z:dE} {v:AV} {l:List Nat} (ok:Vz l) (hx:SZ 1 RN z v l) (hl:l.length≤4000000000):FC (E k) 150 [v] z fun v' z'=>SZ 1 RW (zd z z') v' (J7 l):=by
 refine cX (bB2) (by omega) (aU O) fun B j hj=>?_
 refine R4 24 O (aS O hx (lB O O (eP (n:=l.length+1) (by omega) (by omega)) (lB O O ((aLR (by omega))) ?_)))
 refine aTM (n:=(l.length+1) / 2) O O (O) (by omega) (by omega) fun b9=>?_
 refine R3 16 O ?_
 refine aT (aQ ?_)
 refine eA (fun n fs=>∃ (i:Nat) (o:List UInt32),LI z [Ib eW b9 221 o] [(0,v),(3,.c (.sl b9 0 ((l.length+1) / 2) 1)),(4,Az i)] fs∧n=l.length - i∧(i≤l.length)∧(o.length=(l.length+1) / 2)∧(Pr l o i)) ?_ _ ⟨0,_,LI.m [] O,rfl,Nat.zero_le _,by simp,bKf _ _⟩ (kK (by omega))
 intro n fs ⟨i,o,hL0,hmz0,hi,hol,hP⟩
 refine hL0.open fun e zl0 _=>?_
 refine R4 24 O (aS O hx (R3 4 O ?_))
 refine xD O (fun hc13=>?_) (fun hc13=>?_)
 ·refine dA ?_
  refine aT (aQ ?_)
  refine xR ?_
  have h8:=qY ok i
  refine lC O (lB O O ((bLn _)) (R0 2 O ?_))
  refine xD O (fun hc18=>?_) (fun hc18=>?_)
  ·refine xG (R1 4 O (lB O O ((aLR (by omega))) (R1 5 O ?_)))
   refine wC (zz:=zl0) O O hx.m (i) (O) (by omega) fun p24 hp24=>?_
   refine wF O hp24 (mB O (wD (O) (by omega)) (uM O O (i / 2) (O) (by omega) (F8 (i / 2) (dX l i) O O iP (O) (by omega) (by omega) (by omega) (lN (dN (xG (lC O (lB O O (eP (n:=i+1) (by omega) (by omega)) (R0 2 O ?_)))))))))
   exact lQ (by omega) ⟨i+1,_,LI.m [] O,rfl,by omega,by rw [List.length_set];exact hol,bKJ hP (by omega) (by omega) (by omega) h8⟩
  refine Hj ?_
  have hd3:mU o (i / 2)<65536:=bOS hP (by omega) ok
  refine G1 4 O (gP O O F ?_)
  refine lB O O ((aLR (by omega))) (lN ?_)
  refine G1 4 O (gP O O F ?_)
  refine lB O O ((aLR (by omega))) (lN ?_)
  refine gP O O F ?_
  refine uM O O (i / 2) (O) (by omega) (lN ?_)
  refine aSZ (i:=⟨_,_,.load _ _ _⟩) (i / 2) O O F O (.inr mem0) (by omega) (by omega) ?_
  refine G1 5 O (gP O O F ?_)
  refine wC (zz:=zl0) O O hx.m (i) (O) (by omega) fun p38 hp38=>lN ?_
  refine glP O O hp38 ti (gP O O F ?_)
  refine mB O (wD (O) (by omega)) (lN ?_)
  refine gP O O F ?_
  refine lB O O ((aXD h8)) (lN ?_)
  refine gP O O F ?_
  refine lB O O ((aYp hd3 h8)) (lN ?_)
  refine gP O O F ?_
  refine uM O O (i / 2) (O) (by omega) (lN ?_)
  refine gS O O O (F8 (i / 2) (mU o (i / 2)+65536 * dX l i) O O iP (O) (by omega) (by omega) (by omega) (lN (mQ (dN (xG (lC O (lB O O (eP (n:=i+1) (by omega) (by omega)) (R0 2 O ?_))))))))
  exact lQ (by omega) ⟨i+1,_,LI.m [] O,rfl,by omega,by rw [List.length_set];exact hol,bNb hP (by omega) (by omega) (by omega) hd3 h8⟩
 refine dK (nQ (dN (R4 4 O ?_)))
 refine Bo (n:=(l.length+1) / 2) z zl0 (p:=[]) O O zI (hol) (by omega) fun zf44 _ hf44=>?_
 refine R0 2 O (xT (rI O ?_))
 rw [bQl hP hol (by omega) ok] at hf44
 exact hf44
theorem aGX {k:Nat} (hk:2≤k) {z:dE} {u v:AV} {a b:List Nat} (oka:Vz a) (okb:Vz b) (hx:SZ 1 RN z u a) (hy:SZ 1 RN z v b) (hla:a.length≤1000000000) (hlb:b.length≤1000000000):FC (E k) 151 [u,v] z fun v' z'=>SZ 1 RN z' v' (qB (hv a * hv b)):=by
 refine cX (bCB) (by omega) (aU O) fun B j hj=>?_
 refine R4 24 O (aS O hx (lM O (aS O hy (lB O O (eP (n:=a.length+b.length) (by omega) (by omega)) (lB O O (eP (n:=a.length+b.length+1) (by omega) (by omega)) ?_)))))
 refine bFs (n:=a.length+b.length+1) O O (O) (by omega) (by omega) fun b16=>?_
 refine R3 16 O ?_
 refine aT (aQ ?_)
 refine eA (fun n fs=>∃ (i:Nat) (o:List Nat),LI z [Ib eN b16 3 o] [(0,u),(1,v),(5,Aw b16 (a.length+b.length+1)),(6,Az i)] fs∧n=a.length - i∧(i≤a.length)∧(o.length=(a.length+b.length+1))∧(Mt a b o i)) ?_ _ ⟨0,_,LI.m [] O,rfl,Nat.zero_le _,by simp,Mt.init _⟩ (kK (by omega))
 intro n fs ⟨i,o,hL0,hmz0,hi,hol,hM⟩
 refine hL0.open fun e zl0 _=>?_
 refine R4 24 O (aS O hx (R3 4 O ?_))
 refine xD O (fun hc20=>?_) (fun hc20=>?_)
 ·refine dA ?_
  refine aT (aQ ?_)
  refine R5 16 O (aQ ?_)
  refine eA (fun n fs=>∃ (k:Nat) (cy:Nat) (o2:List Nat),LI zl0 [Ib eN b16 3 o2] [(0,u),(1,v),(5,Aw b16 (a.length+b.length+1)),(6,Az i),(7,Az cy),(8,Az k)] fs∧n=b.length+1 - k∧(Mr (dX a i) b o o2 i k cy)) ?_ _ ⟨0,0,_,LI.m [] O,rfl,Mr.init hM.ok⟩ (kK (by omega))
  intro n fs ⟨k,cy,o2,hL1,hmz1,hm⟩
  refine hL1.open fun e zl1 _=>?_
  refine R4 24 O (aS O hy (R1 4 O ?_))
  refine iW 27 O (fun hg27=>?_) (fun hg27=>?_)
  ·refine R3 64 O ?_
   refine aT (aQ ?_)
   refine xR ?_
   have h7:=hm.cl
   have h8:=qY hm.ok (i+k)
   have h9:dX a i * dX b k≤65535 * 65535:=Nat.mul_le_mul (Nat.le_of_lt_succ (qY oka i)) (Nat.le_of_lt_succ (qY okb k))
   have hl2:o2.length=a.length+b.length+1:=hm.len.trans hol
   have hkb:k≤b.length:=bTy hm (by omega)
   refine R1 8 O (lB O O (eP (n:=i+k) (by omega) (by omega)) (uM O O (i+k) (O) (by omega) (aV5 (i+k) O mem0 (by omega) (by omega) (lC O (lB O O (eP (n:=(dX o2 (i+k)+cy)) (by omega) (by omega)) (R2 48 O (aS O hy (R3 4 O ?_))))))))
   refine xD O (fun hc44=>?_) (fun hc44=>?_)
   ·refine gX (G1 10 O (gP O O F ?_))
    refine wC (zz:=zl1) O O hx.m (i) (O) (by omega) fun p48 hp48=>lN ?_
    refine glP O O hp48 ti (G1 5 O (gP O O F ?_))
    refine wC (zz:=zl1) O O hy.m (k) (O) (by omega) fun p52 hp52=>lN ?_
    refine glP O O hp52 ti (gP O O F ?_)
    refine lB O O (aZp (n:=dX a i * dX b k) ((Int.natCast_mul _ _).symm) (by omega)) (lN ?_)
    refine gP O O F ?_
    refine lB O O (eP (n:=(dX o2 (i+k)+cy+dX a i * dX b k)) (by omega) (by omega)) (lN ?_)
    refine G0 2 O (R4 16 O (lB O O (eP (n:=i+k) (by omega) (by omega)) (lC O (lB O O ((aMb _)) (uM O O (i+k) (O) (by omega) (aVq (i+k) ((dX o2 (i+k)+cy+dX a i * dX b k) % 65536) O O iP (O) (by omega) (by omega) (lN (xG (lC O (lB O O ((aF5 (by omega))) (R0 2 O (dN (xG (lC O (lB O O (eP (n:=k+1) (by omega) (by omega)) ?_)))))))))))))))
    refine R0 2 O ?_
    exact lQ (by omega) ⟨k+1,(dX o2 (i+k)+cy+dX a i * dX b k) / 65536,_,LI.m [] O,rfl,hm.step okb (qY oka i) (by omega) rfl (by omega)⟩
   omega
  refine R3 16 O ?_
  refine xD O (fun hc30=>?_) (fun hc30=>?_)
  ·refine dA ?_
   refine aT (aQ ?_)
   refine xR ?_
   have h7:=hm.cl
   have h8:=qY hm.ok (i+k)
   have h9:dX a i * dX b k≤65535 * 65535:=Nat.mul_le_mul (Nat.le_of_lt_succ (qY oka i)) (Nat.le_of_lt_succ (qY okb k))
   have hl2:o2.length=a.length+b.length+1:=hm.len.trans hol
   have hkb:k≤b.length:=bTy hm (by omega)
   refine R1 8 O (lB O O (eP (n:=i+k) (by omega) (by omega)) (uM O O (i+k) (O) (by omega) (aV5 (i+k) O mem0 (by omega) (by omega) (lC O (lB O O (eP (n:=(dX o2 (i+k)+cy)) (by omega) (by omega)) (R2 48 O (aS O hy (R3 4 O ?_))))))))
   refine xD O (fun hc44=>?_) (fun hc44=>?_)
   ·omega
   refine R4 32 O (lB O O (eP (n:=i+k) (by omega) (by omega)) (lC O (lB O O ((aMb _)) (uM O O (i+k) (O) (by omega) (aVq (i+k) ((dX o2 (i+k)+cy) % 65536) O O iP (O) (by omega) (by omega) (lN (xG (lC O (lB O O ((aF5 (by omega))) (R0 2 O (dN (xG (lC O (lB O O (eP (n:=k+1) (by omega) (by omega)) (R0 2 O ?_)))))))))))))))
   exact lQ (by omega) ⟨k+1,(dX o2 (i+k)+cy) / 65536,_,LI.m [] O,rfl,(hm.last (by omega) hM.z rfl (by omega) (by omega)).1⟩
  refine dK (nQ (dN (xG (lC O (lB O O (eP (n:=i+1) (by omega) (by omega)) (R0 2 O ?_))))))
  obtain rfl:cy=0:=by omega
  exact lQ (by omega) ⟨i+1,o2,LI.m [] O,rfl,by omega,hm.len.trans hol,hM.next hm (by omega)⟩
 refine dK (nQ (dN (R4 4 O ?_)))
 refine Bo (n:=(a.length+b.length+1)) z zl0 (p:=[]) O O zI (hol) (by omega) fun zf65 _ hf65=>?_
 refine lZ zf65 (O6 (by omega) hM.ok (hf65.mono gU)) O O fun v66 z66 hz66 ht66=>?_
 have hs66:=ht66 _ (hf65.mono (gU.trans (hz66)))
 rw [hM.val,E9 (by omega)] at hs66
 refine R0 3 O (xT ?_)
 exact rI O hs66
theorem aWd {k:Nat} (hk:1≤k) {z:dE} {u v:AV} {p1 p2:Nat} (hx:SZ 1 RN z u (qB p1)) (hy:SZ 1 RN z v (qB p2)):FC (E k) 241 [u,v] z fun v _=>v=Ab (decide (p1<p2)):=by
 have hxl:=hx.le
 refine cX (bAu) (by omega) (aU O) fun B j hj=>?_
 refine R4 48 O (aS O hx (lM O (aS O hy (R3 4 O ?_))))
 refine uG O (fun hc10=>?_) (fun hc10=>?_)
 ·refine R4 12 O (aS O hx (lM O (aS O hy (R0 4 O (mN ?_)))))
  exact rI O (cQ (bA3 hc10))
 refine R4 24 O (aS O hx (lB O O (zH (r:=(((qB p1).length:Nat):Int) - 1) (wR (by omega))) (R0 2 O ?_)))
 refine aT (aQ ?_)
 refine eA (fun n fs=>∃ (i:Nat),LI z [] [(0,u),(1,v),(5,Ai ((i:Int) - 1))] fs∧n=i∧(i≤(qB p1).length)∧(∀ j,i≤j→dX (qB p1) j=dX (qB p2) j)) ?_ _ ⟨(qB p1).length,LI.m [] O,rfl,Nat.le_refl _,fun j hj=>by rw [K5 (by omega),K5 (by omega)]⟩ (kK (by omega))
 intro n fs ⟨i,hL0,hmz0,hi,he⟩
 refine hL0.open fun e zl0 _=>?_
 refine R5 32 O ?_
 refine xD O (fun hc20=>?_) (fun hc20=>?_)
 ·refine dA ?_
  refine aT (aQ ?_)
  refine gX (G1 5 O (gP O O F ?_))
  refine wC (zz:=zl0) O O hx.m (i - 1) (by omega) (by omega) fun p25 hp25=>lN ?_
  refine glP O O hp25 ti (G1 5 O (gP O O F ?_))
  refine wC (zz:=zl0) O O hy.m (i - 1) (by omega) (by omega) fun p29 hp29=>lN ?_
  refine glP O O hp29 ti (G0 2 O ?_)
  refine uG O (fun hc31=>?_) (fun hc31=>?_)
  ·refine gX (G1 5 O (gP O O F ?_))
   refine wC (zz:=zl0) O O hx.m (i - 1) (by omega) (by omega) fun p34 hp34=>lN ?_
   refine glP O O hp34 ti (G1 5 O (gP O O F ?_))
   refine wC (zz:=zl0) O O hy.m (i - 1) (by omega) (by omega) fun p38 hp38=>lN ?_
   refine glP O O hp38 ti (G0 4 O (xT (lS (B8 (lS ?_)))))
   exact rI O (cQ (bCs he (by omega) hc31))
  refine iF (dN (xG (lC O ?_)))
  refine lB O O (zH (r:=((i - 1:Nat):Int) - 1) (by rw [wR ⟨by omega,by omega⟩];omega)) ?_
  refine R0 2 O ?_
  exact lQ (by omega) ⟨i - 1,LI.m [] O,rfl,by omega,aUP (by omega) he (by omega) (by omega)⟩
 refine dK (nQ (dN (R5 4 O (xT ?_))))
 exact rI O (cQ (bHS he (by omega)))
theorem aVp {k:Nat} (hk:2≤k) {z:dE} {u0 v:AV} {a b:List Nat} {q0:Nat} (oka:Vz a) (okb:Vz b) (hx:SZ 1 RN z u0 a) (hy:SZ 1 RN z v b) (hn:q0<65536) (hle:q0 * hv b≤hv a) (hla:a.length≤1000000000):FC (E k) 223 [u0,v,Az q0] z fun v' z'=>SZ 1 RN z' v' (qB (hv a - q0 * hv b)):=by
 refine cX (bBq) (by omega) (aU O) fun B j hj=>?_
 refine R4 32 O (wM 3 1 (R3 16 O ?_))
 refine aT (aQ ?_)
 refine eA (fun n fs=>∃ (i:Nat) (o:List Nat) (u:AV) (cy:Nat),LI z [It eN u 3 o] [(0,u0),(1,v),(2,Az q0),(7,u),(8,Az cy),(9,Az i)] fs∧n=a.length - i∧(i≤a.length)∧(o.length=i)∧(Vz o)∧(cy≤65535)∧(hv o+q0 * hv (b.take i)=hv (a.take i)+H ^ i * cy)) ?_ _ ⟨0,[],C4,0,LI.m [] O,rfl,Nat.zero_le _,rfl,aS2,by omega,by simp [Num.hv]⟩ (kK (by omega))
 intro n fs ⟨i,o,u,cy,hL0,hmz0,hi,hol,oko,hcy,hv0⟩
 refine hL0.open fun e zl0 _=>?_
 refine R4 24 O (aS O hx (R3 4 O ?_))
 refine xD O (fun hc14=>?_) (fun hc14=>?_)
 ·refine dA ?_
  refine aT (aQ ?_)
  refine xR ?_
  have h8:=qY oka i
  have h9:q0 * dX b i≤65535 * 65535:=Nat.mul_le_mul (by omega) (Nat.le_of_lt_succ (qY okb i))
  refine R1 5 O ?_
  refine wC (zz:=zl0) O O hx.m (i) (O) (by omega) fun p19 hp19=>?_
  refine wF O hp19 (lC O (lB O O (zH (r:=(dX a i:Int) - (cy:Int)) (wR (by omega))) (R2 48 O (aS O hy (R0 2 O ?_)))))
  refine I7 (fun fs=>∃ (x:Int),LI zl0 [It eN u 3 o] [(0,u0),(1,v),(2,Az q0),(7,u),(9,Az i),(10,Ai x)] fs∧(x+((q0 * dX b i:Nat):Int)+(cy:Int)=(dX a i:Int))) ?_ fun fs hJ=>?_
  ·refine xD O (fun hc26=>?_) (fun hc26=>?_)
   ·refine xG (R1 20 O ?_)
    refine wC (zz:=zl0) O O hy.m (i) (O) (by omega) fun p31 hp31=>?_
    refine wF O hp31 (lB O O (aZp (n:=q0 * dX b i) ((Int.natCast_mul _ _).symm) (by omega)) (lB O O (zH (r:=(dX a i:Int) - (cy:Int) - ((q0 * dX b i:Nat):Int)) (wR (by omega))) (R0 2 O ?_)))
    exact dN ⟨_,LI.m [] O,by omega⟩
   refine iF ?_
   have h9:dX b i=0:=K5 (by omega)
   have h8:q0 * dX b i=0:=by rw [h9,Nat.mul_zero]
   exact dN ⟨_,LI.m [] O,by omega⟩
  obtain ⟨x,hJ26,hxv⟩:=hJ
  refine hJ26.open fun e zj26 _=>?_
  refine R5 64 O ?_
  refine I7 (fun fs=>∃ (d:Nat) (c2:Nat),LI zj26 [It eN u 3 o] [(0,u0),(1,v),(2,Az q0),(7,u),(8,Az c2),(9,Az i),(10,Az d)] fs∧(d<65536)∧(c2≤65535)∧(d+q0 * dX b i+cy=dX a i+65536 * c2)) ?_ fun fs hJ=>?_
  ·refine xD O (fun hc36=>?_) (fun hc36=>?_)
   ·refine R4 4 O ?_
    refine lB O O (zH (r:=((65535+q0 * dX b i+cy - dX a i:Nat):Int)) (by rw [wR ⟨by omega,by omega⟩];omega)) ?_
    refine lB O O ((aF5 (by omega))) (R0 2 O (xG (R1 4 O (lB O O (aZp (n:=65536 * ((65535+q0 * dX b i+cy - dX a i) / 65536)) (by omega) (by omega)) (lB O O (eP (n:=dX a i+65536 * ((65535+q0 * dX b i+cy - dX a i) / 65536) - q0 * dX b i - cy) (by omega) (by omega)) (R0 2 O ?_))))))
    exact dN ⟨_,_,LI.m [] O,(by omega:dX a i+65536 * ((65535+q0 * dX b i+cy - dX a i) / 65536) - q0 * dX b i - cy<65536),by omega,by omega⟩
   refine iF ?_
   obtain rfl:x=((dX a i - q0 * dX b i - cy:Nat):Int):=by omega
   exact dN ⟨dX a i - q0 * dX b i - cy,0,LI.m [] O,by omega,by omega,by omega⟩
  obtain ⟨d,c2,hJ36,hd,hc2,hdv⟩:=hJ
  refine hJ36.open fun e zj36 _=>?_
  refine xG (R1 5 O ?_)
  refine aC4 (e:=eN) (a:=d) O (O) O (fun _=>rfl) (fun _=>iP) (by omega) (by omega) fun b46 c47 hc47=>?_
  refine R0 2 O (dN (xG (lC O (lB O O (eP (n:=i+1) (by omega) (by omega)) (R0 2 O ?_)))))
  exact lQ (by omega) ⟨i+1,_,_,c2,LI.m [_] O,rfl,by omega,by rw [List.length_append,hol];rfl,aBL oko hd,hc2,bGq hol hv0 hdv⟩
 refine dK (nQ (dN (xR ?_)))
 refine Fq z zl0 (p:=[]) O O zI (by omega) fun zfo _ hfo=>?_
 refine lM O ?_
 refine lZ zfo (O6 (by omega) oko (hfo.mono gU)) O O fun v49 z49 hz49 ht49=>?_
 have hs49:=ht49 _ (hfo.mono (gU.trans (hz49)))
 refine R0 3 O (xT (rI O ?_))
 obtain rfl:i=a.length:=by omega
 rw [bJ2 oka oko hol hle hv0] at hs49
 exact hs49
theorem aUe {k:Nat} (hk:3≤k) {z:dE} {u v:AV} {aa bb:Nat} (hx:SZ 1 RN z u (qB aa)) (hy:SZ 1 RN z v (qB bb)) (hlt:aa<65536 * bb) (hlb:(qB bb).length≤1000000000):FC (E k) 222 [u,v] z fun v _=>v=Az (aa / bb):=by
 refine cX (bCz) (by omega) (aU O) fun B j hj=>?_
 refine R5 32 O ?_
 refine aT (aQ ?_)
 refine eA (fun n fs=>∃ (low:Nat) (high:Nat),LI z [] [(0,u),(1,v),(5,Az low),(6,Az high)] fs∧n=high - low∧(low * bb≤aa)∧(aa<high * bb)∧(low<high)∧(high≤65536)) ?_ _ ⟨0,65536,LI.m [] O,rfl,by omega,hlt,by omega,by omega⟩ (kK (by omega))
 intro n fs ⟨low,high,hL0,hmz0,h1,h2,h3,h4⟩
 refine hL0.open fun e zl0 _=>?_
 refine R4 16 O (lB O O (Dx (n:=high - low) (by omega) (by omega)) (R3 4 O ?_))
 refine xD O (fun hc11=>?_) (fun hc11=>?_)
 ·refine dA (aQ (R4 8 O (lB O O (eP (n:=low+high) (by omega) (by omega)) (lB O O ((aLR (by omega))) (R2 44 O ?_)))))
  refine aWD O O fun b19=>?_
  refine Bo (n:=1) z zl0 (p:=[]) O O zI (O) (by omega) fun zf19 _ hf19=>?_
  refine lZ zf19 (aGX (by omega) (yU bb) (bKv (by omega)) hy.m (hf19.mono gU) hlb (by simp)) O O fun v20 z20 _ hs20=>?_
  rw [yP,bQj] at hs20
  refine lE z20 (aWd (by omega) hx.m hs20) O O fun z21 _=>?_
  refine lN ?_
  refine xD O (fun hc21=>?_) (fun hc21=>?_)
  ·refine xG (R0 4 O ?_)
   exact lQ (by omega) ⟨low,(low+high) / 2,LI.m [] O,rfl,h1,by rw [Nat.mul_comm];exact hc21,by omega,by omega⟩
  refine xG (R0 4 O ?_)
  exact lQ (by omega) ⟨(low+high) / 2,high,LI.m [] O,rfl,by rw [Nat.mul_comm];exact Nat.le_of_not_lt hc21,h2,by omega,by omega⟩
 refine dK (nQ (dN (R5 8 O (xT (rI O ?_)))))
 rw [bCb h1 h2 (by omega)]
 rfl
theorem aG4 {k:Nat} (hk:4≤k) {z:dE} {u v:AV} {a:List Nat} {bb:Nat} (oka:Vz a) (hx:SZ 1 RN z u a) (hy:SZ 1 RN z v (qB bb)) (hB:0<bb) (hla:a.length≤1000000000) (hlb:(qB bb).length<1000000000):FC (E k) 175 [u,v] z fun v' z'=>∃ q r,v'=.tup [q,r]∧SZ 1 RN z' q (qB (hv a / bb))∧SZ 1 RN z' r (qB (hv a % bb)):=by
 refine cX (bBJ) (by omega) (aU O) fun B j hj=>?_
 refine R4 48 O (aS O hx ?_)
 refine bFs (n:=a.length) O O (O) (by omega) (by omega) fun b12=>?_
 refine R2 96 O (aS O hx (lB O O (zH (r:=((a.length:Nat):Int) - 1) (wR (by omega))) (R0 2 O ?_)))
 refine aT (aQ ?_)
 refine eA (fun n fs=>∃ (i:Nat) (r:Nat) (w:AV) (o:List Nat) (zi:dE),LZ z zi [Ib eN b12 3 o] [(0,u),(1,v),(6,Aw b12 a.length),(7,w),(8,Ai ((i:Int) - 1))] fs∧n=i∧(i≤a.length)∧(o.length=a.length)∧(Vz o)∧(SZ 1 RN zi w (qB r))∧(r<bb)∧(hv (a.drop i)=hv (o.drop i) * bb+r)) ?_ _ ⟨a.length,0,C4,_,_,LZ.m [] O,rfl,Nat.le_refl _,by simp,aZ3 _,by rw [aBx];exact .nil,hB,by simp [Num.hv]⟩ (kK (by omega))
 intro n fs ⟨i,r,w,o,zi,hL0,hmz0,hi,hol,oko,hw,hr,hv0⟩
 refine hL0.open fun e _=>?_
 refine R5 32 O ?_
 refine xD O (fun hc17=>?_) (fun hc17=>?_)
 ·refine dA ?_
  refine aT (aQ ?_)
  refine xR ?_
  have hX:(dX a (i - 1)+65536 * r)<65536 * bb:=bLy (qY oka _) hr
  have hq1:(dX a (i - 1)+65536 * r) / bb<65536:=(Nat.div_lt_iff_lt_mul hB).2 hX
  have hq2:dX (o.set (i - 1) ((dX a (i - 1)+65536 * r) / bb)) (i - 1)=(dX a (i - 1)+65536 * r) / bb:=by rw [aM1 (by omega),if_pos rfl]
  have hX2:(qB (dX a (i - 1)+65536 * r)).length≤1000000000:=bD8 hX hlb
  have hrl:(qB r).length≤(qB bb).length:=aLW (Nat.le_of_lt hr)
  refine R1 5 O ?_
  refine wC (zz:=zi) O O hx.m (i - 1) (by omega) (by omega) fun p22 hp22=>?_
  refine wF O hp22 ?_
  refine aWD O O fun b24=>?_
  refine R2 24 O (aP2 (p:=[]) O (O) ?_)
  refine aVU O O hw (fun _=>iP) (by simp only [List.length_singleton];omega) (by simp only [List.length_singleton];omega) fun c27 hc27=>?_
  refine Fq z zi (p:=[]) O O zI (by simp only [List.length_append,List.length_singleton];omega) fun zf27 _ hf27=>?_
  refine lZ zf27 (O6 (by omega) (bAS (qY oka _) (yU r)) (hf27.mono gU)) O O fun v28 z28 hz28 ht28=>?_
  have hs28:=ht28 _ (hf27.mono (gU.trans (hz28)))
  rw [bHb] at hs28
  refine R2 113 O ?_
  refine lE z28 (aUe (by omega) hs28 hy.m hX (Nat.le_of_lt hlb)) O O fun z33 _=>?_
  refine uM O O (i - 1) (by omega) (by omega) (aVq (i - 1) ((dX a (i - 1)+65536 * r) / bb) O O iP (O) (by omega) (by omega) (lN (xG (R1 19 O (uM O O (i - 1) (by omega) (by omega) ?_)))))
  refine aV5 (i - 1) O mem0 (by omega) (by rw [List.length_set];omega) ?_
  refine lZ z33 (aVp (by omega) (yU _) (yU bb) hs28.m hy.m (by rw [hq2];exact hq1) (by rw [hq2,yP,yP];exact Nat.div_mul_le_self _ _) hX2) O O fun v41 z41 _ hs41=>?_
  rw [hq2,yP,yP,bEa] at hs41
  refine R0 3 O (dN (xG (lC O ?_)))
  refine lB O O (zH (r:=((i - 1:Nat):Int) - 1) (by rw [wR ⟨by omega,by omega⟩];omega)) ?_
  refine R0 2 O ?_
  exact lQ (by omega) ⟨i - 1,(dX a (i - 1)+65536 * r) % bb,_,_,_,LZ.m [] O,rfl,by omega,by rw [List.length_set];exact hol,aWh oko hq1,hs41,Nat.mod_lt _ hB,aYP (by omega) hi (by omega) hv0 rfl⟩
 refine dK (nQ (dN (R4 4 O ?_)))
 refine Bo (n:=a.length) z zi (p:=[]) O O zI (hol) (by omega) fun zf42 _ hf42=>?_
 refine lZ zf42 (O6 (by omega) oko (hf42.mono gU)) O O fun v43 z43 hz43 ht43=>?_
 have hs43:=ht43 _ (hf42.mono (gU.trans (hz43)))
 refine R0 15 O (xT (rQ (.inl O) (rt O (rt O rn)) ?_))
 obtain rfl:i=0:=by omega
 rw [List.drop_zero,List.drop_zero] at hv0
 obtain ⟨e1,e2⟩:=bBg hr hv0
 refine ⟨_,_,O,?_,?_⟩
 ·rw [e1];exact hs43
 rw [e2];exact hw.m
open Go.CE Go.RowKit Go.Num
open Go.Eng (oH)
theorem bQB (n:Int):pR .rem (.int .i64 n) (.int .i64 4294967296)=some (.int .i64 (n.tmod 4294967296)):=by
 simp [pR,Go.Eng.binV,Go.Eng.need]
theorem bH5 (n:Int):(n.tmod 4294967296=((n.natAbs % 4294967296:Nat):Int)∧n.tdiv 4294967296=((n.natAbs / 4294967296:Nat):Int))∨(n.tmod 4294967296 = -((n.natAbs % 4294967296:Nat):Int)∧n.tdiv 4294967296 = -((n.natAbs / 4294967296:Nat):Int)):=by
 obtain ⟨k,rfl | rfl⟩:=n.eq_nat_or_neg
 ·left
  rw [Int.natAbs_natCast]
  exact ⟨(Int.ofNat_tmod k 4294967296).symm,(Int.ofNat_tdiv k 4294967296).symm⟩
 right
 rw [Int.natAbs_neg,Int.natAbs_natCast,Int.neg_tmod,Int.neg_tdiv]
 exact ⟨congrArg Neg.neg (Int.ofNat_tmod k 4294967296).symm,congrArg Neg.neg (Int.ofNat_tdiv k 4294967296).symm⟩
theorem bTX (n:Int):(if -(n.tmod 4294967296) > n.tmod 4294967296 then -(n.tmod 4294967296) else n.tmod 4294967296)=((n.natAbs % 4294967296:Nat):Int):=by
 rcases bH5 n with ⟨h,_⟩ | ⟨h,_⟩<;>rw [h]<;>split<;>omega
theorem bSD (n:Int):(if -(n.tdiv 4294967296) > n.tdiv 4294967296 then -(n.tdiv 4294967296) else n.tdiv 4294967296)=((n.natAbs / 4294967296:Nat):Int):=by
 rcases bH5 n with ⟨_,h⟩ | ⟨_,h⟩<;>rw [h]<;>split<;>omega
theorem bSw (n:Int) : -9223372036854775808≤0 - n.tmod 4294967296∧0 - n.tmod 4294967296<9223372036854775808:=by
 rcases bH5 n with ⟨h,_⟩ | ⟨h,_⟩<;>rw [h]<;>omega
theorem bL5 {n:Int} (h1 : -9223372036854775808≤n) (h2:n<9223372036854775808) : -9223372036854775808≤0 - n.tdiv 4294967296∧0 - n.tdiv 4294967296<9223372036854775808:=by
 rcases bH5 n with ⟨_,h⟩ | ⟨_,h⟩<;>rw [h]<;>omega
theorem bTE {n:Int} (h1 : -9223372036854775808≤n) (h2:n<9223372036854775808) : -9223372036854775808≤n.tdiv 4294967296∧n.tdiv 4294967296<9223372036854775808:=by
 have:=bL5 h1 h2;rcases bH5 n with ⟨_,h⟩ | ⟨_,h⟩<;>rw [h]<;>omega
theorem bO8 {n:Int} (h1 : -9223372036854775808≤n) (h2:n<9223372036854775808):pR .quo (.int .i64 n) (.int .i64 4294967296)=some (.int .i64 (n.tdiv 4294967296)):=by
 have:IntKind.i64.wrap (n.tdiv 4294967296)=n.tdiv 4294967296:=wR (bTE h1 h2)
 simp [pR,Go.Eng.binV,Go.Eng.need,this]
theorem bFh {a:Int} (h:a<0) : -1=a.sign:=(Int.sign_eq_neg_one_of_neg h).symm
theorem bFX {a:Int} (h:0<a):1=a.sign:=(Int.sign_eq_one_of_pos h).symm
theorem bRw {a b:Int} (ha:a<0) (hb:¬ b<0) : -1=(a - b).sign:=(Int.sign_eq_neg_one_of_neg (by omega)).symm
theorem bTQ {a b:Int} (ha:¬ a<0) (hb:b<0):1=(a - b).sign:=(Int.sign_eq_one_of_pos (by omega)).symm
theorem bLK {a b:Int} (ha:a<0) (hb:b<0):Nv b.natAbs a.natAbs=(a - b).sign:=by
 unfold Nv
 split
 ·exact bFh (by omega)
 split
 ·exact bFX (by omega)
 rw [show a - b=0 by omega];rfl
theorem bKT {a b:Int} (ha:¬ a<0) (hb:¬ b<0):Nv a.natAbs b.natAbs=(a - b).sign:=by
 unfold Nv
 split
 ·exact bFh (by omega)
 split
 ·exact bFX (by omega)
 rw [show a - b=0 by omega];rfl
theorem bRu {A B:Nat} {v:AV} {zz:dE} {L:List UInt32} (h:(A<B→v=.tup [C4,Ai 2])∧(B≤A→∃ v',v=.tup [v',Ai 0]∧SZ 1 RW zz v' L)):∃ (c:C) (e:Int),v=.tup [.c c,Ai e]∧(e=0↔B≤A)∧(B≤A→SZ 1 RW zz (.c c) L):=by
 rcases Nat.lt_or_ge A B with h1 | h1
 ·exact ⟨_,2,h.1 h1,⟨fun h=>absurd h (by decide),fun h=>absurd h (by omega)⟩,fun h=>absurd h (by omega)⟩
 obtain ⟨v',h2,h3⟩:=h.2 h1
 obtain ⟨c,rfl,_⟩:=h3.one
 exact ⟨c,0,h2,⟨fun _=>h1,fun _=>rfl⟩,fun _=>h3⟩
theorem bWI {a b k:Nat} (h1:(toL a).length≤k) (h2:(toL b).length≤k):(toL (a+b)).length≤k+1:=by
 refine mV.2 ?_
 have h3:=mV.1 h1
 have h4:=mV.1 h2
 have h7:Num.W ^ k * 2≤Num.W ^ k * Num.W:=Nat.mul_le_mul_left _ (by decide)
 rw [Nat.pow_succ]
 generalize Num.W ^ k * Num.W=X at *
 generalize Num.W ^ k=Y at *
 omega
theorem bL3 {m:Nat}:(toL m).length=((qB m).length+1) / 2:=by rw [← Nw,V0]
theorem aLt {m k:Nat} (h:(toL m).length≤k):(qB m).length≤2 * k:=by
 rw [bL3] at h
 omega
theorem bTI {a b k j:Nat} (h1:(qB a).length≤k) (h2:(qB b).length≤j):(qB (a * b)).length≤k+j:=by
 refine Le.2 ?_
 rw [Nat.pow_add]
 exact Nat.mul_lt_mul'' (Le.1 h1) (Le.1 h2)
theorem aAz {k:Nat} (hk:1≤k) {z:dE} {n:Bool} {c:C} {l:List UInt32} (hx:CZ 1 RW z c l):FC (E k) 178 [.agg [Cb n,c]] z fun v _=>v=Ab (yN (n,l)):=by
 have hxl:=hx.le
 refine cX (bAp) (by omega) (aU O) fun B j hj=>?_
 refine xR ?_
 refine iJ O fun b1=>?_
 refine R2 16 O (bQ O mem0 O (aS O hx (R3 4 O ?_)))
 refine xD O (fun hc6=>?_) (fun hc6=>?_)
 ·refine R4 8 O (bQ O mem0 O (R0 4 O (mN (rI O ?_))))
  have hl:l=[]:=List.eq_nil_of_length_eq_zero (by omega)
  subst hl
  rw [aBU]
  rfl
 refine R4 8 O (bQ O mem0 O (lF O (bQ O mem0 O (aS O hx (lB O O (Dx (n:=l.length - 1) (by omega) (by omega)) ?_)))))
 refine rS O O hx (l.length - 1) (O) (by omega) fun p16 hp16=>?_
 refine wF O hp16 (R0 4 O (xT (rI O ?_)))
 rw [aTZ (by omega)]
 rfl
theorem pC {k:Nat} (hk:2≤k) {z:dE} {n:Bool} {c:C} {l:List UInt32} (hx:CZ 1 RW z c l):FC (E k) 149 [.agg [Cb n,c]] z fun v _=>∃ c',v=.agg [Cb (decide (kN (n,l)<0)),c']∧∀ zz,CZ 1 RW zz c l→CZ 1 RW zz c' (toL (kN (n,l)).natAbs):=by
 refine cX (bBB) (by omega) (aU O) fun B j hj=>?_
 refine xR ?_
 refine iJ O fun b1=>?_
 refine nJ fun b2=>?_
 refine lN (R4 4 O (jB O Y1 O ?_))
 refine lE z (aAz (by omega) hx) O O fun z4 _=>?_
 refine R3 4 O ?_
 refine iO O (fun hc5=>?_) (fun hc5=>?_)
 ·refine R4 4 O (iU (cs:=[_,_]) O (iE O O iP (lN (mN (rQ (.inl O) (rc2 O mem0 rn) ?_)))))
  have h0:=bG8 (n:=n) (l:=l) (by simpa using hc5)
  rw [h0]
  exact ⟨_,rfl,fun zz h=>by rw [show toL (0:Int).natAbs=[] from uO];exact .nil⟩
 refine R4 4 O (jB O Y1 O (iE O O iP (lN (xT (rQ (.inl O) (rc2 O mem0 rn) ?_)))))
 obtain ⟨e1,e2⟩:=aWq (n:=n) (l:=l) (by simpa using hc5)
 refine ⟨c,?_,fun zz h=>by rw [← e2];exact h⟩
 rw [← e1]
 rfl
theorem xB {k:Nat} (hk:4≤k) {z:dE} {b:Bool} {c:C} {l:List UInt32} (hx:CZ 1 RW z c l) (h1:l.length≤1000000000):FC (E k) 148 [Ab b,.c c] z fun v z'=>IV (zd z z') v (sgn b (val l)):=by
 have hll:=zT (l:=l)
 refine cX (bCE) (by omega) (aU O) fun B j hj=>?_
 refine xR ?_
 refine nJ fun b4=>?_
 refine lN (R4 4 O ?_)
 refine lZ z (aV8 (by omega) hx h1) O O fun v7 z7 _ h7=>?_
 obtain ⟨c7,rfl,_⟩:=h7.one
 refine R2 17 O ?_
 refine jI 9 O (fun hg9=>?_) (fun hg9=>?_)
 ·refine lD O (lM O (lD O (aS O (h7.mono gU) (R1 12 O (iU (cs:=[_,_]) O (iE O O iP (lN (xT (rQ (.inl O) (rc2 O mem0 rn) ?_)))))))))
  exact aEN rfl (by rw [aVw,hg9];rfl) h7
 refine R1 48 O (iU (cs:=[_,_]) O (iE O O iP (lN (xT (rQ (.inl O) (rc2 O mem0 rn) ?_)))))
 exact aEN rfl (by rw [aVw,hg9];rfl) h7
theorem A8 {k:Nat} (hk:5≤k) {z:dE} {n:Int} (h1 : -9223372036854775808≤n) (h2:n<9223372036854775808):FC (E k) 76 [Ai n] z fun v z'=>IV (zd z z') v n:=by
 refine cX (bIw) (by omega) (aU O) fun B j hj=>?_
 refine xR ?_
 refine nJ fun b2=>?_
 refine lN (R4 4 O (lB O O ((bQB n)) (lC O (lB O O ((bO8 h1 h2)) (R2 128 O ?_)))))
 refine aNN O (aYi (r := -(n.tmod 4294967296)) (by rw [wR (bSw n)];omega)) ?_
 refine bDC (m:=((n.natAbs % 4294967296:Nat):Int)) O O (bTX n) (mB O (wD (O) (by omega)) (R1 4 O ?_))
 refine aNN O (aYi (r := -(n.tdiv 4294967296)) (by rw [wR (bL5 h1 h2)];omega)) ?_
 refine bDC (m:=((n.natAbs / 4294967296:Nat):Int)) O O (bSD n) (mB O (wD (O) (by omega)) ?_)
 refine bAi O O (Nat.mod_lt _ (by decide)) (by omega) O fun b21=>?_
 refine Bo (n:=2) z z (p:=[]) O O zI (O) (by omega) fun zf21 hzf21 hf21=>?_
 refine lZ zf21 (xB (by omega) (hf21.mono gU) (by simp)) O O fun v22 z22 _ hv22=>?_
 rw [aZ9 (by omega),bGd] at hv22
 obtain ⟨c22,rfl,h22⟩:=hv22
 have h22:=h22.mono (zA (hzf21))
 refine iE O O iP (lN (xT (rQ (.inl O) (rc2 O mem0 rn) ?_)))
 exact ⟨_,rfl,h22⟩
theorem aSL {k:Nat} (hk:4≤k) {z:dE} {n1:Bool} {c1:C} {l1:List UInt32} (hx:CZ 1 RW z c1 l1) {n2:Bool} {c2:C} {l2:List UInt32} (hy:CZ 1 RW z c2 l2) (h1:l1.length≤100000000) (h2:l2.length≤100000000):FC (E k) 180 [.agg [Cb n1,c1],.agg [Cb n2,c2]] z fun v _=>v=.c (.v (.int .i64 (kN (n1,l1) - kN (n2,l2)).sign)):=by
 have e1:=Nat.le_trans (Es (n:=n1) (l:=l1)) h1
 have e2:=Nat.le_trans (Es (n:=n2) (l:=l2)) h2
 refine cX (bBD) (by omega) (aU O) fun B j hj=>?_
 refine xR ?_
 refine iJ O fun b2=>?_
 refine iJ O fun b3=>?_
 refine R2 4 O (jB O Y1 O ?_)
 refine lZ z (pC (by omega) hx) O O fun v6 z6 _ hv6=>?_
 obtain ⟨c6,rfl,hq6⟩:=hv6
 have h6:=hq6 _ (hx.mono (zJ z6))
 refine iE O O P1 (lN (xR (jB O mem0 O ?_)))
 refine lZ z6 (pC (by omega) hy.m) O O fun v8 z8 _ hv8=>?_
 obtain ⟨c8,rfl,hq8⟩:=hv8
 have h8:=hq8 _ (hy.mono (zJ z8))
 refine iE O O iP (lN ?_)
 refine aT (aQ ?_)
 refine R4 4 O (bQ O Y1 O (lC O ?_))
 refine iW 12 O (fun hg12=>?_) (fun hg12=>?_)
 ·refine lD O (lF O (lD O (bQ O mem0 O (R0 12 O ?_))))
  refine uG O (fun hc9=>?_) (fun hc9=>?_)
  ·refine R5 4 O (xT (lS ?_))
   exact rI O (congrArg (fun x=>AV.c (Ci x)) (bRw (by omega) (by omega)))
  refine R4 4 O (bQ O mem0 O (lC O ?_))
  refine iW 20 O (fun hg20=>?_) (fun hg20=>?_)
  ·refine lD O (lF O (lD O (bQ O Y1 O (R0 12 O ?_))))
   refine uG O (fun hc17=>?_) (fun hc17=>?_)
   ·omega
   refine R4 4 O (bQ O Y1 O (R0 2 O ?_))
   refine xD O (fun hc25=>?_) (fun hc25=>?_)
   ·refine R4 4 O (bQ O mem0 O (lF O (bQ O Y1 O ?_)))
    refine lZ z8 (aFm (by omega) h8 h6.m (by omega) (by omega)) O O fun v32 z32 _ hv32=>?_
    rw [gI,gI] at hv32
    refine R0 3 O (xT (lS (rI O ?_)))
    rw [bLK (by omega) (by omega)] at hv32
    exact hv32
   omega
  omega
 refine R2 272 O (bQ O mem0 O (lC O ?_))
 refine iW 20 O (fun hg20=>?_) (fun hg20=>?_)
 ·refine lD O (lF O (lD O (bQ O Y1 O (R0 12 O ?_))))
  refine uG O (fun hc17=>?_) (fun hc17=>?_)
  ·refine R5 4 O (xT (lS ?_))
   exact rI O (congrArg (fun x=>AV.c (Ci x)) (bTQ (by omega) (by omega)))
  omega
 refine R2 272 O (bQ O Y1 O (R0 2 O ?_))
 refine xD O (fun hc25=>?_) (fun hc25=>?_)
 ·omega
 refine iF (dN (R4 4 O (bQ O Y1 O (lF O (bQ O mem0 O ?_)))))
 refine lZ z8 (aFm (by omega) h6.m h8 (by omega) (by omega)) O O fun v37 z37 _ hv37=>?_
 rw [gI,gI] at hv37
 refine R0 3 O (xT (rI O ?_))
 rw [bKT (by omega) (by omega)] at hv37
 exact hv37
theorem Ae {k:Nat} (hk:5≤k) {z:dE} {n:Bool} {c:C} {l:List UInt32} (hx:CZ 1 RW z c l) (h1:l.length≤100000000):FC (E k) 113 [.agg [Cb n,c]] z fun v _=>v=.c (.v (.int .i64 (kN (n,l)).sign)):=by
 refine cX (bBj) (by omega) (aU O) fun B j hj=>?_
 refine xR ?_
 refine iJ O fun b1=>?_
 refine R2 4 O (jB O mem0 O (iU (cs:=[_,_]) O ?_))
 refine lZ z (aSL (n2:=false) (l2:=[]) (by omega) hx .nil h1 (by simp)) O O fun v5 z5 _ hv5=>?_
 refine R0 3 O (xT (rI O ?_))
 rw [show kN (false,[])=0 from rfl,Int.sub_zero] at hv5
 exact hv5
theorem Zg {k:Nat} (hk:5≤k) {z:dE} {n:Bool} {c:C} {l:List UInt32} (hx:CZ 1 RW z c l) (h1:l.length≤100000000):FC (E k) 115 [.agg [Cb n,c]] z fun v z'=>IV (zd z z') v (-kN (n,l)):=by
 have e1:=Nat.le_trans (Es (n:=n) (l:=l)) h1
 refine cX (bBG) (by omega) (aU O) fun B j hj=>?_
 refine xR ?_
 refine iJ O fun b1=>?_
 refine nJ fun b2=>?_
 refine lN (gX (J3 O O (.inr Y1) O ?_))
 refine gC z (pC (by omega) hx) O O O O fun v4 z4 hz4 hv4=>?_
 obtain ⟨c4,rfl,hq4⟩:=hv4
 have h4:=hq4 _ (hx.mono (zJ z4))
 refine gP O O F ?_
 refine aDI O O (lN ?_)
 refine G1 2 O (J3 O O (.inr Y1) O ?_)
 refine gC z4 (pC (by omega) hx.m) O O O O fun v8 z8 hz8 hv8=>?_
 obtain ⟨c8,rfl,hq8⟩:=hv8
 have h8:=hq8 _ (hx.mono (zJ z8))
 refine gP O O F ?_
 refine aDI O O (lN ?_)
 refine gC z8 (xB (by omega) h8 (by omega)) O O O O fun v10 z10 _ hv10=>?_
 rw [gI,aZY] at hv10
 obtain ⟨c10,rfl,h10⟩:=hv10
 have h10:=h10.mono (zA (hz4.trans hz8))
 refine gS O O O (iE O O iP (lN (mQ (xT (rQ (.inl O) (rc2 O mem0 rn) ?_)))))
 exact ⟨_,rfl,h10⟩
theorem aFY {k:Nat} (hk:5≤k) {z:dE} {n1:Bool} {c1:C} {l1:List UInt32} (hx:CZ 1 RW z c1 l1) {n2:Bool} {c2:C} {l2:List UInt32} (hy:CZ 1 RW z c2 l2) (h1:l1.length≤100000000) (h2:l2.length≤100000000):FC (E k) 177 [.agg [Cb n1,c1],.agg [Cb n2,c2]] z fun v z'=>IV (zd z z') v (kN (n1,l1)+kN (n2,l2)):=by
 have e1:=Nat.le_trans (Es (n:=n1) (l:=l1)) h1
 have e2:=Nat.le_trans (Es (n:=n2) (l:=l2)) h2
 refine cX (bBk) (by omega) (aU O) fun B j hj=>?_
 refine xR ?_
 refine iJ O fun b2=>?_
 refine iJ O fun b3=>?_
 refine nJ fun b4=>?_
 refine lN (xR (jB O Y2 O ?_))
 refine lZ z (pC (by omega) hx) O O fun v8 z8 hz8 hv8=>?_
 obtain ⟨c8,rfl,hq8⟩:=hv8
 have h8:=hq8 _ (hx.mono (zJ z8))
 refine iE O O P2 (lN (xR (jB O Y1 O ?_)))
 refine lZ z8 (pC (by omega) hy.m) O O fun v10 z10 hz10 hv10=>?_
 obtain ⟨c10,rfl,hq10⟩:=hv10
 have h10:=hq10 _ (hy.mono (zJ z10))
 refine iE O O P1 (lN (R4 8 O (bQ O Y2 O (lF O (bQ O Y1 O (I3 O O (aYz _ _) (lN (Uw ?_))))))))
 refine xD O (fun hc15=>?_) (fun hc15=>?_)
 ·refine aGM (gX (G1 2 O (wH O O (.inr Y2) O (G1 2 O (wH O O (.inr Y2) O (G1 2 O (wH O O (.inr Y1) O ?_)))))))
  refine gC z10 (aXg (by omega) h8.m h10 (by omega) (by omega)) O O O O fun v22 z22 hz22 h22=>?_
  rw [gI,gI] at h22
  obtain ⟨c22,rfl,_⟩:=h22.one
  have h22:=h22.mono (zA (hz8.trans hz10))
  have hl22:(toL ((kN (n1,l1)).natAbs+(kN (n2,l2)).natAbs)).length≤1000000000:=Nat.le_trans (bWI e1 e2) (by omega)
  refine gC z22 (xB (by omega) (h22.mono gU) (by omega)) O O O O fun v23 z23 _ hv23=>?_
  rw [gI,aQ9 hc15] at hv23
  obtain ⟨c23,rfl,h23⟩:=hv23
  have h23:=h23.mono (zA (hz8.trans (hz10.trans hz22)))
  refine gS O O O (iE O O iP (lN (mQ (mN (rQ (.inl O) (rc2 O mem0 rn) ?_)))))
  exact ⟨_,rfl,h23⟩
 refine R4 8 O (bQ O Y2 O (lF O (bQ O Y1 O ?_)))
 refine lZ z10 (aSK (by omega) h8.m h10 (by omega) (by omega)) O O fun v29 z29 hz29 hv29=>?_
 rw [gI,gI] at hv29
 obtain ⟨c29,e29,rfl,he29,hs29⟩:=bRu hv29
 refine R3 1177 O ?_
 refine xD O (fun hc33=>?_) (fun hc33=>?_)
 ·refine R4 4 O ?_
  have hs29:=hs29 (he29.1 hc33)
  have hs29:=hs29.mono (zA (hz8.trans hz10))
  refine lF O (bQ O Y2 O (lM O ?_))
  have hl29:=D1 (Nat.sub_le (kN (n1,l1)).natAbs (kN (n2,l2)).natAbs)
  refine lZ z29 (xB (by omega) (hs29.mono gU) (by omega)) O O fun v37 z37 _ hv37=>?_
  rw [gI,aS3 hc15 (he29.1 hc33)] at hv37
  obtain ⟨c37,rfl,h37⟩:=hv37
  have h37:=h37.mono (zA (hz8.trans (hz10.trans hz29)))
  refine iE O O iP (lN (mN (rQ (.inl O) (rc2 O mem0 rn) ?_)))
  exact ⟨_,rfl,h37⟩
 refine R4 4 O ?_
 have hlt:¬ (kN (n2,l2)).natAbs≤(kN (n1,l1)).natAbs:=fun h=>hc33 (he29.2 h)
 have hl43:=D1 (Nat.sub_le (kN (n2,l2)).natAbs (kN (n1,l1)).natAbs)
 refine lF O (bQ O Y1 O (lF O (bQ O Y2 O ?_)))
 refine lZ z29 (aSK (by omega) h10.m h8.m (by omega) (by omega)) O O fun v43 z43 hz43 ⟨_,hv43⟩=>?_
 rw [gI,gI] at hv43
 obtain ⟨w43,rfl,hr43⟩:=hv43 (by omega)
 obtain ⟨c43,rfl,_⟩:=hr43.one
 have hr43:=hr43.mono (zA (hz8.trans (hz10.trans hz29)))
 refine R2 73 O (bQ O Y1 O (lM O ?_))
 refine lZ z43 (xB (by omega) (hr43.mono gU) (by omega)) O O fun v49 z49 _ hv49=>?_
 rw [gI,aVg hc15 (by omega)] at hv49
 obtain ⟨c49,rfl,h49⟩:=hv49
 have h49:=h49.mono (zA (hz8.trans (hz10.trans (hz29.trans hz43))))
 refine iE O O iP (lN (xT (rQ (.inl O) (rc2 O mem0 rn) ?_)))
 exact ⟨_,rfl,h49⟩
theorem aWs {k:Nat} (hk:6≤k) {z:dE} {n1:Bool} {c1:C} {l1:List UInt32} (hx:CZ 1 RW z c1 l1) {n2:Bool} {c2:C} {l2:List UInt32} (hy:CZ 1 RW z c2 l2) (h1:l1.length≤100000000) (h2:l2.length≤100000000):FC (E k) 176 [.agg [Cb n1,c1],.agg [Cb n2,c2]] z fun v z'=>IV (zd z z') v (kN (n1,l1) - kN (n2,l2)):=by
 have e1:=Nat.le_trans (Es (n:=n1) (l:=l1)) h1
 have e2:=Nat.le_trans (Es (n:=n2) (l:=l2)) h2
 refine cX (bBt) (by omega) (aU O) fun B j hj=>?_
 refine xR ?_
 refine iJ O fun b2=>?_
 refine iJ O fun b3=>?_
 refine nJ fun b4=>?_
 refine lN (gX (J3 O O (.inr Y2) O (J3 O O (.inr Y1) O ?_)))
 refine gC z (Zg (by omega) hy h2) O O O O fun v7 z7 hz7 hv7=>?_
 obtain ⟨c7,rfl,h7⟩:=hv7
 refine gC z7 (aFY (by omega) hx.m (h7.mono gU) h1 (by rw [Int.natAbs_neg];exact e2)) O O O O fun v8 z8 _ hv8=>?_
 rw [hZ,← Int.sub_eq_add_neg] at hv8
 obtain ⟨c8,rfl,h8⟩:=hv8
 have h8:=h8.mono (zA (hz7))
 refine gS O O O (iE O O iP (lN (mQ (xT (rQ (.inl O) (rc2 O mem0 rn) ?_)))))
 exact ⟨_,rfl,h8⟩
theorem O8 {k:Nat} (hk:5≤k) {z:dE} {n1:Bool} {c1:C} {l1:List UInt32} (hx:CZ 1 RW z c1 l1) {n2:Bool} {c2:C} {l2:List UInt32} (hy:CZ 1 RW z c2 l2) (h1:l1.length≤100000000) (h2:l2.length≤100000000):FC (E k) 78 [.agg [Cb n1,c1],.agg [Cb n2,c2]] z fun v z'=>IV (zd z z') v (kN (n1,l1) * kN (n2,l2)):=by
 have e1:=Nat.le_trans (Es (n:=n1) (l:=l1)) h1
 have e2:=Nat.le_trans (Es (n:=n2) (l:=l2)) h2
 refine cX (bGl) (by omega) (aU O) fun B j hj=>?_
 refine xR ?_
 refine iJ O fun b2=>?_
 refine iJ O fun b3=>?_
 refine nJ fun b4=>?_
 refine lN (xR (jB O Y2 O ?_))
 refine lZ z (pC (by omega) hx) O O fun v6 z6 hz6 hv6=>?_
 obtain ⟨c6,rfl,hq6⟩:=hv6
 have h6:=hq6 _ (hx.mono (zJ z6))
 refine iE O O P2 (lN (xR (jB O Y1 O ?_)))
 refine lZ z6 (pC (by omega) hy.m) O O fun v8 z8 hz8 hv8=>?_
 obtain ⟨c8,rfl,hq8⟩:=hv8
 have h8:=hq8 _ (hy.mono (zJ z8))
 refine iE O O P1 (lN (gX (G1 2 O (wH O O (.inr Y2) O (G1 2 O (wH O O (.inr Y1) O (gP O O F ?_)))))))
 refine I3 O O (aDY _ _) (lN ?_)
 refine G1 2 O (wH O O (.inr Y2) O ?_)
 refine gC z8 (Bt (by omega) h6.m (by omega)) O O O O fun v16 z16 hz16 h16=>?_
 have h16:=h16.mono (zA (hz6.trans hz8))
 rw [gI] at h16
 refine G1 2 O (wH O O (.inr Y1) O ?_)
 refine gC z16 (Bt (by omega) h8.m (by omega)) O O O O fun v19 z19 hz19 h19=>?_
 have h19:=h19.mono (zA (hz6.trans (hz8.trans hz16)))
 rw [gI] at h19
 have f1:=aLt e1
 have f2:=aLt e2
 refine gC z19 (aGX (by omega) (yU _) (yU _) h16.m (h19.mono gU) (by omega) (by omega)) O O O O fun v20 z20 hz20 h20=>?_
 rw [yP,yP] at h20
 have f3:=bTI f1 f2
 refine gC z20 (Ov (by omega) (yU _) h20 (by omega)) O O O O fun v21 z21 hz21 h21=>?_
 rw [Nw] at h21
 obtain ⟨c21,rfl,_⟩:=h21.one
 have h21:=h21.mono (zA (hz6.trans (hz8.trans (hz16.trans (hz19.trans hz20)))))
 have f4:=bL3 (m:=(kN (n1,l1)).natAbs * (kN (n2,l2)).natAbs)
 refine gC z21 (xB (by omega) (h21.mono gU) (by omega)) O O O O fun v22 z22 _ hv22=>?_
 rw [gI,aZP] at hv22
 obtain ⟨c22,rfl,h22⟩:=hv22
 have h22:=h22.mono (zA (hz6.trans (hz8.trans (hz16.trans (hz19.trans (hz20.trans hz21))))))
 refine gS O O O (iE O O iP (lN (mQ (xT (rQ (.inl O) (rc2 O mem0 rn) ?_)))))
 exact ⟨_,rfl,h22⟩
end Go.Proofs.YtcnpoojdochapaaGreatDoor

/- The references' naturals in limbs of 16 bits, walked (1). -/
import Derived.WalkKit
import Derived.Orders
import Derived.Test.YtlceligcgelbdaaGreatKD2
set_option linter.unusedVariables false
set_option linter.unusedSimpArgs false
set_option maxRecDepth 100000
set_option maxHeartbeats 1000000
namespace Go.Proofs.YtlceligcgelbdaaGreat
open Go.CE Go.RowKit Go.Num
open Go.Eng (kN)
theorem bJz (a:Nat):pS .rem (.int .i64 (a:Nat)) (.int .i64 2)=some (.int .i64 ((a % 2:Nat):Int)):=aS9 (by omega) (by omega) (by omega)
theorem aGX {a:Nat} (h:a<9223372036854775808):pS .quo (.int .i64 (a:Nat)) (.int .i64 2)=some (.int .i64 ((a / 2:Nat):Int)):=aS0 (by omega) (by omega) (wI (by omega) (by omega))
theorem aXM {call:eE} {B:pK} {fs:Sf} {l:List I} {Q:Sf→Prop} {d ty n:Nat} {zero:List Value} {y:Go.Eng.Od} (hy:fs.ev y=Ai (n:Nat)) (hz:(Ld 1 (zero.map fun v=>C.v v)).length=1) (hw:∀ b,FL call B l (fs.own d (Aw b 1) (Fq eN b ty [n])) Q):FL call B (⟨some d,none,.bslice ty 1 1 zero [(0,y)]⟩::l) fs Q:=by
 refine cX (cs:=cE eN [n]) ?_ hw
 obtain ⟨c,hc⟩:=List.length_eq_one_iff.1 hz
 rw [hc]
 simp only [aCi,hy,AV.cells?]
 rfl
def Pr (l:List Nat) (o:List UInt32) (i:Nat):Prop:=∀ j,nJ o j=fV (l.take i) (2 * j)+65536 * fV (l.take i) (2 * j+1)
theorem bJH (l:List Nat) (n:Nat):Pr l (List.replicate n 0) 0:=fun j=>by
 simp only [List.take_zero,fV,nJ,List.getD_eq_getElem?_getD,List.getElem?_nil,List.getElem?_replicate]
 split<;>rfl
theorem vP {l:List Nat} {i x:Nat}:fV (l.take i) x=if x<i then fV l x else 0:=by
 by_cases h:x<i
 ·rw [if_pos h,aUP h]
 rw [if_neg h,Io (by rw [List.length_take];omega)]
theorem bLV {l:List Nat} {o:List UInt32} {i:Nat} (h:Pr l o i) (h2:i % 2=1) (ok:Ni l):nJ o (i / 2)<65536:=by
 rw [h,vP,vP,if_pos (by omega),if_neg (by omega)]
 have:=rA ok (2 * (i / 2))
 omega
theorem bJt {l:List Nat} {o:List UInt32} {i:Nat} (h:Pr l o i) (h2:i % 2=0) (hi:i<l.length) (ho:i / 2<o.length) (h8:fV l i<65536):Pr l (o.set (i / 2) (UInt32.ofNat (fV l i))) (i+1):=fun j=>by
 rw [aOU (by show _<4294967296;omega) ho,vP,vP]
 by_cases hj:j=i / 2
 ·rw [if_pos hj,if_pos (by omega),if_neg (by omega),show 2 * j=i by omega];rfl
 rw [if_neg hj,h,vP,vP]
 have e:∀ x,x≠i→(x<i↔x<i+1):=fun x hx=>by omega
 simp only [e (2 * j) (by omega),e (2 * j+1) (by omega)]
theorem bNl {l:List Nat} {o:List UInt32} {i:Nat} (h:Pr l o i) (h2:¬ i % 2=0) (hi:i<l.length) (ho:i / 2<o.length) (h7:nJ o (i / 2)<65536) (h8:fV l i<65536):Pr l (o.set (i / 2) (UInt32.ofNat (nJ o (i / 2)+65536 * fV l i))) (i+1):=fun j=>by
 rw [aOU (by show _<4294967296;omega) ho,vP,vP]
 by_cases hj:j=i / 2
 ·have h3:=h j
  rw [vP,vP,if_pos (by omega),if_neg (by omega),Nat.mul_zero,Nat.add_zero] at h3
  rw [if_pos hj,if_pos (by omega),if_pos (by omega),← hj,h3,show 2 * j+1=i by omega]
 rw [if_neg hj,h,vP,vP]
 have e:∀ x,x≠i→(x<i↔x<i+1):=fun x hx=>by omega
 simp only [e (2 * j) (by omega),e (2 * j+1) (by omega)]
theorem bN0 {l:List Nat} {o:List UInt32} {i:Nat} (h:Pr l o i) (hl:o.length=(l.length+1) / 2) (hi:l.length≤i) (ok:Ni l):o=I1 l:=bAf (by rw [hl,Nn]) fun j=>by
 rw [aDV j ok,h,List.take_of_length_le hi]
theorem bRK {x:Nat} {b o0 o:List Nat} {i k c:Nat} (h:Mr x b o0 o i k c) (hc:k<b.length∨0<c):k≤b.length:=by
 rcases Nat.lt_or_ge b.length k with h1 | h1
 ·have:=(h.kc h1).1;omega
 exact h1
theorem bDo {n m : Nat} (h : ¬ ((qB n).length : Int) = ((qB m).length : Int)) : decide (((qB n).length : Int) < ((qB m).length : Int)) = decide (n < m) := decide_eq_decide.2 ⟨fun h => bKD (by omega), fun h2 => by
  have:=aGp (Nat.le_of_lt h2);omega⟩
theorem bBL {n m i : Nat} (he : ∀ j, i ≤ j → fV (qB n) j = fV (qB m) j) (h0 : 0 < i) (h : ¬ ((fV (qB n) (i - 1) : Nat) : Int) = (fV (qB m) (i - 1) : Nat)) : decide (((fV (qB n) (i - 1) : Nat) : Int) < (fV (qB m) (i - 1) : Nat)) = decide (n < m) := decide_eq_decide.2 ⟨fun h => aG8 he h0 h, fun h2 => by
  rcases Int.lt_trichotomy ((fV (qB n) (i - 1):Nat):Int) (fV (qB m) (i - 1):Nat) with h3 | h3 | h3
  · exact h3
  · exact absurd h3 h
  · have:=aG8 (fun j hj=>(he j hj).symm) h0 h3;omega⟩
theorem bIF {n m i:Nat} (he:∀ j,i≤j→fV (qB n) j=fV (qB m) j) (h0:i=0):false=decide (n<m):=(decide_eq_false (by rw [bAJ fun j=>he j (by omega)];omega)).symm
theorem bJC {x:Nat} (h:x<65536):Ni [x]:=Wb aPa h
theorem bMr (x:Nat):Num.hv [x]=x:=by simp [Num.hv]
theorem bEE {x:Nat} {l:List Nat} (h:x<65536) (ok:Ni l):Ni ([x]++l):=fun y hy=>by
 rcases List.mem_append.1 hy with hy | hy
 ·rw [List.mem_singleton.1 hy];exact h
 exact ok y hy
theorem bHW (x r:Nat):Num.hv ([x]++qB r)=x+65536 * r:=by
 show x+65536 * Num.hv (qB r)=_
 rw [wM]
theorem bG5 {x B k:Nat} (h:x<65536 * B) (hk:(qB B).length<k):(qB x).length≤k:=by
 refine Ib.2 ?_
 have h1:=Ib.1 (Nat.le_of_lt_succ (show (qB B).length<k - 1+1 by omega))
 obtain ⟨j,rfl⟩:∃ j,k=j+1:=⟨k - 1,by omega⟩
 rw [Nat.add_sub_cancel] at h1
 rw [Nat.pow_succ]
 have:B * 65536≤Num.H ^ j * 65536:=Nat.mul_le_mul_right _ (Nat.le_of_lt h1)
 show x<Num.H ^ j * 65536
 omega
theorem bFI (x B:Nat):x - x / B * B=x % B:=by
 have:=Nat.div_add_mod' x B
 omega
theorem J3 {k:Nat} (hk:1≤k) {z:dA} {v:AV} {l:List Nat} (ok:Ni l) (hx:SZ 1 RN z v l):FC (E k) 273 [v] z fun v' _=>∀ zz,SZ 1 RN zz v l→SZ 1 RN zz v' (qB (hv l)):=by
 have hxl:=hx.le
 refine eA (bCc) (by omega) (aU O) fun B j hj=>?_
 refine R5 4 O ?_
 refine aT (aQ ?_)
 refine dX (fun n fs=>∃ (v':AV) (m:Nat),LI z [] [(0,v')] fs∧n=m∧(m≤l.length)∧(hv (l.take m)=hv l)∧(∀ zz,SZ 1 RN zz v l→SZ 1 RN zz v' (l.take m))) ?_ _ ⟨v,l.length,LI.m [] O,rfl,Nat.le_refl _,by rw [List.take_length],fun zz h=>by rw [List.take_length];exact h⟩ (kK (by omega))
 intro n fs ⟨v',m,hL0,hmz0,hm,hq,ht⟩
 refine hL0.open fun e zl0 hzl0=>?_
 refine R4 12 O (Lu O (ht _ (hx.mono (hzl0))) (nP hm) (R1 4 O ?_))
 refine fR 6 O (fun hg6=>?_) (fun hg6=>?_)
 ·refine R1 7 O (lD O (Lu O (ht _ (hx.mono (hzl0))) (nP hm) (lD O (lB O O (vO (n:=m - 1) (by omega) (by omega)) (lD O ?_)))))
  refine yR O O (ht _ (hx.mono (hzl0))) (m - 1) (O) (by rw [nP hm];omega) fun p11 hp11=>?_
  refine lD O (uO O hp11 (R3 8 O ?_))
  refine xD O (fun hc14=>?_) (fun hc14=>?_)
  ·refine cP (aQ (xG (R1 7 O (Lu O (ht _ (hx.mono (hzl0))) (nP hm) (lB O O (vO (n:=m - 1) (by omega) (by omega)) ?_)))))
   refine aOt (i:=0) (j:=m - 1) O (ht _ (hx.mono (hzl0))) O ⟨_,O⟩ (by omega) (by rw [nP hm];omega) ?_
   refine R0 3 O ?_
   exact mK (by omega) ⟨aXf v' 0 (m - 1),m - 1,LI.m [] O,rfl,by omega,(aS7 (by omega) hm (by omega)).trans hq,fun zz h=>by have:=(ht zz h).sub (i:=0) (j:=m - 1) (by omega) (by rw [nP hm];omega);rwa [List.drop_zero,List.take_take,Nat.min_eq_left (by omega)] at this⟩
  refine dH (nF (eT (R5 14 O (xT (rI O ?_)))))
  intro zz h
  rw [← Zx ok hm hq (.inr (by omega))]
  exact ht zz h
 refine R3 1024 O (dH (nF (eT (R5 14 O (xT (rI O ?_))))))
 intro zz h
 rw [← Zx ok hm hq (.inl (by omega))]
 exact ht zz h
theorem A8 {k:Nat} (hk:2≤k) {z:dA} {v:AV} {l:List UInt32} (hx:SZ 1 RW z v l) (hl:l.length≤10000000000):FC (E k) 220 [v] z fun v' z'=>SZ 1 RN (zd z z') v' (qB (val l)):=by
 refine eA (bBj) (by omega) (aU O) fun B j hj=>?_
 refine R4 64 O (oW 3 1 (R0 2 O ?_))
 refine aT (aQ ?_)
 refine dX (fun n fs=>∃ (i:Nat) (o:List Nat) (u:AV),LI z [Ed eN u 3 o] [(0,v),(3,u),(4,Az i)] fs∧n=l.length - i∧(i≤l.length)∧(o=aBm (l.take i))) ?_ _ ⟨0,[],rC,LI.m [] O,rfl,Nat.zero_le _,rfl⟩ (kK (by omega))
 intro n fs ⟨i,o,u,hL0,hmz0,hi,ho⟩
 refine hL0.open fun e zl0 _=>?_
 refine R4 24 O (aS O hx (R3 4 O ?_))
 refine xD O (fun hc8=>?_) (fun hc8=>?_)
 ·refine cP ?_
  refine aT (aQ ?_)
  refine wC ?_
  have hoi:o.length=2 * i:=by rw [ho,aBU,nP hi]
  refine G1 11 O (gP O O F ?_)
  refine sJ (zz:=zl0) O O hx.m (i) (O) (by omega) fun p14 hp14=>lN ?_
  refine glP O O hp14 ti (gP O O F ?_)
  refine lB O O ((aXx (qO l i))) (lN ?_)
  refine gP O O F ?_
  refine mX O (wI (O) (by omega)) (lN ?_)
  refine G1 5 O (gP O O F ?_)
  refine sJ (zz:=zl0) O O hx.m (i) (O) (by omega) fun p20 hp20=>lN ?_
  refine glP O O hp20 ti (gP O O F ?_)
  refine lB O O ((aYF (qO l i))) (lN ?_)
  refine gP O O F ?_
  refine mX O (wI (O) (bLy l i)) (lN ?_)
  refine wE (k:=.cells 3 (cE eN [nJ l i % 65536,nJ l i / 65536])) (w:=fun b=>Aw b 2) rfl F rfl (fun _=>rfl) (fun st hst=>?_) (fun b24 hT24=>?_)
  ·simp only [eP,zB,AS.ev,hst 17 (by simp [lS.sl,Od.sls,Od.sl]),hst 23 (by simp [lS.sl,Od.sls,Od.sl])];rfl
  refine Dm (i:=⟨_,_,.app _ _ _ _ _ _⟩) O F O O O O ?_
  refine aYS (e:=eN) (s:=[nJ l i % 65536,nJ l i / 65536]) O O mem0 (fun _=>mR iW) (by simp only [List.length_cons,List.length_nil];omega) (by simp only [List.length_cons,List.length_nil];omega) fun c25 hc25=>?_
  refine lN (G0 2 O (eT (xG (lC O (lB O O (gI (n:=i+1) (by omega) (by omega)) (oW 3 1 (R0 2 O ?_)))))))
  exact mK (by omega) ⟨i+1,_,_,LI.m [_,_] O,rfl,by omega,aU3 ho (by omega)⟩
 refine dH (nF (eT (xR ?_)))
 obtain rfl:o=aBm l:=by rw [ho,List.take_of_length_le (by omega)]
 have hhl:=aBU l
 refine Dx z zl0 (p:=[]) O O zI (by omega) fun zfo _ hfo=>?_
 refine lM O ?_
 refine lZ zfo (J3 (by omega) (aWU l) (hfo.mono jF)) O O fun v27 z27 hz27 ht27=>?_
 refine R0 3 O (xT (rI O ?_))
 have hr:=ht27 _ (hfo.mono (jO (hz27)))
 rwa [aWZ] at hr
theorem Ju {k:Nat} (hk:1≤k) {z:dA} {v:AV} {l:List Nat} (ok:Ni l) (hx:SZ 1 RN z v l) (hl:l.length≤4000000000):FC (E k) 218 [v] z fun v' z'=>SZ 1 RW (zd z z') v' (I1 l):=by
 refine eA (bCM) (by omega) (aU O) fun B j hj=>?_
 refine R4 24 O (aS O hx (lB O O (gI (n:=l.length+1) (by omega) (by omega)) (lB O O ((aGX (by omega))) ?_)))
 refine aSU (n:=(l.length+1) / 2) O O (O) (by omega) (by omega) fun b9=>?_
 refine R3 16 O ?_
 refine aT (aQ ?_)
 refine dX (fun n fs=>∃ (i:Nat) (o:List UInt32),LI z [Fq eW b9 117 o] [(0,v),(3,.c (.sl b9 0 ((l.length+1) / 2) 1)),(4,Az i)] fs∧n=l.length - i∧(i≤l.length)∧(o.length=(l.length+1) / 2)∧(Pr l o i)) ?_ _ ⟨0,_,LI.m [] O,rfl,Nat.zero_le _,by simp,bJH _ _⟩ (kK (by omega))
 intro n fs ⟨i,o,hL0,hmz0,hi,hol,hP⟩
 refine hL0.open fun e zl0 _=>?_
 refine R4 24 O (aS O hx (R3 4 O ?_))
 refine xD O (fun hc13=>?_) (fun hc13=>?_)
 ·refine cP ?_
  refine aT (aQ ?_)
  refine xR ?_
  have h8:=rA ok i
  refine lC O (lB O O ((bJz _)) (R0 2 O ?_))
  refine xD O (fun hc18=>?_) (fun hc18=>?_)
  ·refine xG (R1 4 O (lB O O ((aGX (by omega))) (R1 5 O ?_)))
   refine yR (zz:=zl0) O O hx.m (i) (O) (by omega) fun p24 hp24=>?_
   refine uO O hp24 (mX O (wD (O) (by omega)) (oO O O (i / 2) (O) (by omega) (Ek (i / 2) (fV l i) O O iW (O) (by omega) (by omega) (by omega) (lN (eT (xG (lC O (lB O O (gI (n:=i+1) (by omega) (by omega)) (R0 2 O ?_)))))))))
   exact mK (by omega) ⟨i+1,_,LI.m [] O,rfl,by omega,by rw [List.length_set];exact hol,bJt hP (by omega) (by omega) (by omega) h8⟩
  refine wC ?_
  have hd3:nJ o (i / 2)<65536:=bLV hP (by omega) ok
  refine G1 4 O (gP O O F ?_)
  refine lB O O ((aGX (by omega))) (lN ?_)
  refine G1 4 O (gP O O F ?_)
  refine lB O O ((aGX (by omega))) (lN ?_)
  refine gP O O F ?_
  refine oO O O (i / 2) (O) (by omega) (lN ?_)
  refine aPe (i:=⟨_,_,.load _ _ _⟩) (i / 2) O O F O (.inr mem0) (by omega) (by omega) ?_
  refine G1 5 O (gP O O F ?_)
  refine yR (zz:=zl0) O O hx.m (i) (O) (by omega) fun p38 hp38=>lN ?_
  refine glP O O hp38 ti (gP O O F ?_)
  refine mX O (wD (O) (by omega)) (lN ?_)
  refine gP O O F ?_
  refine lB O O ((aXH h8)) (lN ?_)
  refine gP O O F ?_
  refine lB O O ((aYO hd3 h8)) (lN ?_)
  refine gP O O F ?_
  refine oO O O (i / 2) (O) (by omega) (lN ?_)
  refine gS O O O (Ek (i / 2) (nJ o (i / 2)+65536 * fV l i) O O iW (O) (by omega) (by omega) (by omega) (lN (mL (eT (xG (lC O (lB O O (gI (n:=i+1) (by omega) (by omega)) (R0 2 O ?_))))))))
  exact mK (by omega) ⟨i+1,_,LI.m [] O,rfl,by omega,by rw [List.length_set];exact hol,bNl hP (by omega) (by omega) (by omega) hd3 h8⟩
 refine dH (nF (eT (R4 4 O ?_)))
 refine A7 (n:=(l.length+1) / 2) z zl0 (p:=[]) O O zI (hol) (by omega) fun zf44 _ hf44=>?_
 refine R0 2 O (xT (rI O ?_))
 rw [bN0 hP hol (by omega) ok] at hf44
 exact hf44
theorem aEG {k:Nat} (hk:2≤k) {z:dA} {u v:AV} {a b:List Nat} (oka:Ni a) (okb:Ni b) (hx:SZ 1 RN z u a) (hy:SZ 1 RN z v b) (hla:a.length≤1000000000) (hlb:b.length≤1000000000):FC (E k) 219 [u,v] z fun v' z'=>SZ 1 RN z' v' (qB (hv a * hv b)):=by
 refine eA (bEr) (by omega) (aU O) fun B j hj=>?_
 refine R4 24 O (aS O hx (lM O (aS O hy (lB O O (gI (n:=a.length+b.length) (by omega) (by omega)) (lB O O (gI (n:=a.length+b.length+1) (by omega) (by omega)) ?_)))))
 refine bHN (n:=a.length+b.length+1) O O (O) (by omega) (by omega) fun b16=>?_
 refine R3 16 O ?_
 refine aT (aQ ?_)
 refine dX (fun n fs=>∃ (i:Nat) (o:List Nat),LI z [Fq eN b16 3 o] [(0,u),(1,v),(5,Aw b16 (a.length+b.length+1)),(6,Az i)] fs∧n=a.length - i∧(i≤a.length)∧(o.length=(a.length+b.length+1))∧(Mt a b o i)) ?_ _ ⟨0,_,LI.m [] O,rfl,Nat.zero_le _,by simp,Mt.init _⟩ (kK (by omega))
 intro n fs ⟨i,o,hL0,hmz0,hi,hol,hM⟩
 refine hL0.open fun e zl0 _=>?_
 refine R4 24 O (aS O hx (R3 4 O ?_))
 refine xD O (fun hc20=>?_) (fun hc20=>?_)
 ·refine cP ?_
  refine aT (aQ ?_)
  refine R5 16 O (aQ ?_)
  refine dX (fun n fs=>∃ (k:Nat) (cy:Nat) (o2:List Nat),LI zl0 [Fq eN b16 3 o2] [(0,u),(1,v),(5,Aw b16 (a.length+b.length+1)),(6,Az i),(7,Az cy),(8,Az k)] fs∧n=b.length+1 - k∧(Mr (fV a i) b o o2 i k cy)) ?_ _ ⟨0,0,_,LI.m [] O,rfl,Mr.init hM.ok⟩ (kK (by omega))
  intro n fs ⟨k,cy,o2,hL1,hmz1,hm⟩
  refine hL1.open fun e zl1 _=>?_
  refine R4 24 O (aS O hy (R1 4 O ?_))
  refine fR 27 O (fun hg27=>?_) (fun hg27=>?_)
  ·refine R3 64 O ?_
   refine aT (aQ ?_)
   refine xR ?_
   have h7:=hm.cl
   have h8:=rA hm.ok (i+k)
   have h9:fV a i * fV b k≤65535 * 65535:=Nat.mul_le_mul (Nat.le_of_lt_succ (rA oka i)) (Nat.le_of_lt_succ (rA okb k))
   have hl2:o2.length=a.length+b.length+1:=hm.len.trans hol
   have hkb:k≤b.length:=bRK hm (by omega)
   refine R1 8 O (lB O O (gI (n:=i+k) (by omega) (by omega)) (oO O O (i+k) (O) (by omega) (aWS (i+k) O mem0 (by omega) (by omega) (lC O (lB O O (gI (n:=(fV o2 (i+k)+cy)) (by omega) (by omega)) (R2 48 O (aS O hy (R3 4 O ?_))))))))
   refine xD O (fun hc44=>?_) (fun hc44=>?_)
   ·refine iN (G1 10 O (gP O O F ?_))
    refine yR (zz:=zl1) O O hx.m (i) (O) (by omega) fun p48 hp48=>lN ?_
    refine glP O O hp48 ti (G1 5 O (gP O O F ?_))
    refine yR (zz:=zl1) O O hy.m (k) (O) (by omega) fun p52 hp52=>lN ?_
    refine glP O O hp52 ti (gP O O F ?_)
    refine lB O O (aZx (n:=fV a i * fV b k) ((Int.natCast_mul _ _).symm) (by omega)) (lN ?_)
    refine gP O O F ?_
    refine lB O O (gI (n:=(fV o2 (i+k)+cy+fV a i * fV b k)) (by omega) (by omega)) (lN ?_)
    refine G0 2 O (R4 16 O (lB O O (gI (n:=i+k) (by omega) (by omega)) (lC O (lB O O ((aGk _)) (oO O O (i+k) (O) (by omega) (aXn (i+k) ((fV o2 (i+k)+cy+fV a i * fV b k) % 65536) O O iW (O) (by omega) (by omega) (lN (xG (lC O (lB O O ((aCW (by omega))) (R0 2 O (eT (xG (lC O (lB O O (gI (n:=k+1) (by omega) (by omega)) ?_)))))))))))))))
    refine R0 2 O ?_
    exact mK (by omega) ⟨k+1,(fV o2 (i+k)+cy+fV a i * fV b k) / 65536,_,LI.m [] O,rfl,hm.step okb (rA oka i) (by omega) rfl (by omega)⟩
   omega
  refine R3 16 O ?_
  refine xD O (fun hc30=>?_) (fun hc30=>?_)
  ·refine cP ?_
   refine aT (aQ ?_)
   refine xR ?_
   have h7:=hm.cl
   have h8:=rA hm.ok (i+k)
   have h9:fV a i * fV b k≤65535 * 65535:=Nat.mul_le_mul (Nat.le_of_lt_succ (rA oka i)) (Nat.le_of_lt_succ (rA okb k))
   have hl2:o2.length=a.length+b.length+1:=hm.len.trans hol
   have hkb:k≤b.length:=bRK hm (by omega)
   refine R1 8 O (lB O O (gI (n:=i+k) (by omega) (by omega)) (oO O O (i+k) (O) (by omega) (aWS (i+k) O mem0 (by omega) (by omega) (lC O (lB O O (gI (n:=(fV o2 (i+k)+cy)) (by omega) (by omega)) (R2 48 O (aS O hy (R3 4 O ?_))))))))
   refine xD O (fun hc44=>?_) (fun hc44=>?_)
   ·omega
   refine R4 32 O (lB O O (gI (n:=i+k) (by omega) (by omega)) (lC O (lB O O ((aGk _)) (oO O O (i+k) (O) (by omega) (aXn (i+k) ((fV o2 (i+k)+cy) % 65536) O O iW (O) (by omega) (by omega) (lN (xG (lC O (lB O O ((aCW (by omega))) (R0 2 O (eT (xG (lC O (lB O O (gI (n:=k+1) (by omega) (by omega)) (R0 2 O ?_)))))))))))))))
   exact mK (by omega) ⟨k+1,(fV o2 (i+k)+cy) / 65536,_,LI.m [] O,rfl,(hm.last (by omega) hM.z rfl (by omega) (by omega)).1⟩
  refine dH (nF (eT (xG (lC O (lB O O (gI (n:=i+1) (by omega) (by omega)) (R0 2 O ?_))))))
  obtain rfl:cy=0:=by omega
  exact mK (by omega) ⟨i+1,o2,LI.m [] O,rfl,by omega,hm.len.trans hol,hM.next hm (by omega)⟩
 refine dH (nF (eT (R4 4 O ?_)))
 refine A7 (n:=(a.length+b.length+1)) z zl0 (p:=[]) O O zI (hol) (by omega) fun zf65 _ hf65=>?_
 refine lZ zf65 (J3 (by omega) hM.ok (hf65.mono jF)) O O fun v66 z66 hz66 ht66=>?_
 have hs66:=ht66 _ (hf65.mono (jF.trans (hz66)))
 rw [hM.val,Cm (by omega)] at hs66
 refine R0 3 O (xT ?_)
 exact rI O hs66
theorem aWn {k:Nat} (hk:1≤k) {z:dA} {u v:AV} {p1 p2:Nat} (hx:SZ 1 RN z u (qB p1)) (hy:SZ 1 RN z v (qB p2)):FC (E k) 313 [u,v] z fun v _=>v=Ab (decide (p1<p2)):=by
 have hxl:=hx.le
 refine eA (bBm) (by omega) (aU O) fun B j hj=>?_
 refine R4 48 O (aS O hx (lM O (aS O hy (R3 4 O ?_))))
 refine wO O (fun hc10=>?_) (fun hc10=>?_)
 ·refine R4 12 O (aS O hx (lM O (aS O hy (R0 4 O (jX ?_)))))
  exact rI O (cQ (bDo hc10))
 refine R4 24 O (aS O hx (lB O O (wF (r:=(((qB p1).length:Nat):Int) - 1) (vF (by omega))) (R0 2 O ?_)))
 refine aT (aQ ?_)
 refine dX (fun n fs=>∃ (i:Nat),LI z [] [(0,u),(1,v),(5,Ai ((i:Int) - 1))] fs∧n=i∧(i≤(qB p1).length)∧(∀ j,i≤j→fV (qB p1) j=fV (qB p2) j)) ?_ _ ⟨(qB p1).length,LI.m [] O,rfl,Nat.le_refl _,fun j hj=>by rw [Io (by omega),Io (by omega)]⟩ (kK (by omega))
 intro n fs ⟨i,hL0,hmz0,hi,he⟩
 refine hL0.open fun e zl0 _=>?_
 refine R5 32 O ?_
 refine xD O (fun hc20=>?_) (fun hc20=>?_)
 ·refine cP ?_
  refine aT (aQ ?_)
  refine iN (G1 5 O (gP O O F ?_))
  refine yR (zz:=zl0) O O hx.m (i - 1) (by omega) (by omega) fun p25 hp25=>lN ?_
  refine glP O O hp25 ti (G1 5 O (gP O O F ?_))
  refine yR (zz:=zl0) O O hy.m (i - 1) (by omega) (by omega) fun p29 hp29=>lN ?_
  refine glP O O hp29 ti (G0 2 O ?_)
  refine wO O (fun hc31=>?_) (fun hc31=>?_)
  ·refine iN (G1 5 O (gP O O F ?_))
   refine yR (zz:=zl0) O O hx.m (i - 1) (by omega) (by omega) fun p34 hp34=>lN ?_
   refine glP O O hp34 ti (G1 5 O (gP O O F ?_))
   refine yR (zz:=zl0) O O hy.m (i - 1) (by omega) (by omega) fun p38 hp38=>lN ?_
   refine glP O O hp38 ti (G0 4 O (xT (nS (L9 (nS ?_)))))
   exact rI O (cQ (bBL he (by omega) hc31))
  refine oC (eT (xG (lC O ?_)))
  refine lB O O (wF (r:=((i - 1:Nat):Int) - 1) (by rw [vF ⟨by omega,by omega⟩];omega)) ?_
  refine R0 2 O ?_
  exact mK (by omega) ⟨i - 1,LI.m [] O,rfl,by omega,aUA (by omega) he (by omega) (by omega)⟩
 refine dH (nF (eT (R5 4 O (xT ?_))))
 exact rI O (cQ (bIF he (by omega)))
theorem aXr {k:Nat} (hk:2≤k) {z:dA} {u0 v:AV} {a b:List Nat} {q0:Nat} (oka:Ni a) (okb:Ni b) (hx:SZ 1 RN z u0 a) (hy:SZ 1 RN z v b) (hn:q0<65536) (hle:q0 * hv b≤hv a) (hla:a.length≤1000000000):FC (E k) 298 [u0,v,Az q0] z fun v' z'=>SZ 1 RN z' v' (qB (hv a - q0 * hv b)):=by
 refine eA (bDi) (by omega) (aU O) fun B j hj=>?_
 refine R4 32 O (oW 3 1 (R3 16 O ?_))
 refine aT (aQ ?_)
 refine dX (fun n fs=>∃ (i:Nat) (o:List Nat) (u:AV) (cy:Nat),LI z [Ed eN u 3 o] [(0,u0),(1,v),(2,Az q0),(7,u),(8,Az cy),(9,Az i)] fs∧n=a.length - i∧(i≤a.length)∧(o.length=i)∧(Ni o)∧(cy≤65535)∧(hv o+q0 * hv (b.take i)=hv (a.take i)+H ^ i * cy)) ?_ _ ⟨0,[],rC,0,LI.m [] O,rfl,Nat.zero_le _,rfl,aPa,by omega,by simp [Num.hv]⟩ (kK (by omega))
 intro n fs ⟨i,o,u,cy,hL0,hmz0,hi,hol,oko,hcy,hv0⟩
 refine hL0.open fun e zl0 _=>?_
 refine R4 24 O (aS O hx (R3 4 O ?_))
 refine xD O (fun hc14=>?_) (fun hc14=>?_)
 ·refine cP ?_
  refine aT (aQ ?_)
  refine xR ?_
  have h8:=rA oka i
  have h9:q0 * fV b i≤65535 * 65535:=Nat.mul_le_mul (by omega) (Nat.le_of_lt_succ (rA okb i))
  refine R1 5 O ?_
  refine yR (zz:=zl0) O O hx.m (i) (O) (by omega) fun p19 hp19=>?_
  refine uO O hp19 (lC O (lB O O (wF (r:=(fV a i:Int) - (cy:Int)) (vF (by omega))) (R2 48 O (aS O hy (R0 2 O ?_)))))
  refine Ik (fun fs=>∃ (x:Int),LI zl0 [Ed eN u 3 o] [(0,u0),(1,v),(2,Az q0),(7,u),(9,Az i),(10,Ai x)] fs∧(x+((q0 * fV b i:Nat):Int)+(cy:Int)=(fV a i:Int))) ?_ fun fs hJ=>?_
  ·refine xD O (fun hc26=>?_) (fun hc26=>?_)
   ·refine xG (R1 20 O ?_)
    refine yR (zz:=zl0) O O hy.m (i) (O) (by omega) fun p31 hp31=>?_
    refine uO O hp31 (lB O O (aZx (n:=q0 * fV b i) ((Int.natCast_mul _ _).symm) (by omega)) (lB O O (wF (r:=(fV a i:Int) - (cy:Int) - ((q0 * fV b i:Nat):Int)) (vF (by omega))) (R0 2 O ?_)))
    exact eT ⟨_,LI.m [] O,by omega⟩
   refine oC ?_
   have h9:fV b i=0:=Io (by omega)
   have h8:q0 * fV b i=0:=by rw [h9,Nat.mul_zero]
   exact eT ⟨_,LI.m [] O,by omega⟩
  obtain ⟨x,hJ26,hxv⟩:=hJ
  refine hJ26.open fun e zj26 _=>?_
  refine R5 64 O ?_
  refine Ik (fun fs=>∃ (d:Nat) (c2:Nat),LI zj26 [Ed eN u 3 o] [(0,u0),(1,v),(2,Az q0),(7,u),(8,Az c2),(9,Az i),(10,Az d)] fs∧(d<65536)∧(c2≤65535)∧(d+q0 * fV b i+cy=fV a i+65536 * c2)) ?_ fun fs hJ=>?_
  ·refine xD O (fun hc36=>?_) (fun hc36=>?_)
   ·refine R4 4 O ?_
    refine lB O O (wF (r:=((65535+q0 * fV b i+cy - fV a i:Nat):Int)) (by rw [vF ⟨by omega,by omega⟩];omega)) ?_
    refine lB O O ((aCW (by omega))) (R0 2 O (xG (R1 4 O (lB O O (aZx (n:=65536 * ((65535+q0 * fV b i+cy - fV a i) / 65536)) (by omega) (by omega)) (lB O O (gI (n:=fV a i+65536 * ((65535+q0 * fV b i+cy - fV a i) / 65536) - q0 * fV b i - cy) (by omega) (by omega)) (R0 2 O ?_))))))
    exact eT ⟨_,_,LI.m [] O,(by omega:fV a i+65536 * ((65535+q0 * fV b i+cy - fV a i) / 65536) - q0 * fV b i - cy<65536),by omega,by omega⟩
   refine oC ?_
   obtain rfl:x=((fV a i - q0 * fV b i - cy:Nat):Int):=by omega
   exact eT ⟨fV a i - q0 * fV b i - cy,0,LI.m [] O,by omega,by omega,by omega⟩
  obtain ⟨d,c2,hJ36,hd,hc2,hdv⟩:=hJ
  refine hJ36.open fun e zj36 _=>?_
  refine xG (R1 5 O ?_)
  refine aAU (e:=eN) (a:=d) O (O) O (fun _=>rfl) (fun _=>iW) (by omega) (by omega) fun b46 c47 hc47=>?_
  refine R0 2 O (eT (xG (lC O (lB O O (gI (n:=i+1) (by omega) (by omega)) (R0 2 O ?_)))))
  exact mK (by omega) ⟨i+1,_,_,c2,LI.m [_] O,rfl,by omega,by rw [List.length_append,hol];rfl,Wb oko hd,hc2,bGl hol hv0 hdv⟩
 refine dH (nF (eT (xR ?_)))
 refine Dx z zl0 (p:=[]) O O zI (by omega) fun zfo _ hfo=>?_
 refine lM O ?_
 refine lZ zfo (J3 (by omega) oko (hfo.mono jF)) O O fun v49 z49 hz49 ht49=>?_
 have hs49:=ht49 _ (hfo.mono (jF.trans (hz49)))
 refine R0 3 O (xT (rI O ?_))
 obtain rfl:i=a.length:=by omega
 rw [bJ1 oka oko hol hle hv0] at hs49
 exact hs49
theorem aTm {k:Nat} (hk:3≤k) {z:dA} {u v:AV} {aa bb:Nat} (hx:SZ 1 RN z u (qB aa)) (hy:SZ 1 RN z v (qB bb)) (hlt:aa<65536 * bb) (hlb:(qB bb).length≤1000000000):FC (E k) 297 [u,v] z fun v _=>v=Az (aa / bb):=by
 refine eA (bBO) (by omega) (aU O) fun B j hj=>?_
 refine R5 32 O ?_
 refine aT (aQ ?_)
 refine dX (fun n fs=>∃ (low:Nat) (high:Nat),LI z [] [(0,u),(1,v),(5,Az low),(6,Az high)] fs∧n=high - low∧(low * bb≤aa)∧(aa<high * bb)∧(low<high)∧(high≤65536)) ?_ _ ⟨0,65536,LI.m [] O,rfl,by omega,hlt,by omega,by omega⟩ (kK (by omega))
 intro n fs ⟨low,high,hL0,hmz0,h1,h2,h3,h4⟩
 refine hL0.open fun e zl0 _=>?_
 refine R4 16 O (lB O O (vO (n:=high - low) (by omega) (by omega)) (R3 4 O ?_))
 refine xD O (fun hc11=>?_) (fun hc11=>?_)
 ·refine cP (aQ (R4 8 O (lB O O (gI (n:=low+high) (by omega) (by omega)) (lB O O ((aGX (by omega))) (R2 44 O ?_)))))
  refine aXM O O fun b19=>?_
  refine A7 (n:=1) z zl0 (p:=[]) O O zI (O) (by omega) fun zf19 _ hf19=>?_
  refine lZ zf19 (aEG (by omega) (wR bb) (bJC (by omega)) hy.m (hf19.mono jF) hlb (by simp)) O O fun v20 z20 _ hs20=>?_
  rw [wM,bMr] at hs20
  refine lE z20 (aWn (by omega) hx.m hs20) O O fun z21 _=>?_
  refine lN ?_
  refine xD O (fun hc21=>?_) (fun hc21=>?_)
  ·refine xG (R0 4 O ?_)
   exact mK (by omega) ⟨low,(low+high) / 2,LI.m [] O,rfl,h1,by rw [Nat.mul_comm];exact hc21,by omega,by omega⟩
  refine xG (R0 4 O ?_)
  exact mK (by omega) ⟨(low+high) / 2,high,LI.m [] O,rfl,by rw [Nat.mul_comm];exact Nat.le_of_not_lt hc21,h2,by omega,by omega⟩
 refine dH (nF (eT (R5 8 O (xT (rI O ?_)))))
 rw [bDA h1 h2 (by omega)]
 rfl
theorem aEN {k:Nat} (hk:4≤k) {z:dA} {u v:AV} {a:List Nat} {bb:Nat} (oka:Ni a) (hx:SZ 1 RN z u a) (hy:SZ 1 RN z v (qB bb)) (hB:0<bb) (hla:a.length≤1000000000) (hlb:(qB bb).length<1000000000):FC (E k) 267 [u,v] z fun v' z'=>∃ q r,v'=.tup [q,r]∧SZ 1 RN z' q (qB (hv a / bb))∧SZ 1 RN z' r (qB (hv a % bb)):=by
 refine eA (bCJ) (by omega) (aU O) fun B j hj=>?_
 refine R4 48 O (aS O hx ?_)
 refine bHN (n:=a.length) O O (O) (by omega) (by omega) fun b12=>?_
 refine R2 96 O (aS O hx (lB O O (wF (r:=((a.length:Nat):Int) - 1) (vF (by omega))) (R0 2 O ?_)))
 refine aT (aQ ?_)
 refine dX (fun n fs=>∃ (i:Nat) (r:Nat) (w:AV) (o:List Nat) (zi:dA),LZ z zi [Fq eN b12 3 o] [(0,u),(1,v),(6,Aw b12 a.length),(7,w),(8,Ai ((i:Int) - 1))] fs∧n=i∧(i≤a.length)∧(o.length=a.length)∧(Ni o)∧(SZ 1 RN zi w (qB r))∧(r<bb)∧(hv (a.drop i)=hv (o.drop i) * bb+r)) ?_ _ ⟨a.length,0,rC,_,_,LZ.m [] O,rfl,Nat.le_refl _,by simp,bBf _,by rw [Yf];exact .nil,hB,by simp [Num.hv]⟩ (kK (by omega))
 intro n fs ⟨i,r,w,o,zi,hL0,hmz0,hi,hol,oko,hw,hr,hv0⟩
 refine hL0.open fun e _=>?_
 refine R5 32 O ?_
 refine xD O (fun hc17=>?_) (fun hc17=>?_)
 ·refine cP ?_
  refine aT (aQ ?_)
  refine xR ?_
  have hX:(fV a (i - 1)+65536 * r)<65536 * bb:=bI2 (rA oka _) hr
  have hq1:(fV a (i - 1)+65536 * r) / bb<65536:=(Nat.div_lt_iff_lt_mul hB).2 hX
  have hq2:fV (o.set (i - 1) ((fV a (i - 1)+65536 * r) / bb)) (i - 1)=(fV a (i - 1)+65536 * r) / bb:=by rw [aGi (by omega),if_pos rfl]
  have hX2:(qB (fV a (i - 1)+65536 * r)).length≤1000000000:=bG5 hX hlb
  have hrl:(qB r).length≤(qB bb).length:=aGp (Nat.le_of_lt hr)
  refine R1 5 O ?_
  refine yR (zz:=zi) O O hx.m (i - 1) (by omega) (by omega) fun p22 hp22=>?_
  refine uO O hp22 ?_
  refine aXM O O fun b24=>?_
  refine R2 24 O (aJS (p:=[]) O (O) ?_)
  refine aWG  O O hw (fun _=>iW) (by simp only [List.length_singleton];omega) (by simp only [List.length_singleton];omega) fun c27 hc27=>?_
  refine Dx z zi (p:=[]) O O zI (by simp only [List.length_append,List.length_singleton];omega) fun zf27 _ hf27=>?_
  refine lZ zf27 (J3 (by omega) (bEE (rA oka _) (wR r)) (hf27.mono jF)) O O fun v28 z28 hz28 ht28=>?_
  have hs28:=ht28 _ (hf27.mono (jF.trans (hz28)))
  rw [bHW] at hs28
  refine R2 113 O ?_
  refine lE z28 (aTm (by omega) hs28 hy.m hX (Nat.le_of_lt hlb)) O O fun z33 _=>?_
  refine oO O O (i - 1) (by omega) (by omega) (aXn (i - 1) ((fV a (i - 1)+65536 * r) / bb) O O iW (O) (by omega) (by omega) (lN (xG (R1 19 O (oO O O (i - 1) (by omega) (by omega) ?_)))))
  refine aWS (i - 1) O mem0 (by omega) (by rw [List.length_set];omega) ?_
  refine lZ z33 (aXr (by omega) (wR _) (wR bb) hs28.m hy.m (by rw [hq2];exact hq1) (by rw [hq2,wM,wM];exact Nat.div_mul_le_self _ _) hX2) O O fun v41 z41 _ hs41=>?_
  rw [hq2,wM,wM,bFI] at hs41
  refine R0 3 O (eT (xG (lC O ?_)))
  refine lB O O (wF (r:=((i - 1:Nat):Int) - 1) (by rw [vF ⟨by omega,by omega⟩];omega)) ?_
  refine R0 2 O ?_
  exact mK (by omega) ⟨i - 1,(fV a (i - 1)+65536 * r) % bb,_,_,_,LZ.m [] O,rfl,by omega,by rw [List.length_set];exact hol,aW0 oko hq1,hs41,Nat.mod_lt _ hB,aZi (by omega) hi (by omega) hv0 rfl⟩
 refine dH (nF (eT (R4 4 O ?_)))
 refine A7 (n:=a.length) z zi (p:=[]) O O zI (hol) (by omega) fun zf42 _ hf42=>?_
 refine lZ zf42 (J3 (by omega) oko (hf42.mono jF)) O O fun v43 z43 hz43 ht43=>?_
 have hs43:=ht43 _ (hf42.mono (jF.trans (hz43)))
 refine R0 15 O (xT (rQ (.inl O) (rt O (rt O rn)) ?_))
 obtain rfl:i=0:=by omega
 rw [List.drop_zero,List.drop_zero] at hv0
 obtain ⟨e1,e2⟩:=bCW hr hv0
 refine ⟨_,_,O,?_,?_⟩
 ·rw [e1];exact hs43
 rw [e2];exact hw.m
open Go.CE Go.RowKit Go.Num
open Go.Eng (kN)
theorem bOM (n:Int):pS .rem (.int .i64 n) (.int .i64 4294967296)=some (.int .i64 (n.tmod 4294967296)):=by
 simp [pS,Go.Eng.binV,Go.Eng.need]
theorem bFC (n:Int):(n.tmod 4294967296=((n.natAbs % 4294967296:Nat):Int)∧n.tdiv 4294967296=((n.natAbs / 4294967296:Nat):Int))∨(n.tmod 4294967296 = -((n.natAbs % 4294967296:Nat):Int)∧n.tdiv 4294967296 = -((n.natAbs / 4294967296:Nat):Int)):=by
 obtain ⟨k,rfl | rfl⟩:=n.eq_nat_or_neg
 ·left
  rw [Int.natAbs_natCast]
  exact ⟨(Int.ofNat_tmod k 4294967296).symm,(Int.ofNat_tdiv k 4294967296).symm⟩
 right
 rw [Int.natAbs_neg,Int.natAbs_natCast,Int.neg_tmod,Int.neg_tdiv]
 exact ⟨congrArg Neg.neg (Int.ofNat_tmod k 4294967296).symm,congrArg Neg.neg (Int.ofNat_tdiv k 4294967296).symm⟩
theorem bTC (n:Int):(if -(n.tmod 4294967296) > n.tmod 4294967296 then -(n.tmod 4294967296) else n.tmod 4294967296)=((n.natAbs % 4294967296:Nat):Int):=by
 rcases bFC n with ⟨h,_⟩ | ⟨h,_⟩<;>rw [h]<;>split<;>omega
theorem bUo (n:Int):(if -(n.tdiv 4294967296) > n.tdiv 4294967296 then -(n.tdiv 4294967296) else n.tdiv 4294967296)=((n.natAbs / 4294967296:Nat):Int):=by
 rcases bFC n with ⟨_,h⟩ | ⟨_,h⟩<;>rw [h]<;>split<;>omega
theorem bTv (n:Int) : -9223372036854775808≤0 - n.tmod 4294967296∧0 - n.tmod 4294967296<9223372036854775808:=by
 rcases bFC n with ⟨h,_⟩ | ⟨h,_⟩<;>rw [h]<;>omega
theorem bLz {n:Int} (h1 : -9223372036854775808≤n) (h2:n<9223372036854775808) : -9223372036854775808≤0 - n.tdiv 4294967296∧0 - n.tdiv 4294967296<9223372036854775808:=by
 rcases bFC n with ⟨_,h⟩ | ⟨_,h⟩<;>rw [h]<;>omega
theorem bRL {n:Int} (h1 : -9223372036854775808≤n) (h2:n<9223372036854775808) : -9223372036854775808≤n.tdiv 4294967296∧n.tdiv 4294967296<9223372036854775808:=by
 have:=bLz h1 h2;rcases bFC n with ⟨_,h⟩ | ⟨_,h⟩<;>rw [h]<;>omega
theorem bON {n:Int} (h1 : -9223372036854775808≤n) (h2:n<9223372036854775808):pS .quo (.int .i64 n) (.int .i64 4294967296)=some (.int .i64 (n.tdiv 4294967296)):=by
 have:IntKind.i64.wrap (n.tdiv 4294967296)=n.tdiv 4294967296:=vF (bRL h1 h2)
 simp [pS,Go.Eng.binV,Go.Eng.need,this]
theorem bIL {a:Int} (h:a<0) : -1=a.sign:=(Int.sign_eq_neg_one_of_neg h).symm
theorem bIr {a:Int} (h:0<a):1=a.sign:=(Int.sign_eq_one_of_pos h).symm
theorem bTu {a b:Int} (ha:a<0) (hb:¬ b<0) : -1=(a - b).sign:=(Int.sign_eq_neg_one_of_neg (by omega)).symm
theorem bT3 {a b:Int} (ha:¬ a<0) (hb:b<0):1=(a - b).sign:=(Int.sign_eq_one_of_pos (by omega)).symm
theorem bLj {a b:Int} (ha:a<0) (hb:b<0):Jg b.natAbs a.natAbs=(a - b).sign:=by
 unfold Jg
 split
 ·exact bIL (by omega)
 split
 ·exact bIr (by omega)
 rw [show a - b=0 by omega];rfl
theorem bKq {a b:Int} (ha:¬ a<0) (hb:¬ b<0):Jg a.natAbs b.natAbs=(a - b).sign:=by
 unfold Jg
 split
 ·exact bIL (by omega)
 split
 ·exact bIr (by omega)
 rw [show a - b=0 by omega];rfl
theorem bTU {A B:Nat} {v:AV} {zz:dA} {L:List UInt32} (h:(A<B→v=.tup [rC,Ai 2])∧(B≤A→∃ v',v=.tup [v',Ai 0]∧SZ 1 RW zz v' L)):∃ (c:C) (e:Int),v=.tup [.c c,Ai e]∧(e=0↔B≤A)∧(B≤A→SZ 1 RW zz (.c c) L):=by
 rcases Nat.lt_or_ge A B with h1 | h1
 ·exact ⟨_,2,h.1 h1,⟨fun h=>absurd h (by decide),fun h=>absurd h (by omega)⟩,fun h=>absurd h (by omega)⟩
 obtain ⟨v',h2,h3⟩:=h.2 h1
 obtain ⟨c,rfl,_⟩:=h3.one
 exact ⟨c,0,h2,⟨fun _=>h1,fun _=>rfl⟩,fun _=>h3⟩
theorem bV3 {a b k:Nat} (h1:(toL a).length≤k) (h2:(toL b).length≤k):(toL (a+b)).length≤k+1:=by
 refine pG.2 ?_
 have h3:=pG.1 h1
 have h4:=pG.1 h2
 have h7:Num.W ^ k * 2≤Num.W ^ k * Num.W:=Nat.mul_le_mul_left _ (by decide)
 rw [Nat.pow_succ]
 generalize Num.W ^ k * Num.W=X at *
 generalize Num.W ^ k=Y at *
 omega
theorem bLL {m:Nat}:(toL m).length=((qB m).length+1) / 2:=by rw [← Jc,Nn]
theorem aFW {m k:Nat} (h:(toL m).length≤k):(qB m).length≤2 * k:=by
 rw [bLL] at h
 omega
theorem bR5 {a b k j:Nat} (h1:(qB a).length≤k) (h2:(qB b).length≤j):(qB (a * b)).length≤k+j:=by
 refine Ib.2 ?_
 rw [Nat.pow_add]
 exact Nat.mul_lt_mul'' (Ib.1 h1) (Ib.1 h2)
theorem Tz {k:Nat} (hk:1≤k) {z:dA} {n:Bool} {c:C} {l:List UInt32} (hx:CZ 1 RW z c l):FC (E k) 233 [.agg [Cb n,c]] z fun v _=>v=Ab (xB (n,l)):=by
 have hxl:=hx.le
 refine eA (bCx) (by omega) (aU O) fun B j hj=>?_
 refine xR ?_
 refine iU O fun b1=>?_
 refine R2 16 O (dK O mem0 O (aS O hx (R3 4 O ?_)))
 refine xD O (fun hc6=>?_) (fun hc6=>?_)
 ·refine R4 8 O (dK O mem0 O (R0 4 O (jX (rI O ?_))))
  have hl:l=[]:=List.eq_nil_of_length_eq_zero (by omega)
  subst hl
  rw [aJH]
  rfl
 refine R4 8 O (dK O mem0 O (lF O (dK O mem0 O (aS O hx (lB O O (vO (n:=l.length - 1) (by omega) (by omega)) ?_)))))
 refine sJ O O hx (l.length - 1) (O) (by omega) fun p16 hp16=>?_
 refine uO O hp16 (R0 4 O (xT (rI O ?_)))
 rw [aQj (by omega)]
 rfl
theorem qG {k:Nat} (hk:2≤k) {z:dA} {n:Bool} {c:C} {l:List UInt32} (hx:CZ 1 RW z c l):FC (E k) 215 [.agg [Cb n,c]] z fun v _=>∃ c',v=.agg [Cb (decide (lQ (n,l)<0)),c']∧∀ zz,CZ 1 RW zz c l→CZ 1 RW zz c' (toL (lQ (n,l)).natAbs):=by
 refine eA (bC3) (by omega) (aU O) fun B j hj=>?_
 refine xR ?_
 refine iU O fun b1=>?_
 refine oH fun b2=>?_
 refine lN (R4 4 O (iP O Y1 O ?_))
 refine lE z (Tz (by omega) hx) O O fun z4 _=>?_
 refine R3 4 O ?_
 refine jB O (fun hc5=>?_) (fun hc5=>?_)
 ·refine R4 4 O (mN (cs:=[_,_]) O (iI O O iW (lN (jX (rQ (.inl O) (Za O mem0 rn) ?_)))))
  have h0:=bFj (n:=n) (l:=l) (by simpa using hc5)
  rw [h0]
  exact ⟨_,rfl,fun zz h=>by rw [show toL (0:Int).natAbs=[] from sY];exact .nil⟩
 refine R4 4 O (iP O Y1 O (iI O O iW (lN (xT (rQ (.inl O) (Za O mem0 rn) ?_)))))
 obtain ⟨e1,e2⟩:=aXJ (n:=n) (l:=l) (by simpa using hc5)
 refine ⟨c,?_,fun zz h=>by rw [← e2];exact h⟩
 rw [← e1]
 rfl
theorem vW {k:Nat} (hk:4≤k) {z:dA} {b:Bool} {c:C} {l:List UInt32} (hx:CZ 1 RW z c l) (h1:l.length≤1000000000):FC (E k) 210 [Ab b,.c c] z fun v z'=>IV (zd z z') v (Qo b (val l)):=by
 have hll:=yN (l:=l)
 refine eA (bBC) (by omega) (aU O) fun B j hj=>?_
 refine xR ?_
 refine oH fun b4=>?_
 refine lN (R4 4 O ?_)
 refine lZ z (aWC (by omega) hx h1) O O fun v7 z7 _ h7=>?_
 obtain ⟨c7,rfl,_⟩:=h7.one
 refine R2 17 O ?_
 refine nC 9 O (fun hg9=>?_) (fun hg9=>?_)
 ·refine lD O (lM O (lD O (aS O (h7.mono jF) (R1 12 O (mN (cs:=[_,_]) O (iI O O iW (lN (xT (rQ (.inl O) (Za O mem0 rn) ?_)))))))))
  exact aDF rfl (by rw [aWH,hg9];rfl) h7
 refine R1 48 O (mN (cs:=[_,_]) O (iI O O iW (lN (xT (rQ (.inl O) (Za O mem0 rn) ?_)))))
 exact aDF rfl (by rw [aWH,hg9];rfl) h7
theorem Ce {k:Nat} (hk:5≤k) {z:dA} {n:Int} (h1 : -9223372036854775808≤n) (h2:n<9223372036854775808):FC (E k) 127 [Ai n] z fun v z'=>IV (zd z z') v n:=by
 refine eA (bDJ) (by omega) (aU O) fun B j hj=>?_
 refine xR ?_
 refine oH fun b2=>?_
 refine lN (R4 4 O (lB O O ((bOM n)) (lC O (lB O O ((bON h1 h2)) (R2 128 O ?_)))))
 refine aRS O (aYZ (r := -(n.tmod 4294967296)) (by rw [vF (bTv n)];omega)) ?_
 refine aY1 (m:=((n.natAbs % 4294967296:Nat):Int)) O O (bTC n) (mX O (wD (O) (by omega)) (R1 4 O ?_))
 refine aRS O (aYZ (r := -(n.tdiv 4294967296)) (by rw [vF (bLz h1 h2)];omega)) ?_
 refine aY1 (m:=((n.natAbs / 4294967296:Nat):Int)) O O (bUo n) (mX O (wD (O) (by omega)) ?_)
 refine bBc O O (Nat.mod_lt _ (by decide)) (by omega) O fun b21=>?_
 refine A7 (n:=2) z z (p:=[]) O O zI (O) (by omega) fun zf21 hzf21 hf21=>?_
 refine lZ zf21 (vW (by omega) (hf21.mono jF) (by simp)) O O fun v22 z22 _ hv22=>?_
 rw [bA1 (by omega),bFn] at hv22
 obtain ⟨c22,rfl,h22⟩:=hv22
 have h22:=h22.mono (qY (hzf21))
 refine iI O O iW (lN (xT (rQ (.inl O) (Za O mem0 rn) ?_)))
 exact ⟨_,rfl,h22⟩
theorem aLW {k:Nat} (hk:4≤k) {z:dA} {n1:Bool} {c1:C} {l1:List UInt32} (hx:CZ 1 RW z c1 l1) {n2:Bool} {c2:C} {l2:List UInt32} (hy:CZ 1 RW z c2 l2) (h1:l1.length≤100000000) (h2:l2.length≤100000000):FC (E k) 266 [.agg [Cb n1,c1],.agg [Cb n2,c2]] z fun v _=>v=.c (.v (.int .i64 (lQ (n1,l1) - lQ (n2,l2)).sign)):=by
 have e1:=Nat.le_trans (C5 (n:=n1) (l:=l1)) h1
 have e2:=Nat.le_trans (C5 (n:=n2) (l:=l2)) h2
 refine eA (bCi) (by omega) (aU O) fun B j hj=>?_
 refine xR ?_
 refine iU O fun b2=>?_
 refine iU O fun b3=>?_
 refine R2 4 O (iP O Y1 O ?_)
 refine lZ z (qG (by omega) hx) O O fun v6 z6 _ hv6=>?_
 obtain ⟨c6,rfl,hq6⟩:=hv6
 have h6:=hq6 _ (hx.mono (zJ z6))
 refine iI O O P1 (lN (xR (iP O mem0 O ?_)))
 refine lZ z6 (qG (by omega) hy.m) O O fun v8 z8 _ hv8=>?_
 obtain ⟨c8,rfl,hq8⟩:=hv8
 have h8:=hq8 _ (hy.mono (zJ z8))
 refine iI O O iW (lN ?_)
 refine aT (aQ ?_)
 refine R4 4 O (dK O Y1 O (lC O ?_))
 refine fR 12 O (fun hg12=>?_) (fun hg12=>?_)
 ·refine lD O (lF O (lD O (dK O mem0 O (R0 12 O ?_))))
  refine wO O (fun hc9=>?_) (fun hc9=>?_)
  ·refine R5 4 O (xT (nS ?_))
   exact rI O (congrArg (fun x=>AV.c (Ci x)) (bTu (by omega) (by omega)))
  refine R4 4 O (dK O mem0 O (lC O ?_))
  refine fR 20 O (fun hg20=>?_) (fun hg20=>?_)
  ·refine lD O (lF O (lD O (dK O Y1 O (R0 12 O ?_))))
   refine wO O (fun hc17=>?_) (fun hc17=>?_)
   ·omega
   refine R4 4 O (dK O Y1 O (R0 2 O ?_))
   refine xD O (fun hc25=>?_) (fun hc25=>?_)
   ·refine R4 4 O (dK O mem0 O (lF O (dK O Y1 O ?_)))
    refine lZ z8 (aBW (by omega) h8 h6.m (by omega) (by omega)) O O fun v32 z32 _ hv32=>?_
    rw [gX,gX] at hv32
    refine R0 3 O (xT (nS (rI O ?_)))
    rw [bLj (by omega) (by omega)] at hv32
    exact hv32
   omega
  omega
 refine R2 272 O (dK O mem0 O (lC O ?_))
 refine fR 20 O (fun hg20=>?_) (fun hg20=>?_)
 ·refine lD O (lF O (lD O (dK O Y1 O (R0 12 O ?_))))
  refine wO O (fun hc17=>?_) (fun hc17=>?_)
  ·refine R5 4 O (xT (nS ?_))
   exact rI O (congrArg (fun x=>AV.c (Ci x)) (bT3 (by omega) (by omega)))
  omega
 refine R2 272 O (dK O Y1 O (R0 2 O ?_))
 refine xD O (fun hc25=>?_) (fun hc25=>?_)
 ·omega
 refine oC (eT (R4 4 O (dK O Y1 O (lF O (dK O mem0 O ?_)))))
 refine lZ z8 (aBW (by omega) h6.m h8 (by omega) (by omega)) O O fun v37 z37 _ hv37=>?_
 rw [gX,gX] at hv37
 refine R0 3 O (xT (rI O ?_))
 rw [bKq (by omega) (by omega)] at hv37
 exact hv37
theorem Bh {k:Nat} (hk:5≤k) {z:dA} {n:Bool} {c:C} {l:List UInt32} (hx:CZ 1 RW z c l) (h1:l.length≤100000000):FC (E k) 211 [.agg [Cb n,c]] z fun v _=>v=.c (.v (.int .i64 (lQ (n,l)).sign)):=by
 refine eA (bBz) (by omega) (aU O) fun B j hj=>?_
 refine xR ?_
 refine iU O fun b1=>?_
 refine R2 4 O (iP O mem0 O (mN (cs:=[_,_]) O ?_))
 refine lZ z (aLW (n2:=false) (l2:=[]) (by omega) hx .nil h1 (by simp)) O O fun v5 z5 _ hv5=>?_
 refine R0 3 O (xT (rI O ?_))
 rw [show lQ (false,[])=0 from rfl,Int.sub_zero] at hv5
 exact hv5
theorem Pz {k:Nat} (hk:5≤k) {z:dA} {n:Bool} {c:C} {l:List UInt32} (hx:CZ 1 RW z c l) (h1:l.length≤100000000):FC (E k) 212 [.agg [Cb n,c]] z fun v z'=>IV (zd z z') v (-lQ (n,l)):=by
 have e1:=Nat.le_trans (C5 (n:=n) (l:=l)) h1
 refine eA (bB8) (by omega) (aU O) fun B j hj=>?_
 refine xR ?_
 refine iU O fun b1=>?_
 refine oH fun b2=>?_
 refine lN (iN (Ou O O (.inr Y1) O ?_))
 refine gC z (qG (by omega) hx) O O O O fun v4 z4 hz4 hv4=>?_
 obtain ⟨c4,rfl,hq4⟩:=hv4
 have h4:=hq4 _ (hx.mono (zJ z4))
 refine gP O O F ?_
 refine aAV O O (lN ?_)
 refine G1 2 O (Ou O O (.inr Y1) O ?_)
 refine gC z4 (qG (by omega) hx.m) O O O O fun v8 z8 hz8 hv8=>?_
 obtain ⟨c8,rfl,hq8⟩:=hv8
 have h8:=hq8 _ (hx.mono (zJ z8))
 refine gP O O F ?_
 refine aAV O O (lN ?_)
 refine gC z8 (vW (by omega) h8 (by omega)) O O O O fun v10 z10 _ hv10=>?_
 rw [gX,bA6] at hv10
 obtain ⟨c10,rfl,h10⟩:=hv10
 have h10:=h10.mono (qY (hz4.trans hz8))
 refine gS O O O (iI O O iW (lN (mL (xT (rQ (.inl O) (Za O mem0 rn) ?_)))))
 exact ⟨_,rfl,h10⟩
theorem aBY {k:Nat} (hk:5≤k) {z:dA} {n1:Bool} {c1:C} {l1:List UInt32} (hx:CZ 1 RW z c1 l1) {n2:Bool} {c2:C} {l2:List UInt32} (hy:CZ 1 RW z c2 l2) (h1:l1.length≤100000000) (h2:l2.length≤100000000):FC (E k) 133 [.agg [Cb n1,c1],.agg [Cb n2,c2]] z fun v z'=>IV (zd z z') v (lQ (n1,l1)+lQ (n2,l2)):=by
 have e1:=Nat.le_trans (C5 (n:=n1) (l:=l1)) h1
 have e2:=Nat.le_trans (C5 (n:=n2) (l:=l2)) h2
 refine eA (bDX) (by omega) (aU O) fun B j hj=>?_
 refine xR ?_
 refine iU O fun b2=>?_
 refine iU O fun b3=>?_
 refine oH fun b4=>?_
 refine lN (xR (iP O Y2 O ?_))
 refine lZ z (qG (by omega) hx) O O fun v8 z8 hz8 hv8=>?_
 obtain ⟨c8,rfl,hq8⟩:=hv8
 have h8:=hq8 _ (hx.mono (zJ z8))
 refine iI O O P2 (lN (xR (iP O Y1 O ?_)))
 refine lZ z8 (qG (by omega) hy.m) O O fun v10 z10 hz10 hv10=>?_
 obtain ⟨c10,rfl,hq10⟩:=hv10
 have h10:=hq10 _ (hy.mono (zJ z10))
 refine iI O O P1 (lN (R4 8 O (dK O Y2 O (lF O (dK O Y1 O (Ej O O (bIs _ _) (lN (Ew ?_))))))))
 refine xD O (fun hc15=>?_) (fun hc15=>?_)
 ·refine Xb (iN (G1 2 O (zG O O (.inr Y2) O (G1 2 O (zG O O (.inr Y2) O (G1 2 O (zG O O (.inr Y1) O ?_)))))))
  refine gC z10 (aYW (by omega) h8.m h10 (by omega) (by omega)) O O O O fun v22 z22 hz22 h22=>?_
  rw [gX,gX] at h22
  obtain ⟨c22,rfl,_⟩:=h22.one
  have h22:=h22.mono (qY (hz8.trans hz10))
  have hl22:(toL ((lQ (n1,l1)).natAbs+(lQ (n2,l2)).natAbs)).length≤1000000000:=Nat.le_trans (bV3 e1 e2) (by omega)
  refine gC z22 (vW (by omega) (h22.mono jF) (by omega)) O O O O fun v23 z23 _ hv23=>?_
  rw [gX,aJq hc15] at hv23
  obtain ⟨c23,rfl,h23⟩:=hv23
  have h23:=h23.mono (qY (hz8.trans (hz10.trans hz22)))
  refine gS O O O (iI O O iW (lN (mL (jX (rQ (.inl O) (Za O mem0 rn) ?_)))))
  exact ⟨_,rfl,h23⟩
 refine R4 8 O (dK O Y2 O (lF O (dK O Y1 O ?_)))
 refine lZ z10 (aMp (by omega) h8.m h10 (by omega) (by omega)) O O fun v29 z29 hz29 hv29=>?_
 rw [gX,gX] at hv29
 obtain ⟨c29,e29,rfl,he29,hs29⟩:=bTU hv29
 refine R3 1177 O ?_
 refine xD O (fun hc33=>?_) (fun hc33=>?_)
 ·refine R4 4 O ?_
  have hs29:=hs29 (he29.1 hc33)
  have hs29:=hs29.mono (qY (hz8.trans hz10))
  refine lF O (dK O Y2 O (lM O ?_))
  have hl29:=zH (Nat.sub_le (lQ (n1,l1)).natAbs (lQ (n2,l2)).natAbs)
  refine lZ z29 (vW (by omega) (hs29.mono jF) (by omega)) O O fun v37 z37 _ hv37=>?_
  rw [gX,aO4 hc15 (he29.1 hc33)] at hv37
  obtain ⟨c37,rfl,h37⟩:=hv37
  have h37:=h37.mono (qY (hz8.trans (hz10.trans hz29)))
  refine iI O O iW (lN (jX (rQ (.inl O) (Za O mem0 rn) ?_)))
  exact ⟨_,rfl,h37⟩
 refine R4 4 O ?_
 have hlt:¬ (lQ (n2,l2)).natAbs≤(lQ (n1,l1)).natAbs:=fun h=>hc33 (he29.2 h)
 have hl43:=zH (Nat.sub_le (lQ (n2,l2)).natAbs (lQ (n1,l1)).natAbs)
 refine lF O (dK O Y1 O (lF O (dK O Y2 O ?_)))
 refine lZ z29 (aMp (by omega) h10.m h8.m (by omega) (by omega)) O O fun v43 z43 hz43 ⟨_,hv43⟩=>?_
 rw [gX,gX] at hv43
 obtain ⟨w43,rfl,hr43⟩:=hv43 (by omega)
 obtain ⟨c43,rfl,_⟩:=hr43.one
 have hr43:=hr43.mono (qY (hz8.trans (hz10.trans hz29)))
 refine R2 73 O (dK O Y1 O (lM O ?_))
 refine lZ z43 (vW (by omega) (hr43.mono jF) (by omega)) O O fun v49 z49 _ hv49=>?_
 rw [gX,aWz hc15 (by omega)] at hv49
 obtain ⟨c49,rfl,h49⟩:=hv49
 have h49:=h49.mono (qY (hz8.trans (hz10.trans (hz29.trans hz43))))
 refine iI O O iW (lN (xT (rQ (.inl O) (Za O mem0 rn) ?_)))
 exact ⟨_,rfl,h49⟩
theorem aYp {k:Nat} (hk:6≤k) {z:dA} {n1:Bool} {c1:C} {l1:List UInt32} (hx:CZ 1 RW z c1 l1) {n2:Bool} {c2:C} {l2:List UInt32} (hy:CZ 1 RW z c2 l2) (h1:l1.length≤100000000) (h2:l2.length≤100000000):FC (E k) 268 [.agg [Cb n1,c1],.agg [Cb n2,c2]] z fun v z'=>IV (zd z z') v (lQ (n1,l1) - lQ (n2,l2)):=by
 have e1:=Nat.le_trans (C5 (n:=n1) (l:=l1)) h1
 have e2:=Nat.le_trans (C5 (n:=n2) (l:=l2)) h2
 refine eA (bDD) (by omega) (aU O) fun B j hj=>?_
 refine xR ?_
 refine iU O fun b2=>?_
 refine iU O fun b3=>?_
 refine oH fun b4=>?_
 refine lN (iN (Ou O O (.inr Y2) O (Ou O O (.inr Y1) O ?_)))
 refine gC z (Pz (by omega) hy h2) O O O O fun v7 z7 hz7 hv7=>?_
 obtain ⟨c7,rfl,h7⟩:=hv7
 refine gC z7 (aBY (by omega) hx.m (h7.mono jF) h1 (by rw [Int.natAbs_neg];exact e2)) O O O O fun v8 z8 _ hv8=>?_
 rw [jI,← Int.sub_eq_add_neg] at hv8
 obtain ⟨c8,rfl,h8⟩:=hv8
 have h8:=h8.mono (qY (hz7))
 refine gS O O O (iI O O iW (lN (mL (xT (rQ (.inl O) (Za O mem0 rn) ?_)))))
 exact ⟨_,rfl,h8⟩
theorem aDb {k:Nat} (hk:5≤k) {z:dA} {n1:Bool} {c1:C} {l1:List UInt32} (hx:CZ 1 RW z c1 l1) {n2:Bool} {c2:C} {l2:List UInt32} (hy:CZ 1 RW z c2 l2) (h1:l1.length≤100000000) (h2:l2.length≤100000000):FC (E k) 134 [.agg [Cb n1,c1],.agg [Cb n2,c2]] z fun v z'=>IV (zd z z') v (lQ (n1,l1) * lQ (n2,l2)):=by
 have e1:=Nat.le_trans (C5 (n:=n1) (l:=l1)) h1
 have e2:=Nat.le_trans (C5 (n:=n2) (l:=l2)) h2
 refine eA (bEK) (by omega) (aU O) fun B j hj=>?_
 refine xR ?_
 refine iU O fun b2=>?_
 refine iU O fun b3=>?_
 refine oH fun b4=>?_
 refine lN (xR (iP O Y2 O ?_))
 refine lZ z (qG (by omega) hx) O O fun v6 z6 hz6 hv6=>?_
 obtain ⟨c6,rfl,hq6⟩:=hv6
 have h6:=hq6 _ (hx.mono (zJ z6))
 refine iI O O P2 (lN (xR (iP O Y1 O ?_)))
 refine lZ z6 (qG (by omega) hy.m) O O fun v8 z8 hz8 hv8=>?_
 obtain ⟨c8,rfl,hq8⟩:=hv8
 have h8:=hq8 _ (hy.mono (zJ z8))
 refine iI O O P1 (lN (iN (G1 2 O (zG O O (.inr Y2) O (G1 2 O (zG O O (.inr Y1) O (gP O O F ?_)))))))
 refine Ej O O (aE6 _ _) (lN ?_)
 refine G1 2 O (zG O O (.inr Y2) O ?_)
 refine gC z8 (A8 (by omega) h6.m (by omega)) O O O O fun v16 z16 hz16 h16=>?_
 have h16:=h16.mono (qY (hz6.trans hz8))
 rw [gX] at h16
 refine G1 2 O (zG O O (.inr Y1) O ?_)
 refine gC z16 (A8 (by omega) h8.m (by omega)) O O O O fun v19 z19 hz19 h19=>?_
 have h19:=h19.mono (qY (hz6.trans (hz8.trans hz16)))
 rw [gX] at h19
 have f1:=aFW e1
 have f2:=aFW e2
 refine gC z19 (aEG (by omega) (wR _) (wR _) h16.m (h19.mono jF) (by omega) (by omega)) O O O O fun v20 z20 hz20 h20=>?_
 rw [wM,wM] at h20
 have f3:=bR5 f1 f2
 refine gC z20 (Ju (by omega) (wR _) h20 (by omega)) O O O O fun v21 z21 hz21 h21=>?_
 rw [Jc] at h21
 obtain ⟨c21,rfl,_⟩:=h21.one
 have h21:=h21.mono (qY (hz6.trans (hz8.trans (hz16.trans (hz19.trans hz20)))))
 have f4:=bLL (m:=(lQ (n1,l1)).natAbs * (lQ (n2,l2)).natAbs)
 refine gC z21 (vW (by omega) (h21.mono jF) (by omega)) O O O O fun v22 z22 _ hv22=>?_
 rw [gX,bAU] at hv22
 obtain ⟨c22,rfl,h22⟩:=hv22
 have h22:=h22.mono (qY (hz6.trans (hz8.trans (hz16.trans (hz19.trans (hz20.trans hz21))))))
 refine gS O O O (iI O O iW (lN (mL (xT (rQ (.inl O) (Za O mem0 rn) ?_)))))
 exact ⟨_,rfl,h22⟩
end Go.Proofs.YtlceligcgelbdaaGreat

/- The references' naturals in limbs of 16 bits, walked (1). -/
import Derived.WalkKit
import Derived.Orders
import Derived.Test.YtlceligcgelbdaaGreatMD2
set_option linter.unusedVariables false
set_option linter.unusedSimpArgs false
set_option maxRecDepth 100000
set_option maxHeartbeats 1000000
namespace Go.Proofs.YtlceligcgelbdaaGreat
open Go.CE Go.RowKit Go.Num
open Go.Eng (mR)
theorem bIV (a:Nat):pC .rem (.int .i64 (a:Nat)) (.int .i64 2)=some (.int .i64 ((a % 2:Nat):Int)):=aPb (by omega) (by omega) (by omega)
theorem aGv {a:Nat} (h:a<9223372036854775808):pC .quo (.int .i64 (a:Nat)) (.int .i64 2)=some (.int .i64 ((a / 2:Nat):Int)):=aSG (by omega) (by omega) (wI (by omega) (by omega))
theorem aVK {call:iJ} {B:rR} {fs:Sf} {l:List I} {Q:Sf→Prop} {d ty n:Nat} {zero:List Value} {y:Go.Eng.Od} (hy:fs.ev y=Ai (n:Nat)) (hz:(Gi 1 (zero.map fun v=>C.v v)).length=1) (hw:∀ b,FL call B l (fs.own d (Aw b 1) (D6 eN b ty [n])) Q):FL call B (⟨some d,none,.bslice ty 1 1 zero [(0,y)]⟩::l) fs Q:=by
 refine gU (cs:=cE eN [n]) ?_ hw
 obtain ⟨c,hc⟩:=List.length_eq_one_iff.1 hz
 rw [hc]
 simp only [aAY,hy,AV.cells?]
 rfl
def Pr (l:List Nat) (o:List UInt32) (i:Nat):Prop:=∀ j,nF o j=gI (l.take i) (2 * j)+65536 * gI (l.take i) (2 * j+1)
theorem bJF (l:List Nat) (n:Nat):Pr l (List.replicate n 0) 0:=fun j=>by
 simp only [List.take_zero,gI,nF,List.getD_eq_getElem?_getD,List.getElem?_nil,List.getElem?_replicate]
 split<;>rfl
theorem wH {l:List Nat} {i x:Nat}:gI (l.take i) x=if x<i then gI l x else 0:=by
 by_cases h:x<i
 ·rw [if_pos h,aTy h]
 rw [if_neg h,Hh (by rw [List.length_take];omega)]
theorem bOE {l:List Nat} {o:List UInt32} {i:Nat} (h:Pr l o i) (h2:i % 2=1) (ok:L8 l):nF o (i / 2)<65536:=by
 rw [h,wH,wH,if_pos (by omega),if_neg (by omega)]
 have:=rC ok (2 * (i / 2))
 omega
theorem bKx {l:List Nat} {o:List UInt32} {i:Nat} (h:Pr l o i) (h2:i % 2=0) (hi:i<l.length) (ho:i / 2<o.length) (h8:gI l i<65536):Pr l (o.set (i / 2) (UInt32.ofNat (gI l i))) (i+1):=fun j=>by
 rw [aMH (by show _<4294967296;omega) ho,wH,wH]
 by_cases hj:j=i / 2
 ·rw [if_pos hj,if_pos (by omega),if_neg (by omega),show 2 * j=i by omega];rfl
 rw [if_neg hj,h,wH,wH]
 have e:∀ x,x≠i→(x<i↔x<i+1):=fun x hx=>by omega
 simp only [e (2 * j) (by omega),e (2 * j+1) (by omega)]
theorem bOY {l:List Nat} {o:List UInt32} {i:Nat} (h:Pr l o i) (h2:¬ i % 2=0) (hi:i<l.length) (ho:i / 2<o.length) (h7:nF o (i / 2)<65536) (h8:gI l i<65536):Pr l (o.set (i / 2) (UInt32.ofNat (nF o (i / 2)+65536 * gI l i))) (i+1):=fun j=>by
 rw [aMH (by show _<4294967296;omega) ho,wH,wH]
 by_cases hj:j=i / 2
 ·have h3:=h j
  rw [wH,wH,if_pos (by omega),if_neg (by omega),Nat.mul_zero,Nat.add_zero] at h3
  rw [if_pos hj,if_pos (by omega),if_pos (by omega),← hj,h3,show 2 * j+1=i by omega]
 rw [if_neg hj,h,wH,wH]
 have e:∀ x,x≠i→(x<i↔x<i+1):=fun x hx=>by omega
 simp only [e (2 * j) (by omega),e (2 * j+1) (by omega)]
theorem bOh {l:List Nat} {o:List UInt32} {i:Nat} (h:Pr l o i) (hl:o.length=(l.length+1) / 2) (hi:l.length≤i) (ok:L8 l):o=He l:=aYH (by rw [hl,Me]) fun j=>by
 rw [aDB j ok,h,List.take_of_length_le hi]
theorem bRg {x:Nat} {b o0 o:List Nat} {i k c:Nat} (h:Mr x b o0 o i k c) (hc:k<b.length∨0<c):k≤b.length:=by
 rcases Nat.lt_or_ge b.length k with h1 | h1
 ·have:=(h.kc h1).1;omega
 exact h1
theorem bCZ {n m : Nat} (h : ¬ ((pS n).length : Int) = ((pS m).length : Int)) : decide (((pS n).length : Int) < ((pS m).length : Int)) = decide (n < m) := decide_eq_decide.2 ⟨fun h => bKs (by omega), fun h2 => by
  have:=aFs (Nat.le_of_lt h2);omega⟩
theorem bCA {n m i : Nat} (he : ∀ j, i ≤ j → gI (pS n) j = gI (pS m) j) (h0 : 0 < i) (h : ¬ ((gI (pS n) (i - 1) : Nat) : Int) = (gI (pS m) (i - 1) : Nat)) : decide (((gI (pS n) (i - 1) : Nat) : Int) < (gI (pS m) (i - 1) : Nat)) = decide (n < m) := decide_eq_decide.2 ⟨fun h => aFF he h0 h, fun h2 => by
  rcases Int.lt_trichotomy ((gI (pS n) (i - 1):Nat):Int) (gI (pS m) (i - 1):Nat) with h3 | h3 | h3
  · exact h3
  · exact absurd h3 h
  · have:=aFF (fun j hj=>(he j hj).symm) h0 h3;omega⟩
theorem bGm {n m i:Nat} (he:∀ j,i≤j→gI (pS n) j=gI (pS m) j) (h0:i=0):false=decide (n<m):=(decide_eq_false (by rw [bAh fun j=>he j (by omega)];omega)).symm
theorem bJt {x:Nat} (h:x<65536):L8 [x]:=Ud aMS h
theorem bNi (x:Nat):Num.hv [x]=x:=by simp [Num.hv]
theorem bBk {x:Nat} {l:List Nat} (h:x<65536) (ok:L8 l):L8 ([x]++l):=fun y hy=>by
 rcases List.mem_append.1 hy with hy | hy
 ·rw [List.mem_singleton.1 hy];exact h
 exact ok y hy
theorem bIF (x r:Nat):Num.hv ([x]++pS r)=x+65536 * r:=by
 show x+65536 * Num.hv (pS r)=_
 rw [xP]
theorem bFI {x B k:Nat} (h:x<65536 * B) (hk:(pS B).length<k):(pS x).length≤k:=by
 refine Gp.2 ?_
 have h1:=Gp.1 (Nat.le_of_lt_succ (show (pS B).length<k - 1+1 by omega))
 obtain ⟨j,rfl⟩:∃ j,k=j+1:=⟨k - 1,by omega⟩
 rw [Nat.add_sub_cancel] at h1
 rw [Nat.pow_succ]
 have:B * 65536≤Num.H ^ j * 65536:=Nat.mul_le_mul_right _ (Nat.le_of_lt h1)
 show x<Num.H ^ j * 65536
 omega
theorem bHL (x B:Nat):x - x / B * B=x % B:=by
 have:=Nat.div_add_mod' x B
 omega
theorem J4 {k:Nat} (hk:1≤k) {z:fR} {v:AV} {l:List Nat} (ok:L8 l) (hx:SZ 1 RN z v l):FC (E k) 273 [v] z fun v' _=>∀ zz,SZ 1 RN zz v l→SZ 1 RN zz v' (pS (hv l)):=by
 have hxl:=hx.le
 refine iI (bCg) (by omega) (dN O) fun B j hj=>?_
 refine R5 4 O ?_
 refine dE (bQ ?_)
 refine eT (fun n fs=>∃ (v':AV) (m:Nat),LI z [] [(0,v')] fs∧n=m∧(m≤l.length)∧(hv (l.take m)=hv l)∧(∀ zz,SZ 1 RN zz v l→SZ 1 RN zz v' (l.take m))) ?_ _ ⟨v,l.length,LI.m [] O,rfl,Nat.le_refl _,by rw [List.take_length],fun zz h=>by rw [List.take_length];exact h⟩ (kK (by omega))
 intro n fs ⟨v',m,hL0,hmz0,hm,hq,ht⟩
 refine hL0.open fun e zl0 hzl0=>?_
 refine R4 12 O (Lq O (ht _ (hx.mono (hzl0))) (nS hm) (R1 4 O ?_))
 refine iO 6 O (fun hg6=>?_) (fun hg6=>?_)
 ·refine R1 7 O (lD O (Lq O (ht _ (hx.mono (hzl0))) (nS hm) (lD O (lB O O (wC (n:=m - 1) (by omega) (by omega)) (lD O ?_)))))
  refine yR O O (ht _ (hx.mono (hzl0))) (m - 1) (O) (by rw [nS hm];omega) fun p11 hp11=>?_
  refine lD O (wF O hp11 (R3 8 O ?_))
  refine xD O (fun hc14=>?_) (fun hc14=>?_)
  ·refine dX (bQ (xG (R1 7 O (Lq O (ht _ (hx.mono (hzl0))) (nS hm) (lB O O (wC (n:=m - 1) (by omega) (by omega)) ?_)))))
   refine aM5 (i:=0) (j:=m - 1) O (ht _ (hx.mono (hzl0))) O ⟨_,O⟩ (by omega) (by rw [nS hm];omega) ?_
   refine R0 3 O ?_
   exact nN (by omega) ⟨aT8 v' 0 (m - 1),m - 1,LI.m [] O,rfl,by omega,(aNq (by omega) hm (by omega)).trans hq,fun zz h=>by have:=(ht zz h).sub (i:=0) (j:=m - 1) (by omega) (by rw [nS hm];omega);rwa [List.drop_zero,List.take_take,Nat.min_eq_left (by omega)] at this⟩
  refine eE (oC (iE (R5 14 O (xT (rI O ?_)))))
  intro zz h
  rw [← Xm ok hm hq (.inr (by omega))]
  exact ht zz h
 refine R3 1024 O (eE (oC (iE (R5 14 O (xT (rI O ?_))))))
 intro zz h
 rw [← Xm ok hm hq (.inl (by omega))]
 exact ht zz h
theorem Ar {k:Nat} (hk:2≤k) {z:fR} {v:AV} {l:List UInt32} (hx:SZ 1 RW z v l) (hl:l.length≤10000000000):FC (E k) 220 [v] z fun v' z'=>SZ 1 RN (zd z z') v' (pS (val l)):=by
 refine iI (bBf) (by omega) (dN O) fun B j hj=>?_
 refine R4 64 O (uE 3 1 (R0 2 O ?_))
 refine dE (bQ ?_)
 refine eT (fun n fs=>∃ (i:Nat) (o:List Nat) (u:AV),LI z [Ds eN u 3 o] [(0,v),(3,u),(4,Az i)] fs∧n=l.length - i∧(i≤l.length)∧(o=aAB (l.take i))) ?_ _ ⟨0,[],qY,LI.m [] O,rfl,Nat.zero_le _,rfl⟩ (kK (by omega))
 intro n fs ⟨i,o,u,hL0,hmz0,hi,ho⟩
 refine hL0.open fun e zl0 _=>?_
 refine R4 24 O (cX O hx (R3 4 O ?_))
 refine xD O (fun hc8=>?_) (fun hc8=>?_)
 ·refine dX ?_
  refine dE (bQ ?_)
  refine Ak ?_
  have hoi:o.length=2 * i:=by rw [ho,aB3,nS hi]
  refine G1 11 O (gP O O F ?_)
  refine qO (zz:=zl0) O O hx.m (i) (O) (by omega) fun p14 hp14=>lN ?_
  refine glP O O hp14 ti (gP O O F ?_)
  refine lB O O ((aWk (qG l i))) (lN ?_)
  refine gP O O F ?_
  refine nE O (wI (O) (by omega)) (lN ?_)
  refine G1 5 O (gP O O F ?_)
  refine qO (zz:=zl0) O O hx.m (i) (O) (by omega) fun p20 hp20=>lN ?_
  refine glP O O hp20 ti (gP O O F ?_)
  refine lB O O ((aV4 (qG l i))) (lN ?_)
  refine gP O O F ?_
  refine nE O (wI (O) (bMm l i)) (lN ?_)
  refine xM (k:=.cells 3 (cE eN [nF l i % 65536,nF l i / 65536])) (w:=fun b=>Aw b 2) rfl F rfl (fun _=>rfl) (fun st hst=>?_) (fun b24 hT24=>?_)
  ·simp only [eP,yB,AS.ev,hst 17 (by simp [mK.sl,Od.sls,Od.sl]),hst 23 (by simp [mK.sl,Od.sls,Od.sl])];rfl
  refine D5 (i:=⟨_,_,.app _ _ _ _ _ _⟩) O F O O O O ?_
  refine aVu (e:=eN) (s:=[nF l i % 65536,nF l i / 65536]) O O mem0 (fun _=>oH lR) (by simp only [List.length_cons,List.length_nil];omega) (by simp only [List.length_cons,List.length_nil];omega) fun c25 hc25=>?_
  refine lN (G0 2 O (iE (xG (lC O (lB O O (iW (n:=i+1) (by omega) (by omega)) (uE 3 1 (R0 2 O ?_)))))))
  exact nN (by omega) ⟨i+1,_,_,LI.m [_,_] O,rfl,by omega,aTj ho (by omega)⟩
 refine eE (oC (iE (xR ?_)))
 obtain rfl:o=aAB l:=by rw [ho,List.take_of_length_le (by omega)]
 have hhl:=aB3 l
 refine Bw z zl0 (p:=[]) O O zI (by omega) fun zfo _ hfo=>?_
 refine lM O ?_
 refine lZ zfo (J4 (by omega) (aUp l) (hfo.mono kY)) O O fun v27 z27 hz27 ht27=>?_
 refine R0 3 O (xT (rI O ?_))
 have hr:=ht27 _ (hfo.mono (nJ (hz27)))
 rwa [aUd] at hr
theorem Jm {k:Nat} (hk:1≤k) {z:fR} {v:AV} {l:List Nat} (ok:L8 l) (hx:SZ 1 RN z v l) (hl:l.length≤4000000000):FC (E k) 218 [v] z fun v' z'=>SZ 1 RW (zd z z') v' (He l):=by
 refine iI (bCS) (by omega) (dN O) fun B j hj=>?_
 refine R4 24 O (cX O hx (lB O O (iW (n:=l.length+1) (by omega) (by omega)) (lB O O ((aGv (by omega))) ?_)))
 refine aQo (n:=(l.length+1) / 2) O O (O) (by omega) (by omega) fun b9=>?_
 refine R3 16 O ?_
 refine dE (bQ ?_)
 refine eT (fun n fs=>∃ (i:Nat) (o:List UInt32),LI z [D6 eW b9 117 o] [(0,v),(3,.c (.sl b9 0 ((l.length+1) / 2) 1)),(4,Az i)] fs∧n=l.length - i∧(i≤l.length)∧(o.length=(l.length+1) / 2)∧(Pr l o i)) ?_ _ ⟨0,_,LI.m [] O,rfl,Nat.zero_le _,by simp,bJF _ _⟩ (kK (by omega))
 intro n fs ⟨i,o,hL0,hmz0,hi,hol,hP⟩
 refine hL0.open fun e zl0 _=>?_
 refine R4 24 O (cX O hx (R3 4 O ?_))
 refine xD O (fun hc13=>?_) (fun hc13=>?_)
 ·refine dX ?_
  refine dE (bQ ?_)
  refine xR ?_
  have h8:=rC ok i
  refine lC O (lB O O ((bIV _)) (R0 2 O ?_))
  refine xD O (fun hc18=>?_) (fun hc18=>?_)
  ·refine xG (R1 4 O (lB O O ((aGv (by omega))) (R1 5 O ?_)))
   refine yR (zz:=zl0) O O hx.m (i) (O) (by omega) fun p24 hp24=>?_
   refine wF O hp24 (nE O (wD (O) (by omega)) (oP O O (i / 2) (O) (by omega) (Ce (i / 2) (gI l i) O O lR (O) (by omega) (by omega) (by omega) (lN (iE (xG (lC O (lB O O (iW (n:=i+1) (by omega) (by omega)) (R0 2 O ?_)))))))))
   exact nN (by omega) ⟨i+1,_,LI.m [] O,rfl,by omega,by rw [List.length_set];exact hol,bKx hP (by omega) (by omega) (by omega) h8⟩
  refine Ak ?_
  have hd3:nF o (i / 2)<65536:=bOE hP (by omega) ok
  refine G1 4 O (gP O O F ?_)
  refine lB O O ((aGv (by omega))) (lN ?_)
  refine G1 4 O (gP O O F ?_)
  refine lB O O ((aGv (by omega))) (lN ?_)
  refine gP O O F ?_
  refine oP O O (i / 2) (O) (by omega) (lN ?_)
  refine aNg (i:=⟨_,_,.load _ _ _⟩) (i / 2) O O F O (.inr mem0) (by omega) (by omega) ?_
  refine G1 5 O (gP O O F ?_)
  refine yR (zz:=zl0) O O hx.m (i) (O) (by omega) fun p38 hp38=>lN ?_
  refine glP O O hp38 ti (gP O O F ?_)
  refine nE O (wD (O) (by omega)) (lN ?_)
  refine gP O O F ?_
  refine lB O O ((aU9 h8)) (lN ?_)
  refine gP O O F ?_
  refine lB O O ((aV7 hd3 h8)) (lN ?_)
  refine gP O O F ?_
  refine oP O O (i / 2) (O) (by omega) (lN ?_)
  refine gS O O O (Ce (i / 2) (nF o (i / 2)+65536 * gI l i) O O lR (O) (by omega) (by omega) (by omega) (lN (nQ (iE (xG (lC O (lB O O (iW (n:=i+1) (by omega) (by omega)) (R0 2 O ?_))))))))
  exact nN (by omega) ⟨i+1,_,LI.m [] O,rfl,by omega,by rw [List.length_set];exact hol,bOY hP (by omega) (by omega) (by omega) hd3 h8⟩
 refine eE (oC (iE (R4 4 O ?_)))
 refine zW (n:=(l.length+1) / 2) z zl0 (p:=[]) O O zI (hol) (by omega) fun zf44 _ hf44=>?_
 refine R0 2 O (xT (rI O ?_))
 rw [bOh hP hol (by omega) ok] at hf44
 exact hf44
theorem aEb {k:Nat} (hk:2≤k) {z:fR} {u v:AV} {a b:List Nat} (oka:L8 a) (okb:L8 b) (hx:SZ 1 RN z u a) (hy:SZ 1 RN z v b) (hla:a.length≤1000000000) (hlb:b.length≤1000000000):FC (E k) 219 [u,v] z fun v' z'=>SZ 1 RN z' v' (pS (hv a * hv b)):=by
 refine iI (bBQ) (by omega) (dN O) fun B j hj=>?_
 refine R4 24 O (cX O hx (lM O (cX O hy (lB O O (iW (n:=a.length+b.length) (by omega) (by omega)) (lB O O (iW (n:=a.length+b.length+1) (by omega) (by omega)) ?_)))))
 refine bIC (n:=a.length+b.length+1) O O (O) (by omega) (by omega) fun b16=>?_
 refine R3 16 O ?_
 refine dE (bQ ?_)
 refine eT (fun n fs=>∃ (i:Nat) (o:List Nat),LI z [D6 eN b16 3 o] [(0,u),(1,v),(5,Aw b16 (a.length+b.length+1)),(6,Az i)] fs∧n=a.length - i∧(i≤a.length)∧(o.length=(a.length+b.length+1))∧(Mt a b o i)) ?_ _ ⟨0,_,LI.m [] O,rfl,Nat.zero_le _,by simp,Mt.init _⟩ (kK (by omega))
 intro n fs ⟨i,o,hL0,hmz0,hi,hol,hM⟩
 refine hL0.open fun e zl0 _=>?_
 refine R4 24 O (cX O hx (R3 4 O ?_))
 refine xD O (fun hc20=>?_) (fun hc20=>?_)
 ·refine dX ?_
  refine dE (bQ ?_)
  refine R5 16 O (bQ ?_)
  refine eT (fun n fs=>∃ (k:Nat) (cy:Nat) (o2:List Nat),LI zl0 [D6 eN b16 3 o2] [(0,u),(1,v),(5,Aw b16 (a.length+b.length+1)),(6,Az i),(7,Az cy),(8,Az k)] fs∧n=b.length+1 - k∧(Mr (gI a i) b o o2 i k cy)) ?_ _ ⟨0,0,_,LI.m [] O,rfl,Mr.init hM.ok⟩ (kK (by omega))
  intro n fs ⟨k,cy,o2,hL1,hmz1,hm⟩
  refine hL1.open fun e zl1 _=>?_
  refine R4 24 O (cX O hy (R1 4 O ?_))
  refine iO 27 O (fun hg27=>?_) (fun hg27=>?_)
  ·refine R3 64 O ?_
   refine dE (bQ ?_)
   refine xR ?_
   have h7:=hm.cl
   have h8:=rC hm.ok (i+k)
   have h9:gI a i * gI b k≤65535 * 65535:=Nat.mul_le_mul (Nat.le_of_lt_succ (rC oka i)) (Nat.le_of_lt_succ (rC okb k))
   have hl2:o2.length=a.length+b.length+1:=hm.len.trans hol
   have hkb:k≤b.length:=bRg hm (by omega)
   refine R1 8 O (lB O O (iW (n:=i+k) (by omega) (by omega)) (oP O O (i+k) (O) (by omega) (aT0 (i+k) O mem0 (by omega) (by omega) (lC O (lB O O (iW (n:=(gI o2 (i+k)+cy)) (by omega) (by omega)) (R2 48 O (cX O hy (R3 4 O ?_))))))))
   refine xD O (fun hc44=>?_) (fun hc44=>?_)
   ·refine jF (G1 10 O (gP O O F ?_))
    refine yR (zz:=zl1) O O hx.m (i) (O) (by omega) fun p48 hp48=>lN ?_
    refine glP O O hp48 ti (G1 5 O (gP O O F ?_))
    refine yR (zz:=zl1) O O hy.m (k) (O) (by omega) fun p52 hp52=>lN ?_
    refine glP O O hp52 ti (gP O O F ?_)
    refine lB O O (aXv (n:=gI a i * gI b k) ((Int.natCast_mul _ _).symm) (by omega)) (lN ?_)
    refine gP O O F ?_
    refine lB O O (iW (n:=(gI o2 (i+k)+cy+gI a i * gI b k)) (by omega) (by omega)) (lN ?_)
    refine G0 2 O (R4 16 O (lB O O (iW (n:=i+k) (by omega) (by omega)) (lC O (lB O O ((aGA _)) (oP O O (i+k) (O) (by omega) (aTZ (i+k) ((gI o2 (i+k)+cy+gI a i * gI b k) % 65536) O O lR (O) (by omega) (by omega) (lN (xG (lC O (lB O O ((aBk (by omega))) (R0 2 O (iE (xG (lC O (lB O O (iW (n:=k+1) (by omega) (by omega)) ?_)))))))))))))))
    refine R0 2 O ?_
    exact nN (by omega) ⟨k+1,(gI o2 (i+k)+cy+gI a i * gI b k) / 65536,_,LI.m [] O,rfl,hm.step okb (rC oka i) (by omega) rfl (by omega)⟩
   omega
  refine R3 16 O ?_
  refine xD O (fun hc30=>?_) (fun hc30=>?_)
  ·refine dX ?_
   refine dE (bQ ?_)
   refine xR ?_
   have h7:=hm.cl
   have h8:=rC hm.ok (i+k)
   have h9:gI a i * gI b k≤65535 * 65535:=Nat.mul_le_mul (Nat.le_of_lt_succ (rC oka i)) (Nat.le_of_lt_succ (rC okb k))
   have hl2:o2.length=a.length+b.length+1:=hm.len.trans hol
   have hkb:k≤b.length:=bRg hm (by omega)
   refine R1 8 O (lB O O (iW (n:=i+k) (by omega) (by omega)) (oP O O (i+k) (O) (by omega) (aT0 (i+k) O mem0 (by omega) (by omega) (lC O (lB O O (iW (n:=(gI o2 (i+k)+cy)) (by omega) (by omega)) (R2 48 O (cX O hy (R3 4 O ?_))))))))
   refine xD O (fun hc44=>?_) (fun hc44=>?_)
   ·omega
   refine R4 32 O (lB O O (iW (n:=i+k) (by omega) (by omega)) (lC O (lB O O ((aGA _)) (oP O O (i+k) (O) (by omega) (aTZ (i+k) ((gI o2 (i+k)+cy) % 65536) O O lR (O) (by omega) (by omega) (lN (xG (lC O (lB O O ((aBk (by omega))) (R0 2 O (iE (xG (lC O (lB O O (iW (n:=k+1) (by omega) (by omega)) (R0 2 O ?_)))))))))))))))
   exact nN (by omega) ⟨k+1,(gI o2 (i+k)+cy) / 65536,_,LI.m [] O,rfl,(hm.last (by omega) hM.z rfl (by omega) (by omega)).1⟩
  refine eE (oC (iE (xG (lC O (lB O O (iW (n:=i+1) (by omega) (by omega)) (R0 2 O ?_))))))
  obtain rfl:cy=0:=by omega
  exact nN (by omega) ⟨i+1,o2,LI.m [] O,rfl,by omega,hm.len.trans hol,hM.next hm (by omega)⟩
 refine eE (oC (iE (R4 4 O ?_)))
 refine zW (n:=(a.length+b.length+1)) z zl0 (p:=[]) O O zI (hol) (by omega) fun zf65 _ hf65=>?_
 refine lZ zf65 (J4 (by omega) hM.ok (hf65.mono kY)) O O fun v66 z66 hz66 ht66=>?_
 have hs66:=ht66 _ (hf65.mono (kY.trans (hz66)))
 rw [hM.val,B8 (by omega)] at hs66
 refine R0 3 O (xT ?_)
 exact rI O hs66
theorem aUQ {k:Nat} (hk:1≤k) {z:fR} {u v:AV} {p1 p2:Nat} (hx:SZ 1 RN z u (pS p1)) (hy:SZ 1 RN z v (pS p2)):FC (E k) 313 [u,v] z fun v _=>v=Ab (decide (p1<p2)):=by
 have hxl:=hx.le
 refine iI (bCk) (by omega) (dN O) fun B j hj=>?_
 refine R4 48 O (cX O hx (lM O (cX O hy (R3 4 O ?_))))
 refine Ae O (fun hc10=>?_) (fun hc10=>?_)
 ·refine R4 12 O (cX O hx (lM O (cX O hy (R0 4 O (mC ?_)))))
  exact rI O (cQ (bCZ hc10))
 refine R4 24 O (cX O hx (lB O O (wN (r:=(((pS p1).length:Nat):Int) - 1) (vR (by omega))) (R0 2 O ?_)))
 refine dE (bQ ?_)
 refine eT (fun n fs=>∃ (i:Nat),LI z [] [(0,u),(1,v),(5,Ai ((i:Int) - 1))] fs∧n=i∧(i≤(pS p1).length)∧(∀ j,i≤j→gI (pS p1) j=gI (pS p2) j)) ?_ _ ⟨(pS p1).length,LI.m [] O,rfl,Nat.le_refl _,fun j hj=>by rw [Hh (by omega),Hh (by omega)]⟩ (kK (by omega))
 intro n fs ⟨i,hL0,hmz0,hi,he⟩
 refine hL0.open fun e zl0 _=>?_
 refine R5 32 O ?_
 refine xD O (fun hc20=>?_) (fun hc20=>?_)
 ·refine dX ?_
  refine dE (bQ ?_)
  refine jF (G1 5 O (gP O O F ?_))
  refine yR (zz:=zl0) O O hx.m (i - 1) (by omega) (by omega) fun p25 hp25=>lN ?_
  refine glP O O hp25 ti (G1 5 O (gP O O F ?_))
  refine yR (zz:=zl0) O O hy.m (i - 1) (by omega) (by omega) fun p29 hp29=>lN ?_
  refine glP O O hp29 ti (G0 2 O ?_)
  refine Ae O (fun hc31=>?_) (fun hc31=>?_)
  ·refine jF (G1 5 O (gP O O F ?_))
   refine yR (zz:=zl0) O O hx.m (i - 1) (by omega) (by omega) fun p34 hp34=>lN ?_
   refine glP O O hp34 ti (G1 5 O (gP O O F ?_))
   refine yR (zz:=zl0) O O hy.m (i - 1) (by omega) (by omega) fun p38 hp38=>lN ?_
   refine glP O O hp38 ti (G0 4 O (xT (oD (Ou (oD ?_)))))
   exact rI O (cQ (bCA he (by omega) hc31))
  refine mQ (iE (xG (lC O ?_)))
  refine lB O O (wN (r:=((i - 1:Nat):Int) - 1) (by rw [vR ⟨by omega,by omega⟩];omega)) ?_
  refine R0 2 O ?_
  exact nN (by omega) ⟨i - 1,LI.m [] O,rfl,by omega,aTO (by omega) he (by omega) (by omega)⟩
 refine eE (oC (iE (R5 4 O (xT ?_))))
 exact rI O (cQ (bGm he (by omega)))
theorem aUG {k:Nat} (hk:2≤k) {z:fR} {u0 v:AV} {a b:List Nat} {q0:Nat} (oka:L8 a) (okb:L8 b) (hx:SZ 1 RN z u0 a) (hy:SZ 1 RN z v b) (hn:q0<65536) (hle:q0 * hv b≤hv a) (hla:a.length≤1000000000):FC (E k) 298 [u0,v,Az q0] z fun v' z'=>SZ 1 RN z' v' (pS (hv a - q0 * hv b)):=by
 refine iI (bBm) (by omega) (dN O) fun B j hj=>?_
 refine R4 32 O (uE 3 1 (R3 16 O ?_))
 refine dE (bQ ?_)
 refine eT (fun n fs=>∃ (i:Nat) (o:List Nat) (u:AV) (cy:Nat),LI z [Ds eN u 3 o] [(0,u0),(1,v),(2,Az q0),(7,u),(8,Az cy),(9,Az i)] fs∧n=a.length - i∧(i≤a.length)∧(o.length=i)∧(L8 o)∧(cy≤65535)∧(hv o+q0 * hv (b.take i)=hv (a.take i)+H ^ i * cy)) ?_ _ ⟨0,[],qY,0,LI.m [] O,rfl,Nat.zero_le _,rfl,aMS,by omega,by simp [Num.hv]⟩ (kK (by omega))
 intro n fs ⟨i,o,u,cy,hL0,hmz0,hi,hol,oko,hcy,hv0⟩
 refine hL0.open fun e zl0 _=>?_
 refine R4 24 O (cX O hx (R3 4 O ?_))
 refine xD O (fun hc14=>?_) (fun hc14=>?_)
 ·refine dX ?_
  refine dE (bQ ?_)
  refine xR ?_
  have h8:=rC oka i
  have h9:q0 * gI b i≤65535 * 65535:=Nat.mul_le_mul (by omega) (Nat.le_of_lt_succ (rC okb i))
  refine R1 5 O ?_
  refine yR (zz:=zl0) O O hx.m (i) (O) (by omega) fun p19 hp19=>?_
  refine wF O hp19 (lC O (lB O O (wN (r:=(gI a i:Int) - (cy:Int)) (vR (by omega))) (R2 48 O (cX O hy (R0 2 O ?_)))))
  refine Ik (fun fs=>∃ (x:Int),LI zl0 [Ds eN u 3 o] [(0,u0),(1,v),(2,Az q0),(7,u),(9,Az i),(10,Ai x)] fs∧(x+((q0 * gI b i:Nat):Int)+(cy:Int)=(gI a i:Int))) ?_ fun fs hJ=>?_
  ·refine xD O (fun hc26=>?_) (fun hc26=>?_)
   ·refine xG (R1 20 O ?_)
    refine yR (zz:=zl0) O O hy.m (i) (O) (by omega) fun p31 hp31=>?_
    refine wF O hp31 (lB O O (aXv (n:=q0 * gI b i) ((Int.natCast_mul _ _).symm) (by omega)) (lB O O (wN (r:=(gI a i:Int) - (cy:Int) - ((q0 * gI b i:Nat):Int)) (vR (by omega))) (R0 2 O ?_)))
    exact iE ⟨_,LI.m [] O,by omega⟩
   refine mQ ?_
   have h9:gI b i=0:=Hh (by omega)
   have h8:q0 * gI b i=0:=by rw [h9,Nat.mul_zero]
   exact iE ⟨_,LI.m [] O,by omega⟩
  obtain ⟨x,hJ26,hxv⟩:=hJ
  refine hJ26.open fun e zj26 _=>?_
  refine R5 64 O ?_
  refine Ik (fun fs=>∃ (d:Nat) (c2:Nat),LI zj26 [Ds eN u 3 o] [(0,u0),(1,v),(2,Az q0),(7,u),(8,Az c2),(9,Az i),(10,Az d)] fs∧(d<65536)∧(c2≤65535)∧(d+q0 * gI b i+cy=gI a i+65536 * c2)) ?_ fun fs hJ=>?_
  ·refine xD O (fun hc36=>?_) (fun hc36=>?_)
   ·refine R4 4 O ?_
    refine lB O O (wN (r:=((65535+q0 * gI b i+cy - gI a i:Nat):Int)) (by rw [vR ⟨by omega,by omega⟩];omega)) ?_
    refine lB O O ((aBk (by omega))) (R0 2 O (xG (R1 4 O (lB O O (aXv (n:=65536 * ((65535+q0 * gI b i+cy - gI a i) / 65536)) (by omega) (by omega)) (lB O O (iW (n:=gI a i+65536 * ((65535+q0 * gI b i+cy - gI a i) / 65536) - q0 * gI b i - cy) (by omega) (by omega)) (R0 2 O ?_))))))
    exact iE ⟨_,_,LI.m [] O,(by omega:gI a i+65536 * ((65535+q0 * gI b i+cy - gI a i) / 65536) - q0 * gI b i - cy<65536),by omega,by omega⟩
   refine mQ ?_
   obtain rfl:x=((gI a i - q0 * gI b i - cy:Nat):Int):=by omega
   exact iE ⟨gI a i - q0 * gI b i - cy,0,LI.m [] O,by omega,by omega,by omega⟩
  obtain ⟨d,c2,hJ36,hd,hc2,hdv⟩:=hJ
  refine hJ36.open fun e zj36 _=>?_
  refine xG (R1 5 O ?_)
  refine Zv (e:=eN) (a:=d) O (O) O (fun _=>rfl) (fun _=>lR) (by omega) (by omega) fun b46 c47 hc47=>?_
  refine R0 2 O (iE (xG (lC O (lB O O (iW (n:=i+1) (by omega) (by omega)) (R0 2 O ?_)))))
  exact nN (by omega) ⟨i+1,_,_,c2,LI.m [_] O,rfl,by omega,by rw [List.length_append,hol];rfl,Ud oko hd,hc2,bH0 hol hv0 hdv⟩
 refine eE (oC (iE (xR ?_)))
 refine Bw z zl0 (p:=[]) O O zI (by omega) fun zfo _ hfo=>?_
 refine lM O ?_
 refine lZ zfo (J4 (by omega) oko (hfo.mono kY)) O O fun v49 z49 hz49 ht49=>?_
 have hs49:=ht49 _ (hfo.mono (kY.trans (hz49)))
 refine R0 3 O (xT (rI O ?_))
 obtain rfl:i=a.length:=by omega
 rw [bJy oka oko hol hle hv0] at hs49
 exact hs49
theorem aS3 {k:Nat} (hk:3≤k) {z:fR} {u v:AV} {aa bb:Nat} (hx:SZ 1 RN z u (pS aa)) (hy:SZ 1 RN z v (pS bb)) (hlt:aa<65536 * bb) (hlb:(pS bb).length≤1000000000):FC (E k) 297 [u,v] z fun v _=>v=Az (aa / bb):=by
 refine iI (bDz) (by omega) (dN O) fun B j hj=>?_
 refine R5 32 O ?_
 refine dE (bQ ?_)
 refine eT (fun n fs=>∃ (low:Nat) (high:Nat),LI z [] [(0,u),(1,v),(5,Az low),(6,Az high)] fs∧n=high - low∧(low * bb≤aa)∧(aa<high * bb)∧(low<high)∧(high≤65536)) ?_ _ ⟨0,65536,LI.m [] O,rfl,by omega,hlt,by omega,by omega⟩ (kK (by omega))
 intro n fs ⟨low,high,hL0,hmz0,h1,h2,h3,h4⟩
 refine hL0.open fun e zl0 _=>?_
 refine R4 16 O (lB O O (wC (n:=high - low) (by omega) (by omega)) (R3 4 O ?_))
 refine xD O (fun hc11=>?_) (fun hc11=>?_)
 ·refine dX (bQ (R4 8 O (lB O O (iW (n:=low+high) (by omega) (by omega)) (lB O O ((aGv (by omega))) (R2 44 O ?_)))))
  refine aVK O O fun b19=>?_
  refine zW (n:=1) z zl0 (p:=[]) O O zI (O) (by omega) fun zf19 _ hf19=>?_
  refine lZ zf19 (aEb (by omega) (yJ bb) (bJt (by omega)) hy.m (hf19.mono kY) hlb (by simp)) O O fun v20 z20 _ hs20=>?_
  rw [xP,bNi] at hs20
  refine lE z20 (aUQ (by omega) hx.m hs20) O O fun z21 _=>?_
  refine lN ?_
  refine xD O (fun hc21=>?_) (fun hc21=>?_)
  ·refine xG (R0 4 O ?_)
   exact nN (by omega) ⟨low,(low+high) / 2,LI.m [] O,rfl,h1,by rw [Nat.mul_comm];exact hc21,by omega,by omega⟩
  refine xG (R0 4 O ?_)
  exact nN (by omega) ⟨(low+high) / 2,high,LI.m [] O,rfl,by rw [Nat.mul_comm];exact Nat.le_of_not_lt hc21,h2,by omega,by omega⟩
 refine eE (oC (iE (R5 8 O (xT (rI O ?_)))))
 rw [bBD h1 h2 (by omega)]
 rfl
theorem aDS {k:Nat} (hk:4≤k) {z:fR} {u v:AV} {a:List Nat} {bb:Nat} (oka:L8 a) (hx:SZ 1 RN z u a) (hy:SZ 1 RN z v (pS bb)) (hB:0<bb) (hla:a.length≤1000000000) (hlb:(pS bb).length<1000000000):FC (E k) 267 [u,v] z fun v' z'=>∃ q r,v'=.tup [q,r]∧SZ 1 RN z' q (pS (hv a / bb))∧SZ 1 RN z' r (pS (hv a % bb)):=by
 refine iI (bCO) (by omega) (dN O) fun B j hj=>?_
 refine R4 48 O (cX O hx ?_)
 refine bIC (n:=a.length) O O (O) (by omega) (by omega) fun b12=>?_
 refine R2 96 O (cX O hx (lB O O (wN (r:=((a.length:Nat):Int) - 1) (vR (by omega))) (R0 2 O ?_)))
 refine dE (bQ ?_)
 refine eT (fun n fs=>∃ (i:Nat) (r:Nat) (w:AV) (o:List Nat) (zi:fR),LZ z zi [D6 eN b12 3 o] [(0,u),(1,v),(6,Aw b12 a.length),(7,w),(8,Ai ((i:Int) - 1))] fs∧n=i∧(i≤a.length)∧(o.length=a.length)∧(L8 o)∧(SZ 1 RN zi w (pS r))∧(r<bb)∧(hv (a.drop i)=hv (o.drop i) * bb+r)) ?_ _ ⟨a.length,0,qY,_,_,LZ.m [] O,rfl,Nat.le_refl _,by simp,aZ1 _,by rw [S5];exact .nil,hB,by simp [Num.hv]⟩ (kK (by omega))
 intro n fs ⟨i,r,w,o,zi,hL0,hmz0,hi,hol,oko,hw,hr,hv0⟩
 refine hL0.open fun e _=>?_
 refine R5 32 O ?_
 refine xD O (fun hc17=>?_) (fun hc17=>?_)
 ·refine dX ?_
  refine dE (bQ ?_)
  refine xR ?_
  have hX:(gI a (i - 1)+65536 * r)<65536 * bb:=bKX (rC oka _) hr
  have hq1:(gI a (i - 1)+65536 * r) / bb<65536:=(Nat.div_lt_iff_lt_mul hB).2 hX
  have hq2:gI (o.set (i - 1) ((gI a (i - 1)+65536 * r) / bb)) (i - 1)=(gI a (i - 1)+65536 * r) / bb:=by rw [aFP (by omega),if_pos rfl]
  have hX2:(pS (gI a (i - 1)+65536 * r)).length≤1000000000:=bFI hX hlb
  have hrl:(pS r).length≤(pS bb).length:=aFs (Nat.le_of_lt hr)
  refine R1 5 O ?_
  refine yR (zz:=zi) O O hx.m (i - 1) (by omega) (by omega) fun p22 hp22=>?_
  refine wF O hp22 ?_
  refine aVK O O fun b24=>?_
  refine R2 24 O (aJ6 (p:=[]) O (O) ?_)
  refine aT4  O O hw (fun _=>lR) (by simp only [List.length_singleton];omega) (by simp only [List.length_singleton];omega) fun c27 hc27=>?_
  refine Bw z zi (p:=[]) O O zI (by simp only [List.length_append,List.length_singleton];omega) fun zf27 _ hf27=>?_
  refine lZ zf27 (J4 (by omega) (bBk (rC oka _) (yJ r)) (hf27.mono kY)) O O fun v28 z28 hz28 ht28=>?_
  have hs28:=ht28 _ (hf27.mono (kY.trans (hz28)))
  rw [bIF] at hs28
  refine R2 113 O ?_
  refine lE z28 (aS3 (by omega) hs28 hy.m hX (Nat.le_of_lt hlb)) O O fun z33 _=>?_
  refine oP O O (i - 1) (by omega) (by omega) (aTZ (i - 1) ((gI a (i - 1)+65536 * r) / bb) O O lR (O) (by omega) (by omega) (lN (xG (R1 19 O (oP O O (i - 1) (by omega) (by omega) ?_)))))
  refine aT0 (i - 1) O mem0 (by omega) (by rw [List.length_set];omega) ?_
  refine lZ z33 (aUG (by omega) (yJ _) (yJ bb) hs28.m hy.m (by rw [hq2];exact hq1) (by rw [hq2,xP,xP];exact Nat.div_mul_le_self _ _) hX2) O O fun v41 z41 _ hs41=>?_
  rw [hq2,xP,xP,bHL] at hs41
  refine R0 3 O (iE (xG (lC O ?_)))
  refine lB O O (wN (r:=((i - 1:Nat):Int) - 1) (by rw [vR ⟨by omega,by omega⟩];omega)) ?_
  refine R0 2 O ?_
  exact nN (by omega) ⟨i - 1,(gI a (i - 1)+65536 * r) % bb,_,_,_,LZ.m [] O,rfl,by omega,by rw [List.length_set];exact hol,aUn oko hq1,hs41,Nat.mod_lt _ hB,aXu (by omega) hi (by omega) hv0 rfl⟩
 refine eE (oC (iE (R4 4 O ?_)))
 refine zW (n:=a.length) z zi (p:=[]) O O zI (hol) (by omega) fun zf42 _ hf42=>?_
 refine lZ zf42 (J4 (by omega) oko (hf42.mono kY)) O O fun v43 z43 hz43 ht43=>?_
 have hs43:=ht43 _ (hf42.mono (kY.trans (hz43)))
 refine R0 15 O (xT (rQ (.inl O) (rt O (rt O rn)) ?_))
 obtain rfl:i=0:=by omega
 rw [List.drop_zero,List.drop_zero] at hv0
 obtain ⟨e1,e2⟩:=bCi hr hv0
 refine ⟨_,_,O,?_,?_⟩
 ·rw [e1];exact hs43
 rw [e2];exact hw.m
open Go.CE Go.RowKit Go.Num
open Go.Eng (mR)
theorem bNN (n:Int):pC .rem (.int .i64 n) (.int .i64 4294967296)=some (.int .i64 (n.tmod 4294967296)):=by
 simp [pC,Go.Eng.binV,Go.Eng.need]
theorem bHr (n:Int):(n.tmod 4294967296=((n.natAbs % 4294967296:Nat):Int)∧n.tdiv 4294967296=((n.natAbs / 4294967296:Nat):Int))∨(n.tmod 4294967296 = -((n.natAbs % 4294967296:Nat):Int)∧n.tdiv 4294967296 = -((n.natAbs / 4294967296:Nat):Int)):=by
 obtain ⟨k,rfl | rfl⟩:=n.eq_nat_or_neg
 ·left
  rw [Int.natAbs_natCast]
  exact ⟨(Int.ofNat_tmod k 4294967296).symm,(Int.ofNat_tdiv k 4294967296).symm⟩
 right
 rw [Int.natAbs_neg,Int.natAbs_natCast,Int.neg_tmod,Int.neg_tdiv]
 exact ⟨congrArg Neg.neg (Int.ofNat_tmod k 4294967296).symm,congrArg Neg.neg (Int.ofNat_tdiv k 4294967296).symm⟩
theorem bTS (n:Int):(if -(n.tmod 4294967296) > n.tmod 4294967296 then -(n.tmod 4294967296) else n.tmod 4294967296)=((n.natAbs % 4294967296:Nat):Int):=by
 rcases bHr n with ⟨h,_⟩ | ⟨h,_⟩<;>rw [h]<;>split<;>omega
theorem bSM (n:Int):(if -(n.tdiv 4294967296) > n.tdiv 4294967296 then -(n.tdiv 4294967296) else n.tdiv 4294967296)=((n.natAbs / 4294967296:Nat):Int):=by
 rcases bHr n with ⟨_,h⟩ | ⟨_,h⟩<;>rw [h]<;>split<;>omega
theorem bT4 (n:Int) : -9223372036854775808≤0 - n.tmod 4294967296∧0 - n.tmod 4294967296<9223372036854775808:=by
 rcases bHr n with ⟨h,_⟩ | ⟨h,_⟩<;>rw [h]<;>omega
theorem bMP {n:Int} (h1 : -9223372036854775808≤n) (h2:n<9223372036854775808) : -9223372036854775808≤0 - n.tdiv 4294967296∧0 - n.tdiv 4294967296<9223372036854775808:=by
 rcases bHr n with ⟨_,h⟩ | ⟨_,h⟩<;>rw [h]<;>omega
theorem bSR {n:Int} (h1 : -9223372036854775808≤n) (h2:n<9223372036854775808) : -9223372036854775808≤n.tdiv 4294967296∧n.tdiv 4294967296<9223372036854775808:=by
 have:=bMP h1 h2;rcases bHr n with ⟨_,h⟩ | ⟨_,h⟩<;>rw [h]<;>omega
theorem bOW {n:Int} (h1 : -9223372036854775808≤n) (h2:n<9223372036854775808):pC .quo (.int .i64 n) (.int .i64 4294967296)=some (.int .i64 (n.tdiv 4294967296)):=by
 have:IntKind.i64.wrap (n.tdiv 4294967296)=n.tdiv 4294967296:=vR (bSR h1 h2)
 simp [pC,Go.Eng.binV,Go.Eng.need,this]
theorem bDV {a:Int} (h:a<0) : -1=a.sign:=(Int.sign_eq_neg_one_of_neg h).symm
theorem bGP {a:Int} (h:0<a):1=a.sign:=(Int.sign_eq_one_of_pos h).symm
theorem bRw {a b:Int} (ha:a<0) (hb:¬ b<0) : -1=(a - b).sign:=(Int.sign_eq_neg_one_of_neg (by omega)).symm
theorem bQT {a b:Int} (ha:¬ a<0) (hb:b<0):1=(a - b).sign:=(Int.sign_eq_one_of_pos (by omega)).symm
theorem bLd {a b:Int} (ha:a<0) (hb:b<0):Jb b.natAbs a.natAbs=(a - b).sign:=by
 unfold Jb
 split
 ·exact bDV (by omega)
 split
 ·exact bGP (by omega)
 rw [show a - b=0 by omega];rfl
theorem bJO {a b:Int} (ha:¬ a<0) (hb:¬ b<0):Jb a.natAbs b.natAbs=(a - b).sign:=by
 unfold Jb
 split
 ·exact bDV (by omega)
 split
 ·exact bGP (by omega)
 rw [show a - b=0 by omega];rfl
theorem bRh {A B:Nat} {v:AV} {zz:fR} {L:List UInt32} (h:(A<B→v=.tup [qY,Ai 2])∧(B≤A→∃ v',v=.tup [v',Ai 0]∧SZ 1 RW zz v' L)):∃ (c:C) (e:Int),v=.tup [.c c,Ai e]∧(e=0↔B≤A)∧(B≤A→SZ 1 RW zz (.c c) L):=by
 rcases Nat.lt_or_ge A B with h1 | h1
 ·exact ⟨_,2,h.1 h1,⟨fun h=>absurd h (by decide),fun h=>absurd h (by omega)⟩,fun h=>absurd h (by omega)⟩
 obtain ⟨v',h2,h3⟩:=h.2 h1
 obtain ⟨c,rfl,_⟩:=h3.one
 exact ⟨c,0,h2,⟨fun _=>h1,fun _=>rfl⟩,fun _=>h3⟩
theorem bXo {a b k:Nat} (h1:(toL a).length≤k) (h2:(toL b).length≤k):(toL (a+b)).length≤k+1:=by
 refine qS.2 ?_
 have h3:=qS.1 h1
 have h4:=qS.1 h2
 have h7:Num.W ^ k * 2≤Num.W ^ k * Num.W:=Nat.mul_le_mul_left _ (by decide)
 rw [Nat.pow_succ]
 generalize Num.W ^ k * Num.W=X at *
 generalize Num.W ^ k=Y at *
 omega
theorem bMu {m:Nat}:(toL m).length=((pS m).length+1) / 2:=by rw [← Jc,Me]
theorem aGq {m k:Nat} (h:(toL m).length≤k):(pS m).length≤2 * k:=by
 rw [bMu] at h
 omega
theorem bQS {a b k j:Nat} (h1:(pS a).length≤k) (h2:(pS b).length≤j):(pS (a * b)).length≤k+j:=by
 refine Gp.2 ?_
 rw [Nat.pow_add]
 exact Nat.mul_lt_mul'' (Gp.1 h1) (Gp.1 h2)
theorem Qr {k:Nat} (hk:1≤k) {z:fR} {n:Bool} {c:C} {l:List UInt32} (hx:CZ 1 RW z c l):FC (E k) 233 [.agg [Cb n,c]] z fun v _=>v=Ab (xJ (n,l)):=by
 have hxl:=hx.le
 refine iI (bBo) (by omega) (dN O) fun B j hj=>?_
 refine xR ?_
 refine kN O fun b1=>?_
 refine R2 16 O (dH O mem0 O (cX O hx (R3 4 O ?_)))
 refine xD O (fun hc6=>?_) (fun hc6=>?_)
 ·refine R4 8 O (dH O mem0 O (R0 4 O (mC (rI O ?_))))
  have hl:l=[]:=List.eq_nil_of_length_eq_zero (by omega)
  subst hl
  rw [aGK]
  rfl
 refine R4 8 O (dH O mem0 O (lF O (dH O mem0 O (cX O hx (lB O O (wC (n:=l.length - 1) (by omega) (by omega)) ?_)))))
 refine qO O O hx (l.length - 1) (O) (by omega) fun p16 hp16=>?_
 refine wF O hp16 (R0 4 O (xT (rI O ?_)))
 rw [aSN (by omega)]
 rfl
theorem pU {k:Nat} (hk:2≤k) {z:fR} {n:Bool} {c:C} {l:List UInt32} (hx:CZ 1 RW z c l):FC (E k) 215 [.agg [Cb n,c]] z fun v _=>∃ c',v=.agg [Cb (decide (mB (n,l)<0)),c']∧∀ zz,CZ 1 RW zz c l→CZ 1 RW zz c' (toL (mB (n,l)).natAbs):=by
 refine iI (bCd) (by omega) (dN O) fun B j hj=>?_
 refine xR ?_
 refine kN O fun b1=>?_
 refine oI fun b2=>?_
 refine lN (R4 4 O (jN O Y1 O ?_))
 refine lE z (Qr (by omega) hx) O O fun z4 _=>?_
 refine R3 4 O ?_
 refine kJ O (fun hc5=>?_) (fun hc5=>?_)
 ·refine R4 4 O (pR (cs:=[_,_]) O (jI O O lR (lN (mC (rQ (.inl O) (Xr O mem0 rn) ?_)))))
  have h0:=bEn (n:=n) (l:=l) (by simpa using hc5)
  rw [h0]
  exact ⟨_,rfl,fun zz h=>by rw [show toL (0:Int).natAbs=[] from uW];exact .nil⟩
 refine R4 4 O (jN O Y1 O (jI O O lR (lN (xT (rQ (.inl O) (Xr O mem0 rn) ?_)))))
 obtain ⟨e1,e2⟩:=aV1 (n:=n) (l:=l) (by simpa using hc5)
 refine ⟨c,?_,fun zz h=>by rw [← e2];exact h⟩
 rw [← e1]
 rfl
theorem wO {k:Nat} (hk:4≤k) {z:fR} {b:Bool} {c:C} {l:List UInt32} (hx:CZ 1 RW z c l) (h1:l.length≤1000000000):FC (E k) 210 [Ab b,.c c] z fun v z'=>IV (zd z z') v (Pi b (val l)):=by
 have hll:=yN (l:=l)
 refine iI (bBW) (by omega) (dN O) fun B j hj=>?_
 refine xR ?_
 refine oI fun b4=>?_
 refine lN (R4 4 O ?_)
 refine lZ z (aUj (by omega) hx h1) O O fun v7 z7 _ h7=>?_
 obtain ⟨c7,rfl,_⟩:=h7.one
 refine R2 17 O ?_
 refine nV 9 O (fun hg9=>?_) (fun hg9=>?_)
 ·refine lD O (lM O (lD O (cX O (h7.mono kY) (R1 12 O (pR (cs:=[_,_]) O (jI O O lR (lN (xT (rQ (.inl O) (Xr O mem0 rn) ?_)))))))))
  exact aB6 rfl (by rw [aUB,hg9];rfl) h7
 refine R1 48 O (pR (cs:=[_,_]) O (jI O O lR (lN (xT (rQ (.inl O) (Xr O mem0 rn) ?_)))))
 exact aB6 rfl (by rw [aUB,hg9];rfl) h7
theorem Y0 {k:Nat} (hk:5≤k) {z:fR} {n:Int} (h1 : -9223372036854775808≤n) (h2:n<9223372036854775808):FC (E k) 127 [Ai n] z fun v z'=>IV (zd z z') v n:=by
 refine iI (bBX) (by omega) (dN O) fun B j hj=>?_
 refine xR ?_
 refine oI fun b2=>?_
 refine lN (R4 4 O (lB O O ((bNN n)) (lC O (lB O O ((bOW h1 h2)) (R2 128 O ?_)))))
 refine aSM O (aVE (r := -(n.tmod 4294967296)) (by rw [vR (bT4 n)];omega)) ?_
 refine bIi (m:=((n.natAbs % 4294967296:Nat):Int)) O O (bTS n) (nE O (wD (O) (by omega)) (R1 4 O ?_))
 refine aSM O (aVE (r := -(n.tdiv 4294967296)) (by rw [vR (bMP h1 h2)];omega)) ?_
 refine bIi (m:=((n.natAbs / 4294967296:Nat):Int)) O O (bSM n) (nE O (wD (O) (by omega)) ?_)
 refine bAa O O (Nat.mod_lt _ (by decide)) (by omega) O fun b21=>?_
 refine zW (n:=2) z z (p:=[]) O O zI (O) (by omega) fun zf21 hzf21 hf21=>?_
 refine lZ zf21 (wO (by omega) (hf21.mono kY) (by simp)) O O fun v22 z22 _ hv22=>?_
 rw [aZl (by omega),bIr] at hv22
 obtain ⟨c22,rfl,h22⟩:=hv22
 have h22:=h22.mono (vS (hzf21))
 refine jI O O lR (lN (xT (rQ (.inl O) (Xr O mem0 rn) ?_)))
 exact ⟨_,rfl,h22⟩
theorem aLE {k:Nat} (hk:4≤k) {z:fR} {n1:Bool} {c1:C} {l1:List UInt32} (hx:CZ 1 RW z c1 l1) {n2:Bool} {c2:C} {l2:List UInt32} (hy:CZ 1 RW z c2 l2) (h1:l1.length≤100000000) (h2:l2.length≤100000000):FC (E k) 266 [.agg [Cb n1,c1],.agg [Cb n2,c2]] z fun v _=>v=.c (.v (.int .i64 (mB (n1,l1) - mB (n2,l2)).sign)):=by
 have e1:=Nat.le_trans (Dx (n:=n1) (l:=l1)) h1
 have e2:=Nat.le_trans (Dx (n:=n2) (l:=l2)) h2
 refine iI (bAZ) (by omega) (dN O) fun B j hj=>?_
 refine xR ?_
 refine kN O fun b2=>?_
 refine kN O fun b3=>?_
 refine R2 4 O (jN O Y1 O ?_)
 refine lZ z (pU (by omega) hx) O O fun v6 z6 _ hv6=>?_
 obtain ⟨c6,rfl,hq6⟩:=hv6
 have h6:=hq6 _ (hx.mono (zJ z6))
 refine jI O O P1 (lN (xR (jN O mem0 O ?_)))
 refine lZ z6 (pU (by omega) hy.m) O O fun v8 z8 _ hv8=>?_
 obtain ⟨c8,rfl,hq8⟩:=hv8
 have h8:=hq8 _ (hy.mono (zJ z8))
 refine jI O O lR (lN ?_)
 refine dE (bQ ?_)
 refine R4 4 O (dH O Y1 O (lC O ?_))
 refine iO 12 O (fun hg12=>?_) (fun hg12=>?_)
 ·refine lD O (lF O (lD O (dH O mem0 O (R0 12 O ?_))))
  refine Ae O (fun hc9=>?_) (fun hc9=>?_)
  ·refine R5 4 O (xT (oD ?_))
   exact rI O (congrArg (fun x=>AV.c (Ci x)) (bRw (by omega) (by omega)))
  refine R4 4 O (dH O mem0 O (lC O ?_))
  refine iO 20 O (fun hg20=>?_) (fun hg20=>?_)
  ·refine lD O (lF O (lD O (dH O Y1 O (R0 12 O ?_))))
   refine Ae O (fun hc17=>?_) (fun hc17=>?_)
   ·omega
   refine R4 4 O (dH O Y1 O (R0 2 O ?_))
   refine xD O (fun hc25=>?_) (fun hc25=>?_)
   ·refine R4 4 O (dH O mem0 O (lF O (dH O Y1 O ?_)))
    refine lZ z8 (aBJ (by omega) h8 h6.m (by omega) (by omega)) O O fun v32 z32 _ hv32=>?_
    rw [iN,iN] at hv32
    refine R0 3 O (xT (oD (rI O ?_)))
    rw [bLd (by omega) (by omega)] at hv32
    exact hv32
   omega
  omega
 refine R2 272 O (dH O mem0 O (lC O ?_))
 refine iO 20 O (fun hg20=>?_) (fun hg20=>?_)
 ·refine lD O (lF O (lD O (dH O Y1 O (R0 12 O ?_))))
  refine Ae O (fun hc17=>?_) (fun hc17=>?_)
  ·refine R5 4 O (xT (oD ?_))
   exact rI O (congrArg (fun x=>AV.c (Ci x)) (bQT (by omega) (by omega)))
  omega
 refine R2 272 O (dH O Y1 O (R0 2 O ?_))
 refine xD O (fun hc25=>?_) (fun hc25=>?_)
 ·omega
 refine mQ (iE (R4 4 O (dH O Y1 O (lF O (dH O mem0 O ?_)))))
 refine lZ z8 (aBJ (by omega) h6.m h8 (by omega) (by omega)) O O fun v37 z37 _ hv37=>?_
 rw [iN,iN] at hv37
 refine R0 3 O (xT (rI O ?_))
 rw [bJO (by omega) (by omega)] at hv37
 exact hv37
theorem A9 {k:Nat} (hk:5≤k) {z:fR} {n:Bool} {c:C} {l:List UInt32} (hx:CZ 1 RW z c l) (h1:l.length≤100000000):FC (E k) 211 [.agg [Cb n,c]] z fun v _=>v=.c (.v (.int .i64 (mB (n,l)).sign)):=by
 refine iI (bCh) (by omega) (dN O) fun B j hj=>?_
 refine xR ?_
 refine kN O fun b1=>?_
 refine R2 4 O (jN O mem0 O (pR (cs:=[_,_]) O ?_))
 refine lZ z (aLE (n2:=false) (l2:=[]) (by omega) hx .nil h1 (by simp)) O O fun v5 z5 _ hv5=>?_
 refine R0 3 O (xT (rI O ?_))
 rw [show mB (false,[])=0 from rfl,Int.sub_zero] at hv5
 exact hv5
theorem Po {k:Nat} (hk:5≤k) {z:fR} {n:Bool} {c:C} {l:List UInt32} (hx:CZ 1 RW z c l) (h1:l.length≤100000000):FC (E k) 212 [.agg [Cb n,c]] z fun v z'=>IV (zd z z') v (-mB (n,l)):=by
 have e1:=Nat.le_trans (Dx (n:=n) (l:=l)) h1
 refine iI (bCq) (by omega) (dN O) fun B j hj=>?_
 refine xR ?_
 refine kN O fun b1=>?_
 refine oI fun b2=>?_
 refine lN (jF (O8 O O (.inr Y1) O ?_))
 refine gC z (pU (by omega) hx) O O O O fun v4 z4 hz4 hv4=>?_
 obtain ⟨c4,rfl,hq4⟩:=hv4
 have h4:=hq4 _ (hx.mono (zJ z4))
 refine gP O O F ?_
 refine aDv O O (lN ?_)
 refine G1 2 O (O8 O O (.inr Y1) O ?_)
 refine gC z4 (pU (by omega) hx.m) O O O O fun v8 z8 hz8 hv8=>?_
 obtain ⟨c8,rfl,hq8⟩:=hv8
 have h8:=hq8 _ (hx.mono (zJ z8))
 refine gP O O F ?_
 refine aDv O O (lN ?_)
 refine gC z8 (wO (by omega) h8 (by omega)) O O O O fun v10 z10 _ hv10=>?_
 rw [iN,aYG] at hv10
 obtain ⟨c10,rfl,h10⟩:=hv10
 have h10:=h10.mono (vS (hz4.trans hz8))
 refine gS O O O (jI O O lR (lN (nQ (xT (rQ (.inl O) (Xr O mem0 rn) ?_)))))
 exact ⟨_,rfl,h10⟩
theorem aA9 {k:Nat} (hk:5≤k) {z:fR} {n1:Bool} {c1:C} {l1:List UInt32} (hx:CZ 1 RW z c1 l1) {n2:Bool} {c2:C} {l2:List UInt32} (hy:CZ 1 RW z c2 l2) (h1:l1.length≤100000000) (h2:l2.length≤100000000):FC (E k) 133 [.agg [Cb n1,c1],.agg [Cb n2,c2]] z fun v z'=>IV (zd z z') v (mB (n1,l1)+mB (n2,l2)):=by
 have e1:=Nat.le_trans (Dx (n:=n1) (l:=l1)) h1
 have e2:=Nat.le_trans (Dx (n:=n2) (l:=l2)) h2
 refine iI (bAQ) (by omega) (dN O) fun B j hj=>?_
 refine xR ?_
 refine kN O fun b2=>?_
 refine kN O fun b3=>?_
 refine oI fun b4=>?_
 refine lN (xR (jN O Y2 O ?_))
 refine lZ z (pU (by omega) hx) O O fun v8 z8 hz8 hv8=>?_
 obtain ⟨c8,rfl,hq8⟩:=hv8
 have h8:=hq8 _ (hx.mono (zJ z8))
 refine jI O O P2 (lN (xR (jN O Y1 O ?_)))
 refine lZ z8 (pU (by omega) hy.m) O O fun v10 z10 hz10 hv10=>?_
 obtain ⟨c10,rfl,hq10⟩:=hv10
 have h10:=hq10 _ (hy.mono (zJ z10))
 refine jI O O P1 (lN (R4 8 O (dH O Y2 O (lF O (dH O Y1 O (A8 O O (bGn _ _) (lN (Ez ?_))))))))
 refine xD O (fun hc15=>?_) (fun hc15=>?_)
 ·refine Z6 (jF (G1 2 O (wM O O (.inr Y2) O (G1 2 O (wM O O (.inr Y2) O (G1 2 O (wM O O (.inr Y1) O ?_)))))))
  refine gC z10 (aV9 (by omega) h8.m h10 (by omega) (by omega)) O O O O fun v22 z22 hz22 h22=>?_
  rw [iN,iN] at h22
  obtain ⟨c22,rfl,_⟩:=h22.one
  have h22:=h22.mono (vS (hz8.trans hz10))
  have hl22:(toL ((mB (n1,l1)).natAbs+(mB (n2,l2)).natAbs)).length≤1000000000:=Nat.le_trans (bXo e1 e2) (by omega)
  refine gC z22 (wO (by omega) (h22.mono kY) (by omega)) O O O O fun v23 z23 _ hv23=>?_
  rw [iN,aId hc15] at hv23
  obtain ⟨c23,rfl,h23⟩:=hv23
  have h23:=h23.mono (vS (hz8.trans (hz10.trans hz22)))
  refine gS O O O (jI O O lR (lN (nQ (mC (rQ (.inl O) (Xr O mem0 rn) ?_)))))
  exact ⟨_,rfl,h23⟩
 refine R4 8 O (dH O Y2 O (lF O (dH O Y1 O ?_)))
 refine lZ z10 (aLp (by omega) h8.m h10 (by omega) (by omega)) O O fun v29 z29 hz29 hv29=>?_
 rw [iN,iN] at hv29
 obtain ⟨c29,e29,rfl,he29,hs29⟩:=bRh hv29
 refine R3 1177 O ?_
 refine xD O (fun hc33=>?_) (fun hc33=>?_)
 ·refine R4 4 O ?_
  have hs29:=hs29 (he29.1 hc33)
  have hs29:=hs29.mono (vS (hz8.trans hz10))
  refine lF O (dH O Y2 O (lM O ?_))
  have hl29:=F4 (Nat.sub_le (mB (n1,l1)).natAbs (mB (n2,l2)).natAbs)
  refine lZ z29 (wO (by omega) (hs29.mono kY) (by omega)) O O fun v37 z37 _ hv37=>?_
  rw [iN,aMu hc15 (he29.1 hc33)] at hv37
  obtain ⟨c37,rfl,h37⟩:=hv37
  have h37:=h37.mono (vS (hz8.trans (hz10.trans hz29)))
  refine jI O O lR (lN (mC (rQ (.inl O) (Xr O mem0 rn) ?_)))
  exact ⟨_,rfl,h37⟩
 refine R4 4 O ?_
 have hlt:¬ (mB (n2,l2)).natAbs≤(mB (n1,l1)).natAbs:=fun h=>hc33 (he29.2 h)
 have hl43:=F4 (Nat.sub_le (mB (n2,l2)).natAbs (mB (n1,l1)).natAbs)
 refine lF O (dH O Y1 O (lF O (dH O Y2 O ?_)))
 refine lZ z29 (aLp (by omega) h10.m h8.m (by omega) (by omega)) O O fun v43 z43 hz43 ⟨_,hv43⟩=>?_
 rw [iN,iN] at hv43
 obtain ⟨w43,rfl,hr43⟩:=hv43 (by omega)
 obtain ⟨c43,rfl,_⟩:=hr43.one
 have hr43:=hr43.mono (vS (hz8.trans (hz10.trans hz29)))
 refine R2 73 O (dH O Y1 O (lM O ?_))
 refine lZ z43 (wO (by omega) (hr43.mono kY) (by omega)) O O fun v49 z49 _ hv49=>?_
 rw [iN,aUK hc15 (by omega)] at hv49
 obtain ⟨c49,rfl,h49⟩:=hv49
 have h49:=h49.mono (vS (hz8.trans (hz10.trans (hz29.trans hz43))))
 refine jI O O lR (lN (xT (rQ (.inl O) (Xr O mem0 rn) ?_)))
 exact ⟨_,rfl,h49⟩
theorem aVN {k:Nat} (hk:6≤k) {z:fR} {n1:Bool} {c1:C} {l1:List UInt32} (hx:CZ 1 RW z c1 l1) {n2:Bool} {c2:C} {l2:List UInt32} (hy:CZ 1 RW z c2 l2) (h1:l1.length≤100000000) (h2:l2.length≤100000000):FC (E k) 268 [.agg [Cb n1,c1],.agg [Cb n2,c2]] z fun v z'=>IV (zd z z') v (mB (n1,l1) - mB (n2,l2)):=by
 have e1:=Nat.le_trans (Dx (n:=n1) (l:=l1)) h1
 have e2:=Nat.le_trans (Dx (n:=n2) (l:=l2)) h2
 refine iI (bDs) (by omega) (dN O) fun B j hj=>?_
 refine xR ?_
 refine kN O fun b2=>?_
 refine kN O fun b3=>?_
 refine oI fun b4=>?_
 refine lN (jF (O8 O O (.inr Y2) O (O8 O O (.inr Y1) O ?_)))
 refine gC z (Po (by omega) hy h2) O O O O fun v7 z7 hz7 hv7=>?_
 obtain ⟨c7,rfl,h7⟩:=hv7
 refine gC z7 (aA9 (by omega) hx.m (h7.mono kY) h1 (by rw [Int.natAbs_neg];exact e2)) O O O O fun v8 z8 _ hv8=>?_
 rw [kC,← Int.sub_eq_add_neg] at hv8
 obtain ⟨c8,rfl,h8⟩:=hv8
 have h8:=h8.mono (vS (hz7))
 refine gS O O O (jI O O lR (lN (nQ (xT (rQ (.inl O) (Xr O mem0 rn) ?_)))))
 exact ⟨_,rfl,h8⟩
theorem aBY {k:Nat} (hk:5≤k) {z:fR} {n1:Bool} {c1:C} {l1:List UInt32} (hx:CZ 1 RW z c1 l1) {n2:Bool} {c2:C} {l2:List UInt32} (hy:CZ 1 RW z c2 l2) (h1:l1.length≤100000000) (h2:l2.length≤100000000):FC (E k) 134 [.agg [Cb n1,c1],.agg [Cb n2,c2]] z fun v z'=>IV (zd z z') v (mB (n1,l1) * mB (n2,l2)):=by
 have e1:=Nat.le_trans (Dx (n:=n1) (l:=l1)) h1
 have e2:=Nat.le_trans (Dx (n:=n2) (l:=l2)) h2
 refine iI (bDr) (by omega) (dN O) fun B j hj=>?_
 refine xR ?_
 refine kN O fun b2=>?_
 refine kN O fun b3=>?_
 refine oI fun b4=>?_
 refine lN (xR (jN O Y2 O ?_))
 refine lZ z (pU (by omega) hx) O O fun v6 z6 hz6 hv6=>?_
 obtain ⟨c6,rfl,hq6⟩:=hv6
 have h6:=hq6 _ (hx.mono (zJ z6))
 refine jI O O P2 (lN (xR (jN O Y1 O ?_)))
 refine lZ z6 (pU (by omega) hy.m) O O fun v8 z8 hz8 hv8=>?_
 obtain ⟨c8,rfl,hq8⟩:=hv8
 have h8:=hq8 _ (hy.mono (zJ z8))
 refine jI O O P1 (lN (jF (G1 2 O (wM O O (.inr Y2) O (G1 2 O (wM O O (.inr Y1) O (gP O O F ?_)))))))
 refine A8 O O (Wj _ _) (lN ?_)
 refine G1 2 O (wM O O (.inr Y2) O ?_)
 refine gC z8 (Ar (by omega) h6.m (by omega)) O O O O fun v16 z16 hz16 h16=>?_
 have h16:=h16.mono (vS (hz6.trans hz8))
 rw [iN] at h16
 refine G1 2 O (wM O O (.inr Y1) O ?_)
 refine gC z16 (Ar (by omega) h8.m (by omega)) O O O O fun v19 z19 hz19 h19=>?_
 have h19:=h19.mono (vS (hz6.trans (hz8.trans hz16)))
 rw [iN] at h19
 have f1:=aGq e1
 have f2:=aGq e2
 refine gC z19 (aEb (by omega) (yJ _) (yJ _) h16.m (h19.mono kY) (by omega) (by omega)) O O O O fun v20 z20 hz20 h20=>?_
 rw [xP,xP] at h20
 have f3:=bQS f1 f2
 refine gC z20 (Jm (by omega) (yJ _) h20 (by omega)) O O O O fun v21 z21 hz21 h21=>?_
 rw [Jc] at h21
 obtain ⟨c21,rfl,_⟩:=h21.one
 have h21:=h21.mono (vS (hz6.trans (hz8.trans (hz16.trans (hz19.trans hz20)))))
 have f4:=bMu (m:=(mB (n1,l1)).natAbs * (mB (n2,l2)).natAbs)
 refine gC z21 (wO (by omega) (h21.mono kY) (by omega)) O O O O fun v22 z22 _ hv22=>?_
 rw [iN,aY5] at hv22
 obtain ⟨c22,rfl,h22⟩:=hv22
 have h22:=h22.mono (vS (hz6.trans (hz8.trans (hz16.trans (hz19.trans (hz20.trans hz21))))))
 refine gS O O O (jI O O lR (lN (nQ (xT (rQ (.inl O) (Xr O mem0 rn) ?_)))))
 exact ⟨_,rfl,h22⟩
end Go.Proofs.YtlceligcgelbdaaGreat

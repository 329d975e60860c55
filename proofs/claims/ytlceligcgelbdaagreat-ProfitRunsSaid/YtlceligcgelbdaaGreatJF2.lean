/- Tables of fractions. -/
import Derived.WalkKit
import Derived.Orders
import Derived.Test.YtlceligcgelbdaaGreatJF1
set_option linter.unusedVariables false
set_option linter.unusedSimpArgs false
set_option maxRecDepth 100000
set_option maxHeartbeats 1000000
namespace Go.Proofs.YtlceligcgelbdaaGreat
open Go.CE Go.RowKit Go.Num
open Go.Eng (setL)
abbrev rv (x:PRat):Rat:=Num.valR ((x.n,x.nm),(x.d,x.dm))
def RV:RT Rat:=fun z cs q=>∃ c d,cs=[Cb (decide (q.num<0)),c,Cb (decide ((q.den:Int)<0)),d]∧CZ 1 RW z c (toL q.num.natAbs)∧CZ 1 RW z d (toL (q.den:Int).natAbs)
instance:RMono RV:=⟨fun hz ⟨c,d,h,g0,g1⟩=>⟨c,d,h,g0.mono hz,g1.mono hz⟩⟩
def TOk (z:Mem) (D:List (Ro Rat)):Prop:=∀ d,d∈D→CL 4 RV z d.2.1 d.2.2
theorem TOk.mono {z z':Mem} {D:List (Ro Rat)} (h:TOk z D) (hz:zle z z'):TOk z' D:=fun d hd=>(h d hd).mono hz
theorem tok_add {z:Mem} {D:List (Ro Rat)} {c:C} {cs:List C} {l:List Rat} (h:TOk z D) (g:CL 4 RV z cs l):TOk z (D++[(c,cs,l)]):=fun d hd=>by
 rcases List.mem_append.1 hd with hd | hd
 ·exact h d hd
 simp at hd;subst hd;exact g
open Go.CE Go.RowKit Go.Num
open Go.Eng (setL)
theorem cl_set {α:Type} {size:Nat} {R:RT α} {z:Mem} {cs ws:List C} {l:List α} {a:α} {i:Nat} (h:CL size R z cs l) (hi:i<l.length) (hl:ws.length=size) (hR:R z ws a):CL size R z (setL cs (i * size) ws) (l.set i a):=by
 have hle:i * size+size≤l.length * size:=by rw [← Nat.succ_mul];exact Nat.mul_le_mul_right _ hi
 have hb:i * size+ws.length≤cs.length:=by rw [hl,h.1];exact hle
 have e:∀ j,((setL cs (i * size) ws).drop (j * size)).take size=if j=i then ws else (cs.drop (j * size)).take size:=by
  intro j
  apply List.ext_getElem?
  intro q
  by_cases hq:q<size
  ·rw [List.getElem?_take,if_pos hq,List.getElem?_drop,setL_at _ _ _ hb,hl]
   by_cases hj:j=i
   ·subst hj
    rw [if_pos rfl,if_pos ⟨by omega,by omega⟩,show j * size+q - j * size=q by omega]
   rw [if_neg hj,List.getElem?_take,if_pos hq,List.getElem?_drop,if_neg ?_]
   rintro ⟨h1,h2⟩
   rcases Nat.lt_or_gt_of_ne hj with h3 | h3
   ·have:(j+1) * size≤i * size:=Nat.mul_le_mul_right _ h3
    rw [Nat.succ_mul] at this
    omega
   have:(i+1) * size≤j * size:=Nat.mul_le_mul_right _ h3
   rw [Nat.succ_mul] at this
   omega
  rw [List.getElem?_take,if_neg hq]
  by_cases hj:j=i
  ·rw [if_pos hj,List.getElem?_eq_none (by omega)]
  rw [if_neg hj,List.getElem?_take,if_neg hq]
 refine ⟨by rw [Go.Eng.setL_length _ _ _ hb,List.length_set,h.1],fun j b hj=>?_⟩
 rw [e j]
 by_cases hji:j=i
 ·subst hji
  rw [List.getElem?_set_self hi] at hj
  injection hj with hj
  subst hj
  rw [if_pos rfl]
  exact ⟨hl,hR⟩
 rw [List.getElem?_set_ne (fun e=>hji e.symm)] at hj
 rw [if_neg hji]
 exact h.2 j b hj
open Go.CE Go.RowKit Go.Num
open Go.Eng (setL)
section
variable {t:List (List PRat)} {D:List (Ro Rat)} {d:Ro Rat} {ie m:Nat} {e c:Int} {y q:Rat}
theorem setL_l {cs:List C} {k:Nat} {a b c d:C} (hm:m<k) (h:cs.length=k * 4):(setL cs (m * 4) [a,b,c,d]).length=k * 4:=by
 rw [Go.Eng.setL_length _ _ _ (by simp;omega),h]
end
open Go.CE Go.RowKit Go.Num
open Go.Eng (setL)
theorem add_len {p q:Rat} {a b:Nat} (h1:(toL p.num.natAbs).length≤a) (h2:(toL (p.den:Int).natAbs).length≤a) (h3:(toL q.num.natAbs).length≤b) (h4:(toL (q.den:Int).natAbs).length≤b):(toL (p+q).num.natAbs).length≤a+b+1∧(toL ((p+q).den:Int).natAbs).length≤a+b+1:=by
 rw [← addB (p:=p) (q:=q)]
 have hd:=divInt_le (a:=p.num * (q.den:Int)+q.num * (p.den:Int)) (denR p q)
 refine ⟨Nat.le_trans (len_le hd.1) ?_,Nat.le_trans (len_le (b:=((p.den:Int) * (q.den:Int)).natAbs) (by rw [Int.natAbs_natCast];exact hd.2)) (Nat.le_succ_of_le (lenMul h2 h4))⟩
 exact lenAdd (lenMul h1 h4) (Nat.le_trans (lenMul h3 h2) (by omega))
end Go.Proofs.YtlceligcgelbdaaGreat

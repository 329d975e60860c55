/- The reference's names, places; totals, the program's and the reference's, walked. -/
import Derived.WalkKit
import Derived.Orders
import Derived.Test.YtlceligcgelbdaaGreatKF2
import Derived.Test.YtlceligcgelbdaaGreatKF4
set_option linter.unusedVariables false
set_option linter.unusedSimpArgs false
set_option maxRecDepth 100000
set_option maxHeartbeats 1000000
namespace Go.Proofs.YtlceligcgelbdaaGreat
open Go.CE Go.RowKit Go.Num
open Go.Eng (kN)
def Nw (s:ByteArray) (at_:Nat) (l:List lL):List Nat:=(B2 s l).filter (· != at_)
def aHs (l:List Nat):Int:=match l with
 | [j]=>(j:Nat)
 | _=>-1
section
variable {nl:List ByteArray} {cl:List nN} {dl:List lL} {i p q j at_:Nat} {d a b e:lL} {s:ByteArray}
theorem aGx (h:dl[i]? = some a):Nw s at_ (dl.take (i+1))=if s=a.id∧i≠at_ then Nw s at_ (dl.take i)++[i] else Nw s at_ (dl.take i):=by
 unfold Nw
 rw [aXF h]
 by_cases h1:s=a.id
 ·rw [if_pos h1,List.filter_append]
  by_cases h2:i=at_
  ·rw [if_neg fun g=>g.2 h2]
   simp [h2]
  rw [if_pos ⟨h1,h2⟩]
  simp [h2]
 rw [if_neg h1,if_neg fun g=>h1 g.1]
theorem bNB:(Nw s at_ (dl.take i)).length≤(Nw s at_ dl).length:=by
  have key:∀ n,i≤dl.length→i+n≤dl.length→(Nw s at_ (dl.take i)).length≤(Nw s at_ (dl.take (i+n))).length:=by
    intro n
    induction n with
    | zero=>intros;exact Nat.le_refl _
    | succ n ih =>
      intro h1 h2
      refine Nat.le_trans (ih h1 (by omega)) ?_
      rw [← Nat.add_assoc,aGx (List.getElem?_eq_getElem (by omega))]
      split
      · rw [List.length_append];omega
      · exact Nat.le_refl _
  by_cases h:i≤dl.length
  · have := key (dl.length - i) h (by omega)
    rwa [show i+(dl.length - i)=dl.length by omega,List.take_length] at this
  · rw [List.take_of_length_le (by omega)];exact Nat.le_refl _
theorem bLl {l:List Nat} (h:l.length≤1) (g:aHs l<0):l=[]:=by
 match l,h with
 | [],_=>rfl
 | [j],_=>exact absurd g (by show ¬ ((j:Nat):Int)<0;omega)
theorem bAz {l:List Nat} (g:0≤aHs l):∃ j,l=[j]:=by
 match l with
 | []=>exact absurd g (by decide)
 | [j]=>exact ⟨j,rfl⟩
 | _::_::_=>exact absurd g (by show ¬ (0:Int)≤-1;decide)
theorem bKn {l:List Nat} (h:2≤l.length):aHs l = -1:=by
 match l,h with
 | _::_::_,_=>rfl
theorem bI3 (h1 : dl[i]? = some a) (g : 0 ≤ aHs (Nw s at_ (dl.take i))) (hs : s = a.id) (hn : i ≠ at_) : aHs (Nw s at_ dl) = -1 := bKn (by
  have h:=bNB (s:=s) (at_:=at_) (dl:=dl) (i:=i+1)
  obtain ⟨j,hj⟩:=bAz g
  rw [aGx h1,if_pos ⟨hs,hn⟩,hj] at h
  exact h)
theorem bAG (h1:dl[i]? = some a) (g:aHs (Nw s at_ (dl.take i))<0) (hl:(Nw s at_ (dl.take i)).length≤1) (hs:s=a.id) (hn:i≠at_):Nw s at_ (dl.take (i+1))=[i]:=by
 rw [aGx h1,if_pos ⟨hs,hn⟩,bLl hl g];rfl
theorem aWb (h1:dl[i]? = some a) (hs:¬ (s=a.id∧i≠at_)):Nw s at_ (dl.take (i+1))=Nw s at_ (dl.take i):=by rw [aGx h1,if_neg hs]
theorem bAk (hp:B2 d.id dl=[p,q]) (hlt:p<q) (hi:i=p∨i=q):aHs (Nw d.id i dl)=((p+q - i:Nat):Int):=by
  unfold Nw
  rw [hp]
  rcases hi with rfl | rfl
  · have h : q ≠ i := by omega
    simp [h,aHs]
  · have h : p ≠ i := by omega
    simp [h,aHs]
theorem bHw:I4 a b=I4 b a:=by
 cases h:I4 a b with
 | false=>exact (aVo h).symm
 | true =>
  cases g:I4 b a with
  | true=>rfl
  | false=>rw [aVo g] at h;cases h
theorem bOW (h:dl[i]? = some d) (g:aHs (Nw d.id i dl)<0):aBr nl cl dl i=true:=bHq h fun h2=>by
 obtain ⟨p,q,hp⟩:=aW4 h2
 rw [bAk hp (aD4 hp).1 (Y0 h hp)] at g
 omega
theorem bIV (h:dl[i]? = some d) (g:0≤aHs (Nw d.id i dl)):∃ k e p q,aHs (Nw d.id i dl)=((k:Nat):Int)∧dl[k]? = some e∧B2 d.id dl=[p,q]∧k=p+q - i∧k≠i∧k<dl.length:=by
 obtain ⟨j,hj⟩:=bAz g
 have hm:i∈B2 d.id dl:=aO7.2 ⟨d,h,rfl⟩
 have hnd:(B2 d.id dl).Nodup:=(bFE (s:=d.id) (l:=dl)).imp fun h=>Nat.ne_of_lt h
 have hl:(B2 d.id dl).length=2:=by
  have h1:=List.length_erase_of_mem hm
  rw [hnd.erase_eq_filter] at h1
  have h2:(B2 d.id dl).filter (· != i)=[j]:=hj
  rw [h2] at h1
  have:=List.length_pos_of_mem hm
  simp at h1
  omega
 obtain ⟨p,q,hp⟩:=aW4 hl
 obtain ⟨hlt,⟨a,ha,_⟩,b,hb,_⟩:=aD4 hp
 have hi:=Y0 h hp
 have e:=bAk hp hlt hi
 refine ⟨p+q - i,?_⟩
 have hl1:=(List.getElem?_eq_some_iff.1 ha).1
 have hl2:=(List.getElem?_eq_some_iff.1 hb).1
 rcases hi with rfl | rfl
 ·exact ⟨b,i,q,e,by rw [show i+q - i=q by omega];exact hb,hp,rfl,by omega,by omega⟩
 exact ⟨a,p,i,e,by rw [show p+i - i=p by omega];exact ha,hp,rfl,by omega,by omega⟩
theorem bAe (h:dl[i]? = some d) (hp:B2 d.id dl=[p,q]) (he:dl[p+q - i]? = some e):aBr nl cl dl i=(!Bo nl cl d || I4 d e):=by
  obtain ⟨hlt,⟨a,ha,_⟩,b,hb,_⟩:=aD4 hp
  rw [aSX h hp ha hb]
  rcases Y0 h hp with rfl | rfl
  · rw [show i + q - i = q by omega, hb] at he
    rw [h] at ha
    injection ha with ha
    injection he with he
    rw [ha,he]
  · rw [show p + i - i = p by omega, ha] at he
    rw [h] at hb
    injection hb with hb
    injection he with he
    rw [hb,he,bHw]
end
theorem bGK {α:Type} {le:α→α→Prop} (ht:∀ a b c,le a b→le b c→le a c) {A B:List α} {t:α} (h:(A++B).Pairwise le) (h1:A=[]∨∃ A' a,A=A'++[a]∧le a t) (h2:∀ b,b∈B→le t b):(A++t::B).Pairwise le:=by
 rw [List.pairwise_append] at h ⊢
 obtain ⟨hA,hB,hAB⟩:=h
 refine ⟨hA,List.pairwise_cons.2 ⟨h2,hB⟩,fun a ha b hb=>?_⟩
 have hat:le a t:=by
  rcases h1 with rfl | ⟨A',c,rfl,hc⟩
  ·cases ha
  rcases List.mem_append.1 ha with ha | ha
  ·rw [List.pairwise_append] at hA
   exact ht _ _ _ (hA.2.2 a ha c (by simp)) hc
  rw [List.mem_singleton.1 ha];exact hc
 rcases List.mem_cons.1 hb with rfl | hb
 ·exact hat
 exact hAB a ha b hb
theorem bA3 {α:Type} {A:List α} (h:0<A.length):∃ A' a,A=A'++[a]∧A'.length+1=A.length:=by
 refine ⟨A.dropLast,A.getLast (by intro e;subst e;simp at h),(List.dropLast_concat_getLast _).symm,?_⟩
 rw [List.length_dropLast];omega
section
variable {α:Type} {f:α→List C} {s:Nat} (hf:∀ x,(f x).length=s)
include hf
theorem aAl (l:List α):(l.flatMap f).length=l.length * s:=by
 induction l with
 | nil=>simp
 | cons a l ih=>rw [List.flatMap_cons,List.length_append,ih,hf,List.length_cons,Nat.succ_mul,Nat.add_comm]
theorem bTd (A:List α) (t:α) (B:List α) {k:Nat} (hk:k=A.length) (n o:Nat) (ho:o+n≤s):((((A++t::B).flatMap f).drop (k * s+o)).take n)=((f t).drop o).take n:=by
 subst hk
 rw [List.flatMap_append,List.flatMap_cons,← List.drop_drop,List.drop_left' (aAl hf A),List.drop_append_of_le_length (by rw [hf];omega),List.take_append_of_le_length (by rw [List.length_drop,hf];omega)]
theorem bFG (A:List α) (t u:α) (B:List α) {k:Nat} (hk:k=A.length):kN ((A++t::B).flatMap f) (k * s) (f u)=(A++u::B).flatMap f:=by
 subst hk
 unfold kN
 rw [List.flatMap_append,List.flatMap_append,List.flatMap_cons,List.flatMap_cons,hf,← List.drop_drop,List.drop_left' (aAl hf A),List.drop_left' (hf t),List.take_left' (aAl hf A),List.append_assoc]
theorem bJF (A:List α) (a t:α) (B:List α) {k:Nat} (hk:k=A.length):kN (kN ((A++a::t::B).flatMap f) (k * s) (f t)) ((k+1) * s) (f a)=(A++t::a::B).flatMap f:=by
 rw [bFG hf A a t (t::B) hk]
 have h:=bFG hf (A++[t]) t a B (k:=k+1) (by rw [List.length_append,hk];rfl)
 rw [List.append_assoc,List.append_assoc] at h
 exact h
end
open Go.CE Go.RowKit Go.Num
open Go.Eng (kN)
theorem aBO {call:eE} {B:pK} {an:List Nat} {j:Nat} {l:List CE.D} {fs:Sf} {T:dA} {tag last:Nat} {pj lj:List Nat} {Q:Sf→Prop} {α:Type} {f:α→List C} {s:Nat} (hf:∀ x,(f x).length=s) {L:List α} (A:List α) (t:α) (B':List α) (hL:L=A++t::B') {i:I} {d size:Nat} {agg:Bool} {x:Go.Eng.Od} {af:List Nat} {b ty o:Nat} {v:AV} (off:Nat) (hi:i.o=.load agg size x) (hd:i.d=some d) (hg:GK fs i) (hx:fs.ev x=.c (.ptr b o)) (hT:T b (.cells ty (L.flatMap f))) (ho:o=A.length * s+off) (hn:off+size≤s) (hv:I0 agg (((f t).drop off).take size)=v) (hs:Iu v v=true) (hw:FG call B an (j+1) l (fs.put d v) T tag last pj (j::lj) Q):FG call B an j (⟨i,af⟩::l) fs T tag last pj lj Q:=by
 subst hL
 refine Hi hi hd hg hx hT O ?_ ?_ hs hw
 ·rw [aAl hf,List.length_append,List.length_cons,ho]
  have:(A.length+1) * s≤(A.length+(B'.length+1)) * s:=Nat.mul_le_mul_right _ (by omega)
  rw [Nat.succ_mul] at this
  omega
 rw [ho,bTd hf A t B' rfl _ _ hn];exact hv
theorem bH9 (a b:ByteArray):pS .gtr (.string a) (.string b)=some (.bool (decide (tx b<tx a))):=by
  show some (Value.bool (!(Go.Op.bytesLess a.data.toList b.data.toList || J6 a.data.toList b.data.toList)))=_
  rw [Go.Proofs.bytesLess_eq,D5]
  congr 2
  by_cases h:tx a<tx b
  · have h2:¬ tx b<tx a:=fun g=>List.lt_irrefl _ (List.lt_trans h g)
    simp [h,h2]
  · by_cases g:tx a=tx b
    · have h2 : ¬ tx b < tx a := fun k => by rw [g] at k; exact List.lt_irrefl _ k
      simp [g]
    · have h2:tx b<tx a:=blt h fun e=>g e.symm
      simp only [h,g,h2,decide_false,decide_true,Bool.false_or]
      simpa using g
abbrev fB (s:ByteArray):List C:=[.v (.string s)]
theorem Z6 (s:ByteArray):(fB s).length=1:=rfl
theorem aX9 {α:Type} {f:α→List C} {s:Nat} (hf:∀ x,(f x).length=s) {L:List α} (A:List α) (a t:α) (B:List α) (hL:L=A++a::t::B) {o1 o2:Nat} {x y:List C} (hx:x=f t) (hy:y=f a) (h1:o1=A.length * s) (h2:o2=(A.length+1) * s):kN (kN (L.flatMap f) o1 x) o2 y=(A++t::a::B).flatMap f:=by
 subst hL hx hy h1 h2
 exact bJF hf A a t B rfl
theorem bBa {α:Type} {f:α→List C} {s:Nat} (hf:∀ x,(f x).length=s) {L:List α} {o k n:Nat} (ho:o=k * s) (hk:k+1≤n) (hL:L.length=n):o+s≤(L.flatMap f).length:=by
 rw [aAl hf,hL,ho,← Nat.succ_mul];exact Nat.mul_le_mul_right _ hk
theorem bF9 {α:Type} {f:α→List C} {s:Nat} (hf:∀ x,(f x).length=s) {L:List α} {x:List C} {o1 o2 k1 k2 n:Nat} (hx:x.length=s) (h1:o1=k1 * s) (hk1:k1+1≤n) (h2:o2=k2 * s) (hk2:k2+1≤n) (hL:L.length=n):o2+s≤(kN (L.flatMap f) o1 x).length:=by
 rw [Go.Eng.setL_length _ _ _ (by rw [hx];exact bBa hf h1 hk1 hL)]
 exact bBa hf h2 hk2 hL
theorem aVe (l:List ByteArray):(mB l).map tx=B8 (txt l):=by
 unfold mB
 rw [List.map_map]
 conv=>rhs;rw [← List.map_id (B8 (txt l))]
 exact List.map_congr_left fun s _=>by simp
theorem aZh {l m:List ByteArray} (h:l.map tx=m.map tx):l=m:=by
 have:=congrArg (List.map fun s:List UInt8=>(bs s)) h
 rw [List.map_map,List.map_map] at this
 have e:∀ n:List ByteArray,n.map ((fun s:List UInt8=>(bs s)) ∘ tx)=n:=fun n=>by
  conv=>rhs;rw [← List.map_id n]
  exact List.map_congr_left fun s _=>rfl
 rwa [e,e] at this
theorem aXP (l:List (List UInt8)):(B8 l).Pairwise (·≤·):=by
  have := List.pairwise_mergeSort (le := fun x y : List UInt8 => decide (x ≤ y)) (fun a b c h1 h2 => decide_eq_true (List.le_trans (of_decide_eq_true h1) (of_decide_eq_true h2))) (fun a b => by
    rcases List.le_total a b with h | h<;>simp [h]) l
  exact this.imp fun h=>of_decide_eq_true h
theorem bEY (l:List ByteArray):mB (l.take 0)=[]:=List.eq_nil_of_length_eq_zero (by rw [Be];rfl)
theorem aUq {l A B:List ByteArray} {i:Nat} {a:ByteArray} (hAB:A++B=mB (l.take i)) (ha:l[i]? = some a) (h1:A=[]∨∃ A' c,A=A'++[c]∧¬ tx a<tx c) (h2:∀ b,b∈B→tx a≤tx b):A++a::B=mB (l.take (i+1)):=by
 apply aZh
 rw [aVe]
 have e:A.map tx++B.map tx=B8 (txt (l.take i)):=by rw [← List.map_append,hAB,aVe]
 refine List.Perm.eq_of_pairwise (le:=fun a b=>a≤b) (fun a b _ _=>List.le_antisymm) ?_ (aXP _) ?_
 ·rw [List.map_append,List.map_cons]
  refine bGK (le:=fun a b=>a≤b) (fun a b c=>List.le_trans) (by rw [e];exact aXP _) ?_ fun b hb=>by
   obtain ⟨b',hb',rfl⟩:=List.mem_map.1 hb
   exact h2 b' hb'
  rcases h1 with rfl | ⟨A',c,rfl,hc⟩
  ·exact .inl rfl
  exact .inr ⟨A'.map tx,tx c,by simp,List.not_lt.1 hc⟩
 rw [List.map_append,List.map_cons]
 refine List.perm_middle.trans ?_
 rw [e,List.take_add_one,ha]
 have h3:txt (l.take i++(some a).toList)=txt (l.take i)++[tx a]:=by simp [txt]
 rw [h3]
 exact (((List.mergeSort_perm _ _).cons _).trans (List.perm_append_singleton _ _).symm).trans (List.mergeSort_perm _ _).symm
theorem bJK {B:List ByteArray} {a c:ByteArray} (h:tx a<tx c) (hB:∀ b,b∈B→tx a≤tx b):∀ b,b∈c::B→tx a≤tx b:=fun b hb=>by
 rcases List.mem_cons.1 hb with rfl | hb
 ·exact List.le_of_lt h
 exact hB b hb
theorem bSq {z:dA} {R:List ByteArray}:CL 1 RS z (R.flatMap fB) R:=by
 have h:CL 1 (RE Value.string) z (cE Value.string R) R:=Oe
 have e:cE Value.string R=R.flatMap fB:=by
  rw [cE,List.map_eq_flatMap]
 rwa [e] at h
theorem aZ9 {call:eE} {B:pK} {fs:Sf} {l:List I} {Q:Sf→Prop} {α:Type} {f:α→List C} {R:List α} {t:α} {u:AV} {ty s n:Nat} {p q:List HA} (e:fs.H=p++.row u ty s n (R.flatMap f++f t)::q) (hw:FL call B l (fs.heap (p++.row u ty s n ((R++t::[]).flatMap f)::q)) Q):FL call B l fs Q:=by
 have e1:(R++t::[]).flatMap f=R.flatMap f++f t:=by simp
 rw [e1] at hw
 have e2:fs.heap (p++.row u ty s n (R.flatMap f++f t)::q)=fs:=by cases fs;simp only [Sf.heap] at e ⊢;rw [e]
 rw [e2] at hw
 exact hw
open Go.CE Go.RowKit Go.Num
open Go.Eng (kN)
theorem Tq {k:Nat} (hk:1≤k) {z:dA} {x:oK} {c0 c1 c2 c3 c4 c5 c6 c7 c8 c9 c10 c11:C} (g0:CZ 8 tI z c0 x.brackets) (g1:CZ 1 RW z c1 x.threshold.nm) (g2:CZ 1 RW z c2 x.threshold.dm) (g3:CZ 1 RW z c3 x.cap.nm) (g4:CZ 1 RW z c4 x.cap.dm) (g5:CZ 1 RW z c5 x.interest.nm) (g6:CZ 1 RW z c6 x.interest.dm) (g7:CZ 1 RW z c7 x.floor.nm) (g8:CZ 1 RW z c8 x.floor.dm) (g9:CZ 6 vR z c9 x.classes) (g10:CZ 1 RS z c10 x.entities) (g11:CZ 6 Gk z c11 x.years) (hb:x.entities.length≤1000):FC (E k) 97 [.agg (kF x c0 c1 c2 c3 c4 c5 c6 c7 c8 c9 c10 c11)] z fun u z'=>∃ c,u=.c c∧CZ 1 RS z' c (mB x.entities):=by
 have hlb:x.entities.length≤1000:=hb
 refine eA (bHE) (by omega) (aU O) fun B j hj=>?_
 refine xR ?_
 refine iU O fun b1=>?_
 refine R2 8 O ?_
 refine oW 9 1 ?_
 refine lN ?_
 refine R5 8 O ?_
 refine aT (aQ ?_)
 refine dX (fun n fs=>∃ (i:Nat) (R:List ByteArray) (u3:AV),LI z [.row u3 9 1 i (R.flatMap fB),.blk b1 (.cells 106 (kF x c0 c1 c2 c3 c4 c5 c6 c7 c8 c9 c10 c11))] [(1,Ap b1),(3,u3),(4,Az i)] fs∧n=x.entities.length - i∧(i≤x.entities.length)∧(R=mB (x.entities.take i))∧(R.length=i)) ?_ _ ⟨0,[],rC,LI.m [] O,rfl,Nat.zero_le _,(bEY _).symm,rfl⟩ (kK (by omega))
 intro n fs ⟨i,R,u3,hL0,hmz0,hi,hR,hRl⟩
 refine hL0.open fun e zl0 _=>?_
 refine R4 16 O ?_
 refine dK O Y1 O ?_
 refine aS O g10 ?_
 refine R3 4 O ?_
 refine xD O (fun hc10=>?_) (fun hc10=>?_)
 ·refine cP ?_
  refine aT (aQ ?_)
  refine R4 10 O ?_
  refine dK O Y1 O ?_
  refine lC O ?_
  obtain ⟨a,ha⟩:=pE (l:=x.entities) (i:=i) (by omega)
  refine dE (zz:=zl0) O O g10.m i O a ha fun b17 p17 cs at17 hcs=>?_
  have hcs:cs=_:=hcs
  subst hcs
  refine Zm O at17 ?_
  refine cX (cs:=[Cs a]) O fun b19=>?_
  refine mV (n:=i) (m:=1) (cs:=R.flatMap fB) O O mem0 O (fun _=>mR iW) (by omega) (by omega) fun c20 hc20=>?_
  refine R2 4 O ?_
  refine aZ9 (p:=[_]) (t:=a) O ?_
  refine aGu (p:=[_]) O (by omega) fun bR hbR=>?_
  injection hbR with hbR
  subst hbR
  refine R0 4 O ?_
  refine aQ ?_
  refine dX (fun n fs=>∃ (A:List ByteArray) (B:List ByteArray) (ka:Nat),LI zl0 [.blk bR (.cells 9 ((A++a::B).flatMap fB)),.blk b1 (.cells 106 (kF x c0 c1 c2 c3 c4 c5 c6 c7 c8 c9 c10 c11))] [(1,Ap b1),(3,Aw bR (i+1)),(4,Az i),(5,Az ka)] fs∧n=ka∧(A++B=R)∧(ka=A.length)∧(∀ b,b∈B→tx a≤tx b)) ?_ _ ⟨R,[],i,LI.m [_] O,rfl,List.append_nil _,hRl.symm,fun b hb=>absurd hb List.not_mem_nil⟩ (kK (by omega))
  intro n fs ⟨A,B,ka,hL1,hmz1,hAB,hka,hB⟩
  refine hL1.open fun e zl1 _=>?_
  refine Xb ?_
  refine iN ?_
  have hkl:A.length+B.length=i:=by
   have h:=congrArg List.length hAB
   rw [List.length_append] at h
   omega
  have hLl:(A++a::B).length=i+1:=by
   rw [List.length_append,List.length_cons];omega
  refine G1 8 O ?_
  refine yP 24 O (fun hg24=>?_) (fun hg24=>?_)
  ·obtain ⟨A1,a1,hA1,hl1⟩:=bA3 (A:=A) (by omega)
   have hL1:A++a::B=A1++a1::(a::B):=by rw [hA1,List.append_assoc];rfl
   refine G1 4 O ?_
   refine gP O O O ?_
   refine lB O O (vO (n:=ka - 1) (by omega) (by omega)) (lN ?_)
   refine gP O O O ?_
   refine oO O O (ka - 1) (O) (by omega) (lN ?_)
   refine aBO Z6 A1 a1 (a::B) hL1 0 (i:=⟨_,_,.load _ _ _⟩) O O O O (.inr mem0) (by omega) (by decide) O sR ?_
   refine G1 4 O ?_
   refine gP O O O ?_
   refine oO O O (ka) (O) (by omega) (lN ?_)
   refine aBO Z6 A a (B) O 0 (i:=⟨_,_,.load _ _ _⟩) O O O O (.inr mem0) (by omega) (by decide) O sR ?_
   refine gP O O O ?_
   refine lB O O (bH9 _ _) (lN ?_)
   refine G0 2 O ?_
   refine Ew ?_
   refine xD O (fun hc35=>?_) (fun hc35=>?_)
   ·refine cP ?_
    refine aT (aQ ?_)
    refine wC ?_
    refine G1 4 O ?_
    refine gP O O F ?_
    refine lB O O (vO (n:=ka - 1) (by omega) (by omega)) (lN ?_)
    refine G1 16 O ?_
    refine gP O O F ?_
    refine oO O O (ka) (O) (by omega) (lN ?_)
    refine aBO Z6 A a (B) O 0 (i:=⟨_,_,.load _ _ _⟩) O O F O (.inr mem0) (by omega) (by decide) O sR ?_
    refine G1 4 O ?_
    refine gP O O F ?_
    refine lB O O (vO (n:=ka - 1) (by omega) (by omega)) (lN ?_)
    refine gP O O F ?_
    refine oO O O (ka - 1) (O) (by omega) (lN ?_)
    refine aBO Z6 A1 a1 (a::B) hL1 0 (i:=⟨_,_,.load _ _ _⟩) O O F O (.inr mem0) (by omega) (by decide) O sR ?_
    refine gP O O F ?_
    refine oO O O (ka - 1) (O) (by omega) (lN ?_)
    refine gS O O O ?_
    refine aGQ O O O iW O (bBa Z6 (k:=ka - 1) (n:=i+1) (by omega) (by omega) hLl) ?_
    refine lN ?_
    refine gP O O F ?_
    refine oO O O (ka) (O) (by omega) (lN ?_)
    refine gS O O O ?_
    refine vB (cs':=(A1++a::a1::B).flatMap fB) O O O iW (aX9 Z6 A1 a1 a B hL1 O O (by omega) (by omega)) O (bF9 Z6 O (k1:=ka - 1) (k2:=ka) (n:=i+1) (by omega) (by omega) (by omega) (by omega) hLl) ?_
    refine lN ?_
    refine mL ?_
    refine eT ?_
    refine xG ?_
    refine lC O ?_
    refine lB O O (vO (n:=ka - 1) (by omega) (by omega)) ?_
    refine R0 2 O ?_
    exact mK (by omega) ⟨A1,a1::B,ka - 1,LI.m [] O,rfl,by rw [← hAB,hA1,List.append_assoc];rfl,by omega,bJK hc35 hB⟩
   refine dH ?_
   refine nF ?_
   refine eT ?_
   refine xG ?_
   refine Dq (p:=[]) (n:=i+1) (size:=1) O (by rw [aAl Z6,hLl]) ?_
   refine lC O ?_
   refine lB O O (gI (n:=i+1) (by omega) (by omega)) ?_
   refine R0 2 O ?_
   exact mK (by omega) ⟨i+1,A++a::B,_,LI.m [] O,rfl,by omega,aUq (hAB.trans hR) ha (.inr ⟨A1,a1,hA1,hc35⟩) hB,hLl⟩
  refine G0 2048 O ?_
  refine R5 4 O ?_
  refine dH ?_
  refine nF ?_
  refine eT ?_
  refine xG ?_
  refine Dq (p:=[]) (n:=i+1) (size:=1) O (by rw [aAl Z6,hLl]) ?_
  refine lC O ?_
  refine lB O O (gI (n:=i+1) (by omega) (by omega)) ?_
  refine R0 2 O ?_
  exact mK (by omega) ⟨i+1,A++a::B,_,LI.m [] O,rfl,by omega,aUq (hAB.trans hR) ha (.inl (List.eq_nil_of_length_eq_zero (by omega))) hB,hLl⟩
 refine dH ?_
 refine nF ?_
 refine eT ?_
 refine R5 14 O ?_
 refine Bd (p:=[]) O (bSq (R:=R)) hRl (by omega) fun zr _ hsr=>?_
 refine xT ?_
 refine rI O ?_
 rw [hR,List.take_of_length_le (by omega)] at hsr
 obtain ⟨c,hc,_⟩:=SZ.one hsr
 subst hc
 exact ⟨c,rfl,hsr⟩
theorem F4 {k:Nat} (hk:1≤k) {z:dA} {v:AV} {l:List ByteArray} {s:ByteArray} (hx:SZ 1 RS z v l):FC (E k) 98 [v,.c (Cs s)] z fun u _=>u=B0 (uT l s):=by
 have hxl:=hx.le
 refine eA (bFB) (by omega) (aU O) fun B j hj=>?_
 refine R5 32 O ?_
 refine aT (aQ ?_)
 refine dX (fun n fs=>∃ (i:Nat),LI z [] [(0,v),(1,.c (Cs s)),(5,Az i)] fs∧n=l.length - i∧(i≤l.length)∧(∀ q,q<i→∀ b,l[q]? = some b→decide (b=s)=false)) ?_ _ ⟨0,LI.m [] O,rfl,Nat.zero_le _,fun q hq=>absurd hq (Nat.not_lt_zero _)⟩ (kK (by omega))
 intro n fs ⟨i,hL0,hmz0,hi,hp⟩
 refine hL0.open fun e zl0 _=>?_
 refine R4 24 O ?_
 refine aS O hx ?_
 refine R3 4 O ?_
 refine xD O (fun hc9=>?_) (fun hc9=>?_)
 ·refine cP ?_
  refine aT (aQ ?_)
  refine R4 10 O ?_
  refine Hh (zz:=zl0) (e:=Value.string) O O hx.m i O (by omega) fun p14 hp14=>?_
  refine uO O hp14 ?_
  refine lC O ?_
  refine lB O O (aAI _ _) ?_
  refine lN ?_
  refine xD O (fun hc17=>?_) (fun hc17=>?_)
  ·refine R5 8 O ?_
   refine xT ?_
   refine nS ?_
   refine L9 ?_
   refine nS ?_
   exact rI O (congrArg B0 (aW3 (l:=l) (i:=i) (List.getElem?_eq_getElem (by omega)) (decide_eq_true hc17) hp).symm)
  refine oC ?_
  refine eT ?_
  refine xG ?_
  refine lC O ?_
  refine lB O O (gI (n:=i+1) (by omega) (by omega)) ?_
  refine R0 2 O ?_
  exact mK (by omega) ⟨i+1,LI.m [] O,rfl,by omega,aWd hp (List.getElem?_eq_getElem (by omega)) (decide_eq_false hc17)⟩
 refine dH ?_
 refine nF ?_
 refine eT ?_
 refine R5 4 O ?_
 refine xT ?_
 exact rI O (congrArg B0 (aWT (l:=l) (i:=i) (by omega) hp).symm)
theorem Jt {k:Nat} (hk:1≤k) {z:dA} {v:AV} {l:List nN} {s:ByteArray} (hx:SZ 6 vR z v l):FC (E k) 99 [v,.c (Cs s)] z fun u _=>u=B0 (wN l s):=by
 have hxl:=hx.le
 refine eA (bHR) (by omega) (aU O) fun B j hj=>?_
 refine R5 32 O ?_
 refine aT (aQ ?_)
 refine dX (fun n fs=>∃ (i:Nat),LI z [] [(0,v),(1,.c (Cs s)),(5,Az i)] fs∧n=l.length - i∧(i≤l.length)∧(∀ q,q<i→∀ b,l[q]? = some b→decide (b.name=s)=false)) ?_ _ ⟨0,LI.m [] O,rfl,Nat.zero_le _,fun q hq=>absurd hq (Nat.not_lt_zero _)⟩ (kK (by omega))
 intro n fs ⟨i,hL0,hmz0,hi,hp⟩
 refine hL0.open fun e zl0 _=>?_
 refine R4 24 O ?_
 refine aS O hx ?_
 refine R3 4 O ?_
 refine xD O (fun hc9=>?_) (fun hc9=>?_)
 ·refine cP ?_
  refine aT (aQ ?_)
  refine R4 10 O ?_
  refine dE (zz:=zl0) O O hx.m i O _ (List.getElem?_eq_getElem (by omega)) fun b14 p14 cs at14 hR=>?_
  obtain ⟨c0,c1,hcs,q0,q1⟩:=hR
  subst hcs
  refine lF O ?_
  refine nQ (off:=0) O at14 O (by simp) O ?_
  refine lC O ?_
  refine lB O O (aAI _ _) ?_
  refine lN ?_
  refine xD O (fun hc18=>?_) (fun hc18=>?_)
  ·refine R5 8 O ?_
   refine xT ?_
   refine nS ?_
   refine L9 ?_
   refine nS ?_
   exact rI O (congrArg B0 (aW3 (l:=l) (i:=i) (List.getElem?_eq_getElem (by omega)) (decide_eq_true hc18) hp).symm)
  refine oC ?_
  refine eT ?_
  refine xG ?_
  refine lC O ?_
  refine lB O O (gI (n:=i+1) (by omega) (by omega)) ?_
  refine R0 2 O ?_
  exact mK (by omega) ⟨i+1,LI.m [] O,rfl,by omega,aWd hp (List.getElem?_eq_getElem (by omega)) (decide_eq_false hc18)⟩
 refine dH ?_
 refine nF ?_
 refine eT ?_
 refine R5 4 O ?_
 refine xT ?_
 exact rI O (congrArg B0 (aWT (l:=l) (i:=i) (by omega) hp).symm)
theorem aXg {k:Nat} (hk:1≤k) {z:dA} {k0 c:Int} {g:Bool}:FC (E k) 183 [.c (Cu k0),Ab g,.c (Cu c)] z fun u _=>u=Ab (decide (c∈uQ k0 g)):=by
 refine eA (bB1) (by omega) (aU O) fun B j hj=>?_
 refine R5 4 O ?_
 refine aT (aQ ?_)
 refine R4 16 O ?_
 refine fR 10 O (fun hg10=>?_) (fun hg10=>?_)
 ·refine R2 264 O ?_
  refine nC 15 O (fun hg15=>?_) (fun hg15=>?_)
  ·refine R1 24 O ?_
   refine fR 19 O (fun hg19=>?_) (fun hg19=>?_)
   ·refine R0 25165824 O ?_
    refine xT ?_
    refine nS ?_
    exact rI O (cQ (by simp_all [uQ]))
   refine R1 8 O ?_
   refine nC 22 O (fun hg22=>?_) (fun hg22=>?_)
   ·refine R1 8 O ?_
    refine fR 25 O (fun hg25=>?_) (fun hg25=>?_)
    ·refine R0 395400 O ?_
     refine xT ?_
     refine nS ?_
     exact rI O (cQ (by simp_all [uQ]))
    refine R1 24 O ?_
    refine fR 29 O (fun hg29=>?_) (fun hg29=>?_)
    ·refine R0 24712 O ?_
     refine xT ?_
     refine nS ?_
     exact rI O (cQ (by simp_all [uQ]))
    refine R1 24 O ?_
    refine fR 33 O (fun hg33=>?_) (fun hg33=>?_)
    ·refine R0 1544 O ?_
     refine xT ?_
     refine nS ?_
     exact rI O (cQ (by simp_all [uQ]))
    refine R1 24 O ?_
    refine fR 37 O (fun hg37=>?_) (fun hg37=>?_)
    ·refine R0 96 O ?_
     refine xT ?_
     refine nS ?_
     exact rI O (cQ (by simp_all [uQ]))
    refine R0 96 O ?_
    refine xT ?_
    refine nS ?_
    exact rI O (cQ (by simp_all [uQ]))
   refine R0 3145728 O ?_
   refine xT ?_
   refine nS ?_
   exact rI O (cQ (by simp_all [uQ]))
  refine R1 136 O ?_
  refine nC 22 O (fun hg22=>?_) (fun hg22=>?_)
  ·refine R1 8 O ?_
   refine fR 25 O (fun hg25=>?_) (fun hg25=>?_)
   ·refine R0 395400 O ?_
    refine xT ?_
    refine nS ?_
    exact rI O (cQ (by simp_all [uQ]))
   refine R1 24 O ?_
   refine fR 29 O (fun hg29=>?_) (fun hg29=>?_)
   ·refine R0 24712 O ?_
    refine xT ?_
    refine nS ?_
    exact rI O (cQ (by simp_all [uQ]))
   refine R1 24 O ?_
   refine fR 33 O (fun hg33=>?_) (fun hg33=>?_)
   ·refine R0 1544 O ?_
    refine xT ?_
    refine nS ?_
    exact rI O (cQ (by simp_all [uQ]))
   refine R1 24 O ?_
   refine fR 37 O (fun hg37=>?_) (fun hg37=>?_)
   ·refine R0 96 O ?_
    refine xT ?_
    refine nS ?_
    exact rI O (cQ (by simp_all [uQ]))
   refine R0 96 O ?_
   refine xT ?_
   refine nS ?_
   exact rI O (cQ (by simp_all [uQ]))
  refine R0 3145728 O ?_
  refine xT ?_
  refine nS ?_
  exact rI O (cQ (by simp_all [uQ]))
 refine R0 24 O ?_
 refine xD O (fun hc7=>?_) (fun hc7=>?_)
 ·refine R4 8 O ?_
  refine nC 15 O (fun hg15=>?_) (fun hg15=>?_)
  ·refine R1 24 O ?_
   refine fR 19 O (fun hg19=>?_) (fun hg19=>?_)
   ·refine R0 25165824 O ?_
    refine xT ?_
    refine nS ?_
    exact rI O (cQ (by simp_all [uQ]))
   refine R1 8 O ?_
   refine nC 22 O (fun hg22=>?_) (fun hg22=>?_)
   ·refine R1 8 O ?_
    refine fR 25 O (fun hg25=>?_) (fun hg25=>?_)
    ·refine R0 395400 O ?_
     refine xT ?_
     refine nS ?_
     exact rI O (cQ (by simp_all [uQ]))
    refine R1 24 O ?_
    refine fR 29 O (fun hg29=>?_) (fun hg29=>?_)
    ·refine R0 24712 O ?_
     refine xT ?_
     refine nS ?_
     exact rI O (cQ (by simp_all [uQ]))
    refine R1 24 O ?_
    refine fR 33 O (fun hg33=>?_) (fun hg33=>?_)
    ·refine R0 1544 O ?_
     refine xT ?_
     refine nS ?_
     exact rI O (cQ (by simp_all [uQ]))
    refine R1 24 O ?_
    refine fR 37 O (fun hg37=>?_) (fun hg37=>?_)
    ·refine R0 96 O ?_
     refine xT ?_
     refine nS ?_
     exact rI O (cQ (by simp_all [uQ]))
    refine R0 96 O ?_
    refine xT ?_
    refine nS ?_
    exact rI O (cQ (by simp_all [uQ]))
   refine R0 3145728 O ?_
   refine xT ?_
   refine nS ?_
   exact rI O (cQ (by simp_all [uQ]))
  refine R1 136 O ?_
  refine nC 22 O (fun hg22=>?_) (fun hg22=>?_)
  ·refine R1 8 O ?_
   refine fR 25 O (fun hg25=>?_) (fun hg25=>?_)
   ·refine R0 395400 O ?_
    refine xT ?_
    refine nS ?_
    exact rI O (cQ (by simp_all [uQ]))
   refine R1 24 O ?_
   refine fR 29 O (fun hg29=>?_) (fun hg29=>?_)
   ·refine R0 24712 O ?_
    refine xT ?_
    refine nS ?_
    exact rI O (cQ (by simp_all [uQ]))
   refine R1 24 O ?_
   refine fR 33 O (fun hg33=>?_) (fun hg33=>?_)
   ·refine R0 1544 O ?_
    refine xT ?_
    refine nS ?_
    exact rI O (cQ (by simp_all [uQ]))
   refine R1 24 O ?_
   refine fR 37 O (fun hg37=>?_) (fun hg37=>?_)
   ·refine R0 96 O ?_
    refine xT ?_
    refine nS ?_
    exact rI O (cQ (by simp_all [uQ]))
   refine R0 96 O ?_
   refine xT ?_
   refine nS ?_
   exact rI O (cQ (by simp_all [uQ]))
  refine R0 3145728 O ?_
  refine xT ?_
  refine nS ?_
  exact rI O (cQ (by simp_all [uQ]))
 refine R5 16 O ?_
 refine xD O (fun hc43=>?_) (fun hc43=>?_)
 ·refine R4 8 O ?_
  refine nC 47 O (fun hg47=>?_) (fun hg47=>?_)
  ·refine R1 24 O ?_
   refine fR 51 O (fun hg51=>?_) (fun hg51=>?_)
   ·refine R0 384 O ?_
    refine xT ?_
    refine nS ?_
    exact rI O (cQ (by simp_all [uQ]))
   refine R1 8 O ?_
   refine nC 54 O (fun hg54=>?_) (fun hg54=>?_)
   ·refine R0 48 O ?_
    refine xT ?_
    refine nS ?_
    exact rI O (cQ (by simp_all [uQ]))
   refine R0 48 O ?_
   refine xT ?_
   refine nS ?_
   exact rI O (cQ (by simp_all [uQ]))
  refine R1 136 O ?_
  refine nC 54 O (fun hg54=>?_) (fun hg54=>?_)
  ·refine R0 48 O ?_
   refine xT ?_
   refine nS ?_
   exact rI O (cQ (by simp_all [uQ]))
  refine R0 48 O ?_
  refine xT ?_
  refine nS ?_
  exact rI O (cQ (by simp_all [uQ]))
 refine R5 16 O ?_
 refine xD O (fun hc59=>?_) (fun hc59=>?_)
 ·refine R4 8 O ?_
  refine nC 63 O (fun hg63=>?_) (fun hg63=>?_)
  ·refine R1 24 O ?_
   refine fR 67 O (fun hg67=>?_) (fun hg67=>?_)
   ·refine R0 384 O ?_
    refine xT ?_
    refine nS ?_
    exact rI O (cQ (by simp_all [uQ]))
   refine R1 8 O ?_
   refine nC 70 O (fun hg70=>?_) (fun hg70=>?_)
   ·refine R0 48 O ?_
    refine xT ?_
    refine nS ?_
    exact rI O (cQ (by simp_all [uQ]))
   refine R0 48 O ?_
   refine xT ?_
   refine nS ?_
   exact rI O (cQ (by simp_all [uQ]))
  refine R1 136 O ?_
  refine nC 70 O (fun hg70=>?_) (fun hg70=>?_)
  ·refine R0 48 O ?_
   refine xT ?_
   refine nS ?_
   exact rI O (cQ (by simp_all [uQ]))
  refine R0 48 O ?_
  refine xT ?_
  refine nS ?_
  exact rI O (cQ (by simp_all [uQ]))
 refine oC ?_
 refine eT ?_
 refine R5 4 O ?_
 refine xT ?_
 exact rI O (cQ (by simp_all [uQ]))
open Go.CE Go.RowKit Go.Num
open Go.Eng (kN)
def aMd (r:List Rat) (i:Nat) (e c:Int) (q:Rat):List Rat:=r.mapIdx fun m y=>if (i:Int)=e∧(m:Int)=c then y+q else y
theorem aT9 {r:List Rat} {i:Nat} {e c:Int} {q:Rat}:(aMd r i e c q).length=r.length:=by simp [aMd]
theorem aLp {T:List (List Rat)} {e c:Int} {q:Rat}:(Aa T e c q).length=T.length:=by simp [Aa]
theorem bED {t:List (List qZ)} {i:Nat} {r:List qZ} {e c:Int} {q:Rat} (h:t[i]? = some r):(Aa (t.map (·.map rv)) e c q)[i]? = some (aMd (r.map rv) i e c q):=by
 rw [Aa,List.getElem?_mapIdx,List.getElem?_map,h]
 rfl
theorem bJv {r:List qZ} {i jj:Nat} {y:qZ} {e c:Int} {q:Rat} (h:r[jj]? = some y) (h1:(i:Int)=e) (h2:(jj:Int)=c):(aMd (r.map rv) i e c q)[jj]? = some (rv y+q):=by
 rw [aMd,List.getElem?_mapIdx,List.getElem?_map,h]
 simp only [Option.map_some,if_pos (And.intro h1 h2)]
theorem bAL {r:List qZ} {i jj:Nat} {y:qZ} {e c:Int} {q:Rat} (h:r[jj]? = some y) (h1:¬ ((i:Int)=e∧(jj:Int)=c)):(aMd (r.map rv) i e c q)[jj]? = some (rv y):=by
 rw [aMd,List.getElem?_mapIdx,List.getElem?_map,h]
 simp only [Option.map_some,if_neg h1]
def aFm (nl:List ByteArray) (cl:List nN) (l:List Nv):List (List Rat):=l.foldl (fun T b=>Aa T (uT nl b.entity) (wN cl b.cls) (rv b.amount)) (List.replicate nl.length (List.replicate cl.length 0))
def okB (nl:List ByteArray) (cl:List nN) (b:Nv):Prop:=0≤uT nl b.entity∧0≤wN cl b.cls
def aXt (x:oK) (yr:Int):Prop:=(0≤yr∧yr<(x.years.length:Int))∧∀ yy,x.years[yr.toNat]? = some yy→∀ b,b∈yy.books→okB (mB x.entities) x.classes b
def bIb (x:oK) (yr:Int) (z:dA) (u:AV):Prop:=(u=.tup [.agg [Cz],B0 2]∧¬ aXt x yr)∨∃ yy cu,x.years[yr.toNat]? = some yy∧aXt x yr∧u=.tup [.agg [cu],B0 0]∧CZ 1 (RC 4 RV) z cu (aFm (mB x.entities) x.classes yy.books)
theorem aYX {nl:List ByteArray} {cl:List nN} {l:List Nv} {i:Nat} {b:Nv} (h:l[i]? = some b):aFm nl cl (l.take (i+1))=Aa (aFm nl cl (l.take i)) (uT nl b.entity) (wN cl b.cls) (rv b.amount):=by
 rw [aFm,D6 h,List.foldl_append]
 rfl
theorem aZ5 {x:oK} {yr:Int} {yy:aGA} {i:Nat} {b:Nv} (hy:x.years[yr.toNat]? = some yy) (hb:yy.books[i]? = some b) (h:¬ okB (mB x.entities) x.classes b):¬ aXt x yr:=fun g=>h (g.2 yy hy b (List.mem_of_getElem? hb))
theorem aYE {nl:List ByteArray} {cl:List nN} {m:Nat} {T:List (List Rat)}:∀ {l:List Nv},TBd m T→(∀ b,b∈l→Sm b.amount)→TBd (m+l.length * 8) (l.foldl (fun T b=>Aa T (uT nl b.entity) (wN cl b.cls) (rv b.amount)) T)
 | [],h,_=>h
 | b::l,h,hs=>by
  have h1:=hs b (List.mem_cons_self ..)
  have h2:=aXC (e:=uT nl b.entity) (c:=wN cl b.cls) (q:=rv b.amount) (k:=7) h (Nat.le_trans Ov (Nat.le_succ_of_le h1.1)) (Nat.le_trans Ox (Nat.succ_le_succ h1.2))
  have h3:=aYE (nl:=nl) (cl:=cl) (l:=l) h2 fun b hb=>hs b (List.mem_cons_of_mem _ hb)
  have e:m+7+1+l.length * 8=m+(b::l).length * 8:=by rw [List.length_cons];omega
  rw [e] at h3
  exact h3
theorem aXa {nl:List ByteArray} {cl:List nN} {l:List Nv} (h1:nl.length≤1000) (h2:cl.length≤1000) (hs:∀ b,b∈l→Sm b.amount) (hl:l.length≤40):TBd 321 (aFm nl cl l):=by
 have h0:TBd 1 (List.replicate nl.length (List.replicate cl.length (0:Rat))):=by
  refine ⟨by rw [List.length_replicate];exact h1,fun r hr=>?_⟩
  rw [(List.mem_replicate.1 hr).2]
  refine ⟨by rw [List.length_replicate];exact h2,fun q hq=>?_⟩
  rw [(List.mem_replicate.1 hq).2]
  exact ⟨by rw [show toL (0:Rat).num.natAbs=[] from sY];decide,pG.2 (by decide)⟩
 have h3:=aYE (nl:=nl) (cl:=cl) h0 hs
 exact ⟨h3.1,fun r hr=>⟨(h3.2 r hr).1,fun q hq=>⟨Nat.le_trans ((h3.2 r hr).2 q hq).1 (by omega),Nat.le_trans ((h3.2 r hr).2 q hq).2 (by omega)⟩⟩⟩
theorem aXB {m:Nat} {T:List (List Rat)} (h:TBd m T):(T.map (·.map J4)).length≤1000∧∀ r,r∈T.map (·.map J4)→r.length≤1000∧∀ x,x∈r→x.nm.length≤m∧x.dm.length≤m:=by
 refine ⟨by rw [List.length_map];exact h.1,fun r hr=>?_⟩
 obtain ⟨s,hs,rfl⟩:=List.mem_map.1 hr
 have h1:=h.2 s hs
 refine ⟨by rw [List.length_map];exact h1.1,fun x hx=>?_⟩
 obtain ⟨q,hq,rfl⟩:=List.mem_map.1 hx
 exact h1.2 q hq
theorem bSW {m k:Nat} {t:List (List qZ)} (h:t.length≤1000∧∀ r,r∈t→r.length≤1000∧∀ x,x∈r→x.nm.length≤m∧x.dm.length≤m) (hk:m≤k):t.length≤1000∧∀ r,r∈t→r.length≤1000∧∀ x,x∈r→x.nm.length≤k∧x.dm.length≤k:=⟨h.1,fun r hr=>⟨(h.2 r hr).1,fun x hx=>⟨Nat.le_trans ((h.2 r hr).2 x hx).1 hk,Nat.le_trans ((h.2 r hr).2 x hx).2 hk⟩⟩⟩
theorem aFr {k:Nat} (hk:10≤k) {z:dA} {ct:C} {t:List (List qZ)} {ex c0:Int} (hx:CZ 1 (RC 4 S5) z ct t) (hT:t.length≤1000) (hR:∀ r,r∈t→r.length≤1000∧∀ x,x∈r→x.nm.length≤1000∧x.dm.length≤1000) {n1 n2:Bool} {c1 c2:C} {l1 l2:List UInt32} (hu:CZ 1 RW z c1 l1) (hw:CZ 1 RW z c2 l2) (h1:l1.length≤1000) (h2:l2.length≤1000):FC (E k) 208 [.agg [ct],Ai ex,Ai c0,.agg [Cb n1,c1,Cb n2,c2]] z fun u z'=>∃ cu,u=.agg [cu]∧CZ 1 (RC 4 RV) z' cu (Aa (t.map (·.map rv)) ex c0 (rv ⟨n1,l1,n2,l2⟩)):=by
 refine eA (bEm) (by omega) (aU O) fun B j hj=>?_
 refine xR ?_
 refine iU O fun b4=>?_
 refine iU O fun b7=>?_
 refine kC fun b8=>?_
 refine lN ?_
 refine xR ?_
 refine kC fun b9=>?_
 refine oW 152 1 ?_
 refine lN ?_
 refine R5 8 O ?_
 refine aT (aQ ?_)
 refine dX (fun n fs=>∃ (i:Nat) (cu:C) (cso:List C) (zz:dA),LZ z zz [.row (.c cu) 152 1 i cso,.blk b9 (.cells 40 [cu]),.blk b8 (.cells 40 [Cz]),.blk b7 (.cells 51 [Cb n1,c1,Cb n2,c2]),.blk b4 (.cells 40 [ct])] [(1,Ai ex),(2,Ai c0),(4,Ap b4),(7,Ap b7),(8,Ap b8),(9,Ap b9),(10,Az i)] fs∧n=t.length - i∧(i≤t.length)∧(CL 1 (RC 4 RV) zz cso ((Aa (t.map (·.map rv)) ex c0 (rv ⟨n1,l1,n2,l2⟩)).take i))) ?_ _ ⟨0,Cz,[],_,LZ.m [] O,rfl,Nat.zero_le _,CL.nil⟩ (kK (by omega))
 intro n fs ⟨i,cu,cso,zz,hL0,hmz0,hi,hcl⟩
 refine hL0.open fun e hzz=>?_
 refine R4 16 O ?_
 refine dK O Y4 O ?_
 refine aS O hx ?_
 refine R3 4 O ?_
 refine xD O (fun hc18=>?_) (fun hc18=>?_)
 ·refine cP ?_
  refine aT (aQ ?_)
  refine xR ?_
  obtain ⟨r,hr⟩:=pE (l:=t) (i:=i) (by omega)
  have hrl:=hR r (List.mem_of_getElem? hr)
  refine lC O ?_
  refine oW 51 4 ?_
  refine lN ?_
  refine R5 8 O ?_
  refine aT (aQ ?_)
  refine dX (fun n fs=>∃ (jj:Nat) (cw:C) (csw:List C) (zy:dA),LZ zz zy [.row (.c cw) 51 4 jj csw,.row (.c cu) 152 1 i cso,.blk b9 (.cells 40 [cu]),.blk b8 (.cells 40 [Cz]),.blk b7 (.cells 51 [Cb n1,c1,Cb n2,c2]),.blk b4 (.cells 40 [ct])] [(1,Ai ex),(2,Ai c0),(4,Ap b4),(7,Ap b7),(8,Ap b8),(9,Ap b9),(10,Az i),(11,.c cw),(12,Az jj)] fs∧n=r.length - jj∧(jj≤r.length)∧(CL 4 RV zy csw ((aMd (r.map rv) i ex c0 (rv ⟨n1,l1,n2,l2⟩)).take jj))) ?_ _ ⟨0,Cz,[],_,LZ.m [] O,rfl,Nat.zero_le _,CL.nil⟩ (kK (by omega))
  intro n fs ⟨jj,cw,csw,zy,hL1,hmz1,hj5,hcw⟩
  refine hL1.open fun e hzy=>?_
  refine R4 16 O ?_
  refine dK O (mC Y4) O ?_
  refine lC O ?_
  refine dE (zz:=zy) O O hx.m i O r hr fun b25 p25 cs at25 hR=>?_
  obtain ⟨c25,hcs,q25⟩:=hR
  subst hcs
  refine nQ (off:=0) O at25 O (by simp) O ?_
  refine aS O q25 ?_
  refine R3 4 O ?_
  refine xD O (fun hc28=>?_) (fun hc28=>?_)
  ·refine cP ?_
   refine aT (aQ ?_)
   refine xR ?_
   obtain ⟨y,hy⟩:=pE (l:=r) (i:=jj) (by omega)
   have hsm:=hrl.2 y (List.mem_of_getElem? hy)
   have hyl1:=Nat.le_trans (Ov (x:=((y.n,y.nm),(y.d,y.dm)))) hsm.1
   have hyl2:=Nat.le_trans (Ox (x:=((y.n,y.nm),(y.d,y.dm)))) (Nat.succ_le_succ hsm.2)
   refine lR O (mC Y4) O ?_
   refine R1 4 O ?_
   refine lZ zy (Ya (by omega) hx.m hr hy hsm.1 hsm.2) O O fun v34 z34 hz34 hv34=>?_
   have hv34:=yI hv34
   obtain ⟨c34,d34,hv,hm34,hn34⟩:=hv34
   subst hv
   refine uM fun b13=>?_
   refine pA O O iW ?_
   refine lN ?_
   refine R4 64 O ?_
   refine fR 38 O (fun hg38=>?_) (fun hg38=>?_)
   ·refine R3 32 O ?_
    refine xD O (fun hc42=>?_) (fun hc42=>?_)
    ·refine xR ?_
     refine sL O mem0 O ?_
     refine sL O (mC Y4) O ?_
     refine lZ z34 (aB8 (by omega) hm34 hn34 (Nat.le_trans hyl1 (by decide)) (Nat.le_trans hyl2 (by decide)) hu.m hw.m (by omega) (by omega)) O O fun v45 z45 _ hv45=>?_
     rw [aId] at hv45
     have hv45:=yI hv45
     obtain ⟨c45,d45,hv,hm45,hn45⟩:=hv45
     subst hv
     have hm45:=hm45.mono (qY (hzz.trans (hzy.trans hz34)))
     have hn45:=hn45.mono (qY (hzz.trans (hzy.trans hz34)))
     refine pA O O iW ?_
     refine lN ?_
     refine xG ?_
     refine lC O ?_
     refine sL O mem0 O ?_
     refine cX O fun b48=>?_
     refine mV (n:=jj) (m:=1) (cs:=csw) O O mem0 O (fun _=>mR P1) (by omega) (by omega) fun c49 hc49=>?_
     refine R0 2 O ?_
     refine eT ?_
     refine xG ?_
     refine lC O ?_
     refine lB O O (gI (n:=jj+1) (by omega) (by omega)) ?_
     refine R0 2 O ?_
     exact mK (by omega) ⟨jj+1,c49,_,_,LZ.m [_,_] O,rfl,by omega,by rw [D6 (bJv hy hg38 hc42)];exact (hcw.m).append (CL.one rfl ⟨_,_,rfl,(hm45.mono jF),(hn45.mono jF)⟩)⟩
    refine cP ?_
    refine xG ?_
    refine lC O ?_
    refine sL O mem0 O ?_
    refine cX O fun b48=>?_
    refine mV (n:=jj) (m:=1) (cs:=csw) O O mem0 O (fun _=>mR P1) (by omega) (by omega) fun c49 hc49=>?_
    refine R0 2 O ?_
    refine eT ?_
    refine xG ?_
    refine lC O ?_
    refine lB O O (gI (n:=jj+1) (by omega) (by omega)) ?_
    refine R0 2 O ?_
    exact mK (by omega) ⟨jj+1,c49,_,_,LZ.m [_,_] O,rfl,by omega,by rw [D6 (bAL hy fun h=>hc42 h.2)];exact (hcw.m).append (CL.one rfl ⟨_,_,rfl,hm34,hn34⟩)⟩
   refine R3 128 O ?_
   refine xG ?_
   refine lC O ?_
   refine sL O mem0 O ?_
   refine cX O fun b48=>?_
   refine mV (n:=jj) (m:=1) (cs:=csw) O O mem0 O (fun _=>mR P1) (by omega) (by omega) fun c49 hc49=>?_
   refine R0 2 O ?_
   refine eT ?_
   refine xG ?_
   refine lC O ?_
   refine lB O O (gI (n:=jj+1) (by omega) (by omega)) ?_
   refine R0 2 O ?_
   exact mK (by omega) ⟨jj+1,c49,_,_,LZ.m [_,_] O,rfl,by omega,by rw [D6 (bAL hy fun h=>hg38 h.1)];exact (hcw.m).append (CL.one rfl ⟨_,_,rfl,hm34,hn34⟩)⟩
  refine dH ?_
  refine nF ?_
  refine eT ?_
  refine xG ?_
  refine aO9 (p:=[]) O (hcw) (by rw [List.length_take,aT9,List.length_map];omega) (by omega) fun zw _ hsw=>?_
  rw [List.take_of_length_le (by rw [aT9,List.length_map];omega)] at hsw
  refine lF O ?_
  refine dK O Y1 O ?_
  refine lC O ?_
  refine cX O fun b53=>?_
  refine mV (n:=i) (m:=1) (cs:=cso) O O mem0 O (fun _=>mR iW) (by omega) (by omega) fun c54 hc54=>?_
  refine lF O ?_
  refine aFH O O P2 ?_
  refine lN ?_
  refine eT ?_
  refine xG ?_
  refine lC O ?_
  refine lB O O (gI (n:=i+1) (by omega) (by omega)) ?_
  refine R0 2 O ?_
  exact mK (by omega) ⟨i+1,c54,_,_,LZ.m [_] O,rfl,by omega,by rw [D6 (bED hr)];exact (hcl.m).append (CL.one rfl ⟨_,rfl,hsw⟩)⟩
 refine dH ?_
 refine nF ?_
 refine eT ?_
 refine xR ?_
 refine aO9 (p:=[]) O (hcl) (by rw [List.length_take,aLp,List.length_map];omega) (by omega) fun zr _ hsr=>?_
 refine lR O mem0 O ?_
 refine Ef O O P1 ?_
 refine lN ?_
 refine xT ?_
 refine rQ (.inl O) (C4 O Y1 O rn) ?_
 rw [List.take_of_length_le (by rw [aLp,List.length_map];omega)] at hsr
 exact ⟨_,rfl,hsr⟩
theorem aTc {k:Nat} (hk:11≤k) {z:dA} {x:oK} {c0 c1 c2 c3 c4 c5 c6 c7 c8 c9 c10 c11:C} (g0:CZ 8 tI z c0 x.brackets) (g1:CZ 1 RW z c1 x.threshold.nm) (g2:CZ 1 RW z c2 x.threshold.dm) (g3:CZ 1 RW z c3 x.cap.nm) (g4:CZ 1 RW z c4 x.cap.dm) (g5:CZ 1 RW z c5 x.interest.nm) (g6:CZ 1 RW z c6 x.interest.dm) (g7:CZ 1 RW z c7 x.floor.nm) (g8:CZ 1 RW z c8 x.floor.dm) (g9:CZ 6 vR z c9 x.classes) (g10:CZ 1 RS z c10 x.entities) (g11:CZ 6 Gk z c11 x.years) {yr:Int} (hS:SmF x) (hy1 : -9223372036854775808≤yr) (hy2:yr<9223372036854775808):FC (E k) 122 [.agg (kF x c0 c1 c2 c3 c4 c5 c6 c7 c8 c9 c10 c11),Ai yr] z fun u z'=>bIb x yr z' u:=by
 have hyl:=g11.le
 have he1000:x.entities.length≤1000:=by have:=hS.l2;omega
 have hc1000:x.classes.length≤1000:=by have:=hS.l1;omega
 refine eA (bEW) (by omega) (aU O) fun B j hj=>?_
 refine xR ?_
 refine iU O fun b2=>?_
 refine kC fun b4=>?_
 refine R2 64 O ?_
 refine fR 14 O (fun hg14=>?_) (fun hg14=>?_)
 ·refine R2 1024 O ?_
  refine mN (cs:=[_]) O ?_
  refine oI O O O O iW ?_
  refine R0 2 O ?_
  refine jX ?_
  refine rQ (.inl O) (C4 O mem0 O (rt O rn)) ?_
  exact .inl ⟨rfl,fun h=>by have:=h.1;omega⟩
 refine R1 4 O ?_
 refine lD O ?_
 refine dK O Y1 O ?_
 refine lD O ?_
 refine aS O g11 ?_
 refine R3 8 O ?_
 refine xD O (fun hc20=>?_) (fun hc20=>?_)
 ·refine R4 4 O ?_
  refine mN (cs:=[_]) O ?_
  refine oI O O O O iW ?_
  refine R0 2 O ?_
  refine jX ?_
  refine rQ (.inl O) (C4 O mem0 O (rt O rn)) ?_
  exact .inl ⟨rfl,fun h=>by have:=h.1;omega⟩
 refine R4 4 O ?_
 obtain ⟨yy,hyy⟩:=pE (l:=x.years) (i:=yr.toNat) (by omega)
 have hsy:=hS.y yy (List.mem_of_getElem? hyy)
 have hbl:=hsy.l1
 refine lR O Y1 O ?_
 refine lZ z (Tq (by omega) g0 g1 g2 g3 g4 g5 g6 g7 g8 g9 g10 g11 he1000) O O fun v23 z23 hz23 ⟨cN,hv23,hN⟩=>?_
 subst hv23
 refine R2 9 O ?_
 refine dK O Y1 O ?_
 refine lC O ?_
 refine dE (zz:=z23) O O g11.m yr.toNat (by omega) yy hyy fun b27 p27 cs at27 hR=>?_
 obtain ⟨y0,y1,y2,y3,y4,hcs,q0,q1,q2,q3,q4⟩:=hR
 subst hcs
 refine lF O ?_
 refine nQ (off:=2) O at27 O (by simp) O ?_
 refine R2 12 O ?_
 refine aS O hN ?_
 refine lF O ?_
 refine dK O Y1 O ?_
 refine aS O g9 ?_
 refine lZ z23 (aTs (by omega) (n0:=(mB x.entities).length) (m0:=x.classes.length) (by rw [Be];exact he1000) hc1000) O O fun v35 z35 _ ⟨cB,hv35,hkB⟩=>?_
 subst hv35
 have hkB:=hkB.mono (qY (hz23))
 refine kC fun b8=>?_
 refine oI O O O O iW ?_
 refine lN ?_
 refine R5 8 O ?_
 refine aT (aQ ?_)
 refine dX (fun n fs=>∃ (i:Nat) (cu:C) (zz:dA),LZ z35 zz [.blk b8 (.cells 40 [cu]),.blk b4 (.cells 40 [Cz]),.blk b2 (.cells 106 (kF x c0 c1 c2 c3 c4 c5 c6 c7 c8 c9 c10 c11))] [(2,Ap b2),(4,Ap b4),(6,.c cN),(7,.c y1),(8,Ap b8),(9,Az i)] fs∧n=yy.books.length - i∧(i≤yy.books.length)∧(CZ 1 (RC 4 RV) zz cu (aFm (mB x.entities) x.classes (yy.books.take i)))∧(∀ b,b∈yy.books.take i→okB (mB x.entities) x.classes b)) ?_ _ ⟨0,cB,_,LZ.m [] O,rfl,Nat.zero_le _,(hkB.mono jF),fun b hb=>by simp at hb⟩ (kK (by omega))
 intro n fs ⟨i,cu,zz,hL0,hmz0,hi,hcu,hok⟩
 refine hL0.open fun e _=>?_
 refine R4 16 O ?_
 refine aS O q1 ?_
 refine R3 4 O ?_
 refine xD O (fun hc39=>?_) (fun hc39=>?_)
 ·refine cP ?_
  refine aT (aQ ?_)
  refine iN ?_
  obtain ⟨b,hb⟩:=pE (l:=yy.books) (i:=i) (by omega)
  have hsb:=hsy.r1 b (List.mem_of_getElem? hb)
  refine G1 8 O ?_
  refine gP O O F ?_
  refine dE O O q1 i O b hb fun b45 p45 cs at45 hR=>lN ?_
  obtain ⟨rc,rd,hcs,hrc,hrd⟩:=hR
  subst hcs
  refine G1 2 O ?_
  refine oD (i:=⟨_,_,.load _ _ _⟩) (off:=0) O O F O at45 ti O (by simp) O sR ?_
  refine gE zz (F4 (by omega) hN.m) O O O O fun z48 _=>?_
  refine G1 2 O ?_
  refine zG O O (.inr Y2) O ?_
  refine G1 4 O ?_
  refine gP O O F ?_
  refine dE O O q1 i O b hb fun b53 p53 cs at53 hR=>lN ?_
  obtain ⟨sc,sd,hcs,hsc,hsd⟩:=hR
  subst hcs
  refine G1 2 O ?_
  refine oD (i:=⟨_,_,.load _ _ _⟩) (off:=1) O O F O at53 ti O (by simp) O sR ?_
  refine gE z48 (Jt (by omega) g9.m) O O O O fun z56 _=>?_
  refine G0 7 O ?_
  refine R4 36 O ?_
  refine fR 59 O (fun hg59=>?_) (fun hg59=>?_)
  ·refine R2 128 O ?_
   refine mN (cs:=[_]) O ?_
   refine oI O O O O P1 ?_
   refine R0 2 O ?_
   refine jX ?_
   refine nS ?_
   refine L9 ?_
   refine nS ?_
   refine rQ (.inl O) (C4 O Y1 O (rt O rn)) ?_
   exact .inl ⟨rfl,aZ5 hyy hb fun h=>by have:=h.1;omega⟩
  refine R3 17 O ?_
  refine xD O (fun hc62=>?_) (fun hc62=>?_)
  ·refine R4 4 O ?_
   refine mN (cs:=[_]) O ?_
   refine oI O O O O P1 ?_
   refine R0 2 O ?_
   refine jX ?_
   refine nS ?_
   refine L9 ?_
   refine nS ?_
   refine rQ (.inl O) (C4 O Y1 O (rt O rn)) ?_
   exact .inl ⟨rfl,aZ5 hyy hb fun h=>by have:=h.2;omega⟩
  refine cP ?_
  refine wC ?_
  have hTB:=bSW (k:=1000) (aXB (aXa (nl:=(mB x.entities)) (cl:=x.classes) (l:=yy.books.take i) (by rw [Be];exact he1000) hc1000 (fun b hb=>hsy.r1 b (List.mem_of_mem_take hb)) (by rw [List.length_take];omega))) (by decide)
  refine Hi (i:=⟨_,_,.load _ _ _⟩) O O F O (.inr mem0) O (Nat.le_refl _) O sR ?_
  refine G1 19 O ?_
  refine gP O O F ?_
  refine dE O O q1 i O b hb fun b69 p69 cs at69 hR=>lN ?_
  obtain ⟨tc,td,hcs,htc,htd⟩:=hR
  subst hcs
  refine G1 2 O ?_
  refine oD (i:=⟨_,_,.load _ _ _⟩) (off:=2) O O F O at69 ti O (by simp) O sR ?_
  refine gC z56 (aFr (by omega) (aDY hcu.m) hTB.1 hTB.2 htc.m htd.m (by have:=hsb.1;omega) (by have:=hsb.2;omega)) O O O O fun v72 z72 _ ⟨cu72,hv72,hk72⟩=>?_
  subst hv72
  rw [aKd] at hk72
  refine gS O O O ?_
  refine oI O O O O iW ?_
  refine lN ?_
  refine mL ?_
  refine eT ?_
  refine xG ?_
  refine lC O ?_
  refine lB O O (gI (n:=i+1) (by omega) (by omega)) ?_
  refine R0 2 O ?_
  exact mK (by omega) ⟨i+1,cu72,_,LZ.m [] O,rfl,by omega,by rw [aYX hb];exact hk72,bGU hb hok ⟨Int.not_lt.1 hg59,Int.not_lt.1 hc62⟩⟩
 refine dH ?_
 refine nF ?_
 refine eT ?_
 refine xR ?_
 refine lR O mem0 O ?_
 refine oI O O O O P1 ?_
 refine R0 2 O ?_
 refine xT ?_
 refine rQ (.inl O) (C4 O Y1 O (rt O rn)) ?_
 rw [List.take_of_length_le (by omega)] at hcu hok
 exact .inr ⟨yy,_,hyy,⟨⟨by omega,by omega⟩,fun y hy=>by rw [hyy] at hy;injection hy with hy;subst hy;exact hok⟩,rfl,hcu⟩
open Go.CE Go.RowKit Go.Num
open Go.Eng (kN)
open Go.Eng (kN)
theorem bAR {α:Type} {p:α→Bool} {l:List α}:aSv p l<(l.length:Int):=by
 rcases Int.lt_or_le (aSv p l) 0 with h | h
 ·omega
 obtain ⟨i,a,h1,h2,_⟩:=aWN h
 have:=(List.getElem?_eq_some_iff.1 h2).1
 omega
theorem bHG {nl:List ByteArray} {s:ByteArray}:uT nl s<(nl.length:Int):=bAR
theorem bGm {cl:List nN} {s:ByteArray}:wN cl s<(cl.length:Int):=bAR
section
variable {α:Type} {size:Nat} {R:RT α} [RMono R] {call:eE} {B:pK} {l:List I} {Q:Sf→Prop}
theorem bUc {fs:Sf} {p q:List HA} (e:fs.H=p++sH []::q) (hw:FL call B l (fs.heap (p++q)) Q):FL call B l fs Q:=fun st r=>hw st (r.reH (by rw [e,jM,jM,iJ];exact List.Perm.refl _) fun x hx=>r.hold.h x (by rw [e];rcases List.mem_append.1 hx with hx | hx<;>simp [hx]))
theorem bJA {ty:Nat} {z0:dA} {p q:List HA}:∀ (D:List (Ro α)) (fs:Sf),fs.H=p++sH (D.map (yJ ty size))::q→zle z0 fs.z→(∀ d,d∈D→CL size R (zd z0 fs.z) d.2.1 d.2.2∧d.2.2.length≤9223372036854775807) →
  (∀ z',zle fs.z z'→(∀ d,d∈D→CZ size R (zd z0 z') d.1 d.2.2)→FL call B l ⟨fs.e,z',p++q⟩ Q)→FL call B l fs Q:=by
 intro D
 induction D with
 | nil=>intro fs e hz hD hw;exact bUc e (hw fs.z zI fun d hd=>absurd hd List.not_mem_nil)
 | cons d D ih =>
  intro fs e hz hD hw
  refine bAn (L1:=[]) (a:=yJ ty size d) (L2:=D.map (yJ ty size)) e ?_
  have hd:=hD d (List.mem_cons_self ..)
  refine aOY (z0:=z0) (p:=[]) (q:=p++sH (D.map (yJ ty size))::q) O hz hd.1 O hd.2 fun z' hz' hs=>?_
  refine ih ⟨fs.e,z',p++sH (D.map (yJ ty size))::q⟩ O (hz.trans zI) (fun x hx=>⟨(hD x (List.mem_cons_of_mem _ hx)).1.mono (jO zI),(hD x (List.mem_cons_of_mem _ hx)).2⟩) fun z2 hz2 hs2=>?_
  refine hw z2 (hz'.trans hz2) fun x hx=>?_
  rcases List.mem_cons.1 hx with rfl | hx
  ·exact SZ.mono hs (jO hz2)
  exact hs2 x hx
theorem bJb {ty ty2:Nat} {z0:dA} {u:AV} {p q:List HA} {fs:Sf} {D:List (Ro α)} (e:fs.H=p++.row u ty 1 D.length (D.map (·.1))::sH (D.map (yJ ty2 size))::q) (hz:zle z0 fs.z) (hD:∀ d,d∈D→CL size R (zd z0 fs.z) d.2.1 d.2.2∧d.2.2.length≤9223372036854775807) (hn:D.length≤9223372036854775807)
  (hw:∀ z',zle fs.z z'→SZ 1 (RC size R) (zd z0 z') u (D.map (·.2.2))→FL call B l ⟨fs.e,z',p++q⟩ Q):FL call B l fs Q:=by
 refine bJA (ty:=ty2) (size:=size) (p:=p++[.row u ty 1 D.length (D.map (·.1))]) (q:=q) D fs (by rw [e,List.append_assoc];rfl) hz hD fun z' hz' hs=>?_
 refine aOY (z0:=z0) (p:=p) (q:=q) (ty:=ty) (n:=D.length) (cs:=D.map (·.1)) (u:=u) (r:=D.map (·.2.2)) (fs:=⟨fs.e,z',(p++[.row u ty 1 D.length (D.map (·.1))])++q⟩) (by show _=_;rw [List.append_assoc];rfl) (hz.trans hz') (bA5 hs) (by simp) hn fun z2 _ hs2=>?_
 exact hw z2 (hz'.trans zI) hs2
end
theorem bHl {k:Nat} (hk:2≤k) {z:dA} {v:AV} {l:List ByteArray} {s:ByteArray} (hx:SZ 1 RS z v l):FC (E k) 186 [v,.c (Cs s)] z fun u _=>∃ e:Int,u=B0 e∧e=uT l s:=(Gf hk hx).mono fun _ _ _ h=>⟨_,h,rfl⟩
theorem bFw {k:Nat} (hk:3≤k) {z:dA} {v:AV} {l:List nN} {s:ByteArray} (hx:SZ 6 vR z v l):FC (E k) 185 [v,.c (Cs s)] z fun u _=>∃ e:Int,u=B0 e∧e=wN l s:=(Jr hk hx).mono fun _ _ _ h=>⟨_,h,rfl⟩
theorem bRl {b:Bool} (h:(!b)=false):b=true:=by cases b<;>simp_all
theorem bOE {b:Bool} (h:(!b)=true):b=false:=by cases b<;>simp_all
theorem bDQ {T:List (List Rat)} {e c:Int} {q:Rat} {m:Nat} (h:∀ r,r∈T→r.length=m):∀ r,r∈Aa T e c q→r.length=m:=fun r hr=>by
 obtain ⟨i,hi⟩:=List.mem_iff_getElem?.1 hr
 rw [Aa,List.getElem?_mapIdx] at hi
 cases hx:T[i]? with
 | none=>rw [hx] at hi;cases hi
 | some s =>
  rw [hx] at hi
  injection hi with hi
  subst hi
  rw [List.length_mapIdx]
  exact h s (List.mem_of_getElem? hx)
theorem aYk {nl:List ByteArray} {cl:List nN}:∀ {l:List Nv} {T:List (List Rat)},(T.length=nl.length∧∀ r,r∈T→r.length=cl.length)→((l.foldl (fun T b=>Aa T (uT nl b.entity) (wN cl b.cls) (rv b.amount)) T).length=nl.length∧∀ r,r∈l.foldl (fun T b=>Aa T (uT nl b.entity) (wN cl b.cls) (rv b.amount)) T→r.length=cl.length)
 | [],_,h=>h
 | b::l,T,h=>aYk (l:=l) ⟨by rw [aLp];exact h.1,bDQ h.2⟩
theorem aSE (nl:List ByteArray) (cl:List nN) (l:List Nv):(aFm nl cl l).length=nl.length∧∀ r,r∈aFm nl cl l→r.length=cl.length:=aYk ⟨List.length_replicate,fun r hr=>by rw [(List.mem_replicate.1 hr).2,List.length_replicate]⟩
theorem aYs {nl:List ByteArray} {cl:List nN} {l:List Nv}:(aFm nl cl l).length=nl.length:=(aSE nl cl l).1
theorem bMz {nl:List ByteArray} {cl:List nN} {l:List Nv} {D:List (Ro Rat)} (hm:D.map (·.2.2)=aFm nl cl l) (hc:cl.length≤1000) {d:Ro Rat} (hd:d∈D):d.2.2.length≤9223372036854775807:=by
 have:=(aSE nl cl l).2 d.2.2 (by rw [← hm];exact List.mem_map.2 ⟨d,hd,rfl⟩)
 omega
theorem bK2 {z:dA} {D:List (Ro Rat)} {ie m:Nat} {ld:List Rat} {csd:List C} {cd cw:C} {ws:List C} {q:Rat} (hok:TOk z D) (hd:D[ie]? = some (cd,csd,ld)) (hj:m<ld.length) (hl:csd.length=ld.length * 4) (hw:RV z ws q) (hwl:ws.length=4:=by rfl):TOk z (D.set ie (cw,kN csd (m * 4) ws,ld.set m q)):=fun d hd'=>by
 rcases List.mem_or_eq_of_mem_set hd' with h | h
 ·exact hok _ h
 subst h
 exact bF0 (hok _ (List.mem_of_getElem? hd)) hj hwl hw
theorem bMs {nl:List ByteArray} {cl:List nN} {l:List Nv} {D:List (Ro Rat)} {s t:ByteArray} {e c:Int} (hm:D.map (·.2.2)=aFm nl cl l) (h:aEj (D.map (·.2.2.length)) e c=false) (he:e=uT nl s) (hc:c=wN cl t) (g:0≤e∧0≤c):False:=by
 obtain ⟨g1,g2⟩:=g
 have h1:e<(nl.length:Int):=by rw [he];exact bHG
 have h2:c<(cl.length:Int):=by rw [hc];exact bGm
 have hd:=aSE nl cl l
 have Ff:D.length=nl.length:=by have:=congrArg List.length hm;rw [List.length_map,hd.1] at this;exact this
 obtain ⟨d,hdd⟩:=pE (l:=D) (i:=e.toNat) (by omega)
 have hdl:=hd.2 d.2.2 (by rw [← hm];exact List.mem_map.2 ⟨d,List.mem_of_getElem? hdd,rfl⟩)
 have:aEj (D.map (·.2.2.length)) e c=true:=by
  rw [aEj,List.length_map,List.getElem?_map,hdd,decide_eq_true g1,decide_eq_true (show e<(D.length:Int) by omega),decide_eq_true g2]
  show decide (c<((d.2.2.length:Nat):Int))=true
  exact decide_eq_true (by omega)
 rw [h] at this;cases this
theorem aSz {k:Nat} (hk:12≤k) {z:dA} {x:oK} {c0 c1 c2 c3 c4 c5 c6 c7 c8 c9 c10 c11:C} (g0:CZ 8 tI z c0 x.brackets) (g1:CZ 1 RW z c1 x.threshold.nm) (g2:CZ 1 RW z c2 x.threshold.dm) (g3:CZ 1 RW z c3 x.cap.nm) (g4:CZ 1 RW z c4 x.cap.dm) (g5:CZ 1 RW z c5 x.interest.nm) (g6:CZ 1 RW z c6 x.interest.dm) (g7:CZ 1 RW z c7 x.floor.nm) (g8:CZ 1 RW z c8 x.floor.dm) (g9:CZ 6 vR z c9 x.classes) (g10:CZ 1 RS z c10 x.entities) (g11:CZ 6 Gk z c11 x.years) {yr:Int} (hS:SmF x) (hy1 : -9223372036854775808≤yr) (hy2:yr<9223372036854775808):FC (E k) 121 [.agg (kF x c0 c1 c2 c3 c4 c5 c6 c7 c8 c9 c10 c11),Ai yr] z fun u z'=>bIb x yr z' u:=by
 have hyl:=g11.le
 have he1000:x.entities.length≤1000:=by have:=hS.l2;omega
 have hc1000:x.classes.length≤1000:=by have:=hS.l1;omega
 refine eA (bEl) (by omega) (aU O) fun B j hj=>?_
 refine xR ?_
 refine iU O fun b2=>?_
 refine kC fun b4=>?_
 refine R2 64 O ?_
 refine fR 13 O (fun hg13=>?_) (fun hg13=>?_)
 ·refine R2 1024 O ?_
  refine mN (cs:=[_]) O ?_
  refine oI O O O O iW ?_
  refine R0 2 O ?_
  refine jX ?_
  refine rQ (.inl O) (C4 O mem0 O (rt O rn)) ?_
  exact .inl ⟨rfl,fun h=>by have:=h.1;omega⟩
 refine R1 4 O ?_
 refine lD O ?_
 refine dK O Y1 O ?_
 refine lD O ?_
 refine aS O g11 ?_
 refine R3 8 O ?_
 refine xD O (fun hc19=>?_) (fun hc19=>?_)
 ·refine R4 4 O ?_
  refine mN (cs:=[_]) O ?_
  refine oI O O O O iW ?_
  refine R0 2 O ?_
  refine jX ?_
  refine rQ (.inl O) (C4 O mem0 O (rt O rn)) ?_
  exact .inl ⟨rfl,fun h=>by have:=h.1;omega⟩
 refine R4 4 O ?_
 obtain ⟨yy,hyy⟩:=pE (l:=x.years) (i:=yr.toNat) (by omega)
 have hsy:=hS.y yy (List.mem_of_getElem? hyy)
 have hbl:=hsy.l1
 refine lR O Y1 O ?_
 refine lZ z (aEP (by omega) g0 g1 g2 g3 g4 g5 g6 g7 g8 g9 g10 g11 he1000) O O fun v22 z22 hz22 ⟨cN,hv22,hN⟩=>?_
 subst hv22
 refine R2 13 O ?_
 refine aS O hN ?_
 refine lF O ?_
 refine dK O Y1 O ?_
 refine aS O g9 ?_
 refine uW z22 [] (aTh (by omega) (n0:=(mB x.entities).length) (m0:=x.classes.length) (by rw [Be];exact he1000) hc1000) O O O fun v28 z28 H28 hz28 ⟨cu0,D0,hv28,hH28,hD0,hK0⟩=>?_
 subst hv28 hH28
 have hK0:=hK0.mono (qY (hz22))
 refine kC fun b7=>?_
 refine oI O O O O iW ?_
 refine lN ?_
 refine R4 8 O ?_
 refine dK O Y4 O ?_
 refine lC O ?_
 refine dE (zz:=z28) O O g11.m yr.toNat (by omega) yy hyy fun b32 p32 cs at32 hR=>?_
 obtain ⟨y0,y1,y2,y3,y4,hcs,q0,q1,q2,q3,q4⟩:=hR
 subst hcs
 refine lF O ?_
 refine nQ (off:=2) O at32 O (by simp) O ?_
 refine aS O q1 ?_
 refine R0 2 O ?_
 refine aT (aQ ?_)
 refine dX (fun n fs=>∃ (i:Nat) (cu:C) (D:List (Ro Rat)) (zz:dA),LZ z28 zz [.blk b7 (.cells 24 [cu]),.row (.c cu) 85 1 D.length (hdT D),sH (D.map (yJ 35 4)),.blk b4 (.cells 24 [Cz]),.blk b2 (.cells 101 (kF x c0 c1 c2 c3 c4 c5 c6 c7 c8 c9 c10 c11))] [(2,Ap b2),(4,Ap b4),(6,.c cN),(7,Ap b7),(34,.c y1),(35,Az yy.books.length),(36,Az i)] fs∧n=yy.books.length - i∧(i≤yy.books.length)∧(D.map (·.2.2)=(aFm (mB x.entities) x.classes (yy.books.take i)))∧(TOk (zd z zz) D)∧(∀ b,b∈yy.books.take i→okB (mB x.entities) x.classes b)) ?_ _ ⟨0,cu0,D0,_,LZ.m [] O,rfl,Nat.zero_le _,hD0,hK0,fun b hb=>by simp at hb⟩ (kK (by omega))
 intro n fs ⟨i,cu,D,zz,hL0,hmz0,hi,hDm,hDk,hok⟩
 refine hL0.open fun e hzz=>?_
 refine R5 8 O ?_
 refine xD O (fun hc37=>?_) (fun hc37=>?_)
 ·refine cP ?_
  refine aT (aQ ?_)
  refine xR ?_
  obtain ⟨b,hb⟩:=pE (l:=yy.books) (i:=i) (by omega)
  have hsb:=hsy.r1 b (List.mem_of_getElem? hb)
  refine dE (zz:=zz) O O q1.m i O b hb fun b38 p38 cs at38 hR=>?_
  obtain ⟨rc,rd,hcs,hrc,hrd⟩:=hR
  subst hcs
  refine nQ (off:=0) O at38 O (by simp) O ?_
  refine kC fun b9=>?_
  refine oI O O O O iW ?_
  refine lN ?_
  refine iN ?_
  refine G1 4 O ?_
  refine zG O O Ht O ?_
  refine gC zz (bHl (by omega) hN.m) O O O O fun v43 z43 hz43 ⟨e5,hv43,he5⟩=>?_
  subst hv43
  refine G1 2 O ?_
  refine zG O O (.inr (mC Y4)) O ?_
  refine G1 2 O ?_
  refine zG O O Ht O ?_
  refine gC z43 (bFw (by omega) g9.m) O O O O fun v48 z48 hz48 ⟨c5,hv48,hc5⟩=>?_
  subst hv48
  refine gP O O F ?_
  refine mN (cs:=[Ci e5,Ci c5]) O (lN ?_)
  refine gA O O (fun b10 hT10=>?_)
  refine gS O O O ?_
  refine iI O O iW ?_
  refine lN ?_
  refine mL ?_
  refine R4 4 O ?_
  refine lR O Y2 O ?_
  refine iP O mem0 O ?_
  have hDl:D.length≤1000:=by have:=congrArg List.length hDm;rw [List.length_map,aYs,Be] at this;omega
  refine aSA O ?_
  refine aSA O ?_
  refine uW z48 [.row (.c cu) 85 1 D.length (hdT D),sH (D.map (yJ 35 4))] (aYJ (by omega) (by omega)) O O O fun v52 z52 H52 hz52 ⟨hv52,hH52⟩=>?_
  subst hv52 hH52
  refine R3 4 O ?_
  refine jB O (fun hc53=>?_) (fun hc53=>?_)
  ·refine R4 4 O ?_
   refine mN (cs:=[_]) O ?_
   refine oI O O O O (mR (mR P3)) ?_
   refine R0 2 O ?_
   refine jX ?_
   refine nS ?_
   refine L9 ?_
   refine nS ?_
   refine rQ (.inl O) (C4 O (mC Y4) O (rt O rn)) ?_
   exact .inl ⟨rfl,aZ5 hyy hb fun h=>bMs hDm (bOE hc53) he5 hc5 ⟨by rw [he5];exact h.1,by rw [hc5];exact h.2⟩⟩
  refine cP ?_
  refine xG ?_
  refine lR O Y4 O ?_
  refine iP O Y2 O ?_
  refine lF O ?_
  refine sL O Y3 O ?_
  have hDr:D.map (·.2.2)=((aFm (mB x.entities) x.classes (yy.books.take i)).map (·.map J4)).map (·.map rv):=hDm.trans (aKd _).symm
  obtain ⟨ie,jc,d,he1,he2,hd,hjc⟩:=bAo (bRl hc53)
  subst he1 he2
  obtain ⟨cd,csd,ld⟩:=d
  obtain ⟨y,hy⟩:=pE (l:=ld) (i:=jc) hjc
  obtain ⟨hkl,hkc⟩:=hDk _ (List.mem_of_getElem? hd)
  obtain ⟨hk4,w0,w1,hwc,q0,q1⟩:=hkc jc y hy
  have hTB:=aXa (nl:=(mB x.entities)) (cl:=x.classes) (l:=yy.books.take i) (by rw [Be];exact he1000) hc1000 (fun b hb=>hsy.r1 b (List.mem_of_mem_take hb)) (by rw [List.length_take];omega)
  have hyB:=(hTB.2 ld (by rw [← hDm];exact List.mem_map.2 ⟨_,List.mem_of_getElem? hd,rfl⟩)).2 y (List.mem_of_getElem? hy)
  refine bFL O hd ?_
  refine uW z52 [.row (.c cd) 35 4 ld.length csd,.row (.c cu) 85 1 D.length (hdT D)] (Po (by omega) (aZY hd) (List.getElem?_eq_some_iff.1 hd).1 hjc hkl hwc q0.m q1.m (Nat.le_trans hyB.1 (by decide)) (Nat.le_trans hyB.2 (by decide)) hrc.m hrd.m (by have:=hsb.1;omega) (by have:=hsb.2;omega)) O O O fun v59 z59 H59 _ ⟨hv59,bo59,bd59,a59,b59,hcu59,hcd59,hH59,ha59,hb59⟩=>?_
  subst hv59 hH59
  replace hcd59:cd=.sl bd59 0 ld.length 4:=hcd59
  subst hcu59 hcd59
  have ha59:=ha59.mono (qY (hz22.trans (hz28.trans (hzz.trans (hz43.trans (hz48.trans hz52))))))
  have hb59:=hb59.mono (qY (hz22.trans (hz28.trans (hzz.trans (hz43.trans (hz48.trans hz52))))))
  refine bAD (d':=(.sl bd59 0 ld.length 4,kN csd (jc * 4) [Cb (decide ((y+Num.valR ((b.amount.n,b.amount.nm),(b.amount.d,b.amount.dm))).num<0)),a59,Cb (decide (((y+Num.valR ((b.amount.n,b.amount.nm),(b.amount.d,b.amount.dm))).den:Int)<0)),b59],ld.set jc (y+Num.valR ((b.amount.n,b.amount.nm),(b.amount.d,b.amount.dm))))) O hd O (by rw [List.length_set]) (by rw [List.length_set];exact bHn hjc hkl) ?_
  refine aSA O ?_
  refine aSA O ?_
  refine aSA O ?_
  refine lN ?_
  refine eT ?_
  refine xG ?_
  refine lB O O (gI (n:=i+1) (by omega) (by omega)) ?_
  refine R0 2 O ?_
  exact mK (by omega) ⟨i+1,_,(D.set ie (.sl bd59 0 ld.length 4,kN csd (jc * 4) [Cb (decide ((y+Num.valR ((b.amount.n,b.amount.nm),(b.amount.d,b.amount.dm))).num<0)),a59,Cb (decide (((y+Num.valR ((b.amount.n,b.amount.nm),(b.amount.d,b.amount.dm))).den:Int)<0)),b59],ld.set jc (y+Num.valR ((b.amount.n,b.amount.nm),(b.amount.d,b.amount.dm))))),_,LZ.m [_,_] O,rfl,by omega,by rw [aYX hb,← he5,← hc5,← aKd (aFm (mB x.entities) x.classes (yy.books.take i)),aXv hDr hd hy,List.map_set,hDr],bK2 ((hDk.mono (jO zI))) hd hjc hkl ⟨_,_,rfl,ha59,hb59⟩,bGU hb hok ⟨by omega,by omega⟩⟩
 refine dH ?_
 refine nF ?_
 refine eT ?_
 refine xR ?_
 have hDl:D.length≤1000:=by have:=congrArg List.length hDm;rw [List.length_map,aYs,Be] at this;omega
 refine bGn O ?_
 refine bGn O ?_
 refine bJb (D:=D) (z0:=z) (p:=[]) O zI (fun d5 hd5=>⟨hDk d5 hd5,bMz hDm hc1000 hd5⟩) (by omega) fun zr _ hsr=>?_
 have hsr:=hsr.mono jF
 refine lR O mem0 O ?_
 refine oI O O O O P1 ?_
 refine R0 2 O ?_
 refine xT ?_
 refine rQ (.inl O) (C4 O Y1 O (rt O rn)) ?_
 rw [List.take_of_length_le (by omega)] at hDm hok
 rw [hDm] at hsr
 exact .inr ⟨yy,_,hyy,⟨⟨by omega,by omega⟩,fun y hy=>by rw [hyy] at hy;injection hy with hy;subst hy;exact hok⟩,rfl,hsr⟩
end Go.Proofs.YtlceligcgelbdaaGreat

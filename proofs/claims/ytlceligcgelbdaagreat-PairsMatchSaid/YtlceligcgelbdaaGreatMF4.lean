/- The reference: the other deal, insertion, both sides brought together, walked. -/
import Derived.WalkKit
import Derived.Orders
import Derived.Test.YtlceligcgelbdaaGreatMF3
set_option linter.unusedVariables false
set_option linter.unusedSimpArgs false
set_option maxRecDepth 100000
set_option maxHeartbeats 1000000
namespace Go.Proofs.YtlceligcgelbdaaGreat
open Go.CE Go.RowKit Go.Num
open Go.Eng (mR)
def N8 (s:ByteArray) (at_:Nat) (l:List mG):List Nat:=(B0 s l).filter (· != at_)
def aFS (l:List Nat):Int:=match l with
 | [j]=>(j:Nat)
 | _=>-1
section
variable {nl:List ByteArray} {cl:List rS} {dl:List mG} {i p q j at_:Nat} {d a b e:mG} {s:ByteArray}
theorem aF7 (h:dl[i]? = some a):N8 s at_ (dl.take (i+1))=if s=a.id∧i≠at_ then N8 s at_ (dl.take i)++[i] else N8 s at_ (dl.take i):=by
 unfold N8
 rw [aV8 h]
 by_cases h1:s=a.id
 ·rw [if_pos h1,List.filter_append]
  by_cases h2:i=at_
  ·rw [if_neg fun g=>g.2 h2]
   simp [h2]
  rw [if_pos ⟨h1,h2⟩]
  simp [h2]
 rw [if_neg h1,if_neg fun g=>h1 g.1]
theorem bQn:(N8 s at_ (dl.take i)).length≤(N8 s at_ dl).length:=by
  have key:∀ n,i≤dl.length→i+n≤dl.length→(N8 s at_ (dl.take i)).length≤(N8 s at_ (dl.take (i+n))).length:=by
    intro n
    induction n with
    | zero=>intros;exact Nat.le_refl _
    | succ n ih =>
      intro h1 h2
      refine Nat.le_trans (ih h1 (by omega)) ?_
      rw [← Nat.add_assoc,aF7 (List.getElem?_eq_getElem (by omega))]
      split
      · rw [List.length_append];omega
      · exact Nat.le_refl _
  by_cases h:i≤dl.length
  · have := key (dl.length - i) h (by omega)
    rwa [show i+(dl.length - i)=dl.length by omega,List.take_length] at this
  · rw [List.take_of_length_le (by omega)];exact Nat.le_refl _
theorem bI1 {l:List Nat} (h:l.length≤1) (g:aFS l<0):l=[]:=by
 match l,h with
 | [],_=>rfl
 | [j],_=>exact absurd g (by show ¬ ((j:Nat):Int)<0;omega)
theorem bAw {l:List Nat} (g:0≤aFS l):∃ j,l=[j]:=by
 match l with
 | []=>exact absurd g (by decide)
 | [j]=>exact ⟨j,rfl⟩
 | _::_::_=>exact absurd g (by show ¬ (0:Int)≤-1;decide)
theorem bIK {l:List Nat} (h:2≤l.length):aFS l = -1:=by
 match l,h with
 | _::_::_,_=>rfl
theorem bJg (h1 : dl[i]? = some a) (g : 0 ≤ aFS (N8 s at_ (dl.take i))) (hs : s = a.id) (hn : i ≠ at_) : aFS (N8 s at_ dl) = -1 := bIK (by
  have h:=bQn (s:=s) (at_:=at_) (dl:=dl) (i:=i+1)
  obtain ⟨j,hj⟩:=bAw g
  rw [aF7 h1,if_pos ⟨hs,hn⟩,hj] at h
  exact h)
theorem aYj (h1:dl[i]? = some a) (g:aFS (N8 s at_ (dl.take i))<0) (hl:(N8 s at_ (dl.take i)).length≤1) (hs:s=a.id) (hn:i≠at_):N8 s at_ (dl.take (i+1))=[i]:=by
 rw [aF7 h1,if_pos ⟨hs,hn⟩,bI1 hl g];rfl
theorem aU2 (h1:dl[i]? = some a) (hs:¬ (s=a.id∧i≠at_)):N8 s at_ (dl.take (i+1))=N8 s at_ (dl.take i):=by rw [aF7 h1,if_neg hs]
theorem aYK (hp:B0 d.id dl=[p,q]) (hlt:p<q) (hi:i=p∨i=q):aFS (N8 d.id i dl)=((p+q - i:Nat):Int):=by
  unfold N8
  rw [hp]
  rcases hi with rfl | rfl
  · have h : q ≠ i := by omega
    simp [h,aFS]
  · have h : p ≠ i := by omega
    simp [h,aFS]
theorem bFo:Hj a b=Hj b a:=by
 cases h:Hj a b with
 | false=>exact (aS6 h).symm
 | true =>
  cases g:Hj b a with
  | true=>rfl
  | false=>rw [aS6 g] at h;cases h
theorem bNK (h:dl[i]? = some d) (g:aFS (N8 d.id i dl)<0):aAu nl cl dl i=true:=bD2 h fun h2=>by
 obtain ⟨p,q,hp⟩:=aT9 h2
 rw [aYK hp (aDE hp).1 (Tv h hp)] at g
 omega
theorem bLL (h:dl[i]? = some d) (g:0≤aFS (N8 d.id i dl)):∃ k e p q,aFS (N8 d.id i dl)=((k:Nat):Int)∧dl[k]? = some e∧B0 d.id dl=[p,q]∧k=p+q - i∧k≠i∧k<dl.length:=by
 obtain ⟨j,hj⟩:=bAw g
 have hm:i∈B0 d.id dl:=aMz.2 ⟨d,h,rfl⟩
 have hnd:(B0 d.id dl).Nodup:=(bDP (s:=d.id) (l:=dl)).imp fun h=>Nat.ne_of_lt h
 have hl:(B0 d.id dl).length=2:=by
  have h1:=List.length_erase_of_mem hm
  rw [hnd.erase_eq_filter] at h1
  have h2:(B0 d.id dl).filter (· != i)=[j]:=hj
  rw [h2] at h1
  have:=List.length_pos_of_mem hm
  simp at h1
  omega
 obtain ⟨p,q,hp⟩:=aT9 hl
 obtain ⟨hlt,⟨a,ha,_⟩,b,hb,_⟩:=aDE hp
 have hi:=Tv h hp
 have e:=aYK hp hlt hi
 refine ⟨p+q - i,?_⟩
 have hl1:=(List.getElem?_eq_some_iff.1 ha).1
 have hl2:=(List.getElem?_eq_some_iff.1 hb).1
 rcases hi with rfl | rfl
 ·exact ⟨b,i,q,e,by rw [show i+q - i=q by omega];exact hb,hp,rfl,by omega,by omega⟩
 exact ⟨a,p,i,e,by rw [show p+i - i=p by omega];exact ha,hp,rfl,by omega,by omega⟩
theorem aYq (h:dl[i]? = some d) (hp:B0 d.id dl=[p,q]) (he:dl[p+q - i]? = some e):aAu nl cl dl i=(!Bi nl cl d || Hj d e):=by
  obtain ⟨hlt,⟨a,ha,_⟩,b,hb,_⟩:=aDE hp
  rw [aSE h hp ha hb]
  rcases Tv h hp with rfl | rfl
  · rw [show i + q - i = q by omega, hb] at he
    rw [h] at ha
    injection ha with ha
    injection he with he
    rw [ha,he]
  · rw [show p + i - i = p by omega, ha] at he
    rw [h] at hb
    injection hb with hb
    injection he with he
    rw [hb,he,bFo]
end
theorem bG3 {α:Type} {le:α→α→Prop} (ht:∀ a b c,le a b→le b c→le a c) {A B:List α} {t:α} (h:(A++B).Pairwise le) (h1:A=[]∨∃ A' a,A=A'++[a]∧le a t) (h2:∀ b,b∈B→le t b):(A++t::B).Pairwise le:=by
 rw [List.pairwise_append] at h ⊢
 obtain ⟨hA,hB,hAB⟩:=h
 refine ⟨hA,List.pairwise_cons.2 ⟨h2,hB⟩,fun a ha b hb=>?_⟩
 have hat:le a t:=by
  rcases h1 with rfl | ⟨A',c,rfl,hc⟩
  ·cases ha
  rcases List.mem_append.1 ha with ha | ha
  ·rw [List.pairwise_append] at hA
   exact ht _ _ _ (hA.2.2 a ha c (by simp)) hc
  rw [List.mem_singleton.1 ha];exact hc
 rcases List.mem_cons.1 hb with rfl | hb
 ·exact hat
 exact hAB a ha b hb
theorem aZf {α:Type} {A:List α} (h:0<A.length):∃ A' a,A=A'++[a]∧A'.length+1=A.length:=by
 refine ⟨A.dropLast,A.getLast (by intro e;subst e;simp at h),(List.dropLast_concat_getLast _).symm,?_⟩
 rw [List.length_dropLast];omega
section
variable {α:Type} {f:α→List C} {s:Nat} (hf:∀ x,(f x).length=s)
include hf
theorem Wm (l:List α):(l.flatMap f).length=l.length * s:=by
 induction l with
 | nil=>simp
 | cons a l ih=>rw [List.flatMap_cons,List.length_append,ih,hf,List.length_cons,Nat.succ_mul,Nat.add_comm]
theorem bSy (A:List α) (t:α) (B:List α) {k:Nat} (hk:k=A.length) (n o:Nat) (ho:o+n≤s):((((A++t::B).flatMap f).drop (k * s+o)).take n)=((f t).drop o).take n:=by
 subst hk
 rw [List.flatMap_append,List.flatMap_cons,← List.drop_drop,List.drop_left' (Wm hf A),List.drop_append_of_le_length (by rw [hf];omega),List.take_append_of_le_length (by rw [List.length_drop,hf];omega)]
theorem bHk (A:List α) (t u:α) (B:List α) {k:Nat} (hk:k=A.length):mR ((A++t::B).flatMap f) (k * s) (f u)=(A++u::B).flatMap f:=by
 subst hk
 unfold mR
 rw [List.flatMap_append,List.flatMap_append,List.flatMap_cons,List.flatMap_cons,hf,← List.drop_drop,List.drop_left' (Wm hf A),List.drop_left' (hf t),List.take_left' (Wm hf A),List.append_assoc]
theorem bJb (A:List α) (a t:α) (B:List α) {k:Nat} (hk:k=A.length):mR (mR ((A++a::t::B).flatMap f) (k * s) (f t)) ((k+1) * s) (f a)=(A++t::a::B).flatMap f:=by
 rw [bHk hf A a t (t::B) hk]
 have h:=bHk hf (A++[t]) t a B (k:=k+1) (by rw [List.length_append,hk];rfl)
 rw [List.append_assoc,List.append_assoc] at h
 exact h
end
open Go.CE Go.RowKit Go.Num
open Go.Eng (mR)
theorem aAN {call:iJ} {B:rR} {an:List Nat} {j:Nat} {l:List CE.D} {fs:Sf} {T:fR} {tag last:Nat} {pj lj:List Nat} {Q:Sf→Prop} {α:Type} {f:α→List C} {s:Nat} (hf:∀ x,(f x).length=s) {L:List α} (A:List α) (t:α) (B':List α) (hL:L=A++t::B') {i:I} {d size:Nat} {agg:Bool} {x:Go.Eng.Od} {af:List Nat} {b ty o:Nat} {v:AV} (off:Nat) (hi:i.o=.load agg size x) (hd:i.d=some d) (hg:GK fs i) (hx:fs.ev x=.c (.ptr b o)) (hT:T b (.cells ty (L.flatMap f))) (ho:o=A.length * s+off) (hn:off+size≤s) (hv:Ek agg (((f t).drop off).take size)=v) (hs:Hy v v=true) (hw:FG call B an (j+1) l (fs.put d v) T tag last pj (j::lj) Q):FG call B an j (⟨i,af⟩::l) fs T tag last pj lj Q:=by
 subst hL
 refine aC4 hi hd hg hx hT O ?_ ?_ hs hw
 ·rw [Wm hf,List.length_append,List.length_cons,ho]
  have:(A.length+1) * s≤(A.length+(B'.length+1)) * s:=Nat.mul_le_mul_right _ (by omega)
  rw [Nat.succ_mul] at this
  omega
 rw [ho,bSy hf A t B' rfl _ _ hn];exact hv
theorem bFw (a b:ByteArray):pC .gtr (.string a) (.string b)=some (.bool (decide (tx b<tx a))):=by
  show some (Value.bool (!(Go.Op.bytesLess a.data.toList b.data.toList || J1 a.data.toList b.data.toList)))=_
  rw [Go.Proofs.bytesLess_eq,Bd]
  congr 2
  by_cases h:tx a<tx b
  · have h2:¬ tx b<tx a:=fun g=>List.lt_irrefl _ (List.lt_trans h g)
    simp [h,h2]
  · by_cases g:tx a=tx b
    · have h2 : ¬ tx b < tx a := fun k => by rw [g] at k; exact List.lt_irrefl _ k
      simp [g]
    · have h2:tx b<tx a:=blt h fun e=>g e.symm
      simp only [h,g,h2,decide_false,decide_true,Bool.false_or]
      simpa using g
abbrev fB (s:ByteArray):List C:=[.v (.string s)]
theorem Xs (s:ByteArray):(fB s).length=1:=rfl
theorem aVo {α:Type} {f:α→List C} {s:Nat} (hf:∀ x,(f x).length=s) {L:List α} (A:List α) (a t:α) (B:List α) (hL:L=A++a::t::B) {o1 o2:Nat} {x y:List C} (hx:x=f t) (hy:y=f a) (h1:o1=A.length * s) (h2:o2=(A.length+1) * s):mR (mR (L.flatMap f) o1 x) o2 y=(A++t::a::B).flatMap f:=by
 subst hL hx hy h1 h2
 exact bJb hf A a t B rfl
theorem aZZ {α:Type} {f:α→List C} {s:Nat} (hf:∀ x,(f x).length=s) {L:List α} {o k n:Nat} (ho:o=k * s) (hk:k+1≤n) (hL:L.length=n):o+s≤(L.flatMap f).length:=by
 rw [Wm hf,hL,ho,← Nat.succ_mul];exact Nat.mul_le_mul_right _ hk
theorem bHb {α:Type} {f:α→List C} {s:Nat} (hf:∀ x,(f x).length=s) {L:List α} {x:List C} {o1 o2 k1 k2 n:Nat} (hx:x.length=s) (h1:o1=k1 * s) (hk1:k1+1≤n) (h2:o2=k2 * s) (hk2:k2+1≤n) (hL:L.length=n):o2+s≤(mR (L.flatMap f) o1 x).length:=by
 rw [Go.Eng.setL_length _ _ _ (by rw [hx];exact aZZ hf h1 hk1 hL)]
 exact aZZ hf h2 hk2 hL
theorem aTB (l:List ByteArray):(pE l).map tx=Bq (txt l):=by
 unfold pE
 rw [List.map_map]
 conv=>rhs;rw [← List.map_id (Bq (txt l))]
 exact List.map_congr_left fun s _=>by simp
theorem aXr {l m:List ByteArray} (h:l.map tx=m.map tx):l=m:=by
 have:=congrArg (List.map fun s:List UInt8=>(bs s)) h
 rw [List.map_map,List.map_map] at this
 have e:∀ n:List ByteArray,n.map ((fun s:List UInt8=>(bs s)) ∘ tx)=n:=fun n=>by
  conv=>rhs;rw [← List.map_id n]
  exact List.map_congr_left fun s _=>rfl
 rwa [e,e] at this
theorem aWM (l:List (List UInt8)):(Bq l).Pairwise (·≤·):=by
  have := List.pairwise_mergeSort (le := fun x y : List UInt8 => decide (x ≤ y)) (fun a b c h1 h2 => decide_eq_true (List.le_trans (of_decide_eq_true h1) (of_decide_eq_true h2))) (fun a b => by
    rcases List.le_total a b with h | h<;>simp [h]) l
  exact this.imp fun h=>of_decide_eq_true h
theorem bDp (l:List ByteArray):pE (l.take 0)=[]:=List.eq_nil_of_length_eq_zero (by rw [aOE];rfl)
theorem aTC {l A B:List ByteArray} {i:Nat} {a:ByteArray} (hAB:A++B=pE (l.take i)) (ha:l[i]? = some a) (h1:A=[]∨∃ A' c,A=A'++[c]∧¬ tx a<tx c) (h2:∀ b,b∈B→tx a≤tx b):A++a::B=pE (l.take (i+1)):=by
 apply aXr
 rw [aTB]
 have e:A.map tx++B.map tx=Bq (txt (l.take i)):=by rw [← List.map_append,hAB,aTB]
 refine List.Perm.eq_of_pairwise (le:=fun a b=>a≤b) (fun a b _ _=>List.le_antisymm) ?_ (aWM _) ?_
 ·rw [List.map_append,List.map_cons]
  refine bG3 (le:=fun a b=>a≤b) (fun a b c=>List.le_trans) (by rw [e];exact aWM _) ?_ fun b hb=>by
   obtain ⟨b',hb',rfl⟩:=List.mem_map.1 hb
   exact h2 b' hb'
  rcases h1 with rfl | ⟨A',c,rfl,hc⟩
  ·exact .inl rfl
  exact .inr ⟨A'.map tx,tx c,by simp,List.not_lt.1 hc⟩
 rw [List.map_append,List.map_cons]
 refine List.perm_middle.trans ?_
 rw [e,List.take_add_one,ha]
 have h3:txt (l.take i++(some a).toList)=txt (l.take i)++[tx a]:=by simp [txt]
 rw [h3]
 exact (((List.mergeSort_perm _ _).cons _).trans (List.perm_append_singleton _ _).symm).trans (List.mergeSort_perm _ _).symm
theorem bJj {B:List ByteArray} {a c:ByteArray} (h:tx a<tx c) (hB:∀ b,b∈B→tx a≤tx b):∀ b,b∈c::B→tx a≤tx b:=fun b hb=>by
 rcases List.mem_cons.1 hb with rfl | hb
 ·exact List.le_of_lt h
 exact hB b hb
theorem bTP {z:fR} {R:List ByteArray}:CL 1 RS z (R.flatMap fB) R:=by
 have h:CL 1 (RE Value.string) z (cE Value.string R) R:=Ti
 have e:cE Value.string R=R.flatMap fB:=by
  rw [cE,List.map_eq_flatMap]
 rwa [e] at h
theorem aZ5 {call:iJ} {B:rR} {fs:Sf} {l:List I} {Q:Sf→Prop} {α:Type} {f:α→List C} {R:List α} {t:α} {u:AV} {ty s n:Nat} {p q:List HA} (e:fs.H=p++.row u ty s n (R.flatMap f++f t)::q) (hw:FL call B l (fs.heap (p++.row u ty s n ((R++t::[]).flatMap f)::q)) Q):FL call B l fs Q:=by
 have e1:(R++t::[]).flatMap f=R.flatMap f++f t:=by simp
 rw [e1] at hw
 have e2:fs.heap (p++.row u ty s n (R.flatMap f++f t)::q)=fs:=by cases fs;simp only [Sf.heap] at e ⊢;rw [e]
 rw [e2] at hw
 exact hw
open Go.CE Go.RowKit Go.Num
open Go.Eng (mR)
theorem aDV {k:Nat} (hk:1≤k) {z:fR} {x:uV} {c0 c1 c2 c3 c4 c5 c6 c7 c8 c9 c10 c11:C} (g0:CZ 8 vF z c0 x.brackets) (g1:CZ 1 RW z c1 x.threshold.nm) (g2:CZ 1 RW z c2 x.threshold.dm) (g3:CZ 1 RW z c3 x.cap.nm) (g4:CZ 1 RW z c4 x.cap.dm) (g5:CZ 1 RW z c5 x.interest.nm) (g6:CZ 1 RW z c6 x.interest.dm) (g7:CZ 1 RW z c7 x.floor.nm) (g8:CZ 1 RW z c8 x.floor.dm) (g9:CZ 6 yM z c9 x.classes) (g10:CZ 1 RS z c10 x.entities) (g11:CZ 6 Ib z c11 x.years) (hb:x.entities.length≤1000):FC (E k) 97 [.agg (kF x c0 c1 c2 c3 c4 c5 c6 c7 c8 c9 c10 c11)] z fun u z'=>∃ c,u=.c c∧CZ 1 RS z' c (pE x.entities):=by
 have hlb:x.entities.length≤1000:=hb
 refine iI (bHU) (by omega) (dN O) fun B j hj=>?_
 refine xR ?_
 refine kN O fun b1=>?_
 refine R2 8 O ?_
 refine uE 9 1 ?_
 refine lN ?_
 refine R5 8 O ?_
 refine dE (bQ ?_)
 refine eT (fun n fs=>∃ (i:Nat) (R:List ByteArray) (u3:AV),LI z [.row u3 9 1 i (R.flatMap fB),.blk b1 (.cells 106 (kF x c0 c1 c2 c3 c4 c5 c6 c7 c8 c9 c10 c11))] [(1,Ap b1),(3,u3),(4,Az i)] fs∧n=x.entities.length - i∧(i≤x.entities.length)∧(R=pE (x.entities.take i))∧(R.length=i)) ?_ _ ⟨0,[],qY,LI.m [] O,rfl,Nat.zero_le _,(bDp _).symm,rfl⟩ (kK (by omega))
 intro n fs ⟨i,R,u3,hL0,hmz0,hi,hR,hRl⟩
 refine hL0.open fun e zl0 _=>?_
 refine R4 16 O ?_
 refine dH O Y1 O ?_
 refine cX O g10 ?_
 refine R3 4 O ?_
 refine xD O (fun hc10=>?_) (fun hc10=>?_)
 ·refine dX ?_
  refine dE (bQ ?_)
  refine R4 10 O ?_
  refine dH O Y1 O ?_
  refine lC O ?_
  obtain ⟨a,ha⟩:=vB (l:=x.entities) (i:=i) (by omega)
  refine eA (zz:=zl0) O O g10.m i O a ha fun b17 p17 cs at17 hcs=>?_
  have hcs:cs=_:=hcs
  subst hcs
  refine aFH O at17 ?_
  refine gU (cs:=[Cs a]) O fun b19=>?_
  refine rA (n:=i) (m:=1) (cs:=R.flatMap fB) O O mem0 O (fun _=>oH lR) (by omega) (by omega) fun c20 hc20=>?_
  refine R2 4 O ?_
  refine aZ5 (p:=[_]) (t:=a) O ?_
  refine aUN (p:=[_]) O (by omega) fun bR hbR=>?_
  injection hbR with hbR
  subst hbR
  refine R0 4 O ?_
  refine bQ ?_
  refine eT (fun n fs=>∃ (A:List ByteArray) (B:List ByteArray) (ka:Nat),LI zl0 [.blk bR (.cells 9 ((A++a::B).flatMap fB)),.blk b1 (.cells 106 (kF x c0 c1 c2 c3 c4 c5 c6 c7 c8 c9 c10 c11))] [(1,Ap b1),(3,Aw bR (i+1)),(4,Az i),(5,Az ka)] fs∧n=ka∧(A++B=R)∧(ka=A.length)∧(∀ b,b∈B→tx a≤tx b)) ?_ _ ⟨R,[],i,LI.m [_] O,rfl,List.append_nil _,hRl.symm,fun b hb=>absurd hb List.not_mem_nil⟩ (kK (by omega))
  intro n fs ⟨A,B,ka,hL1,hmz1,hAB,hka,hB⟩
  refine hL1.open fun e zl1 _=>?_
  refine Z6 ?_
  refine jF ?_
  have hkl:A.length+B.length=i:=by
   have h:=congrArg List.length hAB
   rw [List.length_append] at h
   omega
  have hLl:(A++a::B).length=i+1:=by
   rw [List.length_append,List.length_cons];omega
  refine G1 8 O ?_
  refine C9 24 O (fun hg24=>?_) (fun hg24=>?_)
  ·obtain ⟨A1,a1,hA1,hl1⟩:=aZf (A:=A) (by omega)
   have hL1:A++a::B=A1++a1::(a::B):=by rw [hA1,List.append_assoc];rfl
   refine G1 4 O ?_
   refine gP O O O ?_
   refine lB O O (wC (n:=ka - 1) (by omega) (by omega)) (lN ?_)
   refine gP O O O ?_
   refine oP O O (ka - 1) (O) (by omega) (lN ?_)
   refine aAN Xs A1 a1 (a::B) hL1 0 (i:=⟨_,_,.load _ _ _⟩) O O O O (.inr mem0) (by omega) (by decide) O sR ?_
   refine G1 4 O ?_
   refine gP O O O ?_
   refine oP O O (ka) (O) (by omega) (lN ?_)
   refine aAN Xs A a (B) O 0 (i:=⟨_,_,.load _ _ _⟩) O O O O (.inr mem0) (by omega) (by decide) O sR ?_
   refine gP O O O ?_
   refine lB O O (bFw _ _) (lN ?_)
   refine G0 2 O ?_
   refine Ez ?_
   refine xD O (fun hc35=>?_) (fun hc35=>?_)
   ·refine dX ?_
    refine dE (bQ ?_)
    refine Ak ?_
    refine G1 4 O ?_
    refine gP O O F ?_
    refine lB O O (wC (n:=ka - 1) (by omega) (by omega)) (lN ?_)
    refine G1 16 O ?_
    refine gP O O F ?_
    refine oP O O (ka) (O) (by omega) (lN ?_)
    refine aAN Xs A a (B) O 0 (i:=⟨_,_,.load _ _ _⟩) O O F O (.inr mem0) (by omega) (by decide) O sR ?_
    refine G1 4 O ?_
    refine gP O O F ?_
    refine lB O O (wC (n:=ka - 1) (by omega) (by omega)) (lN ?_)
    refine gP O O F ?_
    refine oP O O (ka - 1) (O) (by omega) (lN ?_)
    refine aAN Xs A1 a1 (a::B) hL1 0 (i:=⟨_,_,.load _ _ _⟩) O O F O (.inr mem0) (by omega) (by decide) O sR ?_
    refine gP O O F ?_
    refine oP O O (ka - 1) (O) (by omega) (lN ?_)
    refine gS O O O ?_
    refine aSy O O O lR O (aZZ Xs (k:=ka - 1) (n:=i+1) (by omega) (by omega) hLl) ?_
    refine lN ?_
    refine gP O O F ?_
    refine oP O O (ka) (O) (by omega) (lN ?_)
    refine gS O O O ?_
    refine vO (cs':=(A1++a::a1::B).flatMap fB) O O O lR (aVo Xs A1 a1 a B hL1 O O (by omega) (by omega)) O (bHb Xs O (k1:=ka - 1) (k2:=ka) (n:=i+1) (by omega) (by omega) (by omega) (by omega) hLl) ?_
    refine lN ?_
    refine nQ ?_
    refine iE ?_
    refine xG ?_
    refine lC O ?_
    refine lB O O (wC (n:=ka - 1) (by omega) (by omega)) ?_
    refine R0 2 O ?_
    exact nN (by omega) ⟨A1,a1::B,ka - 1,LI.m [] O,rfl,by rw [← hAB,hA1,List.append_assoc];rfl,by omega,bJj hc35 hB⟩
   refine eE ?_
   refine oC ?_
   refine iE ?_
   refine xG ?_
   refine Hw (p:=[]) (n:=i+1) (size:=1) O (by rw [Wm Xs,hLl]) ?_
   refine lC O ?_
   refine lB O O (iW (n:=i+1) (by omega) (by omega)) ?_
   refine R0 2 O ?_
   exact nN (by omega) ⟨i+1,A++a::B,_,LI.m [] O,rfl,by omega,aTC (hAB.trans hR) ha (.inr ⟨A1,a1,hA1,hc35⟩) hB,hLl⟩
  refine G0 2048 O ?_
  refine R5 4 O ?_
  refine eE ?_
  refine oC ?_
  refine iE ?_
  refine xG ?_
  refine Hw (p:=[]) (n:=i+1) (size:=1) O (by rw [Wm Xs,hLl]) ?_
  refine lC O ?_
  refine lB O O (iW (n:=i+1) (by omega) (by omega)) ?_
  refine R0 2 O ?_
  exact nN (by omega) ⟨i+1,A++a::B,_,LI.m [] O,rfl,by omega,aTC (hAB.trans hR) ha (.inl (List.eq_nil_of_length_eq_zero (by omega))) hB,hLl⟩
 refine eE ?_
 refine oC ?_
 refine iE ?_
 refine R5 14 O ?_
 refine Dp (p:=[]) O (bTP (R:=R)) hRl (by omega) fun zr _ hsr=>?_
 refine xT ?_
 refine rI O ?_
 rw [hR,List.take_of_length_le (by omega)] at hsr
 obtain ⟨c,hc,_⟩:=SZ.one hsr
 subst hc
 exact ⟨c,rfl,hsr⟩
theorem Jl {k:Nat} (hk:1≤k) {z:fR} {v:AV} {l:List ByteArray} {s:ByteArray} (hx:SZ 1 RS z v l):FC (E k) 98 [v,.c (Cs s)] z fun u _=>u=Bt (Ff l s):=by
 have hxl:=hx.le
 refine iI (bG6) (by omega) (dN O) fun B j hj=>?_
 refine R5 32 O ?_
 refine dE (bQ ?_)
 refine eT (fun n fs=>∃ (i:Nat),LI z [] [(0,v),(1,.c (Cs s)),(5,Az i)] fs∧n=l.length - i∧(i≤l.length)∧(∀ q,q<i→∀ b,l[q]? = some b→decide (b=s)=false)) ?_ _ ⟨0,LI.m [] O,rfl,Nat.zero_le _,fun q hq=>absurd hq (Nat.not_lt_zero _)⟩ (kK (by omega))
 intro n fs ⟨i,hL0,hmz0,hi,hp⟩
 refine hL0.open fun e zl0 _=>?_
 refine R4 24 O ?_
 refine cX O hx ?_
 refine R3 4 O ?_
 refine xD O (fun hc9=>?_) (fun hc9=>?_)
 ·refine dX ?_
  refine dE (bQ ?_)
  refine R4 10 O ?_
  refine K9 (zz:=zl0) (e:=Value.string) O O hx.m i O (by omega) fun p14 hp14=>?_
  refine wF O hp14 ?_
  refine lC O ?_
  refine lB O O (Wl _ _) ?_
  refine lN ?_
  refine xD O (fun hc17=>?_) (fun hc17=>?_)
  ·refine R5 8 O ?_
   refine xT ?_
   refine oD ?_
   refine Ou ?_
   refine oD ?_
   exact rI O (congrArg Bt (aUh (l:=l) (i:=i) (List.getElem?_eq_getElem (by omega)) (decide_eq_true hc17) hp).symm)
  refine mQ ?_
  refine iE ?_
  refine xG ?_
  refine lC O ?_
  refine lB O O (iW (n:=i+1) (by omega) (by omega)) ?_
  refine R0 2 O ?_
  exact nN (by omega) ⟨i+1,LI.m [] O,rfl,by omega,aU0 hp (List.getElem?_eq_getElem (by omega)) (decide_eq_false hc17)⟩
 refine eE ?_
 refine oC ?_
 refine iE ?_
 refine R5 4 O ?_
 refine xT ?_
 exact rI O (congrArg Bt (aUZ (l:=l) (i:=i) (by omega) hp).symm)
theorem Qd {k:Nat} (hk:1≤k) {z:fR} {v:AV} {l:List rS} {s:ByteArray} (hx:SZ 6 yM z v l):FC (E k) 99 [v,.c (Cs s)] z fun u _=>u=Bt (N7 l s):=by
 have hxl:=hx.le
 refine iI (bEU) (by omega) (dN O) fun B j hj=>?_
 refine R5 32 O ?_
 refine dE (bQ ?_)
 refine eT (fun n fs=>∃ (i:Nat),LI z [] [(0,v),(1,.c (Cs s)),(5,Az i)] fs∧n=l.length - i∧(i≤l.length)∧(∀ q,q<i→∀ b,l[q]? = some b→decide (b.name=s)=false)) ?_ _ ⟨0,LI.m [] O,rfl,Nat.zero_le _,fun q hq=>absurd hq (Nat.not_lt_zero _)⟩ (kK (by omega))
 intro n fs ⟨i,hL0,hmz0,hi,hp⟩
 refine hL0.open fun e zl0 _=>?_
 refine R4 24 O ?_
 refine cX O hx ?_
 refine R3 4 O ?_
 refine xD O (fun hc9=>?_) (fun hc9=>?_)
 ·refine dX ?_
  refine dE (bQ ?_)
  refine R4 10 O ?_
  refine eA (zz:=zl0) O O hx.m i O _ (List.getElem?_eq_getElem (by omega)) fun b14 p14 cs at14 hR=>?_
  obtain ⟨c0,c1,hcs,q0,q1⟩:=hR
  subst hcs
  refine lF O ?_
  refine tG (off:=0) O at14 O (by simp) O ?_
  refine lC O ?_
  refine lB O O (Wl _ _) ?_
  refine lN ?_
  refine xD O (fun hc18=>?_) (fun hc18=>?_)
  ·refine R5 8 O ?_
   refine xT ?_
   refine oD ?_
   refine Ou ?_
   refine oD ?_
   exact rI O (congrArg Bt (aUh (l:=l) (i:=i) (List.getElem?_eq_getElem (by omega)) (decide_eq_true hc18) hp).symm)
  refine mQ ?_
  refine iE ?_
  refine xG ?_
  refine lC O ?_
  refine lB O O (iW (n:=i+1) (by omega) (by omega)) ?_
  refine R0 2 O ?_
  exact nN (by omega) ⟨i+1,LI.m [] O,rfl,by omega,aU0 hp (List.getElem?_eq_getElem (by omega)) (decide_eq_false hc18)⟩
 refine eE ?_
 refine oC ?_
 refine iE ?_
 refine R5 4 O ?_
 refine xT ?_
 exact rI O (congrArg Bt (aUZ (l:=l) (i:=i) (by omega) hp).symm)
theorem aTU {k:Nat} (hk:1≤k) {z:fR} {k0 c:Int} {g:Bool}:FC (E k) 183 [.c (Cu k0),Ab g,.c (Cu c)] z fun u _=>u=Ab (decide (c∈uT k0 g)):=by
 refine iI (bBg) (by omega) (dN O) fun B j hj=>?_
 refine R5 4 O ?_
 refine dE (bQ ?_)
 refine R4 16 O ?_
 refine iO 10 O (fun hg10=>?_) (fun hg10=>?_)
 ·refine R2 264 O ?_
  refine nV 15 O (fun hg15=>?_) (fun hg15=>?_)
  ·refine R1 24 O ?_
   refine iO 19 O (fun hg19=>?_) (fun hg19=>?_)
   ·refine R0 25165824 O ?_
    refine xT ?_
    refine oD ?_
    exact rI O (cQ (by simp_all [uT]))
   refine R1 8 O ?_
   refine nV 22 O (fun hg22=>?_) (fun hg22=>?_)
   ·refine R1 8 O ?_
    refine iO 25 O (fun hg25=>?_) (fun hg25=>?_)
    ·refine R0 395400 O ?_
     refine xT ?_
     refine oD ?_
     exact rI O (cQ (by simp_all [uT]))
    refine R1 24 O ?_
    refine iO 29 O (fun hg29=>?_) (fun hg29=>?_)
    ·refine R0 24712 O ?_
     refine xT ?_
     refine oD ?_
     exact rI O (cQ (by simp_all [uT]))
    refine R1 24 O ?_
    refine iO 33 O (fun hg33=>?_) (fun hg33=>?_)
    ·refine R0 1544 O ?_
     refine xT ?_
     refine oD ?_
     exact rI O (cQ (by simp_all [uT]))
    refine R1 24 O ?_
    refine iO 37 O (fun hg37=>?_) (fun hg37=>?_)
    ·refine R0 96 O ?_
     refine xT ?_
     refine oD ?_
     exact rI O (cQ (by simp_all [uT]))
    refine R0 96 O ?_
    refine xT ?_
    refine oD ?_
    exact rI O (cQ (by simp_all [uT]))
   refine R0 3145728 O ?_
   refine xT ?_
   refine oD ?_
   exact rI O (cQ (by simp_all [uT]))
  refine R1 136 O ?_
  refine nV 22 O (fun hg22=>?_) (fun hg22=>?_)
  ·refine R1 8 O ?_
   refine iO 25 O (fun hg25=>?_) (fun hg25=>?_)
   ·refine R0 395400 O ?_
    refine xT ?_
    refine oD ?_
    exact rI O (cQ (by simp_all [uT]))
   refine R1 24 O ?_
   refine iO 29 O (fun hg29=>?_) (fun hg29=>?_)
   ·refine R0 24712 O ?_
    refine xT ?_
    refine oD ?_
    exact rI O (cQ (by simp_all [uT]))
   refine R1 24 O ?_
   refine iO 33 O (fun hg33=>?_) (fun hg33=>?_)
   ·refine R0 1544 O ?_
    refine xT ?_
    refine oD ?_
    exact rI O (cQ (by simp_all [uT]))
   refine R1 24 O ?_
   refine iO 37 O (fun hg37=>?_) (fun hg37=>?_)
   ·refine R0 96 O ?_
    refine xT ?_
    refine oD ?_
    exact rI O (cQ (by simp_all [uT]))
   refine R0 96 O ?_
   refine xT ?_
   refine oD ?_
   exact rI O (cQ (by simp_all [uT]))
  refine R0 3145728 O ?_
  refine xT ?_
  refine oD ?_
  exact rI O (cQ (by simp_all [uT]))
 refine R0 24 O ?_
 refine xD O (fun hc7=>?_) (fun hc7=>?_)
 ·refine R4 8 O ?_
  refine nV 15 O (fun hg15=>?_) (fun hg15=>?_)
  ·refine R1 24 O ?_
   refine iO 19 O (fun hg19=>?_) (fun hg19=>?_)
   ·refine R0 25165824 O ?_
    refine xT ?_
    refine oD ?_
    exact rI O (cQ (by simp_all [uT]))
   refine R1 8 O ?_
   refine nV 22 O (fun hg22=>?_) (fun hg22=>?_)
   ·refine R1 8 O ?_
    refine iO 25 O (fun hg25=>?_) (fun hg25=>?_)
    ·refine R0 395400 O ?_
     refine xT ?_
     refine oD ?_
     exact rI O (cQ (by simp_all [uT]))
    refine R1 24 O ?_
    refine iO 29 O (fun hg29=>?_) (fun hg29=>?_)
    ·refine R0 24712 O ?_
     refine xT ?_
     refine oD ?_
     exact rI O (cQ (by simp_all [uT]))
    refine R1 24 O ?_
    refine iO 33 O (fun hg33=>?_) (fun hg33=>?_)
    ·refine R0 1544 O ?_
     refine xT ?_
     refine oD ?_
     exact rI O (cQ (by simp_all [uT]))
    refine R1 24 O ?_
    refine iO 37 O (fun hg37=>?_) (fun hg37=>?_)
    ·refine R0 96 O ?_
     refine xT ?_
     refine oD ?_
     exact rI O (cQ (by simp_all [uT]))
    refine R0 96 O ?_
    refine xT ?_
    refine oD ?_
    exact rI O (cQ (by simp_all [uT]))
   refine R0 3145728 O ?_
   refine xT ?_
   refine oD ?_
   exact rI O (cQ (by simp_all [uT]))
  refine R1 136 O ?_
  refine nV 22 O (fun hg22=>?_) (fun hg22=>?_)
  ·refine R1 8 O ?_
   refine iO 25 O (fun hg25=>?_) (fun hg25=>?_)
   ·refine R0 395400 O ?_
    refine xT ?_
    refine oD ?_
    exact rI O (cQ (by simp_all [uT]))
   refine R1 24 O ?_
   refine iO 29 O (fun hg29=>?_) (fun hg29=>?_)
   ·refine R0 24712 O ?_
    refine xT ?_
    refine oD ?_
    exact rI O (cQ (by simp_all [uT]))
   refine R1 24 O ?_
   refine iO 33 O (fun hg33=>?_) (fun hg33=>?_)
   ·refine R0 1544 O ?_
    refine xT ?_
    refine oD ?_
    exact rI O (cQ (by simp_all [uT]))
   refine R1 24 O ?_
   refine iO 37 O (fun hg37=>?_) (fun hg37=>?_)
   ·refine R0 96 O ?_
    refine xT ?_
    refine oD ?_
    exact rI O (cQ (by simp_all [uT]))
   refine R0 96 O ?_
   refine xT ?_
   refine oD ?_
   exact rI O (cQ (by simp_all [uT]))
  refine R0 3145728 O ?_
  refine xT ?_
  refine oD ?_
  exact rI O (cQ (by simp_all [uT]))
 refine R5 16 O ?_
 refine xD O (fun hc43=>?_) (fun hc43=>?_)
 ·refine R4 8 O ?_
  refine nV 47 O (fun hg47=>?_) (fun hg47=>?_)
  ·refine R1 24 O ?_
   refine iO 51 O (fun hg51=>?_) (fun hg51=>?_)
   ·refine R0 384 O ?_
    refine xT ?_
    refine oD ?_
    exact rI O (cQ (by simp_all [uT]))
   refine R1 8 O ?_
   refine nV 54 O (fun hg54=>?_) (fun hg54=>?_)
   ·refine R0 48 O ?_
    refine xT ?_
    refine oD ?_
    exact rI O (cQ (by simp_all [uT]))
   refine R0 48 O ?_
   refine xT ?_
   refine oD ?_
   exact rI O (cQ (by simp_all [uT]))
  refine R1 136 O ?_
  refine nV 54 O (fun hg54=>?_) (fun hg54=>?_)
  ·refine R0 48 O ?_
   refine xT ?_
   refine oD ?_
   exact rI O (cQ (by simp_all [uT]))
  refine R0 48 O ?_
  refine xT ?_
  refine oD ?_
  exact rI O (cQ (by simp_all [uT]))
 refine R5 16 O ?_
 refine xD O (fun hc59=>?_) (fun hc59=>?_)
 ·refine R4 8 O ?_
  refine nV 63 O (fun hg63=>?_) (fun hg63=>?_)
  ·refine R1 24 O ?_
   refine iO 67 O (fun hg67=>?_) (fun hg67=>?_)
   ·refine R0 384 O ?_
    refine xT ?_
    refine oD ?_
    exact rI O (cQ (by simp_all [uT]))
   refine R1 8 O ?_
   refine nV 70 O (fun hg70=>?_) (fun hg70=>?_)
   ·refine R0 48 O ?_
    refine xT ?_
    refine oD ?_
    exact rI O (cQ (by simp_all [uT]))
   refine R0 48 O ?_
   refine xT ?_
   refine oD ?_
   exact rI O (cQ (by simp_all [uT]))
  refine R1 136 O ?_
  refine nV 70 O (fun hg70=>?_) (fun hg70=>?_)
  ·refine R0 48 O ?_
   refine xT ?_
   refine oD ?_
   exact rI O (cQ (by simp_all [uT]))
  refine R0 48 O ?_
  refine xT ?_
  refine oD ?_
  exact rI O (cQ (by simp_all [uT]))
 refine mQ ?_
 refine iE ?_
 refine R5 4 O ?_
 refine xT ?_
 exact rI O (cQ (by simp_all [uT]))
open Go.CE Go.RowKit Go.Num
open Go.Eng (mR)
section
variable {nl:List ByteArray} {cl:List rS} {x:mG} {i:Nat} {a:rS}
theorem aKP (h:Ff nl x.payee<0):false=Bi nl cl x:=by
 have h:¬ 0≤Ff nl x.payee:=Int.not_le.2 h
 simp [Bi,h]
theorem aJo (h:Ff nl x.payer<0):false=Bi nl cl x:=by
 have h:¬ 0≤Ff nl x.payer:=Int.not_le.2 h
 simp [Bi,h]
theorem aI4 (h:x.payee=x.payer):false=Bi nl cl x:=by simp [Bi,h]
theorem aHG (h:N7 cl x.cls<0):false=Bi nl cl x:=by
 have h:¬ 0≤N7 cl x.cls:=Int.not_le.2 h
 simp [Bi,h]
theorem aI8 (h1:¬ Ff nl x.payee<0) (h2:¬ Ff nl x.payer<0) (h3:¬ x.payee=x.payer) (h4:N7 cl x.cls=(i:Int)) (ha:cl[i]? = some a) (h5:a.kind∈uT x.kind x.give):decide ((On x).num.sign > 0)=Bi nl cl x:=by
 have h1:=Int.not_lt.1 h1
 have h2:=Int.not_lt.1 h2
 simp [Bi,h1,h2,h3,h4,ha,h5]
theorem aJc (h1:¬ Ff nl x.payee<0) (h2:¬ Ff nl x.payer<0) (h3:¬ x.payee=x.payer) (h4:N7 cl x.cls=(i:Int)) (ha:cl[i]? = some a) (h5:¬ a.kind∈uT x.kind x.give):false=Bi nl cl x:=by
 have h1:=Int.not_lt.1 h1
 have h2:=Int.not_lt.1 h2
 simp [Bi,h1,h2,h3,h4,ha,h5]
end
theorem bRa (a b:Bool):Go.Eng.binBV .neq (.bool a) (.bool b)=some (.bool (!(a == b))):=by cases a<;>cases b<;>rfl
theorem aSX {k:Nat} (hk:1≤k) {z:fR} {v:AV} {dl:List mG} {n0:Nat} {d:mG} (hx:SZ 10 aA0 z v dl) (hd:dl[n0]? = some d):FC (E k) 94 [v,Az n0] z fun u _=>u=Bt (aFS (N8 d.id n0 dl)):=by
 have hxl:=hx.le
 refine iI (bEO) (by omega) (dN O) fun B j hj=>?_
 refine R5 128 O ?_
 refine dE (bQ ?_)
 refine eT (fun n fs=>∃ (i:Nat) (o:Int),LI z [] [(0,v),(1,Az n0),(5,Ai o),(6,Az i)] fs∧n=dl.length - i∧(i≤dl.length)∧(o=aFS (N8 d.id n0 (dl.take i)))∧((N8 d.id n0 (dl.take i)).length≤1)) ?_ _ ⟨0,-1,LI.m [] O,rfl,Nat.zero_le _,rfl,Nat.zero_le _⟩ (kK (by omega))
 intro n fs ⟨i,o,hL0,hmz0,hi,ho,hol⟩
 refine hL0.open fun e zl0 _=>?_
 refine R4 24 O ?_
 refine cX O hx ?_
 refine R3 4 O ?_
 refine xD O (fun hc10=>?_) (fun hc10=>?_)
 ·refine dX ?_
  refine dE (bQ ?_)
  refine Z6 ?_
  refine jF ?_
  obtain ⟨a,ha⟩:=vB (l:=dl) (i:=i) (by omega)
  refine G1 16 O ?_
  refine C9 16 O (fun hg16=>?_) (fun hg16=>?_)
  ·refine G0 4096 O ?_
   refine R5 4 O ?_
   refine eE ?_
   refine iE ?_
   refine xG ?_
   refine lC O ?_
   refine lB O O (iW (n:=i+1) (by omega) (by omega)) ?_
   refine R0 2 O ?_
   exact nN (by omega) ⟨i+1,o,LI.m [] O,rfl,by omega,by rw [aU2 ha (fun h=>h.2 (Int.ofNat.inj hg16))];exact ho,by rw [aU2 ha (fun h=>h.2 (Int.ofNat.inj hg16))];exact hol⟩
  refine G1 5 O ?_
  refine gP O O O ?_
  refine eA O O hx i O a ha fun b19 p19 cs at19 hR=>lN ?_
  obtain ⟨r0c,r1c,hcs,r0,r1⟩:=hR
  subst hcs
  refine G1 2 O ?_
  refine mU (i:=⟨_,_,.load _ _ _⟩) (off:=1) O O O O at19 ti O (by simp) O sR ?_
  refine G1 5 O ?_
  refine gP O O O ?_
  refine eA O O hx n0 O d hd fun b24 p24 cs at24 hR=>lN ?_
  obtain ⟨s0c,s1c,hcs,s0,s1⟩:=hR
  subst hcs
  refine G1 2 O ?_
  refine mU (i:=⟨_,_,.load _ _ _⟩) (off:=1) O O O O at24 ti O (by simp) O sR ?_
  refine gP O O O ?_
  refine lB O O (aW8 _ _) (lN ?_)
  refine G0 2 O ?_
  refine Ez ?_
  refine Ae O (fun hc28=>?_) (fun hc28=>?_)
  ·refine eE ?_
   refine iE ?_
   refine xG ?_
   refine lC O ?_
   refine lB O O (iW (n:=i+1) (by omega) (by omega)) ?_
   refine R0 2 O ?_
   exact nN (by omega) ⟨i+1,o,LI.m [] O,rfl,by omega,by rw [aU2 ha (fun h=>hc28 h.1.symm)];exact ho,by rw [aU2 ha (fun h=>hc28 h.1.symm)];exact hol⟩
  refine R5 64 O ?_
  refine xD O (fun hc30=>?_) (fun hc30=>?_)
  ·refine R5 8 O ?_
   refine mC ?_
   refine oD ?_
   refine Ou ?_
   refine oD ?_
   exact rI O (congrArg Bt (bJg ha (by omega) hc28.symm (fun e=>hg16 (congrArg Int.ofNat e))).symm)
  refine dX ?_
  refine xG ?_
  refine R0 4 O ?_
  refine iE ?_
  refine xG ?_
  refine lC O ?_
  refine lB O O (iW (n:=i+1) (by omega) (by omega)) ?_
  refine R0 2 O ?_
  exact nN (by omega) ⟨i+1,_,LI.m [] O,rfl,by omega,by rw [aYj ha (by omega) hol hc28.symm (fun e=>hg16 (congrArg Int.ofNat e))];rfl,by rw [aYj ha (by omega) hol hc28.symm (fun e=>hg16 (congrArg Int.ofNat e))];exact Nat.le_refl _⟩
 refine eE ?_
 refine oC ?_
 refine iE ?_
 refine R5 8 O ?_
 refine xT ?_
 exact rI O (congrArg Bt (by rw [ho,List.take_of_length_le (by omega)]))
theorem aUx {k:Nat} (hk:9≤k) {z:fR} {x:uV} {c0 c1 c2 c3 c4 c5 c6 c7 c8 c9 c10 c11:C} (g0:CZ 8 vF z c0 x.brackets) (g1:CZ 1 RW z c1 x.threshold.nm) (g2:CZ 1 RW z c2 x.threshold.dm) (g3:CZ 1 RW z c3 x.cap.nm) (g4:CZ 1 RW z c4 x.cap.dm) (g5:CZ 1 RW z c5 x.interest.nm) (g6:CZ 1 RW z c6 x.interest.dm) (g7:CZ 1 RW z c7 x.floor.nm) (g8:CZ 1 RW z c8 x.floor.dm) (g9:CZ 6 yM z c9 x.classes) (g10:CZ 1 RS z c10 x.entities) (g11:CZ 6 Ib z c11 x.years) (hb:x.entities.length≤1000) {y:mG} {cy0 cy1:C} (gy0:CZ 1 RW z cy0 y.amount.nm) (gy1:CZ 1 RW z cy1 y.amount.dm) (hS:Sm y.amount):FC (E k) 95 [.agg (kF x c0 c1 c2 c3 c4 c5 c6 c7 c8 c9 c10 c11),.agg [Cb y.give,Cs y.id,Cu y.kind,Cs y.payee,Cs y.payer,Cs y.cls,Cb y.amount.n,cy0,Cb y.amount.d,cy1]] z fun u _=>u=oO (Bi (pE x.entities) x.classes y):=by
 refine iI (bHA) (by omega) (dN O) fun B j hj=>?_
 refine xR ?_
 refine kN O fun b2=>?_
 refine kN O fun b3=>?_
 refine R2 4 O ?_
 refine J3 O Y1 O ?_
 refine lZ z (aDV (by omega) g0 g1 g2 g3 g4 g5 g6 g7 g8 g9 g10 g11 hb) O O fun v8 z8 _ ⟨c8,hv8,hm8⟩=>?_
 subst hv8
 refine R2 9 O ?_
 refine dH O Y1 O ?_
 refine lF O ?_
 refine dH O mem0 O ?_
 refine lE z8 (Qd (by omega) g9.m) O O fun z13 _=>?_
 refine R2 41 O ?_
 refine dH O mem0 O ?_
 refine lE z13 (Jl (by omega) hm8.m) O O fun z17 _=>?_
 refine R1 4 O ?_
 refine iO 19 O (fun hg19=>?_) (fun hg19=>?_)
 ·refine R3 4202560 O ?_
  refine mC ?_
  refine rI O ?_
  first | exact congrArg oO (aKP hg19) | exact congrArg oO (aJo hg26) | exact congrArg oO (aI4 hg33) | exact congrArg oO (aHG hc36) | exact congrArg oO (aI8 hg19 hg26 hg33 hi44 ha44 hg48) | exact congrArg oO (aJc hg19 hg26 hg33 hi44 ha44 hg48)
 refine R1 5 O ?_
 refine lD O ?_
 refine dH O mem0 O ?_
 refine lD O ?_
 refine lE z17 (Jl (by omega) hm8.m) O O fun z23 _=>?_
 refine R1 12 O ?_
 refine iO 26 O (fun hg26=>?_) (fun hg26=>?_)
 ·refine R3 32832 O ?_
  refine mC ?_
  refine rI O ?_
  first | exact congrArg oO (aKP hg19) | exact congrArg oO (aJo hg26) | exact congrArg oO (aI4 hg33) | exact congrArg oO (aHG hc36) | exact congrArg oO (aI8 hg19 hg26 hg33 hi44 ha44 hg48) | exact congrArg oO (aJc hg19 hg26 hg33 hi44 ha44 hg48)
 refine lD O ?_
 refine lF O ?_
 refine lD O ?_
 refine dH O mem0 O ?_
 refine lD O ?_
 refine lF O ?_
 refine lD O ?_
 refine dH O mem0 O ?_
 refine lD O ?_
 refine lB O O (Wl _ _) ?_
 refine R1 6 O ?_
 refine iO 33 O (fun hg33=>?_) (fun hg33=>?_)
 ·refine R3 256 O ?_
  refine mC ?_
  refine rI O ?_
  first | exact congrArg oO (aKP hg19) | exact congrArg oO (aJo hg26) | exact congrArg oO (aI4 hg33) | exact congrArg oO (aHG hc36) | exact congrArg oO (aI8 hg19 hg26 hg33 hi44 ha44 hg48) | exact congrArg oO (aJc hg19 hg26 hg33 hi44 ha44 hg48)
 refine R3 17 O ?_
 refine xD O (fun hc36=>?_) (fun hc36=>?_)
 ·refine R5 8 O ?_
  refine mC ?_
  refine rI O ?_
  first | exact congrArg oO (aKP hg19) | exact congrArg oO (aJo hg26) | exact congrArg oO (aI4 hg33) | exact congrArg oO (aHG hc36) | exact congrArg oO (aI8 hg19 hg26 hg33 hi44 ha44 hg48) | exact congrArg oO (aJc hg19 hg26 hg33 hi44 ha44 hg48)
 refine dX ?_
 refine jF ?_
 refine G1 2 O ?_
 refine wM O O Ht O ?_
 refine G1 2 O ?_
 refine wM O O Ht O ?_
 refine G1 2 O ?_
 refine wM O O (.inr Y1) O ?_
 refine G1 3 O ?_
 obtain ⟨i44,a44,hi44,ha44,hp44⟩:=aZt (Int.not_lt.1 hc36)
 refine gP O O F ?_
 refine eA O O g9 i44 hi44 a44 ha44 fun b44 p44 cs at44 hR=>lN ?_
 obtain ⟨c44,d44,hcs,q44,r44⟩:=hR
 subst hcs
 refine G1 2 O ?_
 refine mU (i:=⟨_,_,.load _ _ _⟩) (off:=1) O O F O at44 ti O (by simp) O sR ?_
 refine gE z23 (aTU (by omega)) O O O O fun z47 _=>?_
 refine G1 3 O ?_
 refine C9 48 O (fun hg48=>?_) (fun hg48=>?_)
 ·refine G1 2 O ?_
  refine gl4 O O Ht O ?_
  refine gE z47 (aGy (by omega) gy0.m gy1.m (by have:=hS.1;omega) (by have:=hS.2;omega)) O O O O fun z51 _=>?_
  refine G0 12 O ?_
  refine xT ?_
  refine rI O ?_
  first | exact congrArg oO (aKP hg19) | exact congrArg oO (aJo hg26) | exact congrArg oO (aI4 hg33) | exact congrArg oO (aHG hc36) | exact congrArg oO (aI8 hg19 hg26 hg33 hi44 ha44 hg48) | exact congrArg oO (aJc hg19 hg26 hg33 hi44 ha44 hg48)
 refine G0 96 O ?_
 refine xT ?_
 refine rI O ?_
 first | exact congrArg oO (aKP hg19) | exact congrArg oO (aJo hg26) | exact congrArg oO (aI4 hg33) | exact congrArg oO (aHG hc36) | exact congrArg oO (aI8 hg19 hg26 hg33 hi44 ha44 hg48) | exact congrArg oO (aJc hg19 hg26 hg33 hi44 ha44 hg48)
theorem aLW {k:Nat} (hk:13≤k) {z:fR} {x:mG} {c0 c1:C} (g0:CZ 1 RW z c0 x.amount.nm) (g1:CZ 1 RW z c1 x.amount.dm) (hS:Sm x.amount) {y:mG} {cy0 cy1:C} (gy0:CZ 1 RW z cy0 y.amount.nm) (gy1:CZ 1 RW z cy1 y.amount.dm) (hS2:Sm y.amount):FC (E k) 96 [.agg [Cb x.give,Cs x.id,Cu x.kind,Cs x.payee,Cs x.payer,Cs x.cls,Cb x.amount.n,c0,Cb x.amount.d,c1],.agg [Cb y.give,Cs y.id,Cu y.kind,Cs y.payee,Cs y.payer,Cs y.cls,Cb y.amount.n,cy0,Cb y.amount.d,cy1]] z fun u _=>u=oO (!Hj x y):=by
 refine iI (bFG) (by omega) (dN O) fun B j hj=>?_
 refine xR ?_
 refine kN O fun b2=>?_
 refine kN O fun b3=>?_
 refine R2 8 O ?_
 refine dH O Y1 O ?_
 refine lF O ?_
 refine dH O mem0 O ?_
 refine lB O O (Wl _ _) ?_
 refine lC O ?_
 refine iO 10 O (fun hg10=>?_) (fun hg10=>?_)
 ·refine lD O ?_
  refine lF O ?_
  refine lD O ?_
  refine dH O Y1 O ?_
  refine lD O ?_
  refine lF O ?_
  refine lD O ?_
  refine dH O mem0 O ?_
  refine R1 12 O ?_
  refine iO 17 O (fun hg17=>?_) (fun hg17=>?_)
  ·refine lD O ?_
   refine lF O ?_
   refine lD O ?_
   refine dH O Y1 O ?_
   refine lD O ?_
   refine lF O ?_
   refine lD O ?_
   refine dH O mem0 O ?_
   refine lD O ?_
   refine lB O O (Wl _ _) ?_
   refine R1 6 O ?_
   refine iO 24 O (fun hg24=>?_) (fun hg24=>?_)
   ·refine lD O ?_
    refine lF O ?_
    refine lD O ?_
    refine dH O Y1 O ?_
    refine lD O ?_
    refine lF O ?_
    refine lD O ?_
    refine dH O mem0 O ?_
    refine lD O ?_
    refine lB O O (Wl _ _) ?_
    refine R1 6 O ?_
    refine iO 31 O (fun hg31=>?_) (fun hg31=>?_)
    ·refine lD O ?_
     refine lF O ?_
     refine lD O ?_
     refine dH O Y1 O ?_
     refine lD O ?_
     refine lF O ?_
     refine lD O ?_
     refine dH O mem0 O ?_
     refine lD O ?_
     refine A8 O O (bRa _ _) ?_
     refine R1 6 O ?_
     refine aDb 38 O (fun hg38=>?_) (fun hg38=>?_)
     ·refine lD O ?_
      refine lF O ?_
      refine lD O ?_
      refine qZ O Y1 O ?_
      refine lD O ?_
      refine lF O ?_
      refine lD O ?_
      refine qZ O mem0 O ?_
      refine lD O ?_
      refine lE z (aF9 (by omega) g0 g1 (by have:=hS.1;omega) (by have:=hS.2;omega) gy0 gy1 (by have:=hS2.1;omega) (by have:=hS2.2;omega)) O O fun z43 _=>?_
      refine R0 6 O ?_
      refine xT ?_
      exact rI O (congrArg oO (by simp [*,Hj]))
     refine R0 192 O ?_
     refine xT ?_
     exact rI O (congrArg oO (by simp [*,Hj]))
    refine R0 24640 O ?_
    refine xT ?_
    exact rI O (congrArg oO (by simp [*,Hj]))
   refine R0 3153984 O ?_
   refine xT ?_
   exact rI O (congrArg oO (by simp [*,Hj]))
  refine R0 403710016 O ?_
  refine xT ?_
  exact rI O (congrArg oO (by simp [*,Hj]))
 refine R0 51674882112 O ?_
 refine xT ?_
 exact rI O (congrArg oO (by simp [*,Hj]))
open Go.CE Go.RowKit Go.Num
open Go.Eng (mR)
def kle (a b:PQ):Prop:=tx a.1.1.id≤tx b.1.1.id
theorem q10 {nl:List ByteArray} {cl:List rS} (t:PQ):(J6 nl cl t).length=10:=rfl
section
variable {L A B:List PQ} {t:PQ} {P:List (mG×mG)} {z:fR}
theorem bMy (hAB:A++B=L) (hs:L.Pairwise kle) (h1:A=[]∨∃ A' c,A=A'++[c]∧¬ tx t.1.1.id<tx c.1.1.id) (h2:∀ b,b∈B→kle t b):(A++t::B).Pairwise kle:=
 bG3 (le:=kle) (fun a b c=>List.le_trans) (by rw [hAB];exact hs) (h1.imp id fun ⟨A',c,e,h⟩=>⟨A',c,e,List.not_lt.1 h⟩) h2
theorem bMK (hAB:A++B=L) (hp:(L.map (·.1)).Perm P):((A++t::B).map (·.1)).Perm (P++[t.1]):=by
 subst hAB
 have h:(A++t::B).Perm ((A++B)++[t]):=List.perm_middle.trans (List.perm_append_singleton _ _).symm
 refine (h.map _).trans ?_
 rw [List.map_append]
 exact hp.append_right _
theorem bMv (hAB:A++B=L) (h:aL7 z L) (g:QOk z t):aL7 z (A++t::B):=fun a ha=>by
 subst hAB
 rcases List.mem_append.1 ha with ha | ha
 ·exact h a (List.mem_append_left _ ha)
 rcases List.mem_cons.1 ha with rfl | ha
 ·exact g
 exact h a (List.mem_append_right _ ha)
theorem bPz {c:PQ} (h:tx t.1.1.id<tx c.1.1.id) (hB:∀ b,b∈B→kle t b):∀ b,b∈c::B→kle t b:=fun b hb=>by
 rcases List.mem_cons.1 hb with rfl | hb
 ·exact List.le_of_lt h
 exact hB b hb
theorem bI9 (hp:(L.map (·.1)).Perm P) (hs:L.Pairwise kle) (hn:(P.map fun a=>tx a.1.id).Nodup):L.map (·.1)=aD8 P:=by
 rw [← bLq hp ((hp.map fun a=>tx a.1.id).nodup_iff.2 hn)]
 refine (List.mergeSort_of_pairwise (le:=leP) ?_).symm
 rw [List.pairwise_map]
 refine List.Pairwise.imp (R:=kle) (fun h=>?_) hs
 exact decide_eq_true h
end
theorem aSW {k:Nat} (hk:14≤k) {z:fR} {x:uV} {c0 c1 c2 c3 c4 c5 c6 c7 c8 c9 c10 c11:C} (g0:CZ 8 vF z c0 x.brackets) (g1:CZ 1 RW z c1 x.threshold.nm) (g2:CZ 1 RW z c2 x.threshold.dm) (g3:CZ 1 RW z c3 x.cap.nm) (g4:CZ 1 RW z c4 x.cap.dm) (g5:CZ 1 RW z c5 x.interest.nm) (g6:CZ 1 RW z c6 x.interest.dm) (g7:CZ 1 RW z c7 x.floor.nm) (g8:CZ 1 RW z c8 x.floor.dm) (g9:CZ 6 yM z c9 x.classes) (g10:CZ 1 RS z c10 x.entities) (g11:CZ 6 Ib z c11 x.years) {yr:Int} (hS:SmF x) (hy1 : -9223372036854775808≤yr) (hy2:yr<9223372036854775808):FC (E k) 44 [.agg (kF x c0 c1 c2 c3 c4 c5 c6 c7 c8 c9 c10 c11),Ai yr] z fun v z'=>(¬ (0≤yr∧yr<(x.years.length:Int))∧v=.tup [qY,Bt 0,Bt 2])∨∃ yy,x.years[yr.toNat]? = some yy∧(0≤yr∧yr<(x.years.length:Int))∧bDL (pE x.entities) x.classes yy.deals z' v:=by
 refine iI (bDX) (by omega) (dN O) fun B j hj=>?_
 refine xR ?_
 refine kN O fun b2=>?_
 refine R2 256 O ?_
 refine iO 15 O (fun hg15=>?_) (fun hg15=>?_)
 ·refine R3 8192 O ?_
  refine mC ?_
  refine rQ (.inl O) (rt O (rt O (rt O rn))) ?_
  exact .inl ⟨by omega,rfl⟩
 refine R1 4 O ?_
 refine lD O ?_
 refine dH O mem0 O ?_
 refine lD O ?_
 refine cX O g11 ?_
 refine R3 8 O ?_
 refine xD O (fun hc21=>?_) (fun hc21=>?_)
 ·refine R5 32 O ?_
  refine mC ?_
  refine rQ (.inl O) (rt O (rt O (rt O rn))) ?_
  exact .inl ⟨by omega,rfl⟩
 refine R4 8 O ?_
 refine dH O mem0 O ?_
 refine lC O ?_
 obtain ⟨yy,hyy⟩:=vB (l:=x.years) (i:=yr.toNat) (by omega)
 have hSy:=hS.y yy (List.mem_of_getElem? hyy)
 have hdl:=hSy.l2
 have hb27:x.entities.length≤1000:=by have:=hS.l2;omega
 refine eA O O g11 yr.toNat (by omega) yy hyy fun b25 p25 cs at25 hR=>?_
 obtain ⟨y0,y1,y2,y3,y4,hcs,q0,q1,q2,q3,q4⟩:=hR
 subst hcs
 refine lF O ?_
 refine tG (off:=3) (v:=.c y2) O at25 O (by simp) O ?_
 refine R2 8 O ?_
 refine uE 123 10 ?_
 refine lN ?_
 refine R5 8 O ?_
 refine dE (bQ ?_)
 refine eT (fun n fs=>∃ (i:Nat) (L:List PQ) (u8:AV) (nL:Nat) (zz:fR),LZ z zz [.row u8 123 10 nL (L.flatMap (J6 (pE x.entities) x.classes)),.blk b2 (.cells 106 (kF x c0 c1 c2 c3 c4 c5 c6 c7 c8 c9 c10 c11))] [(2,Ap b2),(7,.c y2),(8,u8),(9,Az i)] fs∧n=yy.deals.length - i∧(i≤yy.deals.length)∧(∀ q,q<i→aAu (pE x.entities) x.classes yy.deals q=false)∧((L.map (·.1)).Perm (Ls yy.deals i))∧(L.Pairwise kle)∧(aL7 zz L)∧(L.length≤i)∧(nL=L.length)) ?_ _ ⟨0,[],qY,0,_,LZ.m [] O,rfl,Nat.zero_le _,fun q hq=>absurd hq (Nat.not_lt_zero _),List.Perm.refl _,List.Pairwise.nil,fun t ht=>absurd ht List.not_mem_nil,Nat.le_refl _,rfl⟩ (kK (by omega))
 intro n fs ⟨i,L,u8,nL,zz,hL0,hmz0,hi,hnb,hLp,hLs,hLq,hLl,hnL⟩
 refine hL0.open fun e _=>?_
 refine R4 16 O ?_
 refine cX O q2 ?_
 refine R3 4 O ?_
 refine xD O (fun hc31=>?_) (fun hc31=>?_)
 ·refine dX ?_
  refine dE (bQ ?_)
  refine xR ?_
  obtain ⟨d1,hd1⟩:=vB (l:=yy.deals) (i:=i) (by omega)
  have hsm:=hSy.r2 d1 (List.mem_of_getElem? hd1)
  refine R1 4 O ?_
  refine lE zz (aSX (by omega) q2.m hd1) O O fun z36 _=>?_
  refine R3 5 O ?_
  refine jF ?_
  refine N3 (i:=⟨_,_,.load _ _ _⟩) O O F O (.inr Y1) O sR ?_
  refine G1 4 O ?_
  refine gP O O F ?_
  refine eA O O q2 i O d1 hd1 fun b40 p40 cs at40 hR=>lN ?_
  obtain ⟨e40xc,e40yc,hcs,e40x,e40y⟩:=hR
  subst hcs
  refine mU (i:=⟨_,_,.load _ _ _⟩) (off:=0) O O F O at40 ti O (by simp) O sR ?_
  refine gE z36 (aUx (by omega) g0.m g1.m g2.m g3.m g4.m g5.m g6.m g7.m g8.m g9.m g10.m g11.m hb27 e40x.m e40y.m hsm) O O O O fun z42 _=>?_
  refine G1 4 O ?_
  refine aDC 44 O (fun hg44=>?_) (fun hg44=>?_)
  ·refine G0 32776 O ?_
   refine R5 256 O ?_
   refine mC ?_
   refine oD ?_
   refine Ou ?_
   refine oD ?_
   refine rQ (.inl O) (rt O (rt O (rt O rn))) ?_
   exact .inr ⟨yy,hyy,by omega,.inl ⟨i,by omega,bMq hd1 (by simpa using hg44),hnb,rfl⟩⟩
  refine G1 25 O ?_
  refine C9 48 O (fun hg48=>?_) (fun hg48=>?_)
  ·refine G0 2048 O ?_
   refine R5 256 O ?_
   refine mC ?_
   refine oD ?_
   refine Ou ?_
   refine oD ?_
   refine rQ (.inl O) (rt O (rt O (rt O rn))) ?_
   exact .inr ⟨yy,hyy,by omega,.inl ⟨i,by omega,bNK hd1 hg48,hnb,rfl⟩⟩
  obtain ⟨kk,e1,p1,p2,hk1,he1,hpp,hkk,hkn,hkl⟩:=bLL hd1 (Int.not_lt.1 hg48)
  have hsm2:=hSy.r2 e1 (List.mem_of_getElem? he1)
  have hek:yy.deals[p1+p2 - i]? = some e1:=by rw [← hkk];exact he1
  refine G1 4 O ?_
  refine gP O O O ?_
  refine eA O O q2 i O d1 hd1 fun b51 p51 cs at51 hR=>lN ?_
  obtain ⟨e51xc,e51yc,hcs,e51x,e51y⟩:=hR
  subst hcs
  refine mU (i:=⟨_,_,.load _ _ _⟩) (off:=0) O O O O at51 ti O (by simp) O sR ?_
  refine G1 6 O ?_
  refine gP O O O ?_
  refine eA O O q2 kk hk1 e1 he1 fun b55 p55 cs at55 hR=>lN ?_
  obtain ⟨e55xc,e55yc,hcs,e55x,e55y⟩:=hR
  subst hcs
  refine mU (i:=⟨_,_,.load _ _ _⟩) (off:=0) O O O O at55 ti O (by simp) O sR ?_
  refine gE z42 (aLW (by omega) e51x.m e51y.m hsm e55x.m e55y.m hsm2) O O O O fun z57 _=>?_
  refine G0 4 O ?_
  refine Ez ?_
  refine kJ O (fun hc59=>?_) (fun hc59=>?_)
  ·refine R5 64 O ?_
   refine mC ?_
   refine oD ?_
   refine Ou ?_
   refine oD ?_
   refine rQ (.inl O) (rt O (rt O (rt O rn))) ?_
   exact .inr ⟨yy,hyy,by omega,.inl ⟨i,by omega,by rw [aYq hd1 hpp hek,show Hj d1 e1=true by simpa using hc59,Bool.or_true],hnb,rfl⟩⟩
  refine R4 32 O ?_
  refine eA O O q2 i O d1 hd1 fun b63 p63 cs at63 hR=>?_
  obtain ⟨s0c,s1c,hcs,s0,s1⟩:=hR
  subst hcs
  refine lF O ?_
  refine tG (off:=0) O at63.m O (by simp) O ?_
  refine R3 4 O ?_
  refine kJ O (fun hc66=>?_) (fun hc66=>?_)
  ·refine eE ?_
   refine iE ?_
   refine xG ?_
   refine lC O ?_
   refine lB O O (iW (n:=i+1) (by omega) (by omega)) ?_
   refine R0 2 O ?_
   exact nN (by omega) ⟨i+1,L,_,_,_,LZ.m [] O,rfl,by omega,aBL hnb (by rw [aYq hd1 hpp hek,hg44];simpa using hc59),by rw [aGx,aYA hd1 (by simpa using hc66)];simpa using hLp,hLs,hLq.m,by omega,hnL⟩
  refine R4 4 O ?_
  refine J3 O Y1 O ?_
  refine lZ z57 (aDV (by omega) g0.m g1.m g2.m g3.m g4.m g5.m g6.m g7.m g8.m g9.m g10.m g11.m hb27) O O fun v68 z68 _ ⟨c68,hv68,hm68⟩=>?_
  subst hv68
  refine R0 3 O ?_
  refine jF ?_
  refine G1 9 O ?_
  refine gP O O F ?_
  refine eA O O q2 i O d1 hd1 fun b72 p72 cs at72 hR=>lN ?_
  obtain ⟨e72xc,e72yc,hcs,e72x,e72y⟩:=hR
  subst hcs
  refine G1 2 O ?_
  refine mU (i:=⟨_,_,.load _ _ _⟩) (off:=1) O O F O at72 ti O (by simp) O sR ?_
  refine G1 4 O ?_
  refine gP O O F ?_
  refine eA O O q2 i O d1 hd1 fun b77 p77 cs at77 hR=>lN ?_
  obtain ⟨e77xc,e77yc,hcs,e77x,e77y⟩:=hR
  subst hcs
  refine G1 2 O ?_
  refine mU (i:=⟨_,_,.load _ _ _⟩) (off:=2) O O F O at77 ti O (by simp) O sR ?_
  refine G1 9 O ?_
  refine gP O O F ?_
  refine eA O O q2 i O d1 hd1 fun b83 p83 cs at83 hR=>lN ?_
  obtain ⟨e83xc,e83yc,hcs,e83x,e83y⟩:=hR
  subst hcs
  refine G1 2 O ?_
  refine mU (i:=⟨_,_,.load _ _ _⟩) (off:=3) O O F O at83 ti O (by simp) O sR ?_
  refine gE z68 (Jl (by omega) hm68) O O O O fun z86 _=>?_
  refine G1 9 O ?_
  refine gP O O F ?_
  refine eA O O q2 i O d1 hd1 fun b90 p90 cs at90 hR=>lN ?_
  obtain ⟨e90xc,e90yc,hcs,e90x,e90y⟩:=hR
  subst hcs
  refine G1 2 O ?_
  refine mU (i:=⟨_,_,.load _ _ _⟩) (off:=4) O O F O at90 ti O (by simp) O sR ?_
  refine gE z86 (Jl (by omega) hm68.m) O O O O fun z93 _=>?_
  refine G1 2 O ?_
  refine wM O O (.inr Y1) O ?_
  refine G1 4 O ?_
  refine gP O O F ?_
  refine eA O O q2 i O d1 hd1 fun b98 p98 cs at98 hR=>lN ?_
  obtain ⟨e98xc,e98yc,hcs,e98x,e98y⟩:=hR
  subst hcs
  refine G1 2 O ?_
  refine mU (i:=⟨_,_,.load _ _ _⟩) (off:=5) O O F O at98 ti O (by simp) O sR ?_
  refine gE z93 (Qd (by omega) g9.m) O O O O fun z101 _=>?_
  refine G1 2 O ?_
  refine wM O O (.inr Y1) O ?_
  refine G1 6 O ?_
  refine gP O O F ?_
  refine eA O O q2 kk hk1 e1 he1 fun b106 p106 cs at106 hR=>lN ?_
  obtain ⟨e106xc,e106yc,hcs,e106x,e106y⟩:=hR
  subst hcs
  refine G1 2 O ?_
  refine mU (i:=⟨_,_,.load _ _ _⟩) (off:=5) O O F O at106 ti O (by simp) O sR ?_
  refine gE z101 (Qd (by omega) g9.m) O O O O fun z109 _=>?_
  refine G1 4 O ?_
  refine gP O O F ?_
  refine eA O O q2 i O d1 hd1 fun b112 p112 cs at112 hR=>lN ?_
  obtain ⟨e112xc,e112yc,hcs,e112x,e112y⟩:=hR
  subst hcs
  refine G1 2 O ?_
  refine mU (i:=⟨_,_,.load _ _ _⟩) (off:=6) O O F O at112 ti O (by simp) O sR ?_
  refine gC z109 (Ey (by omega) e112x.m e112y.m (by have:=hsm.1;omega) (by have:=hsm.2;omega)) O O O O fun v115 z115 _ hv115=>?_
  have hw115:=V7 (hv115 _ e112x.m e112y.m kY)
  obtain ⟨c115,d115,hv,hm115,hn115⟩:=hw115
  subst hv
  refine gP O O F ?_
  refine pR (cs:=(Z9 (pE x.entities) x.classes d1 e1 c115 d115)) (by kernel_rfl) (lN ?_)
  refine xM (k:=.cells 123 (Z9 (pE x.entities) x.classes d1 e1 c115 d115)) (w:=fun b=>.c (.sl b 0 1 10)) rfl F rfl (fun _=>rfl) (fun st hst=>?_) (fun b117 hT117=>?_)
  ·simp only [eP,yB,AS.ev,hst 116 (by simp [mK.sl,Od.sls,Od.sl])];rfl
  refine D5 (i:=⟨_,_,.app _ _ _ _ _ _⟩) O F O O O O ?_
  refine rA (n:=nL) (m:=1) (cs:=L.flatMap (J6 (pE x.entities) x.classes)) O O mem0 O (fun _=>oH lR) (by omega) (by omega) fun c118 hc118=>lN ?_
  refine G0 2 O ?_
  refine xR ?_
  refine aZ5 (p:=[_]) (f:=(J6 (pE x.entities) x.classes)) (R:=L) (t:=((d1,e1),(c115,d115))) O ?_
  refine aUN (p:=[_]) O (by omega) fun bR hbR=>?_
  injection hbR with hbR
  subst hbR
  refine lC O ?_
  refine aEG O O ?_
  refine lB O O (wC (n:=nL) (by omega) (by omega)) ?_
  refine R0 2 O ?_
  refine bQ ?_
  refine eT (fun n fs=>∃ (A:List PQ) (B:List PQ) (ka:Nat),LI z115 [.blk bR (.cells 123 ((A++((d1,e1),(c115,d115))::B).flatMap (J6 (pE x.entities) x.classes))),.blk b2 (.cells 106 (kF x c0 c1 c2 c3 c4 c5 c6 c7 c8 c9 c10 c11))] [(2,Ap b2),(7,.c y2),(8,.c (.sl bR 0 (nL+1) 10)),(9,Az i),(12,Az ka)] fs∧n=ka∧(A++B=L)∧(ka=A.length)∧(∀ b,b∈B→kle ((d1,e1),(c115,d115)) b)) ?_ _ ⟨L,[],nL,LI.m [_] O,rfl,List.append_nil _,hnL,fun b hb=>absurd hb List.not_mem_nil⟩ (kK (by omega))
  intro n fs ⟨A,B,ka,hL1,hmz1,hAB,hka,hB⟩
  refine hL1.open fun e zl1 _=>?_
  refine Z6 ?_
  refine jF ?_
  have hkl2:A.length+B.length=L.length:=by
   have h:=congrArg List.length hAB
   rw [List.length_append] at h
   omega
  have hLn:(A++((d1,e1),(c115,d115))::B).length=nL+1:=by
   rw [List.length_append,List.length_cons];omega
  refine G1 8 O ?_
  refine C9 124 O (fun hg124=>?_) (fun hg124=>?_)
  ·obtain ⟨A1,a1,hA1,hl1⟩:=aZf (A:=A) (by omega)
   have hL1:A++((d1,e1),(c115,d115))::B=A1++a1::(((d1,e1),(c115,d115))::B):=by rw [hA1,List.append_assoc];rfl
   refine G1 4 O ?_
   refine gP O O O ?_
   refine lB O O (wC (n:=ka - 1) (by omega) (by omega)) (lN ?_)
   refine gP O O O ?_
   refine oP O O (ka - 1) (O) (by omega) (lN ?_)
   refine G1 2 O ?_
   refine aAN q10 A1 a1 (((d1,e1),(c115,d115))::B) hL1 0 (i:=⟨_,_,.load _ _ _⟩) O O O O (.inr mem0) (by omega) (by decide) O sR ?_
   refine G1 4 O ?_
   refine gP O O O ?_
   refine oP O O (ka) (O) (by omega) (lN ?_)
   refine G1 2 O ?_
   refine aAN q10 A ((d1,e1),(c115,d115)) (B) O 0 (i:=⟨_,_,.load _ _ _⟩) O O O O (.inr mem0) (by omega) (by decide) O sR ?_
   refine gP O O O ?_
   refine lB O O (bFw _ _) (lN ?_)
   refine G0 2 O ?_
   refine Ez ?_
   refine xD O (fun hc137=>?_) (fun hc137=>?_)
   ·refine dX ?_
    refine dE (bQ ?_)
    refine Ak ?_
    refine G1 4 O ?_
    refine gP O O F ?_
    refine lB O O (wC (n:=ka - 1) (by omega) (by omega)) (lN ?_)
    refine G1 16 O ?_
    refine gP O O F ?_
    refine oP O O (ka) (O) (by omega) (lN ?_)
    refine aAN q10 A ((d1,e1),(c115,d115)) (B) O 0 (i:=⟨_,_,.load _ _ _⟩) O O F O (.inr mem0) (by omega) (by decide) O sR ?_
    refine G1 4 O ?_
    refine gP O O F ?_
    refine lB O O (wC (n:=ka - 1) (by omega) (by omega)) (lN ?_)
    refine gP O O F ?_
    refine oP O O (ka - 1) (O) (by omega) (lN ?_)
    refine aAN q10 A1 a1 (((d1,e1),(c115,d115))::B) hL1 0 (i:=⟨_,_,.load _ _ _⟩) O O F O (.inr mem0) (by omega) (by decide) O sR ?_
    refine gP O O F ?_
    refine oP O O (ka - 1) (O) (by omega) (lN ?_)
    refine gS O O O ?_
    refine aSy O O O lR O (aZZ (q10 (nl:=(pE x.entities)) (cl:=x.classes)) (k:=ka - 1) (n:=nL+1) (by omega) (by omega) hLn) ?_
    refine lN ?_
    refine gP O O F ?_
    refine oP O O (ka) (O) (by omega) (lN ?_)
    refine gS O O O ?_
    refine vO (cs':=(A1++((d1,e1),(c115,d115))::a1::B).flatMap (J6 (pE x.entities) x.classes)) O O O lR (aVo q10 A1 a1 ((d1,e1),(c115,d115)) B hL1 O O (by omega) (by omega)) O (bHb (q10 (nl:=(pE x.entities)) (cl:=x.classes)) O (k1:=ka - 1) (k2:=ka) (n:=nL+1) (by omega) (by omega) (by omega) (by omega) hLn) ?_
    refine lN ?_
    refine nQ ?_
    refine iE ?_
    refine xG ?_
    refine lC O ?_
    refine lB O O (wC (n:=ka - 1) (by omega) (by omega)) ?_
    refine R0 2 O ?_
    exact nN (by omega) ⟨A1,a1::B,ka - 1,LI.m [] O,rfl,by rw [← hAB,hA1,List.append_assoc];rfl,by omega,bPz hc137 hB⟩
   refine eE ?_
   refine oC ?_
   refine iE ?_
   refine xG ?_
   refine Hw (p:=[]) (n:=nL+1) (size:=10) O (by rw [Wm q10,hLn]) ?_
   refine lC O ?_
   refine lB O O (iW (n:=i+1) (by omega) (by omega)) ?_
   refine R0 2 O ?_
   exact nN (by omega) ⟨i+1,A++((d1,e1),(c115,d115))::B,_,_,_,LZ.m [] O,rfl,by omega,aBL hnb (by rw [aYq hd1 hpp hek,hg44];simpa using hc59),by rw [aGx,aTV hd1 (by simpa using hc66) hpp hek];exact bMK hAB hLp,bMy hAB hLs (.inr ⟨A1,a1,hA1,hc137⟩) hB,bMv hAB hLq.m ⟨hm115.m,hn115.m⟩,by omega,hLn.symm⟩
  refine G0 8192 O ?_
  refine R5 4 O ?_
  refine eE ?_
  refine oC ?_
  refine iE ?_
  refine xG ?_
  refine Hw (p:=[]) (n:=nL+1) (size:=10) O (by rw [Wm q10,hLn]) ?_
  refine lC O ?_
  refine lB O O (iW (n:=i+1) (by omega) (by omega)) ?_
  refine R0 2 O ?_
  exact nN (by omega) ⟨i+1,A++((d1,e1),(c115,d115))::B,_,_,_,LZ.m [] O,rfl,by omega,aBL hnb (by rw [aYq hd1 hpp hek,hg44];simpa using hc59),by rw [aGx,aTV hd1 (by simpa using hc66) hpp hek];exact bMK hAB hLp,bMy hAB hLs (.inl (List.eq_nil_of_length_eq_zero (by omega))) hB,bMv hAB hLq.m ⟨hm115.m,hn115.m⟩,by omega,hLn.symm⟩
 refine eE ?_
 refine oC ?_
 refine iE ?_
 refine R5 38 O ?_
 refine Dp (p:=[]) O (aYm hLq) (by rw [List.length_map,hnL]) (by omega) fun zr _ hsr=>?_
 refine xT ?_
 refine rQ (.inl O) (rt O (rt O (rt O rn))) ?_
 obtain ⟨c,hc,_⟩:=SZ.one hsr
 subst hc
 have he:i=yy.deals.length:=by omega
 rw [bI9 hLp hLs (aVp (fun q hq=>hnb q (by omega)) i),he] at hsr
 exact .inr ⟨yy,hyy,by omega,.inr ⟨fun q hq=>hnb q (by omega),c,rfl,hsr⟩⟩
end Go.Proofs.YtlceligcgelbdaaGreat

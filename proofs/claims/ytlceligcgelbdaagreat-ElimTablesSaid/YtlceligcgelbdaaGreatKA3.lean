/- A reckoner for closed calls, part 3: ranges over functions and maps; the evaluator answers what the program does. -/
import Derived.WalkKit
import Derived.Orders
import Derived.Scope
import Derived.RangeFuncRecord
import Derived.Maps.RangeRun
import Derived.Test.YtlceligcgelbdaaGreatKA2
set_option linter.unusedVariables false
set_option linter.unusedSimpArgs false
namespace Go.CE
open Go.RowKit
open Go.Eng (Od aGs kJ)
abbrev Anc (an:List Nat) (j k:Nat):Prop:=(an.getD j 0).testBit k=true
section static
variable {ds:List D} {an:List Nat}
theorem aXe (h : okD ds an = true) {j : Nat} {d : D} (hd : ds[j]? = some d) : (d.af.all (fun k => Nat.blt k j) && Nat.beq (an.getD j 0) (bAK an d.af) && d.sl.all (bHF ds an j) && (match d.i.d with
    | some q=>bLR ds j q
    | none=>true))=true:=by
  have:=List.all_eq_true.1 h j (by simpa using (List.getElem?_eq_some_iff.1 hd).1)
  rw [hd] at this
  exact this
theorem bGJ (h:okD ds an=true) {j k:Nat} {d:D} (hd:ds[j]? = some d) (hk:k∈d.af):k<j:=by
 have:=aXe h hd
 simp only [Bool.and_eq_true] at this
 exact aSC (List.all_eq_true.1 this.1.1.1 k hk)
theorem bJX (h:okD ds an=true) {j:Nat} {d:D} (hd:ds[j]? = some d):an.getD j 0=bAK an d.af:=by
 have:=aXe h hd
 simp only [Bool.and_eq_true] at this
 exact Nat.eq_of_beq_eq_true this.1.1.2
theorem bAZ (h:okD ds an=true) {j k q:Nat} {d d':D} (hd:ds[j]? = some d) (hq:q∈d.sl) (hk:ds[k]? = some d') (hdk:d'.i.d=some q):Anc an j k∨Anc an k j:=by
 have:=aXe h hd
 simp only [Bool.and_eq_true] at this
 have h1:=List.all_eq_true.1 this.1.2 q hq
 have h2:=List.all_eq_true.1 h1 k (by simpa using (List.getElem?_eq_some_iff.1 hk).1)
 rw [hk] at h2
 simp only [hdk,Nat.beq_refl,Bool.not_true,Bool.false_or,Bool.or_eq_true] at h2
 exact h2
theorem bOd (h:okD ds an=true) {j k q:Nat} {d d':D} (hd:ds[j]? = some d) (hk:ds[k]? = some d') (hdj:d.i.d=some q) (hdk:d'.i.d=some q):j=k:=by
 have:=aXe h hd
 simp only [Bool.and_eq_true,hdj] at this
 have h2:=List.all_eq_true.1 this.2 k (by simpa using (List.getElem?_eq_some_iff.1 hk).1)
 rw [hk] at h2
 simp only [hdk,Nat.beq_refl,Bool.not_true,Bool.or_false] at h2
 exact (Nat.eq_of_beq_eq_true h2).symm
theorem bAg (h:okD ds an=true) {j k:Nat} {d:D} (hd:ds[j]? = some d) (ha:Anc an j k):∃ l∈d.af,k=l∨Anc an l k:=by
 unfold Anc at ha
 rw [bJX h hd] at ha
 rcases Go.Eng.ancOf_bit an k d.af 0 ha with h1 | ⟨l,hl,h1⟩
 ·simp at h1
 exact ⟨l,hl,h1.imp Eq.symm id⟩
theorem aWV (h:okD ds an=true):∀ {j k:Nat} {d:D},ds[j]? = some d→Anc an j k→k<j:=by
 intro j
 induction j using Nat.strongRecOn with
 | ind j ih =>
  intro k d hd ha
  obtain ⟨l,hl,h1⟩:=bAg h hd ha
  have hlj:=bGJ h hd hl
  rcases h1 with rfl | h1
  ·exact hlj
  have hlt:l<ds.length:=Nat.lt_trans hlj (List.getElem?_eq_some_iff.1 hd).1
  have:=ih l hlj (List.getElem?_eq_getElem hlt) h1
  omega
theorem bJ7 (h:okD ds an=true) (p:Nat→Prop) (hp:∀ (j:Nat) (d:D),ds[j]? = some d→p j→∀ (k:Nat),k∈d.af→p k):∀ (j:Nat) (d:D) (k:Nat),ds[j]? = some d→(∀ (k:Nat),k∈d.af→p k)→Anc an j k→p k:=by
 intro j
 induction j using Nat.strongRecOn with
 | ind j ih =>
  intro d k hd haf ha
  obtain ⟨l,hl,h1⟩:=bAg h hd ha
  rcases h1 with rfl | h1
  ·exact haf _ hl
  have hlj:=bGJ h hd hl
  have hlt:l<ds.length:=Nat.lt_trans hlj (List.getElem?_eq_some_iff.1 hd).1
  have hld:=List.getElem?_eq_getElem hlt
  exact ih l hlj _ k hld (hp l _ hld (haf l hl)) h1
end static
section nx
variable {e:Tr AV} {m:Tr mU} {n:Nat}
theorem aXK (n:Nat) (x:Od):AS.ev ⟨e,m,n⟩ x=AS.ev ⟨e,m,0⟩ x:=by cases x<;>rfl
theorem aYl (n:Nat):∀ (l:List (Nat×Nat×Od)) (cs:List C),V0 ⟨e,m,n⟩ cs l=V0 ⟨e,m,0⟩ cs l
 | [],_=>rfl
 | (a,b,x)::l,cs=>by simp only [V0,aXK n,aYl n l]
theorem aTy (n:Nat):∀ (l:List Od),I2 ⟨e,m,n⟩ l=I2 ⟨e,m,0⟩ l
 | []=>rfl
 | x::l=>by simp only [I2,aXK n,aTy n l]
theorem bM8 (n:Nat) (o:Option Od) (k:Nat):bnd ⟨e,m,n⟩ o k=bnd ⟨e,m,0⟩ o k:=by cases o<;>simp only [bnd,aXK n]
theorem bKY (n:Nat) (b o k:Nat):AS.read ⟨e,m,n⟩ b o k=AS.read ⟨e,m,0⟩ b o k:=rfl
theorem aY6 (i:lS) (n:Nat):bQ i ⟨e,m,n⟩=bQ i ⟨e,m,0⟩:=by
 cases i
 case len s x=>cases s<;>simp only [bQ,aXK n]
 all_goals first
  | rfl
  | simp only [bQ,aXK n,aYl n,aTy n,bM8 n,bKY n]
theorem aXp {i:I} {m':Tr mU} {n':Nat}:gOk i ⟨e,m,n⟩=gOk i ⟨e,m',n'⟩:=by
 unfold gOk
 cases i.g with
 | none=>rfl
 | some p=>rfl
end nx
def up {α:Type} (f:Nat→α) (j:Nat) (x:α):Nat→α:=fun k=>if k=j then x else f k
theorem rU {α:Type} (f:Nat→α) (j:Nat) (x:α):up f j x j=x:=by simp [up]
theorem mG {α:Type} (f:Nat→α) (j:Nat) (x:α) {k:Nat} (h:k≠j):up f j x k=f k:=by simp [up,h]
structure Dt where
 kind:Nat→Kd
 out:Nat→AV
 re:Nat→Tr AV
 lo:Nat→Nat
 hi:Nat→Nat
 mem:Nat→Tr mU
 pre:Nat→Tr mU
 tg:Nat→Nat
 m:Nat
def aA0 (tg:Nat→Nat) (mem:Nat→Tr mU):Nat→List (Nat×Tr mU)
 | 0=>[(tg 0,mem 0)]
 | i+1=>(tg (i+1),mem (i+1))::aA0 tg mem i
theorem aSO (tg:Nat→Nat) (mem:Nat→Tr mU) (i:Nat):∃ l,aA0 tg mem i=(tg i,mem i)::l:=by cases i<;>exact ⟨_,rfl⟩
theorem aYB {tg:Nat→Nat} {mem:Nat→Tr mU} {t:Nat} {x:Tr mU} {i0:Nat}:∀ i,i<i0→aA0 (up tg i0 t) (up mem i0 x) i=aA0 tg mem i
 | 0,h=>by simp only [aA0];rw [mG _ _ _ (by omega),mG _ _ _ (by omega)]
 | i+1,h=>by simp only [aA0];rw [mG _ _ _ (by omega),mG _ _ _ (by omega),aYB i (by omega)]
structure W (P:Program) (n:Nat) (rd:Option Nat) (Ys:List YC) (ds:List D) (an:List Nat) (st0:AS) (X:Dt) (j:Nat) (a:O9):Prop where
 e1:∀ (q:Nat) (v:AV),a.env.get q=some v→(∃ (k:Nat) (d:D),k<j∧ds[k]? = some d∧d.i.d=some q∧X.out k=v)∨((∀ (k:Nat) (d:D),k<j→ds[k]? = some d→d.i.d≠some q)∧st0.env.get q=some v)
 e2:∀ (k:Nat) (d:D) (q:Nat) (v:AV),k<j→ds[k]? = some d→(X.re k).get q=some v→q∈d.sl ∧
  ((∃ (k':Nat) (d':D),k'<k∧ds[k']? = some d'∧d'.i.d=some q∧X.out k'=v)∨((∀ (k':Nat) (d':D),k'<k→ds[k']? = some d'→d'.i.d≠some q)∧st0.env.get q=some v))
 n0:st0.nx≤a.nx
 n1:∀ k,k<j→st0.nx≤X.lo k∧X.lo k≤X.hi k∧X.hi k≤a.nx
 n2:∀ k k',k<k'→k'<j→X.hi k≤X.lo k'
 mem0:X.mem 0=st0.mem
 x1:∀ k i,k<j→X.kind k=.x i→i<X.m
 x2:∀ i,i<X.m→∃ k,k<j∧X.kind k=.x i
 x3:∀ k k' i i',k<k'→k'<j→X.kind k=.x i→X.kind k'=.x i'→i<i'
 x4:∀ k k' i i',k<k'→k'<j→X.kind k=.x i→X.kind k'=.x i'→∀ b,(b=k∨Anc an k b)→Anc an k' b
 la:∀ k i b,k<j→X.kind k=.x i→(b=k∨Anc an k b)→a.last.testBit b=true
 fP:∀ (k:Nat) (d:D),k<j→ds[k]? = some d→X.kind k=.p→X.lo k=X.hi k∧∀ Γ:Ho,GX P n rd Ys Γ→W3 Γ d.i ⟨X.re k,.nil,X.lo k⟩ ((⟨X.re k,.nil,X.hi k⟩:AS).putO d.i.d (X.out k))
 fL:∀ (k:Nat) (d:D),k<j→ds[k]? = some d→X.kind k=.l→X.lo k=X.hi k∧gOk d.i ⟨X.re k,.nil,0⟩=some true∧∀ c,c≤X.m→(∀ k' i,k'<j→X.kind k'=.x i→Anc an k k'→i<c)→(∀ k' i,k'<j→X.kind k'=.x i→Anc an k' k→c≤i) →
  bQ d.i.o ⟨X.re k,X.mem c,0⟩=some (X.out k)
 fA:∀ (k:Nat) (d:D) (t:Tr mU),k<j→ds[k]? = some d→X.kind k=.a t→∀ Γ:Ho,GX P n rd Ys Γ→W3 Γ d.i ⟨X.re k,.nil,X.lo k⟩ ((⟨X.re k,t,X.hi k⟩:AS).putO d.i.d (X.out k))
 fX:∀ (k:Nat) (d:D) (i:Nat),k<j→ds[k]? = some d→X.kind k=.x i→∀ Γ:Ho,GX P n rd Ys Γ→W3 Γ d.i ⟨X.re k,X.pre i,X.lo k⟩ ((⟨X.re k,X.mem (i+1),X.hi k⟩:AS).putO d.i.d (X.out k))
 pX:∀ (k i b:Nat) (kk:mU),k<j→X.kind k=.x i→(X.pre i).get b=some kk→(X.mem i).get b=some kk∨∃ (A:Nat) (t:Tr mU),A<j∧Anc an k A∧X.kind A=.a t∧t.get b=some kk∧∀ k' i',k'<j→X.kind k'=.x i'→i'<i→¬ Anc an k' A
 dm:Dom st0.mem st0.nx a.nx (X.mem X.m)
 ml:a.mems=aA0 X.tg X.mem X.m
 tg0:X.tg 0=0
 tgx:∀ k i,k<j→X.kind k=.x i→X.tg (i+1)=k+1
 p1:∀ (A b:Nat) (kk:mU),(A,b,kk)∈a.pend→A<j∧∃ t,X.kind A=.a t∧t.get b=some kk∧∀ k' i',k'<j→X.kind k'=.x i'→¬ Anc an k' A
 p2:∀ (A:Nat) (t:Tr mU) (b:Nat) (kk:mU),A<j→X.kind A=.a t→(∀ k' i',k'<j→X.kind k'=.x i'→¬ Anc an k' A)→t.get b=some kk→(A,b,kk)∈a.pend
 fl:∀ (l:Nat) (d:D),l<j→ds[l]? = some d→X.kind l=.l→(∀ k' i',k'<j→X.kind k'=.x i'→¬ Anc an k' l)→(l,d.i.o,X.re l,X.out l)∈a.fl
section
variable {P:Program} {n:Nat} {rd:Option Nat} {Ys:List YC} {ds:List D} {an:List Nat} {st0:AS} {X:Dt} {j:Nat} {a:O9}
theorem W.base (h:W P n rd Ys ds an st0 X j a) {d:D} (hd:ds[j]? = some d) (K:Kd) (v:AV) (nx':Nat) (hnx:a.nx≤nx') :
    (∀ (q:Nat) (u:AV),(O1 a.env d.i.d v).get q=some u→(∃ (k:Nat) (d:D),k<j+1∧ds[k]? = some d∧d.i.d=some q∧up X.out j v k=u)∨((∀ (k:Nat) (d:D),k<j+1→ds[k]? = some d→d.i.d≠some q)∧st0.env.get q=some u)) ∧
    (∀ (k : Nat) (d' : D) (q : Nat) (u : AV), k < j + 1 → ds[k]? = some d' → (up X.re j (mS a.env d.sl) k).get q = some u → q ∈ d'.sl ∧
      ((∃ (k':Nat) (d':D),k'<k∧ds[k']? = some d'∧d'.i.d=some q∧up X.out j v k'=u)∨((∀ (k':Nat) (d':D),k'<k→ds[k']? = some d'→d'.i.d≠some q)∧st0.env.get q=some u))) ∧
    (∀ k,k<j+1→st0.nx≤up X.lo j a.nx k∧up X.lo j a.nx k≤up X.hi j nx' k∧up X.hi j nx' k≤nx') ∧
    (∀ k k',k<k'→k'<j+1→up X.hi j nx' k≤up X.lo j a.nx k'):=by
  refine ⟨fun q u hq=>?_,fun k d' q u hk hd' hq=>?_,fun k hk=>?_,fun k k' hk hk'=>?_⟩
  · rcases bF8 hq with ⟨h1, rfl⟩ | ⟨h1, h2⟩
    · exact .inl ⟨j,d,Nat.lt_succ_self _,hd,h1,rU _ _ _⟩
    · rcases h.e1 q u h2 with ⟨k, d', g1, g2, g3, g4⟩ | ⟨g1, g2⟩
      · exact .inl ⟨k,d',by omega,g2,g3,by rw [mG _ _ _ (by omega)];exact g4⟩
      · refine .inr ⟨fun k d' hk hd'=>?_,g2⟩
        by_cases e:k=j
        · subst e;rw [hd] at hd';injection hd' with hd';subst hd';exact h1
        · exact g1 k d' (by omega) hd'
  · have hlift : ∀ k', k' < k → up X.out j v k' = X.out k' := fun k' h' => mG _ _ _ (by omega)
    by_cases e:k=j
    · subst e
      rw [hd] at hd';injection hd' with hd';subst hd'
      rw [rU] at hq
      obtain ⟨h1,h2⟩:=aTP hq
      refine ⟨h1,?_⟩
      rcases h.e1 q u h2 with ⟨k',d',g1,g2,g3,g4⟩ | ⟨g1,g2⟩
      · exact .inl ⟨k',d',g1,g2,g3,by rw [hlift k' g1];exact g4⟩
      · exact .inr ⟨g1,g2⟩
    · rw [mG _ _ _ e] at hq
      obtain ⟨h1,h2⟩:=h.e2 k d' q u (by omega) hd' hq
      refine ⟨h1,?_⟩
      rcases h2 with ⟨k',d2,g1,g2,g3,g4⟩ | h2
      · exact .inl ⟨k',d2,g1,g2,g3,by rw [hlift k' g1];exact g4⟩
      · exact .inr h2
  · by_cases e:k=j
    · subst e;rw [rU,rU];exact ⟨h.n0,hnx,Nat.le_refl _⟩
    · rw [mG _ _ _ e,mG _ _ _ e]
      have:=h.n1 k (by omega)
      exact ⟨this.1,this.2.1,Nat.le_trans this.2.2 hnx⟩
  · rw [mG _ _ _ (by omega : k ≠ j)]
    by_cases e:k'=j
    · subst e;rw [rU];exact (h.n1 k hk).2.2
    · rw [mG _ _ _ e];exact h.n2 k k' hk (by omega)
theorem W.calm (h:W P n rd Ys ds an st0 X j a) {d:D} (hd:ds[j]? = some d) (K:Kd) (v:AV) (nx':Nat) (pend':List (Nat×Nat×mU)) (fl':List (Nat×lS×Tr AV×AV)) (hnx:a.nx≤nx') (hKx:∀ i,K≠.x i)
    (fP:K=.p→a.nx=nx'∧∀ Γ:Ho,GX P n rd Ys Γ→W3 Γ d.i ⟨mS a.env d.sl,.nil,a.nx⟩ ((⟨mS a.env d.sl,.nil,nx'⟩:AS).putO d.i.d v))
    (fL:K=.l→a.nx=nx'∧gOk d.i ⟨mS a.env d.sl,.nil,0⟩=some true∧∀ c,c≤X.m→(∀ k' i,k'<j→X.kind k'=.x i→Anc an j k'→i<c)→bQ d.i.o ⟨mS a.env d.sl,X.mem c,0⟩=some v)
    (fA:∀ t,K=.a t→∀ Γ:Ho,GX P n rd Ys Γ→W3 Γ d.i ⟨mS a.env d.sl,.nil,a.nx⟩ ((⟨mS a.env d.sl,t,nx'⟩:AS).putO d.i.d v))
    (hp1:∀ p,p∈pend'→p∈a.pend∨(p.1=j∧∃ t,K=.a t∧t.get p.2.1=some p.2.2∧∀ k' i',k'<j→X.kind k'=.x i'→¬ Anc an k' j))
    (hp2:∀ p,p∈a.pend→p∈pend') (hp3:∀ (t:Tr mU) (b:Nat) (kk:mU),K=.a t→t.get b=some kk→(j,b,kk)∈pend')
    (hf1:∀ p,p∈a.fl→p∈fl') (hf2:K=.l→(j,d.i.o,mS a.env d.sl,v)∈fl') (hanc:∀ k' i',k'<j→X.kind k'=.x i'→¬ Anc an k' j) :
    W P n rd Ys ds an st0 ⟨up X.kind j K,up X.out j v,up X.re j (mS a.env d.sl),up X.lo j a.nx,up X.hi j nx',X.mem,X.pre,X.tg,X.m⟩ (j+1) ⟨O1 a.env d.i.d v,nx',a.mems,pend',fl',a.last⟩:=by
  obtain ⟨b1,b2,b3,b4⟩:=h.base hd K v nx' hnx
  have hx:∀ k i,k<j+1→up X.kind j K k=.x i→k<j∧X.kind k=.x i:=by
    intro k i hk hki
    by_cases e:k=j
    · subst e;rw [rU] at hki;exact absurd hki (hKx i)
    · rw [mG _ _ _ e] at hki;exact ⟨by omega,hki⟩
  have hx':∀ k i,k<j→X.kind k=.x i→k<j+1∧up X.kind j K k=.x i:=fun k i hk hki=>⟨by omega,by rw [mG _ _ _ (by omega)];exact hki⟩
  have hno:∀ A,(∀ k' i',k'<j+1→up X.kind j K k'=.x i'→¬ Anc an k' A)→∀ k' i',k'<j→X.kind k'=.x i'→¬ Anc an k' A:=fun A hA k' i' h1 h2=>hA k' i' (hx' k' i' h1 h2).1 (hx' k' i' h1 h2).2
  refine ⟨b1,b2,Nat.le_trans h.n0 hnx,b3,b4,h.mem0,fun k i hk hki=>?_,fun i hi=>?_,fun k k' i i' hk hk' h1 h2=>?_,fun k k' i i' hk hk' h1 h2 b hb=>?_,fun k i b hk hki hb=>?_,fun k d' hk hd' hki=>?_,fun k d' hk hd' hki=>?_,fun k d' t hk hd' hki=>?_,fun k d' i hk hd' hki=>?_,fun k i b kk hk hki hb=>?_,?_,h.ml,h.tg0,fun k i hk hki=>?_,fun A b kk hm=>?_,fun A t b kk hA hkA hnA hb=>?_,fun l d' hl hd' hkl hnl=>?_⟩
  · have:=hx k i hk hki;exact h.x1 k i this.1 this.2
  · obtain ⟨k,h1,h2⟩:=h.x2 i hi;exact ⟨k,(hx' k i h1 h2).1,(hx' k i h1 h2).2⟩
  · have g1:=hx k i (by omega) h1;have g2:=hx k' i' hk' h2;exact h.x3 k k' i i' hk g2.1 g1.2 g2.2
  · have g1:=hx k i (by omega) h1;have g2:=hx k' i' hk' h2;exact h.x4 k k' i i' hk g2.1 g1.2 g2.2 b hb
  · have:=hx k i hk hki;exact h.la k i b this.1 this.2 hb
  · by_cases e:k=j
    · subst e
      rw [hd] at hd';injection hd' with hd';subst hd'
      simp only [rU] at hki ⊢
      exact fP hki
    · simp only [mG _ _ _ e] at hki ⊢
      exact h.fP k d' (by omega) hd' hki
  · by_cases e:k=j
    · subst e
      rw [hd] at hd';injection hd' with hd';subst hd'
      simp only [rU] at hki ⊢
      obtain ⟨g1,g2,g3⟩:=fL hki
      exact ⟨g1,g2,fun c hc hlo _=>g3 c hc fun k' i h1 h2=>hlo k' i (hx' k' i h1 h2).1 (hx' k' i h1 h2).2⟩
    · simp only [mG _ _ _ e] at hki ⊢
      obtain ⟨g1,g2,g3⟩:=h.fL k d' (by omega) hd' hki
      exact ⟨g1,g2,fun c hc hlo hhi=>g3 c hc (fun k' i h1 h2=>hlo k' i (hx' k' i h1 h2).1 (hx' k' i h1 h2).2) fun k' i h1 h2=>hhi k' i (hx' k' i h1 h2).1 (hx' k' i h1 h2).2⟩
  · by_cases e:k=j
    · subst e
      rw [hd] at hd';injection hd' with hd';subst hd'
      simp only [rU] at hki ⊢
      exact fA t hki
    · simp only [mG _ _ _ e] at hki ⊢
      exact h.fA k d' t (by omega) hd' hki
  · have g:=hx k i hk hki
    have e:k≠j:=by omega
    simp only [mG _ _ _ e]
    exact h.fX k d' i g.1 hd' g.2
  · have g:=hx k i hk hki
    rcases h.pX k i b kk g.1 g.2 hb with h1 | ⟨A,t,g1,g2,g3,g4,g5⟩
    · exact .inl h1
    · refine .inr ⟨A, t, by omega, g2, (mG X.kind j K (by omega : A ≠ j)).trans g3, g4, fun k' i' q1 q2 q3 => ?_⟩
      have g6:=hx k' i' q1 q2
      exact g5 k' i' g6.1 g6.2 q3
  · intro b kk hb
    rcases h.dm b kk hb with h1 | h1
    · exact .inl h1
    · exact .inr ⟨h1.1,Nat.lt_of_lt_of_le h1.2 hnx⟩
  · have g:=hx k i hk hki;exact h.tgx k i g.1 g.2
  · rcases hp1 _ hm with h1 | ⟨h1,t,h2,h3,h4⟩
    · obtain ⟨g1, t, g2, g3, g4⟩ := h.p1 A b kk h1
      refine ⟨by omega,t,(mG X.kind j K (by omega:A≠j)).trans g2,g3,fun k' i' q1 q2=>?_⟩
      have g6:=hx k' i' q1 q2
      exact g4 k' i' g6.1 g6.2
    · simp only at h1 h3
      subst h1
      refine ⟨by omega,t,(rU X.kind A K).trans h2,h3,fun k' i' q1 q2=>?_⟩
      have g6:=hx k' i' q1 q2
      exact h4 k' i' g6.1 g6.2
  · by_cases e:A=j
    · subst e
      simp only [rU] at hkA
      exact hp3 t b kk hkA hb
    · simp only [mG _ _ _ e] at hkA
      exact hp2 _ (h.p2 A t b kk (by omega) hkA (hno A hnA) hb)
  · by_cases e:l=j
    · subst e
      rw [hd] at hd';injection hd' with hd';subst hd'
      simp only [rU] at hkl ⊢
      exact hf2 hkl
    · simp only [mG _ _ _ e] at hkl ⊢
      exact hf1 _ (h.fl l d' (by omega) hd' hkl (hno l hnl))
theorem aY8 {bits:Nat} {m:Tr mU}:∀ {l l':List (Nat×lS×Tr AV×AV)},aXc bits m l=some l'→∀ (k:Nat) (o:lS) (re:Tr AV) (v:AV),(k,o,re,v)∈l→bits.testBit k=false→bQ o ⟨re,m,0⟩=some v∧(k,o,re,v)∈l':=by
 intro l
 induction l with
 | nil=>intro l' _ k o re v hm;cases hm
 | cons p l ih =>
  intro l' h k o re v hm hb
  obtain ⟨k0,o0,re0,v0⟩:=p
  simp only [aXc] at h
  split at h
  ·cases h
  rename_i r' hr
  split at h
  ·rename_i hbit
   injection h with h
   subst h
   rcases List.mem_cons.1 hm with hm | hm
   ·injection hm with e1 hm
    subst e1
    rw [hb] at hbit;cases hbit
   exact ih hr k o re v hm hb
  split at h
  ·rename_i v' hv'
   split at h
   ·rename_i hs
    injection h with h
    subst h
    have hs:=aRm hs
    subst hs
    rcases List.mem_cons.1 hm with hm | hm
    ·injection hm with e1 hm
     injection hm with e2 hm
     injection hm with e3 e4
     subst e1 e2 e3 e4
     exact ⟨hv',by simp⟩
    obtain ⟨g1,g2⟩:=ih hr k o re v hm hb
    exact ⟨g1,by simp [g2]⟩
   cases h
  cases h
theorem W.aRange (h:W P n rd Ys ds an st0 X j a) (Γ:Ho) (hG:GX P n rd Ys Γ) {A:Nat} {d:D} {t:Tr mU} (hA:A<j) (hd:ds[A]? = some d) (hk:X.kind A=.a t) {b:Nat} {kk:mU} (hb:t.get b=some kk):X.lo A≤b∧b<X.hi A:=by
 have h:=(h.fA A d t hA hd hk Γ hG).low.dom
 simp only [F3,Lr] at h
 rcases h b kk hb with ⟨k,h1⟩ | h1
 ·rw [Tr.get_nil] at h1;cases h1
 exact h1
theorem W.chg (h:W P n rd Ys ds an st0 X j a) (Γ:Ho) (hG:GX P n rd Ys Γ) {d:D} (hd:ds[j]? = some d) (v:AV) (m':Tr mU) (nx':Nat) (fl':List (Nat×lS×Tr AV×AV))
    (hI:∀ Γ:Ho,GX P n rd Ys Γ→W3 Γ d.i ⟨mS a.env d.sl,ovl (X.mem X.m) (a.pend.filter fun p=>(an.getD j 0).testBit p.1),a.nx⟩ ((⟨mS a.env d.sl,m',nx'⟩:AS).putO d.i.d v))
    (hlast:Nat.beq (an.getD j 0 ||| a.last) (an.getD j 0)=true) (hfl:aXc (an.getD j 0) m' a.fl=some fl') (hanc:∀ b,Anc an j b→b<j) :
    W P n rd Ys ds an st0 ⟨up X.kind j (.x X.m),up X.out j v,up X.re j (mS a.env d.sl),up X.lo j a.nx,up X.hi j nx',up X.mem (X.m+1) m',up X.pre X.m (ovl (X.mem X.m) (a.pend.filter fun p=>(an.getD j 0).testBit p.1)),up X.tg (X.m+1) (j+1),X.m+1⟩
      (j+1) ⟨O1 a.env d.i.d v,nx',(j+1,m')::a.mems,a.pend.filter (fun p=>!(an.getD j 0).testBit p.1),fl',an.getD j 0 ||| (1 <<< j)⟩:=by
  have hlow:=(hI Γ hG).low
  simp only [F3,Lr] at hlow
  obtain ⟨b1,b2,b3,b4⟩:=h.base hd (.x X.m) v nx' hlow.le
  have hx:∀ k i,k<j+1→up X.kind j (.x X.m) k=.x i→(k<j∧X.kind k=.x i)∨(k=j∧i=X.m):=by
    intro k i hk hki
    by_cases e:k=j
    · subst e;rw [rU] at hki;injection hki with hki;exact .inr ⟨rfl,hki.symm⟩
    · rw [mG _ _ _ e] at hki;exact .inl ⟨by omega,hki⟩
  have hx':∀ k i,k<j→X.kind k=.x i→k<j+1∧up X.kind j (.x X.m) k=.x i:=fun k i hk hki=>⟨by omega,by rw [mG _ _ _ (by omega)];exact hki⟩
  have hj':j<j+1∧up X.kind j (.x X.m) j=.x X.m:=⟨Nat.lt_succ_self _,rU _ _ _⟩
  have hla:∀ b,a.last.testBit b=true→Anc an j b:=by
    intro b hb
    have h1:=Nat.eq_of_beq_eq_true hlast
    unfold Anc
    rw [← h1,Nat.testBit_or,hb]
    simp
  have hmem:∀ c,c≤X.m→up X.mem (X.m+1) m' c=X.mem c:=fun c hc=>mG _ _ _ (by omega)
  refine ⟨b1,b2,Nat.le_trans h.n0 hlow.le,b3,b4,(hmem 0 (Nat.zero_le _)).trans h.mem0,fun k i hk hki=>?_,fun i hi=>?_,fun k k' i i' hk hk' h1 h2=>?_,fun k k' i i' hk hk' h1 h2 b hb=>?_,fun k i b hk hki hb=>?_,fun k d' hk hd' hki=>?_,fun k d' hk hd' hki=>?_,fun k d' t hk hd' hki=>?_,fun k d' i hk hd' hki=>?_,fun k i b kk hk hki hb=>?_,?_,?_,(mG X.tg _ (j+1) (by omega:0≠X.m+1)).trans h.tg0,fun k i hk hki=>?_,fun A b kk hm=>?_,fun A t b kk hA hkA hnA hb=>?_,fun l d' hl hd' hkl hnl=>?_⟩
  · rcases hx k i hk hki with g | ⟨_,rfl⟩
    · have:=h.x1 k i g.1 g.2;show i<X.m+1;omega
    · exact Nat.lt_succ_self _
  · have hi:i<X.m+1:=hi
    by_cases e:i=X.m
    · subst e;exact ⟨j,hj'.1,hj'.2⟩
    · obtain ⟨k,h1,h2⟩:=h.x2 i (by omega);exact ⟨k,(hx' k i h1 h2).1,(hx' k i h1 h2).2⟩
  · rcases hx k i (by omega) h1 with g1 | g1
    · rcases hx k' i' hk' h2 with g2 | ⟨_,rfl⟩
      · exact h.x3 k k' i i' hk g2.1 g1.2 g2.2
      · exact h.x1 k i g1.1 g1.2
    · omega
  · rcases hx k i (by omega) h1 with g1 | g1
    · rcases hx k' i' hk' h2 with g2 | ⟨rfl,_⟩
      · exact h.x4 k k' i i' hk g2.1 g1.2 g2.2 b hb
      · exact hla b (h.la k i b g1.1 g1.2 hb)
    · omega
  · show (an.getD j 0 ||| (1 <<< j)).testBit b=true
    rw [Nat.testBit_or]
    rcases hx k i hk hki with g | ⟨rfl,_⟩
    · have:Anc an j b:=hla b (h.la k i b g.1 g.2 hb)
      unfold Anc at this
      rw [this];rfl
    · rcases hb with rfl | hb
      · rw [Nat.one_shiftLeft,Nat.testBit_two_pow_self];simp
      · unfold Anc at hb;rw [hb];rfl
  · by_cases e:k=j
    · subst e;simp only [rU] at hki;cases hki
    · simp only [mG _ _ _ e] at hki ⊢;exact h.fP k d' (by omega) hd' hki
  · by_cases e:k=j
    · subst e;simp only [rU] at hki;cases hki
    · simp only [mG _ _ _ e] at hki ⊢
      obtain ⟨g1,g2,g3⟩:=h.fL k d' (by omega) hd' hki
      refine ⟨g1,g2,fun c hc hlo hhi=>?_⟩
      have hc:c≤X.m+1:=hc
      by_cases e2:c=X.m+1
      · subst e2
        rw [rU]
        have hnj:¬ Anc an j k:=fun ha=>by have:=hhi j X.m hj'.1 hj'.2 ha;omega
        have hno:∀ k' i',k'<j→X.kind k'=.x i'→¬ Anc an k' k:=fun k' i' q1 q2 ha=>by
          have:=hhi k' i' (hx' k' i' q1 q2).1 (hx' k' i' q1 q2).2 ha
          have:=h.x1 k' i' q1 q2
          omega
        have hin:=h.fl k d' (by omega) hd' hki hno
        exact (aY8 hfl k _ _ _ hin (by unfold Anc at hnj;simpa using hnj)).1
      · rw [hmem c (by omega)]
        exact g3 c (by omega) (fun k' i q1 q2=>hlo k' i (hx' k' i q1 q2).1 (hx' k' i q1 q2).2) fun k' i q1 q2=>hhi k' i (hx' k' i q1 q2).1 (hx' k' i q1 q2).2
  · by_cases e:k=j
    · subst e;simp only [rU] at hki;cases hki
    · simp only [mG _ _ _ e] at hki ⊢;exact h.fA k d' t (by omega) hd' hki
  · rcases hx k i hk hki with g | ⟨rfl,rfl⟩
    · have e : k ≠ j := by omega
      have hi:=h.x1 k i g.1 g.2
      simp only [mG _ _ _ e]
      rw [mG X.pre _ _ (by omega:i≠X.m),hmem (i+1) (by omega)]
      exact h.fX k d' i g.1 hd' g.2
    · rw [hd] at hd'; injection hd' with hd'; subst hd'
      simp only [rU]
      exact hI
  · have hkk : ∀ A, A < j → up X.kind j (.x X.m) A = X.kind A := fun A hA => mG _ _ _ (by omega)
    rcases hx k i hk hki with g | ⟨rfl,rfl⟩
    · have hi:=h.x1 k i g.1 g.2
      have hb':(X.pre i).get b=some kk:=by
        have:up X.pre X.m (ovl (X.mem X.m) (a.pend.filter fun p=>(an.getD j 0).testBit p.1)) i=X.pre i:=mG _ _ _ (by omega)
        rw [← this];exact hb
      rcases h.pX k i b kk g.1 g.2 hb' with h1 | ⟨A,t,g1,g2,g3,g4,g5⟩
      · exact .inl (by show (up X.mem (X.m+1) m' i).get b=_;rw [hmem i (by omega)];exact h1)
      · refine .inr ⟨A, t, by omega, g2, (hkk A g1).trans g3, g4, fun k' i' q1 q2 q3 => ?_⟩
        rcases hx k' i' q1 q2 with g6 | ⟨_,rfl⟩
        · exact g5 k' i' g6.1 g6.2 q3
        · omega
    · have hb':(ovl (X.mem X.m) (a.pend.filter fun p=>(an.getD k 0).testBit p.1)).get b=some kk:=by
        have:up X.pre X.m (ovl (X.mem X.m) (a.pend.filter fun p=>(an.getD k 0).testBit p.1)) X.m=_:=rU _ _ _
        rw [← this];exact hb
      rcases aPv hb' with ⟨A,hA⟩ | h1
      · obtain ⟨hA1, hA2⟩ := List.mem_filter.1 hA
        obtain ⟨g1,t,g2,g3,g4⟩:=h.p1 A b kk hA1
        refine .inr ⟨A,t,by omega,hA2,(hkk A g1).trans g2,g3,fun k' i' q1 q2 q3=>?_⟩
        rcases hx k' i' q1 q2 with g6 | ⟨_,rfl⟩
        · exact g4 k' i' g6.1 g6.2
        · omega
      · exact .inl (by show (up X.mem (X.m+1) m' X.m).get b=_;rw [hmem X.m (Nat.le_refl _)];exact h1)
  · show Dom st0.mem st0.nx nx' (up X.mem (X.m+1) m' (X.m+1))
    rw [rU]
    intro b kk hb
    rcases hlow.dom b kk hb with ⟨k1,h1⟩ | h1
    · rcases aPv h1 with ⟨A, hA⟩ | h2
      · obtain ⟨hA1, hA2⟩ := List.mem_filter.1 hA
        obtain ⟨g1,t,g2,g3,_⟩:=h.p1 A b k1 hA1
        have hAl:A<ds.length:=Nat.lt_trans g1 (List.getElem?_eq_some_iff.1 hd).1
        have:=h.aRange Γ hG g1 (List.getElem?_eq_getElem hAl) g2 g3
        have g5:=h.n1 A g1
        have:=hlow.le
        exact .inr (by omega)
      · rcases h.dm b k1 h2 with h3 | h3
        · exact .inl h3
        · have:=hlow.le;exact .inr (by omega)
    · have:=h.n0;exact .inr (by omega)
  · show (j+1,m')::a.mems=aA0 (up X.tg (X.m+1) (j+1)) (up X.mem (X.m+1) m') (X.m+1)
    simp only [aA0,rU]
    rw [aYB X.m (Nat.lt_succ_self _),h.ml]
  · rcases hx k i hk hki with g | ⟨rfl,rfl⟩
    · have hi:=h.x1 k i g.1 g.2
      exact (mG X.tg _ _ (by omega)).trans (h.tgx k i g.1 g.2)
    · exact rU _ _ _
  · obtain ⟨hA1, hA2⟩ := List.mem_filter.1 hm
    obtain ⟨g1,t,g2,g3,g4⟩:=h.p1 A b kk hA1
    refine ⟨by omega,t,(mG X.kind j _ (by omega:A≠j)).trans g2,g3,fun k' i' q1 q2=>?_⟩
    rcases hx k' i' q1 q2 with g6 | ⟨rfl,_⟩
    · exact g4 k' i' g6.1 g6.2
    · intro ha
      unfold Anc at ha
      simp only [ha,Bool.not_true] at hA2
      cases hA2
  · by_cases e:A=j
    · subst e;simp only [rU] at hkA;cases hkA
    · simp only [mG _ _ _ e] at hkA
      have h1:=h.p2 A t b kk (by omega) hkA (fun k' i' q1 q2=>hnA k' i' (hx' k' i' q1 q2).1 (hx' k' i' q1 q2).2) hb
      refine List.mem_filter.2 ⟨h1,?_⟩
      have:=hnA j X.m hj'.1 hj'.2
      unfold Anc at this
      simpa using this
  · by_cases e:l=j
    · subst e;simp only [rU] at hkl;cases hkl
    · simp only [mG _ _ _ e] at hkl ⊢
      have h1:=h.fl l d' (by omega) hd' hkl fun k' i' q1 q2=>hnl k' i' (hx' k' i' q1 q2).1 (hx' k' i' q1 q2).2
      have:=hnl j X.m hj'.1 hj'.2
      unfold Anc at this
      exact (aY8 hfl l _ _ _ h1 (by simpa using this)).2
end
open Go.RowKit
open Go.Eng (Od aGs callable kJ aAh sP uF)
section
variable {P:Program} {n:Nat} {rd:Option Nat} {Ys:List YC} {ds:List D} {an:List Nat} {st0:AS} {X:Dt} {j:Nat} {a a':O9} {call:eE}
theorem aRp {Γ:Ho} {d:D} {re:Tr AV} {m:Tr mU} {lo hi:Nat} {v:AV} (hlh:lo=hi) (hg:gOk d.i ⟨re,.nil,0⟩=some true) (hq:bQ d.i.o ⟨re,m,0⟩=some v):W3 Γ d.i ⟨re,m,lo⟩ ((⟨re,m,hi⟩:AS).putO d.i.d v):=by
 subst hlh
 have h1:gOk d.i (⟨re,m,lo⟩:AS)=some true:=by rw [← hg];exact aXp
 have h2:bQ d.i.o (⟨re,m,lo⟩:AS)=some v:=by rw [aY6];exact hq
 have hb:d.i.o≠.bad:=fun hb=>by rw [hb] at h2;cases h2
 exact .of h1 hb (Low.refl _ _) fun o ho=>.quiet (by rw [← ho];exact h2)
theorem W.step (hcall:Ud P Ys call) (hok:okD ds an=true) (Γ0:Ho) (hG0:GX P n rd Ys Γ0) (h:W P n rd Ys ds an st0 X j a) {d:D} (hd:ds[j]? = some d) (hs:K5 call j d (an.getD j 0) a=some a'):∃ X',W P n rd Ys ds an st0 X' (j+1) a':=by
  have hlt:∀ b,Anc an j b→b<j:=fun b hb=>aWV hok hd hb
  have hanc:∀ k' i',k'<j→X.kind k'=.x i'→¬ Anc an k' j:=fun k' i' hk _ ha=>by
    have hk'l:k'<ds.length:=Nat.lt_trans hk (List.getElem?_eq_some_iff.1 hd).1
    have:=aWV hok (List.getElem?_eq_getElem hk'l) ha
    omega
  simp only [K5] at hs
  split at hs
  · cases hs
  · rename_i hg
    injection hs with hs
    subst hs
    refine ⟨_,h.calm hd .p (.tup []) a.nx a.pend a.fl (Nat.le_refl _) (by simp) (fun _=>⟨rfl,fun Γ hG=>.skip hg⟩) (fun h=>by cases h) (fun t h=>by cases h) (fun p hp=>.inl hp) (fun p hp=>hp) (fun t b kk h=>by cases h) (fun p hp=>hp) (fun h=>by cases h) hanc⟩
  · rename_i hg
    have hg0:gOk d.i ⟨mS a.env d.sl,.nil,0⟩=some true:=by rw [← hg];exact aXp
    split at hs
    · rename_i v hv
      injection hs with hs
      subst hs
      exact ⟨_,h.calm hd .p v a.nx a.pend a.fl (Nat.le_refl _) (by simp) (fun _=>⟨rfl,fun Γ hG=>aRp rfl hg0 (by rw [← aY6 d.i.o a.nx];exact hv)⟩) (fun h=>by cases h) (fun t h=>by cases h) (fun p hp=>.inl hp) (fun p hp=>hp) (fun t b kk h=>by cases h) (fun p hp=>hp) (fun h=>by cases h) hanc⟩
    · split at hs
      · -- a load
        split at hs
        · cases hs
        rename_i x0 m0 l0 hm
        split at hs
        · cases hs
        rename_i v hv
        split at hs
        case h_2=>cases hs
        rename_i hrd
        injection hs with hs
        subst hs
        refine ⟨_,h.calm hd .l v a.nx a.pend _ (Nat.le_refl _) (by simp) (fun h=>by cases h) (fun _=>⟨rfl,hg0,fun c hc hlo=>?_⟩) (fun t h=>by cases h) (fun p hp=>.inl hp) (fun p hp=>hp) (fun t b kk h=>by cases h) (fun p hp=>List.mem_cons_of_mem _ hp) (fun _=>List.mem_cons_self ..) hanc⟩
        rw [h.ml] at hrd
        have htg:∀ i t,i<X.m→X.tg (i+1)=t→∃ k,k<j∧X.kind k=.x i∧t=k+1:=fun i t hi ht=>by
          obtain ⟨k,hk,hkx⟩:=h.x2 i hi
          exact ⟨k,hk,hkx,by rw [← ht];exact h.tgx k i hk hkx⟩
        have key:∀ i,i≤X.m→aMz d.i.o (mS a.env d.sl) (an.getD j 0) v (aA0 X.tg X.mem i)=true→∀ c,c≤i→(∀ k' i',k'<j→X.kind k'=.x i'→Anc an j k'→i'<c)→bQ d.i.o ⟨mS a.env d.sl,X.mem c,0⟩=some v:=by
          intro i
          induction i with
          | zero =>
            intro _ h1 c hc _
            have:c=0:=by omega
            subst this
            simp only [aA0,aMz,Bool.and_eq_true] at h1
            have h1:=h1.1
            split at h1
            · rename_i v' hv'
              have:=aRm h1
              subst this
              exact hv'
            · cases h1
          | succ i ih =>
            intro hi h1 c hc hlo
            simp only [aA0,aMz,Bool.and_eq_true] at h1
            by_cases e:c=i+1
            · subst e
              have h1:=h1.1
              split at h1
              · rename_i v' hv'
                have:=aRm h1
                subst this
                exact hv'
              · cases h1
            · obtain ⟨k, hk, hkx, hkt⟩ := htg i _ (by omega) rfl
              have h2:=h1.2
              rw [hkt] at h2
              simp only [Bool.or_eq_true] at h2
              rcases h2 with h2 | h2
              · have:=hlo k i hk hkx h2
                omega
              · exact ih (by omega) h2 c (by omega) hlo
        exact key X.m (Nat.le_refl _) hrd c hc hlo
      · rename_i hnl
        split at hs
        · -- something of its own
          rename_i s1 v hv
          split at hs
          case h_2=>cases hs
          rename_i k hk hnx
          have hnx:s1.nx=a.nx+1:=Nat.eq_of_beq_eq_true hnx
          injection hs with hs
          subst hs
          have hlow:=aD2 hv
          have hone:∀ b kk,s1.mem.get b=some kk→b=a.nx∧kk=k:=by
            intro b kk hb
            rcases hlow.2.1 b kk hb with ⟨k1,h1⟩ | h1
            · simp only [Tr.get_nil] at h1;cases h1
            · have : b = a.nx := by simp only [hnx] at h1; omega
              subst this
              rw [hk] at hb
              injection hb with hb
              exact ⟨rfl,hb.symm⟩
          have hbd:d.i.o≠.bad:=fun hb=>by rw [hb] at hv;cases hv
          refine ⟨_,h.calm hd (.a s1.mem) v (a.nx+1) _ a.fl (Nat.le_succ _) (by simp) (fun h=>by cases h) (fun h=>by cases h) (fun t ht Γ hG=>?_) (fun p hp=>?_) (fun p hp=>List.mem_cons_of_mem _ hp) (fun t b kk ht hb=>?_) (fun p hp=>hp) (fun h=>by cases h) hanc⟩
          · injection ht with ht
            subst ht
            rw [← hnx]
            exact .of hg hbd ⟨hlow.1,hlow.2.1,hlow.2.2.2⟩ fun o ho=>.eff (by rw [← ho];exact hv)
          · rcases List.mem_cons.1 hp with rfl | hp
            · exact .inr ⟨rfl,s1.mem,rfl,hk,hanc⟩
            · exact .inl hp
          · injection ht with ht
            subst ht
            obtain ⟨rfl,rfl⟩:=hone b kk hb
            exact List.mem_cons_self ..
        · -- a changer
          split at hs
          · cases hs
          rename_i x0 m0 l0 hm
          have hm0:m0=X.mem X.m:=by
            obtain ⟨l1,hl1⟩:=aSO X.tg X.mem X.m
            rw [h.ml,hl1] at hm
            injection hm with hm _
            injection hm with _ hm
            exact hm.symm
          subst hm0
          split at hs
          · cases hs
          rename_i v m' nx' hv
          split at hs
          case h_2=>cases hs
          rename_i fl' hlast hfl
          injection hs with hs
          subst hs
          have hbd:d.i.o≠.bad:=fun hb=>by rw [hb,bA7] at hv;cases hv
          exact ⟨_,h.chg Γ0 hG0 hd v m' nx' fl' (fun Γ hG=>.of (by rw [← hg];exact aXp) hbd (bAu hcall hv) fun o ho=>aV5 (by rw [hG.P];exact hcall) (by rw [hG.P,hG.n,hG.rd];exact hG) (by rw [← ho];exact hv)) hlast hfl hlt⟩
theorem W.all (hcall:Ud P Ys call) (hok:okD ds an=true) (Γ0:Ho) (hG0:GX P n rd Ys Γ0):∀ (l:List D) (j:Nat) (X:Dt) (a a':O9),(∀ i d,l[i]? = some d→ds[j+i]? = some d)→W P n rd Ys ds an st0 X j a→aE5 call an j l a=some a'→∃ X',W P n rd Ys ds an st0 X' (j+l.length) a':=by
 intro l
 induction l with
 | nil=>intro j X a a' _ h hs;simp only [aE5] at hs;injection hs with hs;subst hs;exact ⟨X,h⟩
 | cons d l ih =>
  intro j X a a' hl h hs
  simp only [aE5] at hs
  split at hs
  ·rename_i a1 h1
   obtain ⟨X1,hX1⟩:=h.step hcall hok Γ0 hG0 (hl 0 d rfl) h1
   obtain ⟨X2,hX2⟩:=ih (j+1) X1 a1 a' (fun i d' hi=>by have:=hl (i+1) d' (by simpa using hi);rwa [show j+1+i=j+(i+1) by omega]) hX1 hs
   exact ⟨X2,by rw [List.length_cons,show j+(l.length+1)=j+1+l.length by omega];exact hX2⟩
  cases hs
theorem W.zero:W P n rd Ys ds an st0 ⟨fun _=>.p,fun _=>.any,fun _=>.nil,fun _=>0,fun _=>0,fun _=>st0.mem,fun _=>.nil,fun _=>0,0⟩ 0 ⟨st0.env,st0.nx,[(0,st0.mem)],[],[],0⟩:=
  { e1 := fun q v h => .inr ⟨fun k d hk => by omega, h⟩, e2 := fun k d q v hk => by omega, n0 := Nat.le_refl _, n1 := fun k hk => by omega, n2 := fun k k' h1 h2 => by omega, mem0 := rfl, x1 := fun k i hk => by omega
    x2:=fun i hi=>absurd hi (Nat.not_lt_zero _),x3:=fun k k' i i' h1 h2=>by omega,x4:=fun k k' i i' h1 h2=>by omega,la:=fun k i b hk=>by omega,fP:=fun k d hk=>by omega,fL:=fun k d hk=>by omega
    fA:=fun k d t hk=>by omega,fX:=fun k d i hk=>by omega,pX:=fun k i b kk hk=>by omega,dm:=Dom.refl _ _,ml:=rfl,tg0:=rfl,tgx:=fun k i hk=>by omega
    p1:=fun A b kk hm=>absurd hm List.not_mem_nil,p2:=fun A t b kk hk=>by omega,fl:=fun l d hl=>by omega }
theorem W.draw (hok:okD ds an=true) (Γ0:Ho) (hG0:GX P n rd Ys Γ0) (h:W P n rd Ys ds an st0 X ds.length a):Nonempty (Ls P n rd Ys ds st0 a.fin):=by
  have hlt:∀ {j d},ds[j]? = some d→j<ds.length:=fun hd=>(List.getElem?_eq_some_iff.1 hd).1
  have hget:∀ j,j<ds.length→∃ d,ds[j]? = some d:=fun j hj=>⟨_,List.getElem?_eq_getElem hj⟩
  obtain ⟨l1,hl1⟩:=aSO X.tg X.mem X.m
  have hfin:a.fin=⟨a.env,ovl (X.mem X.m) a.pend,a.nx⟩:=by unfold O9.fin;rw [h.ml,hl1]
  have hord:∀ j j' k k',j<ds.length→j'<ds.length→X.kind j=.x k→X.kind j'=.x k'→k<k'→j<j':=by
    intro j j' k k' hj hj' hk hk' hkk
    rcases Nat.lt_trichotomy j j' with h1 | h1 | h1
    · exact h1
    · subst h1;rw [hk] at hk';injection hk' with hk';omega
    · have:=h.x3 j' j k' k h1 hj hk' hk;omega
  rw [hfin]
  refine ⟨⟨Anc an, X.kind, X.out, X.re, X.lo, X.hi, X.mem, X.pre, X.m, fun j d k hd hk => bGJ hok hd hk, fun p hp => bJ7 hok p hp, fun j k d d' q hd hk h1 h2 => bOd hok hd hk h1 h2, fun j d q v hd hq => ?_, fun j d hd => ?_, fun j k d d' hd hk hne => ?_, h.n0, h.mem0,
    fun j d k hd hk=>h.x1 j k (hlt hd) hk,fun k hk=>?_,fun j j' d d' k hd hd' h1 h2=>?_,fun j j' d d' k k' hd hd' h1 h2 hkk=>?_,fun j j' A d d' k k' hd hd' h1 h2 hkk hA=>?_,fun j d hd hk=>h.fP j d (hlt hd) hd hk,fun j d hd hk=>?_,fun j d t hd hk=>h.fA j d t (hlt hd) hd hk,fun j d k hd hk=>h.fX j d k (hlt hd) hd hk,
    fun j d k b kk hd hk hb=>?_,fun b kk hb=>?_,fun b kk hb=>?_,fun q v hq=>?_⟩⟩
  · obtain ⟨hsl, h1⟩ := h.e2 j d q v (hlt hd) hd hq
    rcases h1 with ⟨k,d',g1,g2,g3,g4⟩ | ⟨g1,g2⟩
    · left
      refine ⟨k,d',g2,?_,g3,g4⟩
      rcases bAZ hok hd hsl g2 g3 with h2 | h2
      · exact h2
      · have:=aWV hok g2 h2;omega
    · right
      refine ⟨fun k d' hk hdk=>?_,g2⟩
      rcases bAZ hok hd hsl hk hdk with h2 | h2
      · have:=aWV hok hd h2
        exact absurd hdk (g1 k d' this hk)
      · exact h2
  · exact h.n1 j (hlt hd)
  · rcases Nat.lt_or_gt_of_ne hne with h1 | h1
    · exact .inl (h.n2 j k h1 (hlt hk))
    · exact .inr (h.n2 k j h1 (hlt hd))
  · obtain ⟨j, hj, hjk⟩ := h.x2 k hk
    obtain ⟨d,hd⟩:=hget j hj
    exact ⟨j,d,hd,hjk⟩
  · rcases Nat.lt_trichotomy j j' with g | g | g
    · have:=h.x3 j j' k k g (hlt hd') h1 h2;omega
    · exact g
    · have:=h.x3 j' j k k g (hlt hd) h2 h1;omega
  · exact h.x4 j j' k k' (hord j j' k k' (hlt hd) (hlt hd') h1 h2 hkk) (hlt hd') h1 h2 j (.inl rfl)
  · exact h.x4 j j' k k' (hord j j' k k' (hlt hd) (hlt hd') h1 h2 hkk) (hlt hd') h1 h2 A (.inr hA)
  · obtain ⟨g1, g2, g3⟩ := h.fL j d (hlt hd) hd hk
    refine ⟨g1,fun c hc hlo hhi=>⟨X.out j,fun _ _ h=>h,fun Γ hG=>aRp g1 g2 (g3 c hc (fun k' i hk' hx ha=>?_) fun k' i hk' hx ha=>?_)⟩⟩
    · obtain ⟨d', hd'⟩ := hget k' hk'
      exact hlo k' d' i hd' hx ha
    · obtain ⟨d', hd'⟩ := hget k' hk'
      exact hhi k' d' i hd' hx ha
  · rcases h.pX j k b kk (hlt hd) hk hb with h1 | ⟨A,t,g1,g2,g3,g4,g5⟩
    · exact .inl h1
    · obtain ⟨d', hd'⟩ := hget A g1
      exact .inr ⟨A,d',t,hd',g2,g3,g4,fun j' d'' k' q1 q2 q3=>g5 j' k' (hlt q1) q2 q3⟩
  · rcases aPv hb with ⟨A, hA⟩ | h1
    · obtain ⟨g1, t, g2, g3, g4⟩ := h.p1 A b kk hA
      obtain ⟨d',hd'⟩:=hget A g1
      have:=h.aRange Γ0 hG0 g1 hd' g2 g3
      have g5:=h.n1 A g1
      exact .inr (by show st0.nx≤b∧b<a.nx;omega)
    · exact h.dm b kk h1
  · rcases aPv hb with ⟨A, hA⟩ | h1
    · obtain ⟨g1, t, g2, g3, g4⟩ := h.p1 A b kk hA
      obtain ⟨d',hd'⟩:=hget A g1
      exact .inr ⟨A,d',t,hd',g2,g3,fun j' d'' k' q1 q2=>g4 j' k' (hlt q1) q2⟩
    · exact .inl h1
  · rcases h.e1 q v hq with ⟨k, d', g1, g2, g3, g4⟩ | ⟨g1, g2⟩
    · exact .inl ⟨k,d',g2,g3,g4⟩
    · exact .inr ⟨fun k d' hk=>g1 k d' (hlt hk) hk,g2⟩
end
section
variable {Γ:Ho} {st st':AS} {call:eE} {a:Act} {w:World} {Ys:List YC}
theorem bBn (hcall:Ud Γ.P Ys call) (hG:GX Γ.P Γ.n Γ.rd Ys Γ) (hm:Γ.P.follows .mixedOrders=true) {ds:List D} {an:List Nat} (hok:okD ds an=true) (h:evD call ds an st=some st'):A9 Γ (.draw ds) st .normal st':=by
 unfold evD at h
 split at h
 ·rename_i a ha
  injection h with h
  subst h
  obtain ⟨X,hX⟩:=W.all (n:=Γ.n) (st0:=st) hcall hok Γ hG ds 0 _ _ _ (fun i d hd=>by simpa using hd) W.zero ha
  rw [Nat.zero_add] at hX
  obtain ⟨D⟩:=hX.draw hok Γ hG
  exact .draw hm D hG
 cases h
theorem aXj {x:IC} {body:AS→Option (Exit×AS)} (hb:∀ st e st',body st=some (e,st')→A9 Γ x st e st'):∀ {k:Nat} {st:AS} {e:Exit} {st':AS},N7 body k st=some (e,st')→∃ n,aZ6 Γ x n st e st':=by
 intro k
 induction k with
 | zero=>intro st e st' h;cases h
 | succ k ih =>
  intro st e st' h
  simp only [N7] at h
  split at h
  ·cases h
  ·rename_i st1 h1
   obtain ⟨n,hn⟩:=ih h
   exact ⟨n+1,.more (hb _ _ _ h1) hn⟩
  rename_i e1 st1 hne h1
  injection h with h
  obtain ⟨rfl,rfl⟩:=Prod.mk.inj h
  exact ⟨1,.last (hb _ _ _ h1) fun he=>hne he⟩
theorem bEL:∀ (vs:List AV) (k:Nat) (t:Tr AV) (i:Nat),(Hy k t vs).get i=if i<k then t.get i else match vs[i - k]? with
    | some v=>some v
    | none=>t.get i:=by
  intro vs
  induction vs with
  | nil=>intro k t i;simp [Hy]
  | cons v vs ih =>
    intro k t i
    simp only [Hy]
    rw [ih,Tr.get_put _ _ _ _ _ (by omega)]
    by_cases h1:i<k
    · rw [if_pos (by omega),if_neg (by omega),if_pos h1]
    · rw [if_neg h1]
      by_cases h2:i=k
      · subst h2
        rw [if_pos (by omega),if_pos rfl]
        simp
      · rw [if_neg (by omega), if_neg (fun h => h2 h.symm)]
        have:i - k=(i - (k+1))+1:=by omega
        rw [this]
        simp
def rrS (tmps:Array Value):ResultVar→Sem Value
 | .tmp t=>pure (tmps.getD t undef)
 | .cell c t=>do loadVar t (← asAddr (tmps.getD c undef))
theorem bE8 {P:Program} {ρ:nV} (hΓ:Γ.P=P) (h:jN Γ ρ st a w) {r:ResultVar} {q:RR} {v:AV} (hq:RR.of P r=some q) (hv:aZQ st q=some v) :
  ∃ x,(rrS a.tmps r).run P w=.ok x w∧kY (kO ρ) v x:=by
 cases r with
 | tmp t =>
  simp only [RR.of] at hq
  injection hq with hq
  subst hq
  simp only [aZQ] at hv
  injection hv with hv
  subst hv
  exact ⟨_,rfl,h.env t⟩
 | cell c t =>
  simp only [RR.of] at hq
  split at hq
  case h_2=>cases hq
  rename_i g s hg hs
  split at hq
  case isFalse=>cases hq
  rename_i hok
  injection hq with hq
  subst hq
  simp only [aZQ] at hv
  split at hv
  case h_2=>cases hv
  rename_i b o hb
  split at hv
  case h_2=>cases hv
  rename_i cs hcs
  injection hv with hv
  subst hv
  have hev:=h.env c
  rw [hb] at hev
  obtain ⟨la,hla,hc'⟩:=hev.cInv.ptrInv
  obtain ⟨la1,xs,hla1,hcl,hxl,hcell,hrep,hle⟩:=h.read hcs
  rw [hla1] at hla
  injection hla with hla
  subst hla
  refine ⟨_,?_,aSS hok hxl hcl hrep⟩
  have:=uF w hg hs hok la1.b (la1.off+o) xs hxl hcell
  simpa [rrS,asAddr,hc'] using this
theorem bHb {P:Program} {ρ:nV} (hΓ:Γ.P=P) (h:jN Γ ρ st a w):∀ {rs:List ResultVar} {qs:List RR} {vs:List AV},rs.map (RR.of P)=qs.map some→aXU st qs=some vs →
  ∃ xs:List Value,(rs.mapM (rrS a.tmps)).run P w=.ok xs w∧xs.length=vs.length∧∀ (i:Nat) (v:AV),vs[i]? = some v→kY (kO ρ) v (xs.getD i undef):=by
 intro rs
 induction rs with
 | nil =>
  intro qs vs hq hv
  have:qs=[]:=by simpa using hq.symm
  subst this
  simp only [aXU] at hv
  injection hv with hv
  subst hv
  exact ⟨[],by simp,rfl,by simp⟩
 | cons r rs ih =>
  intro qs vs hq hv
  match qs,hq with
  | q::qs,hq =>
   simp only [List.map_cons,List.cons.injEq] at hq
   simp only [aXU] at hv
   split at hv
   case h_1=>cases hv
   rename_i v hv1
   split at hv
   case h_2=>cases hv
   rename_i vs' hv2
   injection hv with hv
   subst hv
   obtain ⟨x,hx1,hx2⟩:=bE8 hΓ h hq.1 hv1
   obtain ⟨xs,h1,h2,h3⟩:=ih hq.2 hv2
   refine ⟨x::xs,?_,by simp [h2],fun i v' hi=>?_⟩
   ·simp only [List.mapM_cons,Sem.run_bind,hx1,Result.andThen_ok,h1,Sem.run_pure]
   cases i with
   | zero=>simp at hi;subst hi;simpa using hx2
   | succ i=>simpa using h3 i v' (by simpa using hi)
theorem bDl {P:Program} {ρ:nV} (hΓ:Γ.P=P) (h:jN Γ ρ st a w) {fn:Func} {ts:List RR} {v:AV} (hr:fn.results.toList.map (RR.of P)=ts.map some) (hv:aV9 st ts=some v) :
  ∃ x,(results fn a.tmps).run P w=.ok x w∧kY (kO ρ) v x:=by
 unfold aV9 at hv
 have key:∀ vs:List AV,aXU st ts=some vs→∃ xs:List Value,(results fn a.tmps).run P w=.ok (if h:xs.toArray.size=1 then xs.toArray[0] else .tuple xs.toArray) w∧xs.length=vs.length∧∀ (i:Nat) (v:AV),vs[i]? = some v→kY (kO ρ) v (xs.getD i undef):=by
  intro vs hvs
  obtain ⟨xs,h1,h2,h3⟩:=bHb hΓ h hr hvs
  refine ⟨xs,?_,h2,h3⟩
  have hres:fn.results=fn.results.toList.toArray:=by simp
  unfold results
  rw [hres]
  simp only [List.mapM_toArray,Sem.run_bind,Sem.run_map,Sem.run_pure]
  show ((Sem.run P (List.mapM (rrS a.tmps) fn.results.toList) w).andThen fun a w'=>Result.ok a.toArray w').andThen _=_
  exact (congrArg (fun r:Result (List Value)=>(r.andThen fun a w'=>Result.ok a.toArray w').andThen fun a w'=>Result.ok (if h:a.size=1 then a[0] else Value.tuple a) w') h1)
 split at hv
 ·rename_i v1 hvs
  injection hv with hv
  subst hv
  obtain ⟨xs,h1,h2,h3⟩:=key _ hvs
  match xs,h2 with
  | [x],_ =>
   refine ⟨_,h1,?_⟩
   have:=h3 0 v1 rfl
   simpa using this
 ·rename_i vs hne hvs
  injection hv with hv
  subst hv
  obtain ⟨xs,h1,h2,h3⟩:=key _ hvs
  have h4:xs.length≠1:=by
   rw [h2]
   intro h5
   match vs,h5 with
   | [v],_=>exact hne v rfl
  rw [dif_neg (by simpa using h4)] at h1
  exact ⟨_,h1,.tup vs _ (by simpa using h2) fun i v hi=>by simpa [kJ] using h3 i v hi⟩
 cases hv
def IC.ofS (P:Program) (n:Nat):Code→IC
 | .scope c=>IC.ofS P n c
 | .seq a b=>.seq (IC.of P n a) (IC.ofS P n b)
 | c=>IC.of P n c
def gU (P : Program) (f : Nat) (e : FE) : Prop :=
 ∃ fn code, P.funcs[f]? = some fn ∧ fn.ntmps = e.n ∧ fn.body = some code ∧ (fn.name != "runtime.NumGoroutine") = true ∧ IC.ofS P e.n code = e.x.ic ∧ fn.results.toList.map (RR.of P) = e.ts.map some ∧ e.x.ok = true
def aVq (P:Program) (T:Tr FE):Prop:=∀ f e,T.get f=some e→gU P f e
theorem bG8 {P:Program}:∀ {l:List (Nat×FE)},(∀ p∈l,gU P p.1 p.2)→aVq P (pC l):=by
 intro l
 induction l with
 | nil=>intro _ f e h;simp only [pC,Tr.get_nil] at h;cases h
 | cons p l ih =>
  intro hl f e h
  simp only [pC] at h
  rw [Tr.get_put _ _ _ _ _ (by omega)] at h
  split at h
  ·rename_i he
   injection h with h
   subst he h
   exact hl p (List.mem_cons_self ..)
  exact ih (fun q hq=>hl q (List.mem_cons_of_mem _ hq)) f e h
def NoB (o:Obj):Prop:=match o with
 | .cells ..=>False
 | .stringIter ..=>False
 | .map ..=>False
 | .mapIter ..=>False
 | _=>True
theorem yM.put {ρ:nV} {w:World} {la:Pl} {k:mU} {l:Nat} {o o':Obj} (hl:w.heap[l]? = some o) (hn:NoB o) (h:yM ρ w la k):yM ρ (w.putObj l o') la k:=by
 have hne:∀ q,w.heap[la.b]? = some q→¬ NoB q→(w.putObj l o').heap[la.b]? = w.heap[la.b]?:=fun q hq hnq=>World.putObj_heap_other fun e=>by
  rw [e,hl] at hq
  injection hq with hq
  exact hnq (hq ▸ hn)
 cases h with
 | cells ty cs cur hh ht hl' hf=>exact .cells ty cs cur ((hne _ hh (fun h=>h)).trans hh) ht hl' hf
 | ro cs hl' hf =>
  by_cases e:la.b=l
  ·refine .ro cs hl' fun i c hc=>?_
   obtain ⟨x,hx,hr⟩:=hf i c hc
   exfalso
   simp only [World.cell?,e,hl] at hx
   cases o<;>first | exact hn.elim | simp at hx
  exact .ro cs hl' fun i c hc=>by
   obtain ⟨x,hx,hr⟩:=hf i c hc
   exact ⟨x,by rw [← hx];simp only [World.cell?,World.putObj_heap_other e],hr⟩
 | sit s pos hh h0=>exact .sit s pos ((hne _ hh (fun h=>h)).trans hh) h0
 | mp es clock xs hh hl' hf=>exact .mp es clock xs ((hne _ hh (fun h=>h)).trans hh) hl' hf
 | mit m s c seen lm hm hh h0=>exact .mit m s c seen lm hm ((hne _ hh (fun h=>h)).trans hh) h0
 | mcur m n s c seen lm hm hh hb h0=>exact .mcur m n s c seen lm hm ((hne _ hh (fun h=>h)).trans hh) hb h0
theorem rR.loop {K:Nat→Prop} {w0:World} {ρ:nV} {m:dA} {l:Nat} {o o':Obj} (h:rR K w0 ρ m w) (hl:w.heap[l]? = some o) (hn:NoB o):rR K (w.putObj l o') ρ m (w.putObj l o'):=
  ⟨fun b k hb => let ⟨la, h1, h2⟩ := h.blk b k hb; ⟨la, h1, h2.put hl hn⟩, fun b k la hb hla => let ⟨h1, h2, h3⟩ := h.own b k la hb hla; ⟨h1, h2, by rw [World.putObj_size]; exact h3⟩, h.inj,
    fun b hb=>by rw [World.putObj_size];exact Nat.lt_of_lt_of_le (h.kept b hb) h.fr.size,⟨rfl,rfl,rfl,Nat.le_refl _,fun _ _=>rfl⟩⟩
theorem rR.shut {K:Nat→Prop} {w0:World} {ρ:nV} {m:dA} {l:Nat} {o o':Obj} (h:rR K w0 ρ m w) (hl:w.heap[l]? = some o) (hn:NoB o) (hK:¬ K l):rR K w0 ρ m (w.putObj l o'):=
  ⟨fun b k hb => let ⟨la, h1, h2⟩ := h.blk b k hb; ⟨la, h1, h2.put hl hn⟩, fun b k la hb hla => let ⟨h1, h2, h3⟩ := h.own b k la hb hla; ⟨h1, h2, by rw [World.putObj_size]; exact h3⟩, h.inj, h.kept,
    ⟨h.fr.os,h.fr.tape,h.fr.output,by rw [World.putObj_size];exact h.fr.size,fun b hb=>(World.putObj_heap_other (show b≠l from fun e=>hK (e ▸ hb))).trans (h.fr.block b hb)⟩⟩
theorem rR.back {K K':Nat→Prop} {w0 w0' wi:World} {ρi ρ:nV} {mi m:dA} (hi:rR K w0 ρi mi wi) (h:rR K' w0' ρ m w) (hK:∀ b,K b→K' b) (hfr:Fr K w0 w) (hle:ρi.le ρ) (hro:∀ b k,m b k→k.isRo=true→mi b k):rR K w0 ρ m w:=
  ⟨h.blk, fun b k la hb hl => ⟨fun hr hk => (h.own b k la hb hl).1 hr (hK _ hk), fun hr => by
    obtain ⟨la0,q1,_⟩:=hi.blk b k (hro b k hb hr)
    have:=hle _ _ q1
    rw [hl] at this
    injection this with this
    subst this
    exact (hi.own b k la (hro b k hb hr) q1).2.1 hr,(h.own b k la hb hl).2.2⟩,h.inj,hi.kept,hfr⟩
def aVG (Ds:List Nat) (w:World):World:=Ds.foldl (fun w D=>w.putObj D (.deferred none)) w
theorem aW6 {P:Program} {fn:Func} {tmps:Array Value} {R:Ending→World→Prop}:∀ (Ds:List Nat) (w:World),Ds.Nodup→(∀ D,D∈Ds→w.heap[D]? = some (.deferred (some [])))→(∃ x,(results fn tmps).run P (aVG Ds w)=.ok x (aVG Ds w)∧R (.returned x) (aVG Ds w)) →
  LeavesInM Fence.wide 0 P fn tmps R (Ds.map mkD) .returning w:=by
 intro Ds
 induction Ds with
 | nil=>intro w _ _ h;exact h
 | cons D Ds ih =>
  intro w hn hD h
  obtain ⟨h1,h2⟩:=List.nodup_cons.1 hn
  refine ⟨by simp,.inl ⟨D,_,rfl,run_takeDeferred (hD D (List.mem_cons_self ..)),ih _ h2 (fun D' hD'=>?_) h⟩⟩
  exact (World.putObj_heap_other (show D'≠D from fun e=>h1 (e ▸ hD'))).trans (hD D' (List.mem_cons_of_mem _ hD'))
theorem rR.shuts {K:Nat→Prop} {w0:World} {ρ:nV} {m:dA}:∀ (Ds:List Nat) (w:World),Ds.Nodup→(∀ D,D∈Ds→w.heap[D]? = some (.deferred (some []))∧¬ K D)→rR K w0 ρ m w→rR K w0 ρ m (aVG Ds w):=by
 intro Ds
 induction Ds with
 | nil=>intro w _ _ h;exact h
 | cons D Ds ih =>
  intro w hn hD h
  obtain ⟨h1,h2⟩:=List.nodup_cons.1 hn
  obtain ⟨q1,q2⟩:=hD D (List.mem_cons_self ..)
  refine ih _ h2 (fun D' hD'=>?_) (h.shut q1 trivial q2)
  obtain ⟨r1,r2⟩:=hD D' (List.mem_cons_of_mem _ hD')
  exact ⟨(World.putObj_heap_other (show D'≠D from fun e=>h1 (e ▸ hD'))).trans r1,r2⟩
def S1 (x:XC):Prop:=∀ (Γ:Ho) (Ys:List YC) (call:eE) (k:Nat) (st:AS) (e:Exit) (st':AS),Ud Γ.P Ys call→GX Γ.P Γ.n Γ.rd Ys Γ→Γ.P.follows .mixedOrders=true→x.ok=true→(x.noR=true∨Γ.rd=none)→(∀ p,p∈x.rgs→gU Γ.P p.1 p.2)→vS call k x st=some (e,st')→A9 Γ x.ic st e st'
def S2 (x:XC):Prop:=∀ (Γ:Ho) (Ys:List YC) (call:eE) (k:Nat) (st:AS) (e:Exit) (st':AS),Ud Γ.P Ys call→GX Γ.P Γ.n Γ.rd Ys Γ→Γ.P.follows .mixedOrders=true→x.ok=true→Γ.rd=none→(∀ p,p∈x.rgs→gU Γ.P p.1 p.2)→vS call k x st=some (e,st')→(e=.ret∨e=.normal)→st'.nx≤Γ.top →
 ∀ code,IC.ofS Γ.P Γ.n code=x.ic→∀ (a:Act) (w:World),aE7 Γ st a w→code.wp Γ.P (fun e' a' w'=>e'=e∧aE7 Γ st' a' w') a w
theorem A9.wide {c:IC} {e:Exit} (h:A9 Γ c st e st') (hrd:Γ.rd=none) (ht:st'.nx≤Γ.top) {code:Code} (hc:IC.of Γ.P Γ.n code=c) (hs:aE7 Γ st a w):code.wp Γ.P (fun e' a' w'=>e'=e∧aE7 Γ st' a' w') a w:=by
 have:=h.run ht code hc a w hs
 rw [hrd] at this
 exact wpIn_wide.1 this
theorem aAY {x:XC} (h1:S1 x) (hseq:∀ a b,x=.seq a b→S1 a∧S1 b∧S2 b):S2 x:=by
 intro Γ Ys call k st e st' hcall hG hm hok hrd hr hev he ht code
 induction code with
 | scope c ih =>
  intro hc a w hs
  refine wp_scope_straight (wp_mono (ih hc a w hs) fun e1 a1 w1 hl=>?_)
  obtain ⟨rfl,h⟩:=hl
  rcases he with rfl | rfl
  ·exact ⟨rfl,h⟩
  exact ⟨rfl,h⟩
 | seq c d _ _ =>
  intro hc a w hs
  simp only [IC.ofS] at hc
  cases x with
  | seq x1 x2 =>
   obtain ⟨s1,s1b,s2⟩:=hseq x1 x2 rfl
   simp only [XC.ic,IC.seq.injEq] at hc
   obtain ⟨g1,g2⟩:=hc
   simp only [XC.ok,Bool.and_eq_true] at hok
   have hr1:∀ p,p∈x1.rgs→gU Γ.P p.1 p.2:=fun p hp=>hr p (List.mem_append_left _ hp)
   have hr2:∀ p,p∈x2.rgs→gU Γ.P p.1 p.2:=fun p hp=>hr p (List.mem_append_right _ hp)
   simp only [vS] at hev
   cases hx:vS call k x1 st with
   | none=>rw [hx] at hev;cases hev
   | some p =>
    obtain ⟨e1,st1⟩:=p
    rw [hx] at hev
    have c1:=s1 Γ Ys call k st e1 st1 hcall hG hm hok.1 (.inr hrd) hr1 hx
    cases e1 with
    | normal =>
     have hlow:st1.nx≤st'.nx:=(s1b Γ Ys call k st1 e st' hcall hG hm hok.2 (.inr hrd) hr2 hev).low.le
     refine wp_seq (wp_mono (c1.wide hrd (Nat.le_trans hlow ht) g1 hs) fun e2 a2 w2 hl=>?_)
     obtain ⟨rfl,hs2⟩:=hl
     exact s2 Γ Ys call k st1 e st' hcall hG hm hok.2 hrd hr2 hev he ht d g2 a2 w2 hs2
    | _ =>
     simp only at hev
     injection hev with hev
     obtain ⟨rfl,rfl⟩:=Prod.mk.inj hev
     refine wp_seq (wp_mono (c1.wide hrd ht g1 hs) fun e2 a2 w2 hl=>?_)
     obtain ⟨rfl,hs2⟩:=hl
     exact ⟨rfl,hs2⟩
  | _=>simp [XC.ic] at hc
 | _ =>
  intro hc a w hs
  exact (h1 Γ Ys call k st e st' hcall hG hm hok (.inr hrd) hr hev).wide hrd ht hc hs
theorem aYD {P:Program} {f:Nat} {e:FE} {k:Nat} {args:List AV} {mem:Tr mU} {nx:Nat} {ex:Exit} {rv:AV} (hcall:Ud P Ys call) (hm:P.follows .mixedOrders=true) (hF:gU P f e) (hr:∀ p,p∈e.x.rgs→gU P p.1 p.2) (hS:S2 e.x)
    (hlow:Low mem nx st.mem st.nx) (hev:vS call k e.x ⟨Hy 0 .nil args,mem,nx⟩=some (ex,st)) (hex:ex=.ret∨ex=.normal) (Ff:args.length≤e.n) (hrv:aV9 st e.ts=some rv) {K:Nat→Prop} {w0:World} {ρ:nV} {vs:Array Value} (hms:rR K w0 ρ mem.m w)
    (hY:∀ y,y∈Ys→y.r.le ρ∧K y.l∧w.heap[y.l]? = some (.loop y.lp)∧(y.im=true→∀ b,K b)) (hfree:aWO ρ nx st.nx) (hl:vs.size=args.length) (hrep:∀ k v,args[k]? = some v→kY (kO ρ) v (vs.getD k undef)) :
    callable P f=true∧Calls P f vs w fun e' w'=>∃ x ρ',e'=.returned x∧pU ρ nx st.nx ρ'∧rR K w0 ρ' st.mem.m w'∧kY (kO ρ') rv x:=by
  obtain ⟨fn,code,hf,hn,hb,hname,hic,hres,hok⟩:=hF
  refine ⟨by unfold callable;rw [hf];simp only [hname,hb];rfl,?_⟩
  let Γ:Ho:=⟨P,w0,K,e.n,ρ,nx,st.nx,[],none⟩
  have hG : GX P e.n none Ys Γ := ⟨rfl, rfl, rfl, fun y hy => by
    obtain ⟨h1,h2,h3,h4⟩:=hY y hy
    exact ⟨h1,h2,(hms.fr.block _ h2).symm.trans h3,h4⟩⟩
  have hsat:jN Γ ρ ⟨Hy 0 .nil args,mem,nx⟩ { tmps:=vs++Array.replicate (fn.ntmps - vs.size) undef,defers:=[] } w:=by
    refine ⟨rfl,by simp [Γ,hn,hl];omega,fun i=>?_,hms,pU.refl _ _,Nat.le_refl _,hfree⟩
    simp only [AS.get,bEL,Nat.not_lt_zero,if_false,Nat.sub_zero,Tr.get_nil]
    cases hi:args[i]? with
    | none=>exact .any _
    | some v =>
      have hlt:i<vs.size:=by rw [hl];exact (List.getElem?_eq_some_iff.1 hi).1
      have h2:(vs++Array.replicate (fn.ntmps - vs.size) undef).getD i undef=vs.getD i undef:=by
        simp [Array.getD_eq_getD_getElem?,Array.getElem?_append,hlt]
      simp only
      rw [h2]
      exact hrep i v hi
  refine callsIn_wide.1 (callsIn_of_wp_marks (n:=0) hf hb trivial (wpIn_wide.2 ?_) rfl)
  refine wp_mono (hS Γ Ys call k _ ex st hcall hG hm hok rfl hr hev hex (Nat.le_refl _) code hic _ w ⟨Γ,.refl Γ,ρ,hsat⟩) fun e' a w' hl=>?_
  obtain ⟨rfl,Γ',hU,ρ',hs'⟩:=hl
  obtain ⟨Ds,d1,d2,d3⟩:=hU.ds
  have hgr:pU ρ nx st.nx ρ':=hU.base.trans hU.low hs'.low hs'.base
  have hfr:Fr K w0 w':=⟨hs'.m.fr.os.trans hU.fr.os,hs'.m.fr.tape.trans hU.fr.tape,hs'.m.fr.output.trans hU.fr.output,Nat.le_trans hU.fr.size hs'.m.fr.size,fun b hb=>(hs'.m.fr.block b (hU.K b hb)).trans (hU.fr.block b hb)⟩
  have hD:∀ D,D∈Ds→w'.heap[D]? = some (.deferred (some []))∧¬ K D:=fun D hD=>by
    obtain ⟨g1,g2,g3⟩:=d3 D hD
    exact ⟨(hs'.m.fr.block D g1).trans g2, fun hk => by
      have h1:D<w0.heap.size:=hms.kept D hk
      have h2:w0.heap.size≤D:=g3
      omega⟩
  have hmb:rR K w0 ρ' st.mem.m (aVG Ds w'):=rR.shuts Ds w' d2 hD (hms.back hs'.m hU.K hfr hgr.le fun b k hb hr=>hlow.ro b k hb hr)
  have hs6:jN ⟨P,w0,K,e.n,ρ',st.nx,st.nx,a.defers,none⟩ ρ' st a (aVG Ds w'):=
    ⟨rfl,hs'.size.trans hU.n,hs'.env,hmb,pU.refl _ _,Nat.le_refl _,fun b h1 h2=>absurd h2 (Nat.not_lt.2 h1)⟩
  obtain ⟨x,hx1,hx2⟩:=bDl rfl hs6 hres hrv
  have hdf:a.defers=Ds.map mkD:=by rw [hs'.defers,d1];simp [Γ]
  have hpost:LeavesInM Fence.wide 0 P fn a.tmps (fun e' w'=>∃ x ρ',e'=.returned x∧pU ρ nx st.nx ρ'∧rR K w0 ρ' st.mem.m w'∧kY (kO ρ') rv x) a.defers .returning w':=by
    rw [hdf]
    exact aW6 Ds w' d2 (fun D h=>(hD D h).1) ⟨x,hx1,x,ρ',rfl,hgr,hmb,hx2⟩
  rcases hex with rfl | rfl
  · exact hpost
  · exact hpost
end
open Go.RowKit
open Go.ChangeMaps (setBlock)
open Go.Eng (Od callable kJ nK)
section
variable {P:Program} {call:eE} {Ys:List YC} {Γ Γ':Ho} {ρ ρ':nV} {st st' s:AS} {a a':Act} {w w':World}
theorem Ar {α:Type} {t:Tr α} {q i:Nat} {v:Option α}:(Tr.put (q+1) t q v).get i=if q=i then v else t.get i:=Tr.get_put _ _ _ _ _ (by omega)
theorem aIZ (t:Tr AV) (i:Nat):∀ W:List Nat,(i∈W∧(E9 t W).get i=none)∨(i ∉ W∧(E9 t W).get i=t.get i)
 | []=>.inr ⟨by simp,rfl⟩
 | q::W=>by
  simp only [E9,Ar]
  by_cases e:q=i
  ·subst e;exact .inl ⟨List.mem_cons_self ..,by rw [if_pos rfl]⟩
  rw [if_neg e]
  rcases aIZ t i W with ⟨h,g⟩ | ⟨h,g⟩
  ·exact .inl ⟨List.mem_cons_of_mem _ h,g⟩
  exact .inr ⟨fun hi=>by rcases List.mem_cons.1 hi with hi | hi;exact e hi.symm;exact h hi,g⟩
theorem aGB {t:Tr mU} {b:Nat}:∀ {n:Nat},(Ym t n).get b=if b<n then t.get b else none
 | 0=>by simp [Ym,Tr.get_nil]
 | n+1=>by
  simp only [Ym,Ar,aGB (n:=n)]
  by_cases h:n=b
  ·subst h;rw [if_pos rfl,if_pos (by omega)]
  rw [if_neg h]
  by_cases h2:b<n
  ·rw [if_pos h2,if_pos (by omega)]
  rw [if_neg h2,if_neg (by omega)]
theorem bC7 {t:Tr mU} {n b:Nat} {k:mU} (h:(Ym t n).get b=some k):t.get b=some k:=by
 rw [aGB] at h
 split at h
 ·exact h
 cases h
theorem aVA (st:AS) (d:Option Nat) (v:AV) {q:Nat} (h:d≠some q):(st.putO d v).env.get q=st.env.get q:=by
 cases d with
 | none=>rfl
 | some d=>simp only [AS.putO,AS.put,Ar];rw [if_neg fun e=>h (by rw [e])]
theorem bDE (t:Tr AV) (d:Option Nat) (v:AV) {q:Nat} (h:d≠some q):(O1 t d v).get q=t.get q:=by
 cases d with
 | none=>rfl
 | some d=>simp only [O1,Ar];rw [if_neg fun e=>h (by rw [e])]
theorem bHv {i:I} (h:evI call i st=some s) {q:Nat} (hq:i.d≠some q):s.env.get q=st.env.get q:=by
 unfold evI at h
 split at h
 ·cases h
 ·injection h with h;subst h;exact aVA _ _ _ hq
 split at h
 ·injection h with h;subst h;exact aVA _ _ _ hq
 cases h
theorem bHP:∀ {l:List I} {st s:AS},Jb call l st=some s→∀ {q:Nat},q ∉ l.filterMap (fun i=>i.d)→s.env.get q=st.env.get q:=by
 intro l
 induction l with
 | nil=>intro st s h q _;simp only [Jb] at h;injection h with h;subst h;rfl
 | cons i l ih =>
  intro st s h q hq
  simp only [Jb] at h
  split at h
  ·rename_i s1 h1
   rw [List.filterMap_cons] at hq
   have e1:i.d≠some q:=fun e=>hq (by rw [e];exact List.mem_cons_self ..)
   have e2:q ∉ l.filterMap fun i=>i.d:=fun e=>hq (by split<;>first | exact e | exact List.mem_cons_of_mem _ e)
   exact (ih h e2).trans (bHv h1 e1)
  cases h
theorem aZT {j bits:Nat} {d:D} {a b:O9} (h:K5 call j d bits a=some b) {q:Nat} (hq:d.i.d≠some q):b.env.get q=a.env.get q:=by
 unfold K5 at h
 simp only at h
 (repeat' split at h)<;>first | (cases h;done) | (injection h with h;subst h;exact bDE _ _ _ hq)
theorem bEP {an:List Nat}:∀ {l:List D} {j:Nat} {a b:O9},aE5 call an j l a=some b→∀ {q:Nat},q ∉ l.filterMap (fun d=>d.i.d)→b.env.get q=a.env.get q:=by
 intro l
 induction l with
 | nil=>intro j a b h q _;simp only [aE5] at h;injection h with h;subst h;rfl
 | cons d l ih =>
  intro j a b h q hq
  simp only [aE5] at h
  split at h
  ·rename_i a1 h1
   rw [List.filterMap_cons] at hq
   have e1:d.i.d≠some q:=fun e=>hq (by rw [e];exact List.mem_cons_self ..)
   have e2:q ∉ l.filterMap fun d=>d.i.d:=fun e=>hq (by split<;>first | exact e | exact List.mem_cons_of_mem _ e)
   exact (ih h e2).trans (aZT h1 e1)
  cases h
theorem bBx {ev:AS→Option (Exit×AS)} {q:Nat} (hev:∀ st x s,ev st=some (x,s)→s.env.get q=st.env.get q):∀ {k:Nat} {st s:AS} {x:Exit},N7 ev k st=some (x,s)→s.env.get q=st.env.get q:=by
 intro k
 induction k with
 | zero=>intro st s x h;cases h
 | succ k ih =>
  intro st s x h
  simp only [N7] at h
  split at h
  ·cases h
  ·rename_i s1 h1;exact (ih h).trans (hev _ _ _ h1)
  rename_i e1 s1 hne h1
  injection h with h
  obtain ⟨rfl,rfl⟩:=Prod.mk.inj h
  exact hev _ _ _ h1
theorem aSR {ev:AS→Option (Exit×AS)} {start:Value×AV×Nat→AS} {es:aWy} {env:Tr AV} {i:Nat}:∀ W:List Nat,(∃ v,i∈W∧bAw ev start es i v∧(aZj ev start es env W).get i=some (.c (.v v)))∨((aZj ev start es env W).get i=env.get i∧(i∈W→¬ ∃ v,bAw ev start es i v))
 | []=>.inr ⟨rfl,fun h=>by cases h⟩
 | q::W=>by
  have ih:=aSR (ev:=ev) (start:=start) (es:=es) (env:=env) (i:=i) W
  simp only [aZj]
  split
  ·rename_i hd
   rw [Ar]
   by_cases e:q=i
   ·subst e
    rw [if_pos rfl]
    exact .inl ⟨_,List.mem_cons_self ..,@Classical.epsilon_spec_aux Value ⟨.nilFunc⟩ _ (@of_decide_eq_true _ (Classical.propDecidable _) hd),rfl⟩
   rw [if_neg e]
   rcases ih with ⟨v,h1,h2⟩ | ⟨h,h2⟩
   ·exact .inl ⟨v,List.mem_cons_of_mem _ h1,h2⟩
   exact .inr ⟨h,fun hi=>by rcases List.mem_cons.1 hi with hi | hi;exact absurd hi.symm e;exact h2 hi⟩
  rename_i hd
  rcases ih with ⟨v,h1,h2⟩ | ⟨h,h2⟩
  ·exact .inl ⟨v,List.mem_cons_of_mem _ h1,h2⟩
  refine .inr ⟨h,fun hi=>?_⟩
  rcases List.mem_cons.1 hi with rfl | hi
  ·exact @of_decide_eq_false _ (Classical.propDecidable _) hd
  exact h2 hi
theorem bAa {ev:AS→Option (Exit×AS)} {W:List Nat} {it out:Nat} {e:Exit} (h:evM ev W it out st=some (e,st')) :
    ∃ r m since c0 es clock,st.get it=.c (.ptr r 0)∧st.mem.get r=some (.mit m since c0 #[])∧st.mem.get m=some (.mp es clock)∧it ∉ W∧(r<st.nx∧m<st.nx)∧bUI es since c0 clock #[]∧bUa ev (Kr (E9 st.env W) (Ym st.mem st.nx) st.nx r m clock) es ∧
      st'.mem = Tr.put (r + 1) (Ym st.mem st.nx) r none ∧ st'.nx = mrN ev (Kr (E9 st.env W) (Ym st.mem st.nx) st.nx r m clock) st.nx es ∧ ((bQD ev (Kr (E9 st.env W) (Ym st.mem st.nx) st.nx r m clock) es ∧ e = .exit out ∧ st'.env = E9 st.env W) ∨
        ((∃ d,d∈es∧∃ s,ev (Kr (E9 st.env W) (Ym st.mem st.nx) st.nx r m clock d)=some (.ret,s))∧e=.ret∧st'.env=aZj ev (Kr (E9 st.env W) (Ym st.mem st.nx) st.nx r m clock) es (E9 st.env W) W)):=by
  unfold evM at h
  split at h
  case h_2=>cases h
  rename_i r hit
  split at h
  case h_2=>cases h
  rename_i m since c0 seen hr
  split at h
  case h_2=>cases h
  rename_i es clock hm
  split at h
  case h_2=>cases h
  rename_i hd
  obtain ⟨h1,h0,h00,h2,h3⟩:=@of_decide_eq_true _ (Classical.propDecidable _) hd
  obtain rfl:=h2.s
  refine ⟨r,m,since,c0,es,clock,hit,hr,hm,h1,⟨h0,h00⟩,h2,h3,?_⟩
  split at h
  · rename_i hn
    injection h with h
    obtain ⟨rfl,rfl⟩:=Prod.mk.inj h
    exact ⟨rfl,rfl,.inl ⟨@of_decide_eq_true _ (Classical.propDecidable _) hn,rfl,rfl⟩⟩
  · rename_i hn
    injection h with h
    obtain ⟨rfl,rfl⟩:=Prod.mk.inj h
    refine ⟨rfl,rfl,.inr ⟨?_,rfl,rfl⟩⟩
    have:=@of_decide_eq_false _ (Classical.propDecidable _) hn
    simp only [bQD,Classical.not_forall,Classical.not_not] at this
    obtain ⟨d,hd,s,hs⟩:=this
    exact ⟨d,hd,s,hs⟩
theorem bGO {k:Nat}:∀ (c:XC) {call:eE} {st s:AS} {x:Exit},vS call k c st=some (x,s)→∀ {q:Nat},q ∉ c.dsts→s.env.get q=st.env.get q:=by
 intro c
 induction c with
 | skip=>intro call st s x h q _;simp only [vS] at h;injection h with h;obtain ⟨_,rfl⟩:=Prod.mk.inj h;rfl
 | exit id=>intro call st s x h q _;simp only [vS] at h;injection h with h;obtain ⟨_,rfl⟩:=Prod.mk.inj h;rfl
 | ret=>intro call st s x h q _;simp only [vS] at h;injection h with h;obtain ⟨_,rfl⟩:=Prod.mk.inj h;rfl
 | bad=>intro call st s x h q _;simp only [vS] at h;cases h
 | region l =>
  intro call st s x h q hq
  simp only [vS] at h
  split at h
  ·rename_i s1 h1;injection h with h;obtain ⟨_,rfl⟩:=Prod.mk.inj h;exact bHP h1 hq
  cases h
 | draw l an =>
  intro call st s x h q hq
  simp only [vS,evD] at h
  split at h
  ·rename_i s1 h1
   injection h with h;obtain ⟨_,rfl⟩:=Prod.mk.inj h
   split at h1
   ·rename_i b hb
    injection h1 with h1;subst h1
    have:=bEP hb hq
    unfold O9.fin
    split<;>exact this
   cases h1
  cases h
 | seq a b iha ihb =>
  intro call st s x h q hq
  simp only [XC.dsts,List.mem_append,not_or] at hq
  simp only [vS] at h
  split at h
  ·cases h
  ·rename_i s1 h1;exact (ihb h hq.2).trans (iha h1 hq.1)
  rename_i e1 s1 hne h1
  injection h with h
  obtain ⟨rfl,rfl⟩:=Prod.mk.inj h
  exact iha h1 hq.1
 | cond c a b iha ihb =>
  intro call st s x h q hq
  simp only [XC.dsts,List.mem_append,not_or] at hq
  simp only [vS] at h
  split at h
  ·cases h
  ·exact iha h hq.1
  exact ihb h hq.2
 | block id b ih =>
  intro call st s x h q hq
  simp only [vS] at h
  split at h
  ·cases h
  rename_i e1 s1 h1
  injection h with h
  obtain ⟨_,rfl⟩:=Prod.mk.inj h
  exact ih h1 hq
 | loop b ih =>
  intro call st s x h q hq
  simp only [vS] at h
  exact bBx (fun st x s h=>ih h hq) h
 | range g ps as_ bd h' n c iha ihb ihc =>
  intro call st s x h q hq
  simp only [vS] at h
  (repeat' split at h)<;>first | (cases h;done) | (injection h with h;obtain ⟨_,rfl⟩:=Prod.mk.inj h;rfl)
 | mrange nx more it out b ih =>
  intro call st s x h q hq
  simp only [vS] at h
  obtain ⟨r,m,since,c0,es,clock,_,_,_,_,_,_,_,_,_,hh⟩:=bAa h
  have hd:(E9 st.env (nx::more::b.dsts)).get q=st.env.get q:=by
   rcases aIZ st.env q (nx::more::b.dsts) with ⟨h1,_⟩ | ⟨_,h1⟩
   ·exact absurd h1 hq
   exact h1
  rcases hh with ⟨_,_,he⟩ | ⟨_,_,he⟩
  ·rw [he,hd]
  rw [he]
  rcases aSR (ev:=vS call k b) (start:=Kr (E9 st.env (nx::more::b.dsts)) (Ym st.mem st.nx) st.nx r m clock) (es:=es) (env:=E9 st.env (nx::more::b.dsts)) (i:=q) (nx::more::b.dsts) with ⟨v,h1,_⟩ | ⟨h1,_⟩
  ·exact absurd h1 hq
  rw [h1,hd]
theorem kO.drop (hle:ρ.le ρ') {c:C} {y:Value} (h:kO ρ' c y):∀ {x:Value},kO ρ c x→kO ρ c y:=by
 have hlk:∀ b la la',ρ b=some la→ρ' b=some la'→la'=la:=fun b la la' h1 h2=>by
  have:=hle _ _ h1
  rw [h2] at this
  injection this
 induction h with
 | any x h=>intro _ _;exact .any x h
 | v x h=>intro _ _;exact .v x h
 | ptr b o la h =>
  intro x h0
  cases h0 with
  | ptr _ _ la0 h1=>rw [hlk _ _ _ h1 h];exact .ptr b o la0 h1
 | sl b o n s cap la h hb hn hm =>
  intro x h0
  cases h0 with
  | sl _ _ _ _ cap0 la0 h1 _ _ _ =>
   have e:=hlk _ _ _ h1 h
   subst e
   exact .sl b o n s cap la h1 hb hn hm
 | fn f first caps us vs h0 h1 h2 s1 s2 hf h ih1 ih2 =>
  intro x hx
  cases hx with
  | fn _ _ _ us0 vs0 g0 g1 g2 t1 t2 gf g =>
   exact .fn f first caps us vs h0 h1 h2 s1 s2 (fun i p j c hp hc=>ih1 i p j c hp hc (gf i p j c hp hc)) (fun i p j c hp hc=>ih2 i p j c hp hc (g i p j c hp hc))
 | mp b la h =>
  intro x h0
  cases h0 with
  | mp _ la0 h1=>rw [hlk _ _ _ h1 h];exact .mp b la0 h1
 | em A cap=>intro _ _;exact .em A cap
 | yl b la h =>
  intro x h0
  cases h0 with
  | yl _ la0 h1=>rw [hlk _ _ _ h1 h];exact .yl b la0 h1
theorem kY.drop (hle:ρ.le ρ') {v:AV} {y:Value} (h:kY (kO ρ') v y):∀ {x:Value},kY (kO ρ) v x→kY (kO ρ) v y:=by
 induction h with
 | any x=>intro _ _;exact .any x
 | c c x h =>
  intro y hy
  cases hy with
  | c _ _ h0=>exact .c c x (h.drop hle h0)
 | agg cs xs hs h =>
  intro y hy
  cases hy with
  | agg _ ys gs g=>exact .agg cs xs hs fun i c hc=>(h i c hc).drop hle (g i c hc)
 | tup vs xs hs h ih =>
  intro y hy
  cases hy with
  | tup _ ys gs g=>exact .tup vs xs hs fun i v hv=>ih i v hv (g i v hv)
theorem yM.drop (hle:ρ.le ρ') {la:Pl} {k:mU} (h:yM ρ' w' la k) (h0:yM ρ w la k):yM ρ w' la k:=by
 cases h with
 | cells ty cs cur hh ht hl hf =>
  cases h0 with
  | cells _ _ cur0 hh0 ht0 hl0 hf0 =>
   exact .cells ty cs cur hh ht hl fun i c hc=>let ⟨x,hx,hr⟩:=hf i c hc;let ⟨x0,_,hr0⟩:=hf0 i c hc;⟨x,hx,hr.drop hle hr0⟩
 | ro cs hl hf =>
  cases h0 with
  | ro _ hl0 hf0=>exact .ro cs hl fun i c hc=>let ⟨x,hx,hr⟩:=hf i c hc;let ⟨x0,_,hr0⟩:=hf0 i c hc;⟨x,hx,hr.drop hle hr0⟩
 | sit s pos hh h1=>exact .sit s pos hh h1
 | mp es clock xs hh hl hf =>
  cases h0 with
  | mp _ _ xs0 hh0 hl0 hf0 =>
   exact .mp es clock xs hh hl fun i e x h1 h2=>by
    obtain ⟨g1,g2,g3⟩:=hf i e x h1 h2
    have hi:i<xs0.length:=by rw [hl0];exact (List.getElem?_eq_some_iff.1 h1).1
    exact ⟨g1,g2,g3.drop hle (hf0 i e _ h1 (List.getElem?_eq_getElem hi)).2.2⟩
 | mit m since c0 seen lm hm hh h1 =>
  cases h0 with
  | mit _ _ _ _ lm0 hm0 hh0 h10 =>
   have:=hle _ _ hm0
   rw [hm] at this
   injection this with this
   subst this
   exact .mit m since c0 seen lm hm0 hh h1
 | mcur m n since c0 seen lm hm hh hb h1 =>
  cases h0 with
  | mcur _ _ _ _ _ lm0 hm0 hh0 hb0 h10 =>
   have:=hle _ _ hm0
   rw [hm] at this
   injection this with this
   subst this
   exact .mcur m n since c0 seen lm hm0 hh hb h1
theorem jN.less (hs:jN Γ ρ st a w) (he:∀ i,s.get i=.any∨s.get i=st.get i) (hm:∀ b k,s.mem.get b=some k→st.mem.get b=some k) (hn:s.nx=st.nx):jN Γ ρ s a w:=
  ⟨hs.defers, hs.size, fun i => by
    rcases he i with h | h
    · rw [h];exact .any _
    · rw [h];exact hs.env i,hs.m.sub hm,by rw [hn];exact hs.base,by rw [hn];exact hs.low,by rw [hn];exact hs.free⟩
theorem jN.less2 (hs:jN Γ ρ st a w) {s:AS} (he:∀ i,s.get i=.any∨s.get i=st.get i) (hm:∀ b k,s.mem.get b=some k→st.mem.get b=some k) (hn:st.nx≤s.nx):jN Γ ρ s a w:=
  ⟨hs.defers, hs.size, fun i => by
    rcases he i with h | h
    · rw [h];exact .any _
    · rw [h];exact hs.env i,hs.m.sub hm,⟨hs.base.le,fun b hb=>hs.base.out b (by omega)⟩,Nat.le_trans hs.low hn,fun b h1 h2=>hs.free b (by omega) h2⟩
def mSt (env:Tr AV) (mem:Tr mU) (n r m since clock:Nat) (seen:Array Nat):AS:=⟨env,Tr.put (r+1) mem r (some (.mit m since clock seen)),n⟩
theorem aF0 {mem:Tr mU} {r b:Nat} {k':mU} {k:Option mU} (h:(Tr.put (r+1) mem r k).get b=some k'):(b=r∧k=some k')∨(b≠r∧mem.get b=some k'):=by
 rw [Ar] at h
 split at h
 ·rename_i e;exact .inl ⟨e.symm,h⟩
 rename_i e;exact .inr ⟨fun e'=>e e'.symm,h⟩
theorem aOl {mem:Tr mU} {r b:Nat} {k:Option mU} (h:b≠r):(Tr.put (r+1) mem r k).get b=mem.get b:=by rw [Ar,if_neg fun e=>h e.symm]
theorem bHz {env:Tr AV} {mem:Tr mU} {n r m since c:Nat} {seen:Array Nat} {e:Value×AV×Nat} (hs:jN Γ ρ (mSt env mem n r m since c (seen.push e.2.2)) a w) :
  ∃ la lm,ρ r=some la∧ρ m=some lm∧la.off=0∧w.heap[la.b]? = some (.mapIter (some lm.b) since (seen.push e.2.2) c)∧¬ Γ.K la.b ∧
   Up Γ ⟨Γ.P,w,fun b=>Γ.K b∨b=la.b,Γ.n,ρ,n,Γ.top,Γ.ds,Γ.rd⟩∧jN ⟨Γ.P,w,fun b=>Γ.K b∨b=la.b,Γ.n,ρ,n,Γ.top,Γ.ds,Γ.rd⟩ ρ (Kr env mem n r m c e) a w:=by
 have hgr:(mSt env mem n r m since c (seen.push e.2.2)).mem.get r=some (.mit m since c (seen.push e.2.2)):=by simp [mSt,Ar]
 obtain ⟨la,hla,hrep⟩:=hs.m.blk r _ hgr
 obtain ⟨lm,hlm,hh,h0⟩:∃ lm,ρ m=some lm∧w.heap[la.b]? = some (.mapIter (some lm.b) since (seen.push e.2.2) c)∧la.off=0:=by
  cases hrep with
  | mit _ _ _ _ lm h1 h2 h3=>exact ⟨lm,h1,h2,h3⟩
 have hK:¬ Γ.K la.b:=(hs.m.own r _ la hgr hla).1 rfl
 have hcase:∀ b k,(Kr env mem n r m c e).mem.get b=some k→(b=r∧k=.mcur m e.2.2 c)∨(b≠r∧(mSt env mem n r m since c (seen.push e.2.2)).mem.get b=some k):=fun b k hb=>by
  rcases aF0 (mem:=mem) hb with ⟨h1,h2⟩ | ⟨h1,h2⟩
  ·injection h2 with h2;exact .inl ⟨h1,h2.symm⟩
  exact .inr ⟨h1,by show (Tr.put (r+1) mem r _).get b=_;rw [aOl h1];exact h2⟩
 refine ⟨la,lm,hla,hlm,h0,hh,hK,⟨rfl,rfl,rfl,rfl,fun b hb=>.inl hb,hs.m.fr,hs.base,hs.low,[],rfl,List.nodup_nil,fun D hD=>by cases hD⟩,⟨hs.defers,hs.size,hs.env,⟨fun b k hb=>?_,fun b k l hb hl=>?_,fun b b' k k' l l' h1 h2 h3 h4 r1 r2 he=>?_,fun b hb=>?_,⟨rfl,rfl,rfl,Nat.le_refl _,fun _ _=>rfl⟩⟩,pU.refl _ _,Nat.le_refl _,hs.free⟩⟩
 ·rcases hcase b k hb with ⟨rfl,rfl⟩ | ⟨_,h⟩
  ·exact ⟨la,hla,.mcur m e.2.2 since c _ lm hlm hh (by simp) h0⟩
  exact hs.m.blk b k h
 ·rcases hcase b k hb with ⟨rfl,rfl⟩ | ⟨hne,h⟩
  ·rw [hla] at hl;injection hl with hl;subst hl
   exact ⟨fun h=>(by cases h),fun _=>.inr rfl,(hs.m.own b _ la hgr hla).2.2⟩
  have g:=hs.m.own b k l h hl
  refine ⟨fun hr hk=>?_,fun hr=>.inl (g.2.1 hr),g.2.2⟩
  rcases hk with hk | hk
  ·exact g.1 hr hk
  exact hs.m.parted hgr h hla hl rfl (fun e=>hne e.symm) hk.symm
 ·rcases hcase b k h1 with ⟨rfl,rfl⟩ | ⟨_,g1⟩
  ·cases r1
  rcases hcase b' k' h2 with ⟨rfl,rfl⟩ | ⟨_,g2⟩
  ·cases r2
  exact hs.m.inj b b' k k' l l' g1 g2 h3 h4 r1 r2 he
 rcases hb with hb | hb
 ·exact Nat.lt_of_lt_of_le (hs.m.kept b hb) hs.m.fr.size
 rw [hb];exact (hs.m.own r _ la hgr hla).2.2
theorem bHB {Γ3:Ho} {env:Tr AV} {mem:Tr mU} {n r m since c:Nat} {seen:Array Nat} {e:Value×AV×Nat} {la lm:Pl} (hs0:jN Γ ρ (mSt env mem n r m since c (seen.push e.2.2)) a w) (hla:ρ r=some la) (hlm:ρ m=some lm) (h0:la.off=0) (hh:w.heap[la.b]? = some (.mapIter (some lm.b) since (seen.push e.2.2) c)) (hKn:¬ Γ.K la.b)
    (hs1:jN ⟨Γ.P,w,fun b=>Γ.K b∨b=la.b,Γ.n,ρ,n,Γ.top,Γ.ds,Γ.rd⟩ ρ (Kr env mem n r m c e) a w) (hU:Up ⟨Γ.P,w,fun b=>Γ.K b∨b=la.b,Γ.n,ρ,n,Γ.top,Γ.ds,Γ.rd⟩ Γ3) (hs:jN Γ3 ρ' s a' w') (hm:∀ b k,(Kr env mem n r m c e).mem.get b=some k→s.mem.get b=some k)
    {env2:Tr AV} (he:∀ i,(⟨env2,mem,n⟩:AS).get i=.any∨(∃ v,(⟨env2,mem,n⟩:AS).get i=.c (.v v)∧s.get i=.c (.v v))∨((⟨env2,mem,n⟩:AS).get i=(Kr env mem n r m c e).get i∧(⟨env2,mem,n⟩:AS).get i=s.get i)) :
    ∃ Γ4,Up Γ Γ4∧jN Γ4 ρ (mSt env2 mem n r m since c (seen.push e.2.2)) a' w':=by
  have hle:ρ.le ρ':=nV.le_trans (show nV.le ρ Γ3.r0 from hU.base.le) hs.base.le
  have hK3:∀ b,Γ.K b∨b=la.b→Γ3.K b:=fun b hb=>hU.K b hb
  have hblk3:∀ b,Γ3.K b→w'.heap[b]? = Γ3.w0.heap[b]?:=fun b hb=>hs.m.fr.block b hb
  have hkeep:∀ b,Γ.K b∨b=la.b→w'.heap[b]? = w.heap[b]?:=fun b hb=>(hblk3 b (hK3 b hb)).trans (hU.fr.block b hb)
  have hit:w'.heap[la.b]? = some (.mapIter (some lm.b) since (seen.push e.2.2) c):=(hkeep _ (.inr rfl)).trans hh
  have hgr1:(Kr env mem n r m c e).mem.get r=some (.mcur m e.2.2 c):=by simp [Kr,Ar]
  have hgr0:(mSt env mem n r m since c (seen.push e.2.2)).mem.get r=some (.mit m since c (seen.push e.2.2)):=by simp [mSt,Ar]
  have hcase:∀ b k,(mSt env2 mem n r m since c (seen.push e.2.2)).mem.get b=some k→(b=r∧k=.mit m since c (seen.push e.2.2))∨(b≠r∧(Kr env mem n r m c e).mem.get b=some k∧(mSt env mem n r m since c (seen.push e.2.2)).mem.get b=some k):=fun b k hb=>by
    rcases aF0 (mem:=mem) hb with ⟨h1,h2⟩ | ⟨h1,h2⟩
    · injection h2 with h2;exact .inl ⟨h1,h2.symm⟩
    · exact .inr ⟨h1,by show (Tr.put (r+1) mem r _).get b=_;rw [aOl h1];exact h2,by show (Tr.put (r+1) mem r _).get b=_;rw [aOl h1];exact h2⟩
  have hne:∀ b k l,b≠r→(mSt env mem n r m since c (seen.push e.2.2)).mem.get b=some k→ρ b=some l→l.b≠la.b:=fun b k l hb hk hl e1=>hs0.m.parted hgr0 hk hla hl rfl (fun e=>hb e.symm) e1.symm
  obtain ⟨Ds,e1,e2,e3⟩:=hU.ds
  have hDne:∀ D,D∈Ds→D≠la.b:=fun D hD h=>by
    have h1:=(hblk3 D (e3 D hD).1).trans (e3 D hD).2.1
    rw [h,hit] at h1
    cases h1
  refine ⟨⟨Γ3.P, w', fun b => Γ3.K b ∧ b ≠ la.b, Γ3.n, ρ, n, Γ3.top, Γ3.ds, Γ3.rd⟩, ⟨hU.P, hU.n, hU.rd, hU.top, fun b hb => ⟨hK3 b (.inl hb), fun e => hKn (e ▸ hb)⟩, ⟨?_, ?_, ?_, ?_, fun b hb => (hkeep b (.inl hb)).trans (hs0.m.fr.block b hb)⟩, hs0.base, hs0.low, Ds, e1, e2, fun D hD => ⟨⟨(e3 D hD).1, hDne D hD⟩, (hblk3 D (e3 D hD).1).trans (e3 D hD).2.1, Nat.le_trans hs0.m.fr.size (e3 D hD).2.2⟩⟩,
    ⟨hs.defers,hs.size,fun i=>?_,⟨fun b k hb=>?_,fun b k l hb hl=>?_,fun b b' k k' l l' h1 h2 h3 h4 r1 r2 he=>?_,fun b hb=>Nat.lt_of_lt_of_le (hs.m.kept b hb.1) hs.m.fr.size,⟨rfl,rfl,rfl,Nat.le_refl _,fun _ _=>rfl⟩⟩,pU.refl _ _,Nat.le_refl _,?_⟩⟩
  · exact hs.m.fr.os.trans (hU.fr.os.trans hs0.m.fr.os)
  · exact hs.m.fr.tape.trans (hU.fr.tape.trans hs0.m.fr.tape)
  · exact hs.m.fr.output.trans (hU.fr.output.trans hs0.m.fr.output)
  · exact Nat.le_trans hs0.m.fr.size (Nat.le_trans hU.fr.size hs.m.fr.size)
  · show kY _ ((⟨env2, mem, n⟩ : AS).get i) _
    rcases he i with h | ⟨v,h,g⟩ | ⟨h,g⟩
    · rw [h];exact .any _
    · rw [h]
      have:=hs.env i
      rw [g] at this
      cases this with
      | c _ _ hc=>cases hc with
        | v _ ho=>exact .c _ _ (.v _ ho)
    · have q1:=hs1.env i
      rw [← h] at q1
      have q2:=hs.env i
      rw [← g] at q2
      exact q2.drop hle q1
  · rcases hcase b k hb with ⟨rfl, rfl⟩ | ⟨hbr, g1, g2⟩
    · exact ⟨la,hla,.mit m since c _ lm hlm hit h0⟩
    · obtain ⟨l, g3, g4⟩ := hs1.m.blk b k g1
      obtain ⟨l',g5,g6⟩:=hs.m.blk b k (hm b k g1)
      have:=hle _ _ g3
      rw [g5] at this
      injection this with this
      subst this
      exact ⟨l',g3,g6.drop hle g4⟩
  · rcases hcase b k hb with ⟨rfl, rfl⟩ | ⟨hbr, g1, g2⟩
    · rw [hla] at hl; injection hl with hl; subst hl
      refine ⟨fun _ hk=>hk.2 rfl,fun h=>(by cases h),?_⟩
      exact (Array.getElem?_eq_some_iff.1 hit).1
    · have g:=hs.m.own b k l (hm b k g1) (hle _ _ hl)
      exact ⟨fun hr hk=>g.1 hr hk.1,fun hr=>⟨g.2.1 hr,hne b k l hbr g2 hl⟩,g.2.2⟩
  · rcases hcase b k h1 with ⟨rfl, rfl⟩ | ⟨hbr, g1, g2⟩ <;> rcases hcase b' k' h2 with ⟨rfl, rfl⟩ | ⟨hbr', g1', g2'⟩
    · rfl
    · rw [hla] at h3; injection h3 with h3; subst h3
      exact absurd he.symm (hne b' k' l' hbr' g2' h4)
    · rw [hla] at h4; injection h4 with h4; subst h4
      exact absurd he (hne b k l hbr g2 h3)
    · exact hs.m.inj b b' k k' l l' (hm _ _ g1) (hm _ _ g1') (hle _ _ h3) (hle _ _ h4) r1 r2 he
  · show aWO ρ n Γ3.top
    rw [hU.top];exact hs1.free
theorem bKg {op:Op} {x:Od} (h:lS.of P op=.nxtM x):∃ y,op=.next y false∧x=Od.of y:=by
 unfold lS.of at h
 split at h
 all_goals first
  | (injection h with h;exact ⟨_,rfl,h.symm⟩)
  | (exfalso;(repeat' split at h)<;>first | (cases h;done) | (unfold aS4 at h;split at h<;>cases h;done) | (rename_i fs _;rcases Z9 P _ _ fs.toList _ _ with g | ⟨ne,ks,g⟩<;>rw [g] at h<;>cases h) | (unfold lS.ofCall at h;(repeat' split at h)<;>cases h))
theorem aSK:∀ {es:List (Value×AV×Nat)},(es.map fun e=>e.2.2).Nodup→∀ {e d:Value×AV×Nat},e∈es→d∈es→e.2.2=d.2.2→e=d
 | [],_,_,_,h,_,_=>by cases h
 | x::es,hn,e,d,he,hd,h=>by
  simp only [List.map_cons,List.nodup_cons] at hn
  rcases List.mem_cons.1 he with h1 | h1<;>rcases List.mem_cons.1 hd with h2 | h2
  ·rw [h1,h2]
  ·exact absurd (List.mem_map.2 ⟨d,h2,by rw [← h,h1]⟩) hn.1
  ·exact absurd (List.mem_map.2 ⟨e,h1,by rw [h,h2]⟩) hn.1
  exact aSK hn.2 h1 h2 h
theorem bKJ {n:Nat} {code:Code} {x:IC} (h:IC.of P n code=.loop x):∃ c,code=.loop c∧IC.of P n c=x:=by
 cases code with
 | region id' ops' draw'=>cases draw'<;>simp [IC.of,IC.ofR] at h
 | loop c=>exact ⟨c,rfl,by simpa [IC.of] using h⟩
 | _=>simp [IC.of] at h
theorem bID {n:Nat} {code:Code} {x y:IC} (h:IC.of P n code=.seq x y):∃ c d,code=.seq c d∧IC.of P n c=x∧IC.of P n d=y:=by
 cases code with
 | region id' ops' draw'=>cases draw'<;>simp [IC.of,IC.ofR] at h
 | seq c d=>exact ⟨c,d,rfl,by simpa [IC.of] using h⟩
 | _=>simp [IC.of] at h
theorem bDq {n:Nat} {code:Code} {l:List I} (h:IC.of P n code=.region l):∃ id ops,code=.region id ops false∧ops.toList.map (I.of P n ops)=l:=by
 cases code with
 | region id' ops' draw' =>
  cases draw'<;>simp [IC.of,IC.ofR] at h
  exact ⟨id',ops',rfl,h⟩
 | _=>simp [IC.of] at h
def aNg (st:AS) (nx more:Nat) (vs:List AV) (b:Bool):AS:=(st.put nx (.tup (D3 (.bool b)::vs))).put more (D3 (.bool b))
theorem aOE {nx more i:Nat} {vs:List AV} {b:Bool}:(aNg st nx more vs b).get i=if more=i then D3 (.bool b) else if nx=i then .tup (D3 (.bool b)::vs) else st.get i:=by
 simp only [aNg,get_put]
theorem bK7 {nx more it c since r m n:Nat} {seen:Array Nat} {es:List (Value×AV×Nat)} {clock:Nat} {env:Tr AV} {mem:Tr mU} {ops:Array Oper} (hops:ops.toList.map (I.of Γ.P Γ.n ops)=[⟨some nx,none,.nxtM (.t it)⟩,⟨some more,none,.ext (.t nx) 0⟩]) (hit:(mSt env mem n r m since c seen).get it=.c (.ptr r 0)) (hmm:mem.get m=some (.mp es clock)) (hrm:m≠r)
    (hlt : ∀ e, e ∈ es → e.2.2 < since) (hc : since ≤ c) (ht : n ≤ Γ.top) (hs : jN Γ ρ (mSt env mem n r m since c seen) a w) : wpOpsIn (FW Γ.rd) 0 Γ.P ops (fun e a w => e = .normal ∧ (((∀ e, e ∈ es → seen.contains e.2.2 = true) ∧ Sat Γ (aNg (mSt env mem n r m since c seen) nx more [] false) a w) ∨
      ∃ e,e∈es∧seen.contains e.2.2=false∧Sat Γ (aNg (mSt env mem n r m since clock (seen.push e.2.2)) nx more [.any,.any] true) a w)) (List.range ops.size) a w:=by
  have hsz:ops.size=2:=by simpa using congrArg List.length hops
  have hi:∀ j,j<2→∃ o,ops[j]? = some o∧([⟨some nx,none,.nxtM (.t it)⟩,⟨some more,none,.ext (.t nx) 0⟩]:List I)[j]? = some (I.of Γ.P Γ.n ops o):=fun j hj=>by
    refine ⟨ops[j]'(by omega),by simp [hsz,hj],?_⟩
    rw [← hops,List.getElem?_map]
    simp [hsz,hj]
  obtain ⟨o0,ho0,hx0⟩:=hi 0 (by omega)
  obtain ⟨o1,ho1,hx1⟩:=hi 1 (by omega)
  simp only [List.getElem?_cons_zero,List.getElem?_cons_succ,Option.some.injEq] at hx0 hx1
  obtain ⟨hd,hoo⟩:=bGh hx0.symm
  obtain ⟨hins,hlt0,hgd⟩:(lS.nxtM (.t it)=lS.of Γ.P o0.op)∧nx < Γ.n∧o0.guard=none:=by
    rcases hoo with ⟨_,hbad⟩ | ⟨h1,hl,h2⟩
    · cases hbad
    · refine ⟨h1,hl nx hd.symm,?_⟩
      rcases h2 with ⟨_,h2⟩ | ⟨_,_,_,h2,_⟩
      · exact h2
      · cases h2
  obtain ⟨y,hop,hy⟩:=bKg hins.symm
  have step2:∀ (v:Value) (w':World) (st1:AS) (vs:List AV) (b:Bool),st1.nx=n→kY (kO ρ) (.tup (D3 (.bool b)::vs)) v→jN Γ ρ st1 a w'→∀ Q:Exit→Act→World→Prop,(∀ a' w',Sat Γ (aNg st1 nx more vs b) a' w'→Q .normal a' w')→wpOpsIn (FW Γ.rd) 0 Γ.P ops Q [1] (a.put o0.dst v) w':=by
    intro v w' st1 vs b hn1 hv hs1 Q hQ
    have hs2:jN Γ ρ (st1.put nx (.tup (D3 (.bool b)::vs))) (a.put o0.dst v) w':=by rw [← hd];exact hs1.put nx hlt0 hv
    have hI:W3 Γ ⟨some more,none,.ext (.t nx) 0⟩ (st1.put nx (.tup (D3 (.bool b)::vs))) (aNg st1 nx more vs b):=
      W3.of (i := ⟨some more, none, .ext (.t nx) 0⟩) (v := D3 (.bool b)) (st := st1.put nx (.tup (D3 (.bool b) :: vs))) rfl (by simp) (Low.refl _ _) fun o ho => aZF.quiet (by
        rw [← ho]
        simp [bQ,AS.ev,get_put])
    rw [wpOpsIn_cons]
    refine hI.run (show st1.nx≤_ by rw [hn1];exact ht) ops 1 o1 ho1 hx1.symm _ w' _ _ ⟨ρ,hs2⟩ fun x w2 hs3=>?_
    exact hQ _ _ hs3
  have hev:=hs.ev y
  rw [← hy] at hev
  have hev:kY (kO ρ) (.c (.ptr r 0)) (a.eval y):=by rw [← hit];exact hev
  obtain ⟨la,hla,hc'⟩:=hev.cInv.ptrInv
  have hgr:(mSt env mem n r m since c seen).mem.get r=some (.mit m since c seen):=by simp [mSt,Ar]
  have hgm:(mSt env mem n r m since c seen).mem.get m=some (.mp es clock):=by simp only [mSt,Ar];rw [if_neg fun e=>hrm e.symm];exact hmm
  obtain ⟨la1,hla1,hrep⟩:=hs.m.blk r _ hgr
  rw [hla1] at hla
  injection hla with hla
  subst hla
  obtain ⟨lm,hlm,hh,h0⟩:∃ lm,ρ m=some lm∧w.heap[la1.b]? = some (.mapIter (some lm.b) since seen c)∧la1.off=0:=by
    cases hrep with
    | mit _ _ _ _ lm h1 h2 h3=>exact ⟨lm,h1,h2,h3⟩
  obtain ⟨lm2,hlm2,hrep2⟩:=hs.m.blk m _ hgm
  rw [hlm] at hlm2
  injection hlm2 with hlm2
  subst hlm2
  obtain ⟨xs,hh2,hl,hf⟩:∃ xs:List MapEntry,w.heap[lm.b]? = some (.map xs.toArray clock)∧xs.length=es.length∧∀ (i:Nat) (e:Value×AV×Nat) (x:MapEntry),es[i]? = some e→xs[i]? = some x→x.key=e.1∧x.born=e.2.2∧kY (kO ρ) e.2.1 x.val:=by
    cases hrep2 with
    | mp _ _ xs h1 h2 h3=>exact ⟨xs,h1,h2,h3⟩
  rw [h0] at hc'
  have hat:∀ x,x∈xs→∃ e,e∈es∧x.key=e.1∧x.born=e.2.2∧kY (kO ρ) e.2.1 x.val:=fun x hx=>by
    obtain ⟨i,hi2,rfl⟩:=List.getElem_of_mem hx
    have hi3:i<es.length:=by omega
    obtain ⟨g1,g2,g3⟩:=hf i es[i] xs[i] (List.getElem?_eq_getElem hi3) (List.getElem?_eq_getElem hi2)
    exact ⟨es[i],List.getElem_mem ..,g1,g2,g3⟩
  have hex:∀ v w',(Instr.next (.pointer (some ⟨la1.b,0,none⟩)) false o0.type).run Γ.P w=.ok v w'→(execOp a.eval o0).run Γ.P w=.ok (.value v) w':=fun v w' hv =>
    nK (s:=Instr.next (a.eval y) false o0.type) (by simp [execOp,hop]) (by rw [hc'];exact hv)
  rw [hsz]
  show wpOpsIn _ _ _ _ _ [0,1] a w
  rw [wpOpsIn_cons]
  unfold wpOpIn
  simp only [ho0]
  rw [if_pos (by simp [Region.wanted,hgd])]
  refine ⟨fun _ _=>trivial,?_⟩
  rw [aSQ (by rw [← hins];simp)]
  rcases run_next_at (P := Γ.P) w o0.type la1.b lm.b since c seen xs.toArray clock hh hh2 (fun x hx => by
    obtain ⟨e,he,_,hb,_⟩:=hat x hx
    rw [hb];exact hlt e he) hc with ⟨hz,hrun⟩ | ⟨x,hx,w1,hw1,hrun⟩
  · rw [hex _ _ hrun]
    refine step2 _ w (mSt env mem n r m since c seen) [] false rfl (.tup _ _ rfl fun i v hv=>?_) hs _ fun a' w' hs'=>⟨rfl,.inl ⟨fun e he=>?_,hs'⟩⟩
    · match i,hv with
      | 0,hv=>simp at hv;subst hv;exact qT rfl
      | i+1,hv=>simp at hv
    · obtain ⟨i, hi2, rfl⟩ := List.getElem_of_mem he
      have hi3:i<xs.length:=by omega
      obtain ⟨g1,g2,g3⟩:=hf i es[i] xs[i] (List.getElem?_eq_getElem hi2) (List.getElem?_eq_getElem hi3)
      rw [← g2]
      exact all_seen xs.toArray seen hz xs[i] (List.getElem_mem ..)
  · rw [hex _ _ hrun]
    obtain ⟨hem,hes⟩:=mem_left hx
    obtain ⟨e,he,hk,hb,hv⟩:=hat x hem
    have hs1:jN Γ ρ (mSt env mem n r m since c seen) a w1:=by
      rcases hw1 with rfl | rfl
      · exact hs
      · exact hs.drew
    have hh1:w1.heap[la1.b]? = some (.mapIter (some lm.b) since seen c):=by rcases hw1 with rfl | rfl<;>exact hh
    have hset:=MapKept.heap_set (o':=.mapIter (some lm.b) since (seen.push x.born) clock) hh1
    have hm2:rR Γ.K Γ.w0 ρ (mSt env mem n r m since clock (seen.push e.2.2)).mem.m (setBlock w1 la1.b (.mapIter (some lm.b) since (seen.push x.born) clock)):=
      hs1.m.turn (w':=setBlock w1 la1.b (.mapIter (some lm.b) since (seen.push x.born) clock)) (m':=(mSt env mem n r m since clock (seen.push e.2.2)).mem.m) r _ (.mit m since clock (seen.push e.2.2)) la1 hgr hla1 (.mit m since clock _ lm hlm (by rw [← hb];exact hset.1) h0) rfl rfl rfl (by simp [setBlock]) (fun i hi=>hset.2 i hi) fun b2 k2 h2=>by
        rcases aF0 (mem:=mem) (k:=some (.mit m since clock (seen.push e.2.2))) h2 with ⟨h3,h4⟩ | ⟨h3,h4⟩
        · injection h4 with h4
          exact .inl ⟨h3,h4.symm⟩
        · refine .inr ⟨h3,?_⟩
          show (Tr.put (r+1) mem r _).get b2=_
          rw [Ar,if_neg fun e=>h3 e.symm]
          exact h4
    refine step2 _ _ (mSt env mem n r m since clock (seen.push e.2.2)) [.any,.any] true rfl (.tup _ _ rfl fun i v hv=>?_) ⟨hs1.defers,hs1.size,hs1.env,hm2,hs1.base,hs1.low,hs1.free⟩ _ fun a' w' hs'=>⟨rfl,.inr ⟨e,he,by rw [← hb];exact hes,hs'⟩⟩
    match i,hv with
    | 0,hv=>simp at hv;subst hv;exact qT rfl
    | 1,hv=>simp at hv;subst hv;exact .any _
    | 2,hv=>simp at hv;subst hv;exact .any _
    | i+3,hv=>simp at hv
theorem aXZ {α:Type} (p q:α→Bool) {e:α}:∀ {l:List α},(∀ x,x∈l→q x=true→p x=true)→e∈l→p e=true→q e=false→(l.filter q).length<(l.filter p).length:=by
 intro l
 induction l with
 | nil=>intro _ h;cases h
 | cons x l ih =>
  intro h he hp hq
  have hle:(l.filter q).length≤(l.filter p).length:=by
   clear ih he
   induction l with
   | nil=>simp
   | cons y l ih2 =>
    have:=ih2 fun z hz=>h z (by rcases List.mem_cons.1 hz with rfl | hz<;>simp [*])
    have hy:=h y (by simp)
    rw [List.filter_cons,List.filter_cons]
    cases hqy:q y
    ·simp only [Bool.false_eq_true,if_false]
     split
     ·simp;omega
     exact this
    rw [hy hqy];simp;omega
  rcases List.mem_cons.1 he with rfl | he
  ·rw [List.filter_cons,List.filter_cons,hp,hq];simp;omega
  have:=ih (fun z hz=>h z (List.mem_cons_of_mem _ hz)) he hp hq
  have hx:=h x (by simp)
  rw [List.filter_cons,List.filter_cons]
  cases hqx:q x
  ·simp only [Bool.false_eq_true,if_false]
   split
   ·simp;omega
   exact this
  rw [hx hqx];simp;omega
theorem bG7 {ev:AS→Option (Exit×AS)} {start:Value×AV×Nat→AS} {n:Nat} {e:Value×AV×Nat} {x:Exit}:∀ {es:aWy},e∈es→ev (start e)=some (x,s)→s.nx≤mrN ev start n es
 | [],h,_=>by cases h
 | d::es,h,hev=>by
  simp only [mrN]
  rcases List.mem_cons.1 h with rfl | h
  ·rw [hev];exact Nat.le_max_left _ _
  have:=bG7 h hev (n:=n)
  split
  ·exact Nat.le_trans this (Nat.le_max_right _ _)
  exact this
theorem aZz {ev:AS→Option (Exit×AS)} {start:Value×AV×Nat→AS} {n:Nat}:∀ {es:aWy},n≤mrN ev start n es
 | []=>Nat.le_refl _
 | d::es=>by
  simp only [mrN]
  split
  ·exact Nat.le_trans (aZz (es:=es)) (Nat.le_max_right _ _)
  exact aZz (es:=es)
theorem bDT {nx more it out:Nat} {b:XC} (hB:S1 b):S1 (.mrange nx more it out b):=by
  intro Γ Ys call k st e st' hcall hG hm hok hnr hrg hev
  simp only [vS] at hev
  obtain ⟨r,m,since,c0,es,clock,hit,hr,hmm,hnW,⟨hrn,hmn⟩,hwf,hok2,hmem',hnx',hres⟩:=bAa hev
  have hrm:m≠r:=fun h=>by rw [h,hr] at hmm;cases hmm
  have hr0:=hr
  obtain ⟨mem0,hmem0⟩:∃ mem0,Ym st.mem st.nx=mem0:=⟨_,rfl⟩
  have hcut:∀ b k,mem0.get b=some k→st.mem.get b=some k:=fun b k h=>bC7 (by rw [hmem0];exact h)
  have hr:mem0.get r=some (.mit m since c0 #[]):=by rw [← hmem0,aGB,if_pos hrn];exact hr
  have hmm:mem0.get m=some (.mp es clock):=by rw [← hmem0,aGB,if_pos hmn];exact hmm
  rw [hmem0] at hok2 hmem' hnx' hres
  obtain ⟨W,hW⟩:∃ W,nx::more::b.dsts=W:=⟨_,rfl⟩
  rw [hW] at hnW hok2 hres hnx'
  have hnxW:nx∈W:=by rw [← hW];simp
  have hmoW:more∈W:=by rw [← hW];simp
  obtain ⟨env0,henv0⟩:∃ env0,E9 st.env W=env0:=⟨_,rfl⟩
  have hgW:∀ i,(i∈W∧env0.get i=none)∨(i ∉ W∧env0.get i=st.env.get i):=fun i=>henv0 ▸ aIZ st.env i W
  rw [henv0] at hok2 hres hnx'
  have hgA:∀ (i:Nat) (mem:Tr mU) (n:Nat),i∈W→(⟨env0,mem,n⟩:AS).get i=.any:=fun i mem n hi=>by
    rcases hgW i with ⟨_,h⟩ | ⟨h,_⟩
    · simp [AS.get,h]
    · exact absurd hi h
  have hgN:∀ (i:Nat) (mem:Tr mU) (n:Nat),i ∉ W→(⟨env0,mem,n⟩:AS).get i=st.get i:=fun i mem n hi=>by
    rcases hgW i with ⟨h,_⟩ | ⟨_,h⟩
    · exact absurd h hi
    · simp [AS.get,h]
  have hnn:st.nx≤st'.nx:=by rw [hnx'];exact aZz
  have hm1:∀ b k,st'.mem.get b=some k→b≠r∧mem0.get b=some k:=fun b k hb=>by
    rw [hmem'] at hb
    rcases aF0 hb with ⟨_,h⟩ | h
    · cases h
    · exact h
  have hlow:Low st.mem st.nx st'.mem st'.nx:=⟨hnn,fun b k hb=>.inl ⟨k,hcut b k (hm1 b k hb).2⟩,fun b k hb _=>hcut b k (hm1 b k hb).2⟩
  refine ⟨hlow,fun ht code hcode a w hs=>?_⟩
  obtain ⟨cd,rfl,hcd⟩:=bKJ (show IC.of Γ.P Γ.n code=.loop _ from hcode)
  obtain ⟨cr,c2,rfl,hcr,hc2⟩:=bID hcd
  obtain ⟨cc,cb,rfl,hcc,hcb⟩:=bID hc2
  obtain ⟨id,ops,rfl,hops⟩:=bDq hcr
  have hnt:st.nx≤Γ.top:=Nat.le_trans hnn ht
  have hfin:∀ (Γ1:Ho) (ρ:nV) (env2:Tr AV) (c:Nat) (seen:Array Nat) (a:Act) (w:World),Up Γ Γ1→jN Γ1 ρ (mSt env2 mem0 st.nx r m since c seen) a w→(∀ i,st'.get i=.any∨st'.get i=(⟨env2,mem0,st.nx⟩:AS).get i)→aE7 Γ st' a w:=fun Γ1 ρ env2 c seen a w hU hs he =>
    ⟨Γ1, hU, ρ, hs.less2 he (fun b k hb => by
      obtain ⟨h1,h2⟩:=hm1 b k hb
      show (Tr.put (r+1) mem0 r _).get b=_
      rw [aOl h1];exact h2) hnn⟩
  have round:∀ (N:Nat) (seen:Array Nat) (c:Nat) (Γ1:Ho) (ρ:nV) (a:Act) (w:World),Up Γ Γ1→jN Γ1 ρ (mSt env0 mem0 st.nx r m since c seen) a w→since≤c →
      (∀ d,d∈es→seen.contains d.2.2=true→∀ s,vS call k b (Kr env0 mem0 st.nx r m clock d)≠some (.ret,s)) →
      (∀ d, d ∈ es → seen.contains d.2.2 = false → (∀ s, vS call k b (Kr env0 mem0 st.nx r m clock d) ≠ some (.ret, s)) → ∀ (Γ4 : Ho) (ρ4 : nV) (a4 : Act) (w4 : World), Up Γ Γ4 → jN Γ4 ρ4 (mSt env0 mem0 st.nx r m since clock (seen.push d.2.2)) a4 w4 →
        Code.roundsIn (FW Γ.rd) 0 Γ.P (.seq (.region id ops false) (.seq cc cb)) (fun e' a' w'=>e'=e∧aE7 Γ st' a' w') N a4 w4) →
      Code.roundsIn (FW Γ.rd) 0 Γ.P (.seq (.region id ops false) (.seq cc cb)) (fun e' a' w'=>e'=e∧aE7 Γ st' a' w') (N+1) a w:=by
    intro N seen c Γ1 ρ a w hU hs hc hdone hK
    rw [roundsIn_succ]
    have key:=wpIn_region (F:=FW Γ1.rd) (n:=0) (id:=id) (bK7 (Γ:=Γ1) (nx:=nx) (more:=more) (it:=it) (by rw [hU.P,hU.n];exact hops) (by show (⟨env0,_,_⟩:AS).get it=_;rw [hgN it _ _ hnW];exact hit) hmm hrm hwf.lt hc (by rw [hU.top];exact hnt) hs)
    rw [hU.P,hU.rd] at key
    refine wpIn_seq (Ax key fun e1 a1 w1 hl=>?_)
    obtain ⟨rfl,hl⟩:=hl
    rcases hl with ⟨hall,hs2⟩ | ⟨d,hd,hnd,hs2⟩
    · have hcs:A9 Γ1 (.cond (.t more) .skip (.exit out)) (aNg (mSt env0 mem0 st.nx r m since c seen) nx more [] false) (.exit out) (aNg (mSt env0 mem0 st.nx r m since c seen) nx more [] false):=
        A9.cond (b:=false) (by show ((aNg _ nx more _ _).get more).bool? = _;rw [aOE,if_pos rfl];rfl) A9.exit
      have hrun:=hcs.run (by show st.nx≤_;rw [hU.top];exact hnt) cc (by rw [hU.P,hU.n];exact hcc) a1 w1 hs2.x
      rw [hU.P,hU.rd] at hrun
      refine wpIn_seq (Ax hrun fun e2 a2 w2 hl=>?_)
      obtain ⟨rfl,Γ2,hU2,ρ2,hs3⟩:=hl
      rcases hres with ⟨_,rfl,he⟩ | ⟨⟨d,hd,s,hds⟩,_,_⟩
      · refine ⟨rfl,hfin Γ2 ρ2 env0 c seen a2 w2 (hU.trans hU2) (hs3.less (fun i=>?_) (fun b k hb=>hb) rfl) fun i=>.inr ?_⟩
        · rw [aOE]
          by_cases h1:i∈W
          · exact .inl (hgA i _ _ h1)
          · refine .inr ?_
            rw [if_neg fun (q:more=i)=>h1 (q ▸ hmoW),if_neg fun (q:nx=i)=>h1 (q ▸ hnxW)]
        · simp only [AS.get,he,henv0]
      · exact absurd hds (hdone d hd (hall d hd) s)
    · have hcs:A9 Γ1 (.cond (.t more) .skip (.exit out)) (aNg (mSt env0 mem0 st.nx r m since clock (seen.push d.2.2)) nx more [.any,.any] true) .normal (aNg (mSt env0 mem0 st.nx r m since clock (seen.push d.2.2)) nx more [.any,.any] true):=
        A9.cond (b:=true) (by show ((aNg _ nx more _ _).get more).bool? = _;rw [aOE,if_pos rfl];rfl) A9.skip
      have hrun:=hcs.run (by show st.nx≤_;rw [hU.top];exact hnt) cc (by rw [hU.P,hU.n];exact hcc) a1 w1 hs2.x
      rw [hU.P,hU.rd] at hrun
      refine wpIn_seq (Ax hrun fun e2 a2 w2 hl=>?_)
      obtain ⟨rfl,Γ2,hU2,ρ2,hs3⟩:=hl
      have hs4 : jN Γ2 ρ2 (mSt env0 mem0 st.nx r m since clock (seen.push d.2.2)) a2 w2 := hs3.less (fun i => by
        rw [aOE]
        by_cases h1:i∈W
        · exact .inl (hgA i _ _ h1)
        · refine .inr ?_
          rw [if_neg fun (q:more=i)=>h1 (q ▸ hmoW),if_neg fun (q:nx=i)=>h1 (q ▸ hnxW)]) (fun b k hb=>hb) rfl
      obtain ⟨la,lm,hla,hlm,h0,hh,hKn,hU3,hs5⟩:=bHz hs4
      obtain ⟨Γb,hΓb⟩:∃ Γb:Ho,(⟨Γ2.P,w2,fun b=>Γ2.K b∨b=la.b,Γ2.n,ρ2,st.nx,Γ2.top,Γ2.ds,Γ2.rd⟩:Ho)=Γb:=⟨_,rfl⟩
      rw [hΓb] at hU3 hs5
      have hUa:=hU.trans hU2
      obtain ⟨x,s,hev1,hx,hmem1⟩:=hok2 d hd
      have hsn:s.nx≤Γ.top:=Nat.le_trans (by rw [hnx'];exact bG7 hd hev1) ht
      have hUb:=hUa.trans hU3
      have hcs2:=hB _ Ys call k _ _ _ (by rw [hUb.P];exact hcall) (hG.up hUb).self (by rw [hUb.P];exact hm) hok (by rw [hUb.rd];exact hnr) (by rw [hUb.P];exact hrg) hev1
      have hrun2:=hcs2.run (by show s.nx≤_;rw [hUb.top];exact hsn) cb (by rw [hUb.P,hUb.n];exact hcb) a2 w2 ⟨_,.refl _,ρ2,hs5⟩
      rw [hUb.P,hUb.rd] at hrun2
      refine Ax hrun2 fun e3 a3 w3 hl=>?_
      obtain ⟨rfl,Γ3,hU4,ρ3,hs6⟩:=hl
      have hkeep:∀ i,i ∉ W→s.get i=(Kr env0 mem0 st.nx r m clock d).get i:=fun i hi=>by
        have:s.env.get i=env0.get i:=bGO b hev1 (fun h=>hi (by rw [← hW];simp [h]))
        simp only [AS.get,Kr,this]
      rcases hx with rfl | rfl
      · obtain ⟨Γ4,hU5,hs7⟩:=bHB hs4 hla hlm h0 hh hKn (by rw [hΓb];exact hs5) (by rw [hΓb];exact hU4) hs6 hmem1 (env2:=env0) fun i=>by
          by_cases h1:i∈W
          · exact .inl (hgA i _ _ h1)
          · exact .inr (.inr ⟨rfl,(hkeep i h1).symm⟩)
        exact hK d hd hnd (fun s2 h2=>by rw [hev1] at h2;cases h2) Γ4 ρ2 a3 w3 (hUa.trans hU5) hs7
      · rcases hres with ⟨hno, _, _⟩ | ⟨_, rfl, he⟩
        · exact absurd hev1 (hno d hd s)
        · refine ⟨rfl,?_⟩
          have hget:∀ i,(∃ v,i∈W∧st'.get i=.c (.v v)∧s.get i=.c (.v v))∨(st'.get i=(⟨env0,mem0,st.nx⟩:AS).get i):=fun i=>by
            rcases aSR (ev:=vS call k b) (start:=Kr env0 mem0 st.nx r m clock) (es:=es) (env:=env0) (i:=i) W with ⟨v,h1,h2,h3⟩ | ⟨h1,_⟩
            · exact .inl ⟨v,h1,by simp only [AS.get,he,henv0,h3],h2 d hd s hev1⟩
            · exact .inr (by simp only [AS.get,he,henv0,h1])
          obtain ⟨Γ4,hU5,hs7⟩:=bHB hs4 hla hlm h0 hh hKn (by rw [hΓb];exact hs5) (by rw [hΓb];exact hU4) hs6 hmem1 (env2:=st'.env) fun i=>by
            have e1:(⟨st'.env,mem0,st.nx⟩:AS).get i=st'.get i:=rfl
            rw [e1]
            rcases hget i with ⟨v,_,h2,h3⟩ | h2
            · exact .inr (.inl ⟨v,h2,h3⟩)
            · by_cases h1:i∈W
              · exact .inl (by rw [h2];exact hgA i _ _ h1)
              · exact .inr (.inr ⟨h2,by rw [h2,hkeep i h1];rfl⟩)
          exact hfin Γ4 ρ2 st'.env clock (seen.push d.2.2) a3 w3 (hUa.trans hU5) hs7 fun i=>.inr rfl
  have claim:∀ (cnt:Nat) (seen:Array Nat) (c:Nat) (Γ1:Ho) (ρ:nV) (a:Act) (w:World),Up Γ Γ1→jN Γ1 ρ (mSt env0 mem0 st.nx r m since c seen) a w→since≤c→(es.filter fun e=>!seen.contains e.2.2).length≤cnt →
      (∀ e,e∈es→seen.contains e.2.2=true→∀ s,vS call k b (Kr env0 mem0 st.nx r m clock e)≠some (.ret,s)) →
      Code.roundsIn (FW Γ.rd) 0 Γ.P (.seq (.region id ops false) (.seq cc cb)) (fun e' a' w'=>e'=e∧aE7 Γ st' a' w') (cnt+1) a w:=by
    intro cnt
    induction cnt with
    | zero =>
      intro seen c Γ1 ρ a w hU hs hc hcnt hdone
      refine round 0 seen c Γ1 ρ a w hU hs hc hdone fun d hd hnd=>?_
      have:d∈es.filter fun e=>!seen.contains e.2.2:=List.mem_filter.2 ⟨hd,by show (!seen.contains d.2.2)=true;rw [hnd];rfl⟩
      rw [List.eq_nil_of_length_eq_zero (Nat.le_zero.1 hcnt)] at this
      cases this
    | succ cnt ih =>
      intro seen c Γ1 ρ a w hU hs hc hcnt hdone
      refine round (cnt+1) seen c Γ1 ρ a w hU hs hc hdone fun d hd hnd hnr Γ4 ρ4 a4 w4 hU4 hs4=>?_
      refine ih _ clock Γ4 ρ4 a4 w4 hU4 hs4 hwf.k ?_ fun x hx hxs=>?_
      · have := aXZ (fun e : Value × AV × Nat => !seen.contains e.2.2) (fun e => !(seen.push d.2.2).contains e.2.2) (e := d) (l := es) (fun x _ hx => by
          simp only [Array.contains_push,Bool.not_eq_true',Bool.or_eq_false_iff] at hx ⊢
          first | exact hx.1 | exact hx.2) hd (by show (!seen.contains d.2.2)=true;rw [hnd];rfl) (by show (!(seen.push d.2.2).contains d.2.2)=false;rw [Array.contains_push];simp)
        omega
      · rw [Array.contains_push] at hxs
        by_cases hxe:x.2.2=d.2.2
        · rw [aSK hwf.nd hx hd hxe];exact hnr
        · exact hdone x hx (by simpa [hxe] using hxs)
  obtain ⟨Γ1,hU,ρ,hs⟩:=hs
  have hs1:jN Γ1 ρ (mSt env0 mem0 st.nx r m since c0 #[]) a w:=by
    refine hs.less (fun i=>?_) (fun b k hb=>?_) rfl
    · by_cases hi:i∈W
      · exact .inl (hgA i _ _ hi)
      · exact .inr (hgN i _ _ hi)
    · rcases aF0 (mem := mem0) hb with ⟨h1, h2⟩ | ⟨_, h2⟩
      · rw [h1,← h2];exact hr0
      · exact hcut b k h2
  exact wpIn_loop_rounds _ (claim _ #[] c0 Γ1 ρ a w hU hs1 hwf.c (Nat.le_refl _) fun e _ h=>by simp at h)
end
open Go.RowKit
open Go.Eng (Od callable kJ)
section
variable {P:Program} {call:eE} {Ys:List YC} {st st' s:AS} {a:Act} {w:World}
theorem Ud.noY (h:Ud P Ys call):Ud P [] (noY call):=by
 refine ⟨fun f args mem nx res mem' nx' h0 hc=>?_,fun b args mem nx res mem' nx' hc=>?_⟩
 ·unfold CE.noY at hc
  rw [h0] at hc
  exact h.f _ _ _ _ _ _ _ h0 hc
 unfold CE.noY at hc
 have h0:Nat.blt (1000000+b) 1000000=false:=by
  cases h0:Nat.blt (1000000+b) 1000000 with
  | false=>rfl
  | true=>have:1000000+b<1000000:=Nat.le_of_ble_eq_true h0;omega
 rw [h0] at hc
 cases hc
theorem rR.rebase {K:Nat→Prop} {w0:World} {ρ:nV} {m:dA} (h:rR K w0 ρ m w):rR K w ρ m w:=
 ⟨h.blk,h.own,h.inj,fun b hb=>Nat.lt_of_lt_of_le (h.kept b hb) h.fr.size,⟨rfl,rfl,rfl,Nat.le_refl _,fun _ _=>rfl⟩⟩
def bDW (t:Tr AV) (i:Nat):AV:=match t.get i with
 | some v=>v
 | none=>.any
theorem bIx (t:Tr AV) (d i:Nat) (v:AV):bDW (Tr.put (d+1) t d (some v)) i=if d=i then v else bDW t i:=by
 unfold bDW
 rw [Tr.get_put _ _ _ _ _ (by omega)]
 split
 ·rename_i h;split at h<;>simp_all
 rename_i h;split at h<;>simp_all
theorem bB6 {R:C→Value→Prop}:∀ (ps:List Nat) (args:List AV) (vs:List Value) (t:Tr AV) (tmps:Array Value),ps.length=args.length→vs.length=args.length→(∀ p,p∈ps→p<tmps.size)→(∀ k v,args[k]? = some v→kY R v (vs.getD k undef))→(∀ i,kY R (bDW t i) (tmps.getD i undef)) →
  ((ps.zip vs).foldl (fun t (x:Nat×Value)=>t.setIfInBounds x.1 x.2) tmps).size=tmps.size∧∀ i,kY R (bDW (O6 t ps args) i) (((ps.zip vs).foldl (fun t (x:Nat×Value)=>t.setIfInBounds x.1 x.2) tmps).getD i undef):=by
 intro ps
 induction ps with
 | nil=>intro args vs t tmps _ _ _ _ h;exact ⟨rfl,by simpa [O6] using h⟩
 | cons p ps ih =>
  intro args vs t tmps h1 h2 hp hr h
  match args,vs,h1,h2 with
  | v::args,x::vs,h1,h2 =>
   simp only [O6,List.zip_cons_cons,List.foldl_cons]
   have hpl:=hp p (List.mem_cons_self ..)
   have:=ih args vs (Tr.put (p+1) t p (some v)) (tmps.setIfInBounds p x) (by simpa using h1) (by simpa using h2) (fun q hq=>by simpa using hp q (List.mem_cons_of_mem _ hq)) (fun k u hk=>by simpa using hr (k+1) u (by simpa using hk)) fun i=>?_
   ·exact ⟨this.1.trans (by simp),this.2⟩
   rw [bIx]
   by_cases e:p=i
   ·subst e
    rw [if_pos rfl]
    have h3:=hr 0 v rfl
    simpa [Array.getD_eq_getD_getElem?,hpl] using h3
   rw [if_neg e]
   have:(tmps.setIfInBounds p x).getD i undef=tmps.getD i undef:=by simp [Array.getD_eq_getD_getElem?,Array.getElem?_setIfInBounds,e]
   rw [this];exact h i
theorem bSu {k n b l:Nat} {as_ bd:XC} {lp:Loop} {rE:nV} {ps:List Nat} {env:Tr AV} {args:List AV} {mem:Tr mU} {nx:Nat} (hcall:Ud P [] call) (hm:P.follows .mixedOrders=true) (hA:S1 as_) (hB:S1 bd) (ok1:as_.ok=true) (ok2:bd.ok=true) (no1:as_.noR=true) (no2:bd.noR=true)
  (rg1:∀ p,p∈as_.rgs→gU P p.1 p.2) (rg2:∀ p,p∈bd.rgs→gU P p.1 p.2) (hps:lp.params.toList=ps) (has:IC.of P n lp.assign=as_.ic) (hbd:IC.of P n lp.body=bd.ic) (hst:lp.state=.ready) (hpe:lp.pending=none) (hsz:lp.tmps.size=n) (hpn:∀ p,p∈ps→p<n)
  (henv:∀ i,kY (kO rE) (bDW env i) (lp.tmps.getD i undef)) (hat:∃ la,rE b=some la∧la.b=l) (Ff:args.length=ps.length) (h:aND (vS call k as_ ⟨O6 env ps args,mem,nx⟩) (vS call k bd)=some (.normal,s)) :
  bNT P ⟨b,l,lp,rE,false⟩ args mem nx (.c (.v (.bool true))) s.mem s.nx:=by
 obtain ⟨s1,h1,h2⟩:∃ s1,vS call k as_ ⟨O6 env ps args,mem,nx⟩=some (.normal,s1)∧vS call k bd s1=some (.normal,s):=by
  unfold aND at h
  split at h
  ·rename_i s1 h1;exact ⟨s1,h1,h⟩
  cases h
 have gx:∀ (Γ:Ho),GX Γ.P Γ.n Γ.rd [] Γ:=fun Γ=>⟨rfl,rfl,rfl,fun y hy=>by cases hy⟩
 have c1:∀ Γ:Ho,Γ.P=P→A9 Γ as_.ic ⟨O6 env ps args,mem,nx⟩ .normal s1:=fun Γ hP=>hA Γ [] call k _ _ _ (by rw [hP];exact hcall) (gx Γ) (by rw [hP];exact hm) ok1 (.inl no1) (by rw [hP];exact rg1) h1
 have c2:∀ Γ:Ho,Γ.P=P→A9 Γ bd.ic s1 .normal s:=fun Γ hP=>hB Γ [] call k _ _ _ (by rw [hP];exact hcall) (gx Γ) (by rw [hP];exact hm) ok2 (.inl no2) (by rw [hP];exact rg2) h2
 let Γ0:Ho:=⟨P,default,fun _=>False,n,fun _=>none,0,0,[],none⟩
 have l1:=(c1 Γ0 rfl).low
 have l2:=(c2 Γ0 rfl).low
 have l12:=l1.trans l2
 refine ⟨l12,hat,fun K w0 ρ w vs hms hfree hle hK hlp _ hvs hrep=>?_⟩
 have hvs2:vs.size=lp.params.size:=by rw [hvs,Ff,← hps];simp
 refine ⟨lp.fn,_,lp.assign,lp.body,run_yield hlp hvs2,roundIn_of_wpIn (F:=FW none) trivial ?_⟩
 let Γa:Ho:=⟨P,w,K,n,ρ,nx,s.nx,[],some l⟩
 obtain ⟨e1,e2⟩:=bB6 (R:=kO ρ) ps args vs.toList env lp.tmps Ff.symm (by simpa using hvs) (fun p hp=>by rw [hsz];exact hpn p hp) (fun k v hk=>by simpa [kJ] using hrep k v hk) (fun i=>(henv i).mono fun c x hc=>hc.mono hle)
 have e3:(lp.params.zip vs).foldl (fun tmps (x:Tmp×Value)=>tmps.setIfInBounds x.1 x.2) lp.tmps=(ps.zip vs.toList).foldl (fun t (x:Nat×Value)=>t.setIfInBounds x.1 x.2) lp.tmps:=by
  rw [← Array.foldl_toList,Array.toList_zip,hps]
 have hsa:jN Γa ρ ⟨O6 env ps args,mem,nx⟩ { tmps:=(lp.params.zip vs).foldl (fun tmps (x:Tmp×Value)=>tmps.setIfInBounds x.1 x.2) lp.tmps,defers:=[] } w:=
  ⟨rfl,by rw [e3,e1];exact hsz,fun i=>by rw [e3];exact e2 i,hms.rebase,pU.refl _ _,Nat.le_refl _,hfree⟩
 refine Ax ((c1 Γa rfl).run l2.le lp.assign has _ w ⟨Γa,.refl Γa,ρ,hsa⟩) fun ex a1 w1 hl=>?_
 obtain ⟨rfl,Γ1,hU,ρ1,hs1⟩:=hl
 have hK1:Γ1.K l:=hU.K l hK
 have hr1:w1.heap[l]? = some (.loop lp):=(hs1.m.fr.block l hK1).trans ((hU.fr.block l hK).trans hlp)
 refine ⟨_,run_beginRound hr1 hst,?_⟩
 obtain ⟨w2,hw2⟩:∃ w2,w1.putObj l (.loop { lp with state:=.busy })=w2:=⟨_,rfl⟩
 rw [hw2]
 have hlt1:l<w1.heap.size:=(Array.getElem?_eq_some_iff.1 hr1).1
 have hr2:w2.heap[l]? = some (.loop { lp with state:=.busy }):=by rw [← hw2];exact World.putObj_heap_same hlt1
 let Γb:Ho:=⟨P,w2,Γ1.K,n,ρ1,s1.nx,s.nx,Γ1.ds,some l⟩
 have hg1:pU ρ nx s1.nx ρ1:=hU.base.trans hU.low hs1.low hs1.base
 have hsb:jN Γb ρ1 s1 a1 w2:=⟨hs1.defers,hs1.size.trans hU.n,hs1.env,by show rR Γ1.K w2 ρ1 s1.mem.m w2;rw [← hw2];exact hs1.m.loop hr1 trivial,pU.refl _ _,Nat.le_refl _,by have:=hs1.free;rw [hU.top] at this;exact this⟩
 refine Ax ((c2 Γb rfl).run (Nat.le_refl _) lp.body hbd _ w2 ⟨Γb,.refl Γb,ρ1,hsb⟩) fun ex a2 w3 hl=>?_
 obtain ⟨rfl,Γ3,hU3,ρ3,hs3⟩:=hl
 have hK3:Γ3.K l:=hU3.K l hK1
 have hr3:w3.heap[l]? = some (.loop { lp with state:=.busy }):=(hs3.m.fr.block l hK3).trans ((hU3.fr.block l hK1).trans hr2)
 have hlt3:l<w3.heap.size:=(Array.getElem?_eq_some_iff.1 hr3).1
 have hlpe:({ ({ lp with state:=.busy }:Loop) with state:=.ready,pending:=none }:Loop)=lp:=by
  cases lp;simp only at hst hpe;subst hst hpe;rfl
 refine ⟨.bool true,w3.putObj l (.loop lp),?_,?_⟩
 ·have:=run_endRound (P:=P) none hr3
  simp only [Option.isNone_none,if_true] at this
  rw [hlpe] at this
  exact this
 have hg2:pU ρ1 s1.nx s.nx ρ3:=hU3.base.trans hU3.low hs3.low hs3.base
 have hg:=hg1.trans l1.le l2.le hg2
 have hm4:=hs3.m.loop (o':=.loop lp) hr3 trivial
 have hfr:Fr K w0 (w3.putObj l (.loop lp)):=by
  refine ⟨?_,?_,?_,?_,fun b hb=>?_⟩
  ·show w3.os=w0.os
   rw [hs3.m.fr.os,hU3.fr.os]
   show w2.os=w0.os
   rw [← hw2]
   show w1.os=w0.os
   rw [hs1.m.fr.os,hU.fr.os];exact hms.fr.os
  ·show w3.tape=w0.tape
   rw [hs3.m.fr.tape,hU3.fr.tape]
   show w2.tape=w0.tape
   rw [← hw2]
   show w1.tape=w0.tape
   rw [hs1.m.fr.tape,hU.fr.tape];exact hms.fr.tape
  ·show w3.output=w0.output
   rw [hs3.m.fr.output,hU3.fr.output]
   show w2.output=w0.output
   rw [← hw2]
   show w1.output=w0.output
   rw [hs1.m.fr.output,hU.fr.output];exact hms.fr.output
  ·rw [World.putObj_size]
   have i1:=hms.fr.size
   have i2:w.heap.size≤Γ1.w0.heap.size:=hU.fr.size
   have i3:=hs1.m.fr.size
   have i4:w2.heap.size≤Γ3.w0.heap.size:=hU3.fr.size
   have i5:=hs3.m.fr.size
   have i6:w2.heap.size=w1.heap.size:=by rw [← hw2,World.putObj_size]
   omega
  by_cases e:b=l
  ·subst e
   rw [World.putObj_heap_same hlt3,← hlp]
   exact hms.fr.block b hb
  rw [World.putObj_heap_other e,hs3.m.fr.block b (hU3.K b (hU.K b hb)),hU3.fr.block b (hU.K b hb)]
  show w2.heap[b]? = _
  rw [← hw2,World.putObj_heap_other e,hs1.m.fr.block b (hU.K b hb),hU.fr.block b hb]
  exact hms.fr.block b hb
 exact ⟨.bool true,ρ3,rfl,hg,hms.back hm4 (fun b hb=>hU3.K b (hU.K b hb)) hfr hg.le fun b k hb hr=>l12.ro b k hb hr,.c _ _ (.v _ rfl)⟩
theorem bKW {ρ:nV} {x:Value} {h:Nat} {us cs:List (Bool×List C)} (hcr:kO ρ (.fn h us cs) x) {v:AV} {y:Value} (hy:kY (kO ρ) v y) :
    ∃ first caps,x=.func (.func h) first caps∧(first++#[y]++caps).size=(AV.cs us++([v]++AV.cs cs)).length ∧
      ∀ k u,(AV.cs us++([v]++AV.cs cs))[k]? = some u→kY (kO ρ) u ((first++#[y]++caps).getD k undef):=by
  cases hcr with
  | fn _ _ _ uss vss h0 h1 h2 s1 s2 hf hv =>
    refine ⟨uss,vss,rfl,by simp [AV.cs,h1,h2];omega,fun k u hkv=>?_⟩
    have e1:(uss++#[y]++vss).getD k undef=if k<uss.size then uss.getD k undef else if k=uss.size then y else vss.getD (k - uss.size - 1) undef:=by
      simp only [Array.getD_eq_getD_getElem?,Array.getElem?_append,Array.size_append,List.size_toArray,List.length_cons,List.length_nil]
      by_cases hk:k<uss.size
      · rw [if_pos (by omega),if_pos hk,if_pos hk]
      · by_cases hk2:k=uss.size
        · subst hk2
          rw [if_pos (by omega),if_neg hk,if_neg hk,if_pos rfl]
          simp
        · rw [if_neg (by omega), if_neg hk, if_neg hk2]
          congr 2
    rw [e1]
    have hl1:(AV.cs us).length=uss.size:=by simp [AV.cs,h1]
    by_cases hk:k<uss.size
    · rw [if_pos hk]
      rw [List.getElem?_append_left (by omega)] at hkv
      simp only [AV.cs,List.getElem?_map] at hkv
      cases hu:us[k]? with
      | none=>simp [hu] at hkv
      | some p =>
        simp [hu] at hkv
        subst hkv
        exact aAz (s1 k p hu) fun j c1 hc1=>hf k p j c1 hu hc1
    · rw [if_neg hk]
      rw [List.getElem?_append_right (by omega),hl1] at hkv
      by_cases hk2:k=uss.size
      · subst hk2
        simp at hkv
        subst hkv
        rw [if_pos rfl]
        exact hy
      · rw [if_neg hk2]
        obtain ⟨j,rfl⟩:∃ j,k=uss.size+1+j:=⟨k - uss.size - 1,by omega⟩
        rw [show uss.size+1+j - uss.size=j+1 by omega] at hkv
        rw [show uss.size+1+j - uss.size - 1=j by omega]
        simp only [List.singleton_append,List.getElem?_cons_succ,AV.cs,List.getElem?_map] at hkv
        cases hu:cs[j]? with
        | none=>simp [hu] at hkv
        | some p =>
          simp [hu] at hkv
          subst hkv
          exact aAz (s2 j p hu) fun i c1 hc1=>hv j p i c1 hu hc1
theorem aTB {b k:Nat} {ps:List Nat} {env:Tr AV} {round:AS→Option (Exit×AS)} {y:YC} (hcall:Ud P [] call) (hb:y.b=b)
  (hy:∀ args mem nx s,args.length=ps.length→round ⟨O6 env ps args,mem,nx⟩=some (.normal,s)→bNT P y args mem nx (.c (.v (.bool true))) s.mem s.nx):Ud P [y] (O3 call b ps env round):=by
 refine ⟨fun f args mem nx res mem' nx' h0 hc=>?_,fun b' args mem nx res mem' nx' hc=>?_⟩
 ·unfold O3 at hc
  have h1:Nat.beq f (1000000+b)=false:=by
   cases h1:Nat.beq f (1000000+b) with
   | false=>rfl
   | true =>
    have:=Nat.eq_of_beq_eq_true h1
    subst this
    have:1000000+b<1000000:=Nat.le_of_ble_eq_true h0
    omega
  rw [h1] at hc
  exact hcall.f _ _ _ _ _ _ _ h0 hc
 unfold O3 at hc
 cases h1:Nat.beq (1000000+b') (1000000+b) with
 | false =>
  rw [h1] at hc
  obtain ⟨y,hy,_⟩:=hcall.y _ _ _ _ _ _ _ hc
  cases hy
 | true =>
  have h2:=Nat.eq_of_beq_eq_true h1
  have h3:b'=b:=by omega
  subst h3
  rw [h1] at hc
  simp only at hc
  split at hc
  ·rename_i hl
   have hl:=Nat.eq_of_beq_eq_true hl
   split at hc
   ·rename_i s hs
    injection hc with hc
    obtain ⟨e1,hc⟩:=Prod.mk.inj hc
    obtain ⟨e2,e3⟩:=Prod.mk.inj hc
    subst e2 e3
    rw [← e1]
    exact ⟨y,List.mem_singleton.2 rfl,hb,hy args mem nx s hl hs⟩
   cases hc
  cases hc
theorem bIh {g:Od} {ps:List Nat} {as_ bd:XC} {h n':Nat} {c:XC} (hA:S1 as_) (hB:S1 bd) (hC:S1 c) (hC2:S2 c):S1 (.range g ps as_ bd h n' c):=by
  intro Γ Ys call k st e st' hcall hG hm hok hnr hr hev
  have hrd:Γ.rd=none:=hnr.resolve_left (by simp [XC.noR])
  simp only [XC.ok,Bool.and_eq_true] at hok
  obtain ⟨⟨⟨⟨ok1,ok2⟩,no1⟩,no2⟩,ok3⟩:=hok
  have hF:gU Γ.P h ⟨n',c,[]⟩:=hr (h,⟨n',c,[]⟩) (List.mem_cons_self ..)
  have rg1:∀ p,p∈as_.rgs→gU Γ.P p.1 p.2:=fun p hp=>hr p (List.mem_cons_of_mem _ (List.mem_append_left _ (List.mem_append_left _ hp)))
  have rg2:∀ p,p∈bd.rgs→gU Γ.P p.1 p.2:=fun p hp=>hr p (List.mem_cons_of_mem _ (List.mem_append_left _ (List.mem_append_right _ hp)))
  have rg3:∀ p,p∈c.rgs→gU Γ.P p.1 p.2:=fun p hp=>hr p (List.mem_cons_of_mem _ (List.mem_append_right _ hp))
  simp only [vS] at hev
  split at hev
  case h_2=>cases hev
  rename_i h' us cs hgv
  split at hev
  case h_2=>cases hev
  rename_i hb2
  simp only [Bool.and_eq_true] at hb2
  have hh:=Nat.eq_of_beq_eq_true hb2.1
  subst hh
  have Ff:(AV.cs us++([AV.c (.yl st.nx)]++AV.cs cs)).length≤n':=by
    have:=Nat.le_of_ble_eq_true hb2.2
    simp only [AV.cs,List.length_append,List.length_map,List.length_cons,List.length_nil]
    omega
  have hc0:=hcall.noY
  obtain ⟨ex,s,hex,hevc,hst',he'⟩:∃ ex s,(ex=.ret∨ex=.normal)∧vS (O3 (noY call) st.nx ps st.env fun s=>aND (vS (noY call) k as_ s) (vS (noY call) k bd)) k c ⟨Hy 0 .nil (AV.cs us++([.c (.yl st.nx)]++AV.cs cs)),st.mem,st.nx+1⟩=some (ex,s)∧st'=⟨st.env,s.mem,s.nx⟩∧e=.normal:=by
    split at hev
    · rename_i s hs
      injection hev with hev
      obtain ⟨rfl,rfl⟩:=Prod.mk.inj hev
      exact ⟨_,s,.inl rfl,hs,rfl,rfl⟩
    · rename_i s hs
      injection hev with hev
      obtain ⟨rfl,rfl⟩:=Prod.mk.inj hev
      exact ⟨_,s,.inr rfl,hs,rfl,rfl⟩
    · cases hev
  subst hst' he'
  clear hev
  have hlow:Low st.mem (st.nx+1) s.mem s.nx:=by
    let lpd:Loop:={ state:=.ready,pending:=none,fn:=0,tmps:=#[],params:=#[],assign:=.skip,body:=.skip,defers:=0 }
    let rd:nV:=fun b=>if b=st.nx then some ⟨0,0,0⟩ else none
    let yd:YC:=⟨st.nx,0,lpd,rd,true⟩
    let Γd:Ho:=⟨Γ.P,{ (default:World) with heap:=#[.loop lpd] },fun _=>True,n',rd,0,0,[],none⟩
    let Γe:Ho:=⟨Γ.P,default,fun _=>False,0,fun _=>none,0,0,[],none⟩
    have gx:GX Γe.P Γe.n Γe.rd [] Γe:=⟨rfl,rfl,rfl,fun y hy=>by cases hy⟩
    have hA':Ud Γd.P [yd] (O3 (noY call) st.nx ps st.env fun s=>aND (vS (noY call) k as_ s) (vS (noY call) k bd)):=aTB (k:=0) (y:=yd) hc0 rfl fun args mem nx s2 hl hs=>by
      obtain ⟨s1,h1,h2⟩:∃ s1,vS (noY call) k as_ ⟨O6 st.env ps args,mem,nx⟩=some (.normal,s1)∧vS (noY call) k bd s1=some (.normal,s2):=by
        unfold aND at hs
        split at hs
        · rename_i s1 h1;exact ⟨s1,h1,hs⟩
        · cases hs
      have l1:=(hA Γe [] (noY call) k _ _ _ hc0 gx hm ok1 (.inl no1) rg1 h1).low
      have l2:=(hB Γe [] (noY call) k _ _ _ hc0 gx hm ok2 (.inl no2) rg2 h2).low
      refine ⟨l1.trans l2,⟨⟨0,0,0⟩,by simp [yd,rd],rfl⟩,fun K w0 ρ w vs hms _ _ _ _ him _ _=>?_⟩
      exact absurd (hms.kept _ (him rfl w0.heap.size)) (Nat.lt_irrefl _)
    have gd : GX Γd.P Γd.n Γd.rd [yd] Γd := ⟨rfl, rfl, rfl, fun y hy => by
      rw [List.mem_singleton.1 hy]
      exact ⟨nV.le_refl _,trivial,rfl,fun _ _=>trivial⟩⟩
    exact (hC Γd [yd] _ k _ _ _ hA' gd hm ok3 (.inr rfl) rg3 hevc).low
  have hle:st.nx+1≤s.nx:=hlow.le
  refine ⟨⟨by show st.nx ≤ s.nx; omega, fun b k' hb => by
    rcases hlow.dom b k' hb with h1 | h1
    · exact .inl h1
    · exact .inr (by show st.nx≤b∧b<s.nx;omega),hlow.ro⟩,fun ht code hcode a w hs=>?_⟩
  have ht:s.nx≤Γ.top:=ht
  cases code with
  | region id' ops' draw'=>cases draw'<;>simp [IC.of,IC.ofR,XC.ic] at hcode
  | rangeFunc g' ps' as' bd' =>
    simp only [IC.of,XC.ic,IC.range.injEq] at hcode
    obtain ⟨rfl,rfl,hpn,has,hbd⟩:=hcode
    obtain ⟨Γ1,hU,ρ,hs⟩:=hs
    rw [hrd]
    refine wpIn_rangeFunc (F:=FW none) fun fn _=>?_
    obtain ⟨rec,hrec⟩:∃ rec:Loop,rec={ state:=.ready,pending:=none,fn:=fn,tmps:=a.tmps,params:=ps',assign:=as',body:=bd',defers:=w.heap.size }:=⟨_,rfl⟩
    obtain ⟨W1,hW1⟩:∃ W1,(w.alloc (.deferred (some []))).alloc (.loop rec)=W1:=⟨_,rfl⟩
    have htop1:Γ1.top=Γ.top:=hU.top
    have hn0:ρ st.nx=none:=hs.free st.nx (Nat.le_refl _) (by omega)
    let la0:Pl:=⟨w.heap.size+1,0,0⟩
    obtain ⟨ρE,hρE⟩:∃ ρE,upd ρ st.nx la0=ρE:=⟨_,rfl⟩
    have hgE:pU ρ st.nx (st.nx+1) ρE:=hρE ▸ Ak hn0 la0
    have hEat:ρE st.nx=some la0:=by rw [← hρE];exact pW _ _ _
    have hcr:kO ρE (.fn h' us cs) (a.eval g'):=by
      have:=hs.ev g'
      rw [hgv] at this
      exact this.cInv.mono hgE.le
    obtain ⟨first,caps,hev,hsz,hrep⟩:=bKW hcr (v:=.c (.yl st.nx)) (y:=.func (.yield (w.heap.size+1)) #[] #[]) (.c _ _ (.yl _ la0 hEat))
    have hs1:W1.heap.size=w.heap.size+2:=by rw [← hW1,World.size_alloc,World.size_alloc]
    have hold:∀ b,b<w.heap.size→W1.heap[b]? = w.heap[b]?:=fun b hb=>by
      rw [← hW1]
      show ((w.heap.push _).push _)[b]? = _
      rw [Array.getElem?_push_lt (by simp;omega),Array.getElem_push_lt hb,Array.getElem?_eq_getElem hb]
    have hD:W1.heap[w.heap.size]? = some (.deferred (some [])):=by
      rw [← hW1]
      show ((w.heap.push _).push _)[w.heap.size]? = _
      rw [Array.getElem?_push_lt (by simp)]
      simp
    have hL:W1.heap[w.heap.size+1]? = some (.loop rec):=by
      rw [← hW1]
      show ((w.heap.push _).push _)[w.heap.size+1]? = _
      have:w.heap.size+1=(w.heap.push (Obj.deferred (some []))).size:=by simp
      rw [this,Array.getElem?_push_size]
    let K':Nat→Prop:=fun b=>Γ1.K b∨b=w.heap.size∨b=w.heap.size+1
    have hKlt:∀ b,Γ1.K b→b<w.heap.size:=fun b hb=>Nat.lt_of_lt_of_le (hs.m.kept b hb) hs.m.fr.size
    have hlaE:∀ b kk la,st.mem.m b kk→ρE b=some la→ρ b=some la:=fun b kk la hb hl=>by
      obtain ⟨la1,h1,_⟩:=hs.m.blk b kk hb
      have:=hgE.le b la1 h1
      rw [hl] at this
      injection this with this
      rw [this];exact h1
    have hm1:rR K' W1 ρE st.mem.m W1:=by
      refine ⟨fun b kk hb=>?_,fun b kk la hb hl=>?_,fun b b' k1 k2 la la' hb hb' hl hl' r1 r2 he=>hs.m.inj b b' k1 k2 la la' hb hb' (hlaE _ _ _ hb hl) (hlaE _ _ _ hb' hl') r1 r2 he,fun b hb=>?_,⟨rfl,rfl,rfl,Nat.le_refl _,fun _ _=>rfl⟩⟩
      · obtain ⟨la, h1, h2⟩ := hs.m.blk b kk hb
        exact ⟨la,hgE.le _ _ h1,h2.mono hgE.le (hold _ (hs.m.own b kk la hb h1).2.2)⟩
      · obtain ⟨h1, h2, h3⟩ := hs.m.own b kk la hb (hlaE _ _ _ hb hl)
        refine ⟨fun hr hk=>?_,fun hr=>.inl (h2 hr),by omega⟩
        rcases hk with hk | hk | hk
        · exact h1 hr hk
        · omega
        · omega
      · rcases hb with hb | hb | hb
        · have:=hKlt b hb;omega
        · omega
        · omega
    let yc:YC:=⟨st.nx,w.heap.size+1,rec,ρE,false⟩
    have hAY:Ud Γ.P [yc] (O3 (noY call) st.nx ps'.toList st.env fun s=>aND (vS (noY call) k as_ s) (vS (noY call) k bd)):=aTB (k:=0) (y:=yc) hc0 rfl fun args mem nx s2 hl hs2 =>
      bSu (n := Γ.n) hc0 hm hA hB ok1 ok2 no1 no2 rg1 rg2 (by rw [hrec]) (by rw [hrec]; exact has) (by rw [hrec]; exact hbd) (by rw [hrec]) (by rw [hrec]) (by rw [hrec]; exact hs.size.trans hU.n)
        (fun p hp => by
          have:=List.all_eq_true.1 hpn p hp
          exact Nat.le_of_ble_eq_true this) (fun i=>by rw [hrec];exact (hs.env i).mono fun c x hc=>hc.mono hgE.le) ⟨la0,hEat,rfl⟩ hl hs2
    obtain ⟨hcl, hcalls⟩ := aYD (P := Γ.P) (w := W1) hAY hm hF rg3 hC2 hlow hevc hex Ff (rv := .tup []) rfl hm1 (fun y hy => by
      rw [List.mem_singleton.1 hy]
      exact ⟨nV.le_refl _,.inr (.inr rfl),hL,fun h=>by cases h⟩) (fun b h1 h2=>(hgE.out b (.inr h1)).trans (hs.free b (by omega) (by omega))) hsz hrep
    refine ⟨w.heap.size+1,[mkD w.heap.size],W1,{ target:=.fn (.func h') caps,args:=first++#[.func (.yield (w.heap.size+1)) #[] #[]] },W1,h',first++#[.func (.yield (w.heap.size+1)) #[] #[]]++caps,W1,?_,?_,fun _ _=>trivial,?_,fun hd=>by simp [Fence.wide] at hd,?_⟩
    · rw [← hW1,hrec];exact run_enterLoop_outer _ _ _ _ _
    · simp only [resolve,hev]
      simp [go_sem]
    · simp only [invoke]
      exact aAD hcl
    · refine CallsIn.mono (show CallsIn (FW none) _ _ _ _ _ _ from callsIn_wide.2 hcalls) fun e w3 hpost=>?_
      obtain ⟨x,ρ2,rfl,hgr,hm3,_⟩:=hpost
      have hl3:w3.heap[w.heap.size+1]? = some (.loop rec):=(hm3.fr.block _ (.inr (.inr rfl))).trans hL
      refine ⟨none,w3.putObj (w.heap.size+1) (.loop { rec with state:=.exhausted }),(run_endLoop hl3 (by rw [hrec];simp)).trans (by rw [hrec]),rfl,?_⟩
      obtain ⟨w4,hw4⟩:∃ w4,w3.putObj (w.heap.size+1) (.loop { rec with state:=.exhausted })=w4:=⟨_,rfl⟩
      rw [hw4]
      have hm4:rR K' w4 ρ2 s.mem.m w4:=by rw [← hw4];exact hm3.loop hl3 trivial
      let Γ2:Ho:=⟨Γ1.P,w4,K',Γ1.n,ρ2,s.nx,Γ1.top,mkD w.heap.size::Γ1.ds,Γ1.rd⟩
      have hg2:pU ρ st.nx s.nx ρ2:=hgE.trans (Nat.le_succ _) hle hgr
      have hU2:Up Γ1 Γ2:=by
        refine ⟨rfl,rfl,rfl,rfl,fun b hb=>.inl hb,⟨?_,?_,?_,?_,fun b hb=>?_⟩,hs.base.trans hs.low (show st.nx≤s.nx by omega) hg2,by show Γ1.n0≤s.nx;have:=hs.low;omega,[w.heap.size],rfl,List.nodup_cons.2 ⟨by simp,List.nodup_nil⟩,fun D hD'=>?_⟩
        · show w4.os=_
          rw [← hw4]
          show w3.os=_
          rw [hm3.fr.os,← hW1];exact hs.m.fr.os
        · show w4.tape=_
          rw [← hw4]
          show w3.tape=_
          rw [hm3.fr.tape,← hW1];exact hs.m.fr.tape
        · show w4.output=_
          rw [← hw4]
          show w3.output=_
          rw [hm3.fr.output,← hW1];exact hs.m.fr.output
        · show _≤w4.heap.size
          rw [← hw4,World.putObj_size]
          have i1:=hs.m.fr.size
          have i2:=hm3.fr.size
          omega
        · show w4.heap[b]? = _
          have:=hKlt b hb
          rw [← hw4,World.putObj_heap_other (by omega),hm3.fr.block b (.inl hb),hold b this]
          exact hs.m.fr.block b hb
        · rw [List.mem_singleton.1 hD']
          refine ⟨.inr (.inl rfl),?_,hs.m.fr.size⟩
          show w4.heap[w.heap.size]? = _
          rw [← hw4,World.putObj_heap_other (by omega),hm3.fr.block _ (.inr (.inl rfl)),hD]
      refine ⟨Γ2,hU.trans hU2,ρ2,⟨?_,hs.size,fun i=>(hs.env i).mono fun c x hc=>hc.mono hg2.le,hm4,pU.refl _ _,Nat.le_refl _,?_⟩⟩
      · show mkD w.heap.size::a.defers=mkD w.heap.size::Γ1.ds
        rw [hs.defers]
      · exact hg2.free (by omega) hs.free
  | _=>simp [IC.of,XC.ic] at hcode
theorem bNr:∀ x:XC,S1 x∧S2 x:=by
 intro x
 induction x with
 | skip =>
  have h1:S1 .skip:=fun Γ Ys call k st e st' _ _ _ _ _ _ h=>by simp only [vS] at h;injection h with h;obtain ⟨rfl,rfl⟩:=Prod.mk.inj h;exact .skip
  exact ⟨h1,aAY h1 fun a b h=>by cases h⟩
 | region l =>
  have h1:S1 (.region l):=fun Γ Ys call k st e st' hcall hG _ _ _ _ h=>by
   simp only [vS] at h
   split at h
   ·rename_i st1 h1
    injection h with h;obtain ⟨rfl,rfl⟩:=Prod.mk.inj h
    exact .region (aUY hcall hG h1).low fun Γ' hU=>aUY (by rw [hU.P];exact hcall) (hG.up hU).self h1
   cases h
  exact ⟨h1,aAY h1 fun a b h=>by cases h⟩
 | draw ds an =>
  have h1:S1 (.draw ds an):=fun Γ Ys call k st e st' hcall hG hm hok _ _ h=>by
   simp only [vS] at h
   split at h
   ·rename_i st1 h1
    injection h with h;obtain ⟨rfl,rfl⟩:=Prod.mk.inj h
    exact bBn hcall hG hm hok h1
   cases h
  exact ⟨h1,aAY h1 fun a b h=>by cases h⟩
 | seq a b iha ihb =>
  have h1:S1 (.seq a b):=fun Γ Ys call k st e st' hcall hG hm hok hnr hr h=>by
   simp only [XC.ok,Bool.and_eq_true] at hok
   have hr1:∀ p,p∈a.rgs→gU Γ.P p.1 p.2:=fun p hp=>hr p (List.mem_append_left _ hp)
   have hr2:∀ p,p∈b.rgs→gU Γ.P p.1 p.2:=fun p hp=>hr p (List.mem_append_right _ hp)
   have hn1:a.noR=true∨Γ.rd=none:=hnr.imp (fun h=>by simp only [XC.noR,Bool.and_eq_true] at h;exact h.1) id
   have hn2:b.noR=true∨Γ.rd=none:=hnr.imp (fun h=>by simp only [XC.noR,Bool.and_eq_true] at h;exact h.2) id
   simp only [vS] at h
   split at h
   ·cases h
   ·rename_i st1 h1
    exact .seq (iha.1 Γ Ys call k _ _ _ hcall hG hm hok.1 hn1 hr1 h1) (ihb.1 Γ Ys call k _ _ _ hcall hG hm hok.2 hn2 hr2 h)
   rename_i e1 st1 hne h1
   injection h with h
   obtain ⟨rfl,rfl⟩:=Prod.mk.inj h
   exact .seq' (iha.1 Γ Ys call k _ _ _ hcall hG hm hok.1 hn1 hr1 h1) fun he=>hne he
  exact ⟨h1,aAY h1 fun a' b' h=>by cases h;exact ⟨iha.1,ihb.1,ihb.2⟩⟩
 | cond c a b iha ihb =>
  have h1:S1 (.cond c a b):=fun Γ Ys call k st e st' hcall hG hm hok hnr hr h=>by
   simp only [XC.ok,Bool.and_eq_true] at hok
   have hr1:∀ p,p∈a.rgs→gU Γ.P p.1 p.2:=fun p hp=>hr p (List.mem_append_left _ hp)
   have hr2:∀ p,p∈b.rgs→gU Γ.P p.1 p.2:=fun p hp=>hr p (List.mem_append_right _ hp)
   have hn1:a.noR=true∨Γ.rd=none:=hnr.imp (fun h=>by simp only [XC.noR,Bool.and_eq_true] at h;exact h.1) id
   have hn2:b.noR=true∨Γ.rd=none:=hnr.imp (fun h=>by simp only [XC.noR,Bool.and_eq_true] at h;exact h.2) id
   simp only [vS] at h
   split at h
   ·cases h
   ·rename_i hb
    exact .cond (b:=true) hb (iha.1 Γ Ys call k _ _ _ hcall hG hm hok.1 hn1 hr1 h)
   rename_i hb
   exact .cond (b:=false) hb (ihb.1 Γ Ys call k _ _ _ hcall hG hm hok.2 hn2 hr2 h)
  exact ⟨h1,aAY h1 fun a b h=>by cases h⟩
 | block id b ih =>
  have h1:S1 (.block id b):=fun Γ Ys call k st e st' hcall hG hm hok hnr hr h=>by
   simp only [vS] at h
   split at h
   ·cases h
   rename_i e1 st1 h1
   injection h with h
   obtain ⟨rfl,rfl⟩:=Prod.mk.inj h
   exact .block (ih.1 Γ Ys call k _ _ _ hcall hG hm hok hnr hr h1)
  exact ⟨h1,aAY h1 fun a b h=>by cases h⟩
 | loop b ih =>
  have h1:S1 (.loop b):=fun Γ Ys call k st e st' hcall hG hm hok hnr hr h=>by
   simp only [vS] at h
   obtain ⟨n,hn⟩:=aXj (x:=b.ic) (fun st e st' h=>ih.1 Γ Ys call k _ _ _ hcall hG hm hok hnr hr h) h
   exact .loop hn
  exact ⟨h1,aAY h1 fun a b h=>by cases h⟩
 | exit id =>
  have h1:S1 (.exit id):=fun Γ Ys call k st e st' _ _ _ _ _ _ h=>by simp only [vS] at h;injection h with h;obtain ⟨rfl,rfl⟩:=Prod.mk.inj h;exact .exit
  exact ⟨h1,aAY h1 fun a b h=>by cases h⟩
 | ret =>
  have h1:S1 .ret:=fun Γ Ys call k st e st' _ _ _ _ _ _ h=>by simp only [vS] at h;injection h with h;obtain ⟨rfl,rfl⟩:=Prod.mk.inj h;exact .ret
  exact ⟨h1,aAY h1 fun a b h=>by cases h⟩
 | bad =>
  have h1:S1 .bad:=fun Γ Ys call k st e st' _ _ _ _ _ _ h=>by simp only [vS] at h;cases h
  exact ⟨h1,aAY h1 fun a b h=>by cases h⟩
 | mrange nx more it out b ih =>
  have h1:=bDT (nx:=nx) (more:=more) (it:=it) (out:=out) ih.1
  exact ⟨h1,aAY h1 fun a b h=>by cases h⟩
 | range g ps as_ bd h n c iha ihb ihc =>
  have h1:=bIh (g:=g) (ps:=ps) (h:=h) (n':=n) iha.1 ihb.1 ihc.1 ihc.2
  exact ⟨h1,aAY h1 fun a b h=>by cases h⟩
def bBq (P:Program) (T:Tr FE):Prop:=∀ f e,T.get f=some e→∀ p,p∈e.x.rgs→gU P p.1 p.2
theorem aX6 (hm:P.follows .mixedOrders=true) {T:Tr FE} (hT:aVq P T) (hR:bBq P T) (hz:P.funcs.size≤1000000) {hand:eE} (hh:Bt P hand) (k0:Nat):∀ k,Ud P [] (evF T hand k0 k):=by
 intro k
 induction k with
 | zero=>exact ⟨fun f args mem nx res mem' nx' _ h=>(by cases h),fun b args mem nx res mem' nx' h=>(by cases h)⟩
 | succ k ih =>
  refine ⟨fun f args mem nx res mem' nx' h0 h=>?_,fun b args mem nx res mem' nx' h=>?_⟩
  ·simp only [evF] at h
   split at h
   ·rw [h0] at h
    exact hh _ _ _ _ _ _ _ h
   rename_i e he
   split at h
   ·cases h
   rename_i Ff
   have Ff:args.length≤e.n:=Nat.le_of_ble_eq_true Ff
   have hF:=hT f e he
   have hok:e.x.ok=true:=by obtain ⟨_,_,_,_,_,_,_,_,hok⟩:=hF;exact hok
   have key:∀ (ex:Exit) (st:AS),(ex=.ret∨ex=.normal)→vS (evF T hand k0 k) k0 e.x ⟨Hy 0 .nil args,mem,nx⟩=some (ex,st)→fin e st=some (res,mem',nx')→bKs P f args mem nx res mem' nx':=by
    intro ex st hex hev hfin
    unfold fin at hfin
    split at hfin
    case h_2=>cases hfin
    rename_i rv hrv
    cases hfin
    obtain ⟨s1,s2⟩:=bNr e.x
    have hlow:=(s1 ⟨P,default,fun _=>False,e.n,fun _=>none,nx,st.nx,[],none⟩ [] _ k0 _ _ _ ih ⟨rfl,rfl,rfl,fun y hy=>by cases hy⟩ hm hok (.inr rfl) (hR f e he) hev).low
    exact ⟨hlow,fun K w0 ρ w vs hms hfree hl hrep=>.inl (aYD ih hm hF (hR f e he) s2 hlow hev hex Ff hrv hms (fun y hy=>by cases hy) hfree hl hrep)⟩
   split at h
   ·rename_i st h1
    exact key _ _ (.inl rfl) h1 h
   ·rename_i st h1
    exact key _ _ (.inr rfl) h1 h
   cases h
  exfalso
  simp only [evF] at h
  split at h
  ·have h0:Nat.blt (1000000+b) 1000000=false:=by
    cases h0:Nat.blt (1000000+b) 1000000 with
    | false=>rfl
    | true=>have:1000000+b<1000000:=Nat.le_of_ble_eq_true h0;omega
   rw [h0] at h
   cases h
  rename_i e he
  obtain ⟨fn,code,hf,_⟩:=hT _ e he
  have:=(Array.getElem?_eq_some_iff.1 hf).1
  omega
theorem bDp (hm:P.follows .mixedOrders=true) {T:Tr FE} (hT:aVq P T) (hR:bBq P T) (hz:P.funcs.size≤1000000) {hand:eE} (hh:Bt P hand) (k0:Nat) (k:Nat) {f:Nat} {args:List AV} {mem:Tr mU} {nx:Nat} {res:AV} {mem':Tr mU} {nx':Nat} (h0:Nat.blt f 1000000=true) (h:evF T hand k0 k f args mem nx=some (res,mem',nx')):bKs P f args mem nx res mem' nx':=
 (aX6 hm hT hR hz hh k0 k).f _ _ _ _ _ _ _ h0 h
end
end Go.CE

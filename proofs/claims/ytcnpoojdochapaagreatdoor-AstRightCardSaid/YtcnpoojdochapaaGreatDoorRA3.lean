/- A reckoner for closed calls, part 3: the evaluator and its faster twin answer what the program does. -/
import Derived.WalkKit
import Derived.Orders
import Derived.Scope
import Derived.Test.YtcnpoojdochapaaGreatDoorRA2
set_option linter.unusedVariables false
set_option linter.unusedSimpArgs false
namespace Go.CE
open Go.RowKit
open Go.Eng (Od aKW lL)
abbrev Anc (an:List Nat) (j k:Nat):Prop:=(an.getD j 0).testBit k=true
section static
variable {ds:List D} {an:List Nat}
theorem aVA (h : okD ds an = true) {j : Nat} {d : D} (hd : ds[j]? = some d) : (d.af.all (fun k => Nat.blt k j) && Nat.beq (an.getD j 0) (bF9 an d.af) && d.sl.all (bDo ds an j) && (match d.i.d with
    | some q=>bL8 ds j q
    | none=>true))=true:=by
  have:=List.all_eq_true.1 h j (by simpa using (List.getElem?_eq_some_iff.1 hd).1)
  rw [hd] at this
  exact this
theorem bFg (h:okD ds an=true) {j k:Nat} {d:D} (hd:ds[j]? = some d) (hk:k∈d.af):k<j:=by
 have:=aVA h hd
 simp only [Bool.and_eq_true] at this
 exact aTk (List.all_eq_true.1 this.1.1.1 k hk)
theorem bJf (h:okD ds an=true) {j:Nat} {d:D} (hd:ds[j]? = some d):an.getD j 0=bF9 an d.af:=by
 have:=aVA h hd
 simp only [Bool.and_eq_true] at this
 exact Nat.eq_of_beq_eq_true this.1.1.2
theorem bAc (h:okD ds an=true) {j k q:Nat} {d d':D} (hd:ds[j]? = some d) (hq:q∈d.sl) (hk:ds[k]? = some d') (hdk:d'.i.d=some q):Anc an j k∨Anc an k j:=by
 have:=aVA h hd
 simp only [Bool.and_eq_true] at this
 have h1:=List.all_eq_true.1 this.1.2 q hq
 have h2:=List.all_eq_true.1 h1 k (by simpa using (List.getElem?_eq_some_iff.1 hk).1)
 rw [hk] at h2
 simp only [hdk,Nat.beq_refl,Bool.not_true,Bool.false_or,Bool.or_eq_true] at h2
 exact h2
theorem bPw (h:okD ds an=true) {j k q:Nat} {d d':D} (hd:ds[j]? = some d) (hk:ds[k]? = some d') (hdj:d.i.d=some q) (hdk:d'.i.d=some q):j=k:=by
 have:=aVA h hd
 simp only [Bool.and_eq_true,hdj] at this
 have h2:=List.all_eq_true.1 this.2 k (by simpa using (List.getElem?_eq_some_iff.1 hk).1)
 rw [hk] at h2
 simp only [hdk,Nat.beq_refl,Bool.not_true,Bool.or_false] at h2
 exact (Nat.eq_of_beq_eq_true h2).symm
theorem aZE (h:okD ds an=true) {j k:Nat} {d:D} (hd:ds[j]? = some d) (ha:Anc an j k):∃ l∈d.af,k=l∨Anc an l k:=by
 unfold Anc at ha
 rw [bJf h hd] at ha
 rcases Go.Eng.ancOf_bit an k d.af 0 ha with h1 | ⟨l,hl,h1⟩
 ·simp at h1
 exact ⟨l,hl,h1.imp Eq.symm id⟩
theorem aV4 (h:okD ds an=true):∀ {j k:Nat} {d:D},ds[j]? = some d→Anc an j k→k<j:=by
 intro j
 induction j using Nat.strongRecOn with
 | ind j ih =>
  intro k d hd ha
  obtain ⟨l,hl,h1⟩:=aZE h hd ha
  have hlj:=bFg h hd hl
  rcases h1 with rfl | h1
  ·exact hlj
  have hlt:l<ds.length:=Nat.lt_trans hlj (List.getElem?_eq_some_iff.1 hd).1
  have:=ih l hlj (List.getElem?_eq_getElem hlt) h1
  omega
theorem bLB (h:okD ds an=true) (p:Nat→Prop) (hp:∀ (j:Nat) (d:D),ds[j]? = some d→p j→∀ (k:Nat),k∈d.af→p k):∀ (j:Nat) (d:D) (k:Nat),ds[j]? = some d→(∀ (k:Nat),k∈d.af→p k)→Anc an j k→p k:=by
 intro j
 induction j using Nat.strongRecOn with
 | ind j ih =>
  intro d k hd haf ha
  obtain ⟨l,hl,h1⟩:=aZE h hd ha
  rcases h1 with rfl | h1
  ·exact haf _ hl
  have hlj:=bFg h hd hl
  have hlt:l<ds.length:=Nat.lt_trans hlj (List.getElem?_eq_some_iff.1 hd).1
  have hld:=List.getElem?_eq_getElem hlt
  exact ih l hlj _ k hld (hp l _ hld (haf l hl)) h1
end static
section nx
variable {e:Tr AV} {m:Tr pA} {n:Nat}
theorem aYe (n:Nat) (x:Od):AS.ev ⟨e,m,n⟩ x=AS.ev ⟨e,m,0⟩ x:=by cases x<;>rfl
theorem aYb (n:Nat):∀ (l:List (Nat×Nat×Od)) (cs:List C),aB8 ⟨e,m,n⟩ cs l=aB8 ⟨e,m,0⟩ cs l
 | [],_=>rfl
 | (a,b,x)::l,cs=>by simp only [aB8,aYe n,aYb n l]
theorem aUH (n:Nat):∀ (l:List Od),Kr ⟨e,m,n⟩ l=Kr ⟨e,m,0⟩ l
 | []=>rfl
 | x::l=>by simp only [Kr,aYe n,aUH n l]
theorem bPP (n:Nat) (o:Option Od) (k:Nat):bnd ⟨e,m,n⟩ o k=bnd ⟨e,m,0⟩ o k:=by cases o<;>simp only [bnd,aYe n]
theorem bKd (n:Nat) (b o k:Nat):AS.read ⟨e,m,n⟩ b o k=AS.read ⟨e,m,0⟩ b o k:=rfl
theorem aXk (i:jM) (n:Nat):cP i ⟨e,m,n⟩=cP i ⟨e,m,0⟩:=by
 cases i
 case len s x=>cases s<;>simp only [cP,aYe n]
 all_goals first
  | rfl
  | simp only [cP,aYe n,aYb n,aUH n,bPP n,bKd n]
theorem aVQ {i:I} {m':Tr pA} {n':Nat}:gOk i ⟨e,m,n⟩=gOk i ⟨e,m',n'⟩:=by
 unfold gOk
 cases i.g with
 | none=>rfl
 | some p=>rfl
end nx
def up {α:Type} (f:Nat→α) (j:Nat) (x:α):Nat→α:=fun k=>if k=j then x else f k
theorem rR {α:Type} (f:Nat→α) (j:Nat) (x:α):up f j x j=x:=by simp [up]
theorem mC {α:Type} (f:Nat→α) (j:Nat) (x:α) {k:Nat} (h:k≠j):up f j x k=f k:=by simp [up,h]
structure Dt where
 kind:Nat→Kd
 out:Nat→AV
 re:Nat→Tr AV
 lo:Nat→Nat
 hi:Nat→Nat
 mem:Nat→Tr pA
 pre:Nat→Tr pA
 tg:Nat→Nat
 m:Nat
def aD0 (tg:Nat→Nat) (mem:Nat→Tr pA):Nat→List (Nat×Tr pA)
 | 0=>[(tg 0,mem 0)]
 | i+1=>(tg (i+1),mem (i+1))::aD0 tg mem i
theorem aTY (tg:Nat→Nat) (mem:Nat→Tr pA) (i:Nat):∃ l,aD0 tg mem i=(tg i,mem i)::l:=by cases i<;>exact ⟨_,rfl⟩
theorem aWB {tg:Nat→Nat} {mem:Nat→Tr pA} {t:Nat} {x:Tr pA} {i0:Nat}:∀ i,i<i0→aD0 (up tg i0 t) (up mem i0 x) i=aD0 tg mem i
 | 0,h=>by simp only [aD0];rw [mC _ _ _ (by omega),mC _ _ _ (by omega)]
 | i+1,h=>by simp only [aD0];rw [mC _ _ _ (by omega),mC _ _ _ (by omega),aWB i (by omega)]
structure W (P:Program) (n:Nat) (ds:List D) (an:List Nat) (st0:AS) (X:Dt) (j:Nat) (a:Acc):Prop where
 e1:∀ (q:Nat) (v:AV),a.env.get q=some v→(∃ (k:Nat) (d:D),k<j∧ds[k]? = some d∧d.i.d=some q∧X.out k=v)∨((∀ (k:Nat) (d:D),k<j→ds[k]? = some d→d.i.d≠some q)∧st0.env.get q=some v)
 e2:∀ (k:Nat) (d:D) (q:Nat) (v:AV),k<j→ds[k]? = some d→(X.re k).get q=some v→q∈d.sl ∧
  ((∃ (k':Nat) (d':D),k'<k∧ds[k']? = some d'∧d'.i.d=some q∧X.out k'=v)∨((∀ (k':Nat) (d':D),k'<k→ds[k']? = some d'→d'.i.d≠some q)∧st0.env.get q=some v))
 n0:st0.nx≤a.nx
 n1:∀ k,k<j→st0.nx≤X.lo k∧X.lo k≤X.hi k∧X.hi k≤a.nx
 n2:∀ k k',k<k'→k'<j→X.hi k≤X.lo k'
 mem0:X.mem 0=st0.mem
 x1:∀ k i,k<j→X.kind k=.x i→i<X.m
 x2:∀ i,i<X.m→∃ k,k<j∧X.kind k=.x i
 x3:∀ k k' i i',k<k'→k'<j→X.kind k=.x i→X.kind k'=.x i'→i<i'
 x4:∀ k k' i i',k<k'→k'<j→X.kind k=.x i→X.kind k'=.x i'→∀ b,(b=k∨Anc an k b)→Anc an k' b
 la:∀ k i b,k<j→X.kind k=.x i→(b=k∨Anc an k b)→a.last.testBit b=true
 fP:∀ (k:Nat) (d:D),k<j→ds[k]? = some d→X.kind k=.p→X.lo k=X.hi k∧∀ Γ:Ctx,Γ.P=P→Γ.n=n→aEr Γ d.i ⟨X.re k,.nil,X.lo k⟩ ((⟨X.re k,.nil,X.hi k⟩:AS).putO d.i.d (X.out k))
 fL:∀ (k:Nat) (d:D),k<j→ds[k]? = some d→X.kind k=.l→X.lo k=X.hi k∧gOk d.i ⟨X.re k,.nil,0⟩=some true∧∀ c,c≤X.m→(∀ k' i,k'<j→X.kind k'=.x i→Anc an k k'→i<c)→(∀ k' i,k'<j→X.kind k'=.x i→Anc an k' k→c≤i) →
  cP d.i.o ⟨X.re k,X.mem c,0⟩=some (X.out k)
 fA:∀ (k:Nat) (d:D) (t:Tr pA),k<j→ds[k]? = some d→X.kind k=.a t→∀ Γ:Ctx,Γ.P=P→Γ.n=n→aEr Γ d.i ⟨X.re k,.nil,X.lo k⟩ ((⟨X.re k,t,X.hi k⟩:AS).putO d.i.d (X.out k))
 fX:∀ (k:Nat) (d:D) (i:Nat),k<j→ds[k]? = some d→X.kind k=.x i→∀ Γ:Ctx,Γ.P=P→Γ.n=n→aEr Γ d.i ⟨X.re k,X.pre i,X.lo k⟩ ((⟨X.re k,X.mem (i+1),X.hi k⟩:AS).putO d.i.d (X.out k))
 pX:∀ (k i b:Nat) (kk:pA),k<j→X.kind k=.x i→(X.pre i).get b=some kk→(X.mem i).get b=some kk∨∃ (A:Nat) (t:Tr pA),A<j∧Anc an k A∧X.kind A=.a t∧t.get b=some kk∧∀ k' i',k'<j→X.kind k'=.x i'→i'<i→¬ Anc an k' A
 dm:Dom st0.mem st0.nx a.nx (X.mem X.m)
 ml:a.mems=aD0 X.tg X.mem X.m
 tg0:X.tg 0=0
 tgx:∀ k i,k<j→X.kind k=.x i→X.tg (i+1)=k+1
 p1:∀ (A b:Nat) (kk:pA),(A,b,kk)∈a.pend→A<j∧∃ t,X.kind A=.a t∧t.get b=some kk∧∀ k' i',k'<j→X.kind k'=.x i'→¬ Anc an k' A
 p2:∀ (A:Nat) (t:Tr pA) (b:Nat) (kk:pA),A<j→X.kind A=.a t→(∀ k' i',k'<j→X.kind k'=.x i'→¬ Anc an k' A)→t.get b=some kk→(A,b,kk)∈a.pend
 fl:∀ (l:Nat) (d:D),l<j→ds[l]? = some d→X.kind l=.l→(∀ k' i',k'<j→X.kind k'=.x i'→¬ Anc an k' l)→(l,d.i.o,X.re l,X.out l)∈a.fl
section
variable {P:Program} {n:Nat} {ds:List D} {an:List Nat} {st0:AS} {X:Dt} {j:Nat} {a:Acc}
theorem W.base (h:W P n ds an st0 X j a) {d:D} (hd:ds[j]? = some d) (K:Kd) (v:AV) (nx':Nat) (hnx:a.nx≤nx') :
    (∀ (q:Nat) (u:AV),(aCi a.env d.i.d v).get q=some u→(∃ (k:Nat) (d:D),k<j+1∧ds[k]? = some d∧d.i.d=some q∧up X.out j v k=u)∨((∀ (k:Nat) (d:D),k<j+1→ds[k]? = some d→d.i.d≠some q)∧st0.env.get q=some u)) ∧
    (∀ (k : Nat) (d' : D) (q : Nat) (u : AV), k < j + 1 → ds[k]? = some d' → (up X.re j (nE a.env d.sl) k).get q = some u → q ∈ d'.sl ∧
      ((∃ (k':Nat) (d':D),k'<k∧ds[k']? = some d'∧d'.i.d=some q∧up X.out j v k'=u)∨((∀ (k':Nat) (d':D),k'<k→ds[k']? = some d'→d'.i.d≠some q)∧st0.env.get q=some u))) ∧
    (∀ k,k<j+1→st0.nx≤up X.lo j a.nx k∧up X.lo j a.nx k≤up X.hi j nx' k∧up X.hi j nx' k≤nx') ∧
    (∀ k k',k<k'→k'<j+1→up X.hi j nx' k≤up X.lo j a.nx k'):=by
  refine ⟨fun q u hq=>?_,fun k d' q u hk hd' hq=>?_,fun k hk=>?_,fun k k' hk hk'=>?_⟩
  · rcases bIC hq with ⟨h1, rfl⟩ | ⟨h1, h2⟩
    · exact .inl ⟨j,d,Nat.lt_succ_self _,hd,h1,rR _ _ _⟩
    · rcases h.e1 q u h2 with ⟨k, d', g1, g2, g3, g4⟩ | ⟨g1, g2⟩
      · exact .inl ⟨k,d',by omega,g2,g3,by rw [mC _ _ _ (by omega)];exact g4⟩
      · refine .inr ⟨fun k d' hk hd'=>?_,g2⟩
        by_cases e:k=j
        · subst e;rw [hd] at hd';injection hd' with hd';subst hd';exact h1
        · exact g1 k d' (by omega) hd'
  · have hlift : ∀ k', k' < k → up X.out j v k' = X.out k' := fun k' h' => mC _ _ _ (by omega)
    by_cases e:k=j
    · subst e
      rw [hd] at hd';injection hd' with hd';subst hd'
      rw [rR] at hq
      obtain ⟨h1,h2⟩:=aUx hq
      refine ⟨h1,?_⟩
      rcases h.e1 q u h2 with ⟨k',d',g1,g2,g3,g4⟩ | ⟨g1,g2⟩
      · exact .inl ⟨k',d',g1,g2,g3,by rw [hlift k' g1];exact g4⟩
      · exact .inr ⟨g1,g2⟩
    · rw [mC _ _ _ e] at hq
      obtain ⟨h1,h2⟩:=h.e2 k d' q u (by omega) hd' hq
      refine ⟨h1,?_⟩
      rcases h2 with ⟨k',d2,g1,g2,g3,g4⟩ | h2
      · exact .inl ⟨k',d2,g1,g2,g3,by rw [hlift k' g1];exact g4⟩
      · exact .inr h2
  · by_cases e:k=j
    · subst e;rw [rR,rR];exact ⟨h.n0,hnx,Nat.le_refl _⟩
    · rw [mC _ _ _ e,mC _ _ _ e]
      have:=h.n1 k (by omega)
      exact ⟨this.1,this.2.1,Nat.le_trans this.2.2 hnx⟩
  · rw [mC _ _ _ (by omega : k ≠ j)]
    by_cases e:k'=j
    · subst e;rw [rR];exact (h.n1 k hk).2.2
    · rw [mC _ _ _ e];exact h.n2 k k' hk (by omega)
theorem W.calm (h:W P n ds an st0 X j a) {d:D} (hd:ds[j]? = some d) (K:Kd) (v:AV) (nx':Nat) (pend':List (Nat×Nat×pA)) (fl':List (Nat×jM×Tr AV×AV)) (hnx:a.nx≤nx') (hKx:∀ i,K≠.x i)
    (fP:K=.p→a.nx=nx'∧∀ Γ:Ctx,Γ.P=P→Γ.n=n→aEr Γ d.i ⟨nE a.env d.sl,.nil,a.nx⟩ ((⟨nE a.env d.sl,.nil,nx'⟩:AS).putO d.i.d v))
    (fL:K=.l→a.nx=nx'∧gOk d.i ⟨nE a.env d.sl,.nil,0⟩=some true∧∀ c,c≤X.m→(∀ k' i,k'<j→X.kind k'=.x i→Anc an j k'→i<c)→cP d.i.o ⟨nE a.env d.sl,X.mem c,0⟩=some v)
    (fA:∀ t,K=.a t→∀ Γ:Ctx,Γ.P=P→Γ.n=n→aEr Γ d.i ⟨nE a.env d.sl,.nil,a.nx⟩ ((⟨nE a.env d.sl,t,nx'⟩:AS).putO d.i.d v))
    (hp1:∀ p,p∈pend'→p∈a.pend∨(p.1=j∧∃ t,K=.a t∧t.get p.2.1=some p.2.2∧∀ k' i',k'<j→X.kind k'=.x i'→¬ Anc an k' j))
    (hp2:∀ p,p∈a.pend→p∈pend') (hp3:∀ (t:Tr pA) (b:Nat) (kk:pA),K=.a t→t.get b=some kk→(j,b,kk)∈pend')
    (hf1:∀ p,p∈a.fl→p∈fl') (hf2:K=.l→(j,d.i.o,nE a.env d.sl,v)∈fl') (hanc:∀ k' i',k'<j→X.kind k'=.x i'→¬ Anc an k' j) :
    W P n ds an st0 ⟨up X.kind j K,up X.out j v,up X.re j (nE a.env d.sl),up X.lo j a.nx,up X.hi j nx',X.mem,X.pre,X.tg,X.m⟩ (j+1) ⟨aCi a.env d.i.d v,nx',a.mems,pend',fl',a.last⟩:=by
  obtain ⟨b1,b2,b3,b4⟩:=h.base hd K v nx' hnx
  have hx:∀ k i,k<j+1→up X.kind j K k=.x i→k<j∧X.kind k=.x i:=by
    intro k i hk hki
    by_cases e:k=j
    · subst e;rw [rR] at hki;exact absurd hki (hKx i)
    · rw [mC _ _ _ e] at hki;exact ⟨by omega,hki⟩
  have hx':∀ k i,k<j→X.kind k=.x i→k<j+1∧up X.kind j K k=.x i:=fun k i hk hki=>⟨by omega,by rw [mC _ _ _ (by omega)];exact hki⟩
  have hno:∀ A,(∀ k' i',k'<j+1→up X.kind j K k'=.x i'→¬ Anc an k' A)→∀ k' i',k'<j→X.kind k'=.x i'→¬ Anc an k' A:=fun A hA k' i' h1 h2=>hA k' i' (hx' k' i' h1 h2).1 (hx' k' i' h1 h2).2
  refine ⟨b1,b2,Nat.le_trans h.n0 hnx,b3,b4,h.mem0,fun k i hk hki=>?_,fun i hi=>?_,fun k k' i i' hk hk' h1 h2=>?_,fun k k' i i' hk hk' h1 h2 b hb=>?_,fun k i b hk hki hb=>?_,fun k d' hk hd' hki=>?_,fun k d' hk hd' hki=>?_,fun k d' t hk hd' hki=>?_,fun k d' i hk hd' hki=>?_,fun k i b kk hk hki hb=>?_,?_,h.ml,h.tg0,fun k i hk hki=>?_,fun A b kk hm=>?_,fun A t b kk hA hkA hnA hb=>?_,fun l d' hl hd' hkl hnl=>?_⟩
  · have:=hx k i hk hki;exact h.x1 k i this.1 this.2
  · obtain ⟨k,h1,h2⟩:=h.x2 i hi;exact ⟨k,(hx' k i h1 h2).1,(hx' k i h1 h2).2⟩
  · have g1:=hx k i (by omega) h1;have g2:=hx k' i' hk' h2;exact h.x3 k k' i i' hk g2.1 g1.2 g2.2
  · have g1:=hx k i (by omega) h1;have g2:=hx k' i' hk' h2;exact h.x4 k k' i i' hk g2.1 g1.2 g2.2 b hb
  · have:=hx k i hk hki;exact h.la k i b this.1 this.2 hb
  · by_cases e:k=j
    · subst e
      rw [hd] at hd';injection hd' with hd';subst hd'
      simp only [rR] at hki ⊢
      exact fP hki
    · simp only [mC _ _ _ e] at hki ⊢
      exact h.fP k d' (by omega) hd' hki
  · by_cases e:k=j
    · subst e
      rw [hd] at hd';injection hd' with hd';subst hd'
      simp only [rR] at hki ⊢
      obtain ⟨g1,g2,g3⟩:=fL hki
      exact ⟨g1,g2,fun c hc hlo _=>g3 c hc fun k' i h1 h2=>hlo k' i (hx' k' i h1 h2).1 (hx' k' i h1 h2).2⟩
    · simp only [mC _ _ _ e] at hki ⊢
      obtain ⟨g1,g2,g3⟩:=h.fL k d' (by omega) hd' hki
      exact ⟨g1,g2,fun c hc hlo hhi=>g3 c hc (fun k' i h1 h2=>hlo k' i (hx' k' i h1 h2).1 (hx' k' i h1 h2).2) fun k' i h1 h2=>hhi k' i (hx' k' i h1 h2).1 (hx' k' i h1 h2).2⟩
  · by_cases e:k=j
    · subst e
      rw [hd] at hd';injection hd' with hd';subst hd'
      simp only [rR] at hki ⊢
      exact fA t hki
    · simp only [mC _ _ _ e] at hki ⊢
      exact h.fA k d' t (by omega) hd' hki
  · have g:=hx k i hk hki
    have e:k≠j:=by omega
    simp only [mC _ _ _ e]
    exact h.fX k d' i g.1 hd' g.2
  · have g:=hx k i hk hki
    rcases h.pX k i b kk g.1 g.2 hb with h1 | ⟨A,t,g1,g2,g3,g4,g5⟩
    · exact .inl h1
    · refine .inr ⟨A, t, by omega, g2, (mC X.kind j K (by omega : A ≠ j)).trans g3, g4, fun k' i' q1 q2 q3 => ?_⟩
      have g6:=hx k' i' q1 q2
      exact g5 k' i' g6.1 g6.2 q3
  · intro b kk hb
    rcases h.dm b kk hb with h1 | h1
    · exact .inl h1
    · exact .inr ⟨h1.1,Nat.lt_of_lt_of_le h1.2 hnx⟩
  · have g:=hx k i hk hki;exact h.tgx k i g.1 g.2
  · rcases hp1 _ hm with h1 | ⟨h1,t,h2,h3,h4⟩
    · obtain ⟨g1, t, g2, g3, g4⟩ := h.p1 A b kk h1
      refine ⟨by omega,t,(mC X.kind j K (by omega:A≠j)).trans g2,g3,fun k' i' q1 q2=>?_⟩
      have g6:=hx k' i' q1 q2
      exact g4 k' i' g6.1 g6.2
    · simp only at h1 h3
      subst h1
      refine ⟨by omega,t,(rR X.kind A K).trans h2,h3,fun k' i' q1 q2=>?_⟩
      have g6:=hx k' i' q1 q2
      exact h4 k' i' g6.1 g6.2
  · by_cases e:A=j
    · subst e
      simp only [rR] at hkA
      exact hp3 t b kk hkA hb
    · simp only [mC _ _ _ e] at hkA
      exact hp2 _ (h.p2 A t b kk (by omega) hkA (hno A hnA) hb)
  · by_cases e:l=j
    · subst e
      rw [hd] at hd';injection hd' with hd';subst hd'
      simp only [rR] at hkl ⊢
      exact hf2 hkl
    · simp only [mC _ _ _ e] at hkl ⊢
      exact hf1 _ (h.fl l d' (by omega) hd' hkl (hno l hnl))
theorem aWK {bits:Nat} {m:Tr pA}:∀ {l l':List (Nat×jM×Tr AV×AV)},aVv bits m l=some l'→∀ (k:Nat) (o:jM) (re:Tr AV) (v:AV),(k,o,re,v)∈l→bits.testBit k=false→cP o ⟨re,m,0⟩=some v∧(k,o,re,v)∈l':=by
 intro l
 induction l with
 | nil=>intro l' _ k o re v hm;cases hm
 | cons p l ih =>
  intro l' h k o re v hm hb
  obtain ⟨k0,o0,re0,v0⟩:=p
  simp only [aVv] at h
  split at h
  ·cases h
  rename_i r' hr
  split at h
  ·rename_i hbit
   injection h with h
   subst h
   rcases List.mem_cons.1 hm with hm | hm
   ·injection hm with e1 hm
    subst e1
    rw [hb] at hbit;cases hbit
   exact ih hr k o re v hm hb
  split at h
  ·rename_i v' hv'
   split at h
   ·rename_i hs
    injection h with h
    subst h
    have hs:=aTB hs
    subst hs
    rcases List.mem_cons.1 hm with hm | hm
    ·injection hm with e1 hm
     injection hm with e2 hm
     injection hm with e3 e4
     subst e1 e2 e3 e4
     exact ⟨hv',by simp⟩
    obtain ⟨g1,g2⟩:=ih hr k o re v hm hb
    exact ⟨g1,by simp [g2]⟩
   cases h
  cases h
theorem W.aRange (h:W P n ds an st0 X j a) (Γ:Ctx) (hP:Γ.P=P) (hn:Γ.n=n) {A:Nat} {d:D} {t:Tr pA} (hA:A<j) (hd:ds[A]? = some d) (hk:X.kind A=.a t) {b:Nat} {kk:pA} (hb:t.get b=some kk):X.lo A≤b∧b<X.hi A:=by
 have h:=(h.fA A d t hA hd hk Γ hP hn).low.dom
 simp only [Iu,U8] at h
 rcases h b kk hb with ⟨k,h1⟩ | h1
 ·rw [Tr.get_nil] at h1;cases h1
 exact h1
theorem W.chg (h:W P n ds an st0 X j a) (Γ:Ctx) (hP:Γ.P=P) (hn:Γ.n=n) {d:D} (hd:ds[j]? = some d) (v:AV) (m':Tr pA) (nx':Nat) (fl':List (Nat×jM×Tr AV×AV))
    (hI:∀ Γ:Ctx,Γ.P=P→Γ.n=n→aEr Γ d.i ⟨nE a.env d.sl,ovl (X.mem X.m) (a.pend.filter fun p=>(an.getD j 0).testBit p.1),a.nx⟩ ((⟨nE a.env d.sl,m',nx'⟩:AS).putO d.i.d v))
    (hlast:Nat.beq (an.getD j 0 ||| a.last) (an.getD j 0)=true) (hfl:aVv (an.getD j 0) m' a.fl=some fl') (hanc:∀ b,Anc an j b→b<j) :
    W P n ds an st0 ⟨up X.kind j (.x X.m),up X.out j v,up X.re j (nE a.env d.sl),up X.lo j a.nx,up X.hi j nx',up X.mem (X.m+1) m',up X.pre X.m (ovl (X.mem X.m) (a.pend.filter fun p=>(an.getD j 0).testBit p.1)),up X.tg (X.m+1) (j+1),X.m+1⟩
      (j+1) ⟨aCi a.env d.i.d v,nx',(j+1,m')::a.mems,a.pend.filter (fun p=>!(an.getD j 0).testBit p.1),fl',an.getD j 0 ||| (1 <<< j)⟩:=by
  have hlow:=(hI Γ hP hn).low
  simp only [Iu,U8] at hlow
  obtain ⟨b1,b2,b3,b4⟩:=h.base hd (.x X.m) v nx' hlow.le
  have hx:∀ k i,k<j+1→up X.kind j (.x X.m) k=.x i→(k<j∧X.kind k=.x i)∨(k=j∧i=X.m):=by
    intro k i hk hki
    by_cases e:k=j
    · subst e;rw [rR] at hki;injection hki with hki;exact .inr ⟨rfl,hki.symm⟩
    · rw [mC _ _ _ e] at hki;exact .inl ⟨by omega,hki⟩
  have hx':∀ k i,k<j→X.kind k=.x i→k<j+1∧up X.kind j (.x X.m) k=.x i:=fun k i hk hki=>⟨by omega,by rw [mC _ _ _ (by omega)];exact hki⟩
  have hj':j<j+1∧up X.kind j (.x X.m) j=.x X.m:=⟨Nat.lt_succ_self _,rR _ _ _⟩
  have hla:∀ b,a.last.testBit b=true→Anc an j b:=by
    intro b hb
    have h1:=Nat.eq_of_beq_eq_true hlast
    unfold Anc
    rw [← h1,Nat.testBit_or,hb]
    simp
  have hmem:∀ c,c≤X.m→up X.mem (X.m+1) m' c=X.mem c:=fun c hc=>mC _ _ _ (by omega)
  refine ⟨b1,b2,Nat.le_trans h.n0 hlow.le,b3,b4,(hmem 0 (Nat.zero_le _)).trans h.mem0,fun k i hk hki=>?_,fun i hi=>?_,fun k k' i i' hk hk' h1 h2=>?_,fun k k' i i' hk hk' h1 h2 b hb=>?_,fun k i b hk hki hb=>?_,fun k d' hk hd' hki=>?_,fun k d' hk hd' hki=>?_,fun k d' t hk hd' hki=>?_,fun k d' i hk hd' hki=>?_,fun k i b kk hk hki hb=>?_,?_,?_,(mC X.tg _ (j+1) (by omega:0≠X.m+1)).trans h.tg0,fun k i hk hki=>?_,fun A b kk hm=>?_,fun A t b kk hA hkA hnA hb=>?_,fun l d' hl hd' hkl hnl=>?_⟩
  · rcases hx k i hk hki with g | ⟨_,rfl⟩
    · have:=h.x1 k i g.1 g.2;show i<X.m+1;omega
    · exact Nat.lt_succ_self _
  · have hi:i<X.m+1:=hi
    by_cases e:i=X.m
    · subst e;exact ⟨j,hj'.1,hj'.2⟩
    · obtain ⟨k,h1,h2⟩:=h.x2 i (by omega);exact ⟨k,(hx' k i h1 h2).1,(hx' k i h1 h2).2⟩
  · rcases hx k i (by omega) h1 with g1 | g1
    · rcases hx k' i' hk' h2 with g2 | ⟨_,rfl⟩
      · exact h.x3 k k' i i' hk g2.1 g1.2 g2.2
      · exact h.x1 k i g1.1 g1.2
    · omega
  · rcases hx k i (by omega) h1 with g1 | g1
    · rcases hx k' i' hk' h2 with g2 | ⟨rfl,_⟩
      · exact h.x4 k k' i i' hk g2.1 g1.2 g2.2 b hb
      · exact hla b (h.la k i b g1.1 g1.2 hb)
    · omega
  · show (an.getD j 0 ||| (1 <<< j)).testBit b=true
    rw [Nat.testBit_or]
    rcases hx k i hk hki with g | ⟨rfl,_⟩
    · have:Anc an j b:=hla b (h.la k i b g.1 g.2 hb)
      unfold Anc at this
      rw [this];rfl
    · rcases hb with rfl | hb
      · rw [Nat.one_shiftLeft,Nat.testBit_two_pow_self];simp
      · unfold Anc at hb;rw [hb];rfl
  · by_cases e:k=j
    · subst e;simp only [rR] at hki;cases hki
    · simp only [mC _ _ _ e] at hki ⊢;exact h.fP k d' (by omega) hd' hki
  · by_cases e:k=j
    · subst e;simp only [rR] at hki;cases hki
    · simp only [mC _ _ _ e] at hki ⊢
      obtain ⟨g1,g2,g3⟩:=h.fL k d' (by omega) hd' hki
      refine ⟨g1,g2,fun c hc hlo hhi=>?_⟩
      have hc:c≤X.m+1:=hc
      by_cases e2:c=X.m+1
      · subst e2
        rw [rR]
        have hnj:¬ Anc an j k:=fun ha=>by have:=hhi j X.m hj'.1 hj'.2 ha;omega
        have hno:∀ k' i',k'<j→X.kind k'=.x i'→¬ Anc an k' k:=fun k' i' q1 q2 ha=>by
          have:=hhi k' i' (hx' k' i' q1 q2).1 (hx' k' i' q1 q2).2 ha
          have:=h.x1 k' i' q1 q2
          omega
        have hin:=h.fl k d' (by omega) hd' hki hno
        exact (aWK hfl k _ _ _ hin (by unfold Anc at hnj;simpa using hnj)).1
      · rw [hmem c (by omega)]
        exact g3 c (by omega) (fun k' i q1 q2=>hlo k' i (hx' k' i q1 q2).1 (hx' k' i q1 q2).2) fun k' i q1 q2=>hhi k' i (hx' k' i q1 q2).1 (hx' k' i q1 q2).2
  · by_cases e:k=j
    · subst e;simp only [rR] at hki;cases hki
    · simp only [mC _ _ _ e] at hki ⊢;exact h.fA k d' t (by omega) hd' hki
  · rcases hx k i hk hki with g | ⟨rfl,rfl⟩
    · have e : k ≠ j := by omega
      have hi:=h.x1 k i g.1 g.2
      simp only [mC _ _ _ e]
      rw [mC X.pre _ _ (by omega:i≠X.m),hmem (i+1) (by omega)]
      exact h.fX k d' i g.1 hd' g.2
    · rw [hd] at hd'; injection hd' with hd'; subst hd'
      simp only [rR]
      exact hI
  · have hkk : ∀ A, A < j → up X.kind j (.x X.m) A = X.kind A := fun A hA => mC _ _ _ (by omega)
    rcases hx k i hk hki with g | ⟨rfl,rfl⟩
    · have hi:=h.x1 k i g.1 g.2
      have hb':(X.pre i).get b=some kk:=by
        have:up X.pre X.m (ovl (X.mem X.m) (a.pend.filter fun p=>(an.getD j 0).testBit p.1)) i=X.pre i:=mC _ _ _ (by omega)
        rw [← this];exact hb
      rcases h.pX k i b kk g.1 g.2 hb' with h1 | ⟨A,t,g1,g2,g3,g4,g5⟩
      · exact .inl (by show (up X.mem (X.m+1) m' i).get b=_;rw [hmem i (by omega)];exact h1)
      · refine .inr ⟨A, t, by omega, g2, (hkk A g1).trans g3, g4, fun k' i' q1 q2 q3 => ?_⟩
        rcases hx k' i' q1 q2 with g6 | ⟨_,rfl⟩
        · exact g5 k' i' g6.1 g6.2 q3
        · omega
    · have hb':(ovl (X.mem X.m) (a.pend.filter fun p=>(an.getD k 0).testBit p.1)).get b=some kk:=by
        have:up X.pre X.m (ovl (X.mem X.m) (a.pend.filter fun p=>(an.getD k 0).testBit p.1)) X.m=_:=rR _ _ _
        rw [← this];exact hb
      rcases aS4 hb' with ⟨A,hA⟩ | h1
      · obtain ⟨hA1, hA2⟩ := List.mem_filter.1 hA
        obtain ⟨g1,t,g2,g3,g4⟩:=h.p1 A b kk hA1
        refine .inr ⟨A,t,by omega,hA2,(hkk A g1).trans g2,g3,fun k' i' q1 q2 q3=>?_⟩
        rcases hx k' i' q1 q2 with g6 | ⟨_,rfl⟩
        · exact g4 k' i' g6.1 g6.2
        · omega
      · exact .inl (by show (up X.mem (X.m+1) m' X.m).get b=_;rw [hmem X.m (Nat.le_refl _)];exact h1)
  · show Dom st0.mem st0.nx nx' (up X.mem (X.m+1) m' (X.m+1))
    rw [rR]
    intro b kk hb
    rcases hlow.dom b kk hb with ⟨k1,h1⟩ | h1
    · rcases aS4 h1 with ⟨A, hA⟩ | h2
      · obtain ⟨hA1, hA2⟩ := List.mem_filter.1 hA
        obtain ⟨g1,t,g2,g3,_⟩:=h.p1 A b k1 hA1
        have hAl:A<ds.length:=Nat.lt_trans g1 (List.getElem?_eq_some_iff.1 hd).1
        have:=h.aRange Γ hP hn g1 (List.getElem?_eq_getElem hAl) g2 g3
        have g5:=h.n1 A g1
        have:=hlow.le
        exact .inr (by omega)
      · rcases h.dm b k1 h2 with h3 | h3
        · exact .inl h3
        · have:=hlow.le;exact .inr (by omega)
    · have:=h.n0;exact .inr (by omega)
  · show (j+1,m')::a.mems=aD0 (up X.tg (X.m+1) (j+1)) (up X.mem (X.m+1) m') (X.m+1)
    simp only [aD0,rR]
    rw [aWB X.m (Nat.lt_succ_self _),h.ml]
  · rcases hx k i hk hki with g | ⟨rfl,rfl⟩
    · have hi:=h.x1 k i g.1 g.2
      exact (mC X.tg _ _ (by omega)).trans (h.tgx k i g.1 g.2)
    · exact rR _ _ _
  · obtain ⟨hA1, hA2⟩ := List.mem_filter.1 hm
    obtain ⟨g1,t,g2,g3,g4⟩:=h.p1 A b kk hA1
    refine ⟨by omega,t,(mC X.kind j _ (by omega:A≠j)).trans g2,g3,fun k' i' q1 q2=>?_⟩
    rcases hx k' i' q1 q2 with g6 | ⟨rfl,_⟩
    · exact g4 k' i' g6.1 g6.2
    · intro ha
      unfold Anc at ha
      simp only [ha,Bool.not_true] at hA2
      cases hA2
  · by_cases e:A=j
    · subst e;simp only [rR] at hkA;cases hkA
    · simp only [mC _ _ _ e] at hkA
      have h1:=h.p2 A t b kk (by omega) hkA (fun k' i' q1 q2=>hnA k' i' (hx' k' i' q1 q2).1 (hx' k' i' q1 q2).2) hb
      refine List.mem_filter.2 ⟨h1,?_⟩
      have:=hnA j X.m hj'.1 hj'.2
      unfold Anc at this
      simpa using this
  · by_cases e:l=j
    · subst e;simp only [rR] at hkl;cases hkl
    · simp only [mC _ _ _ e] at hkl ⊢
      have h1:=h.fl l d' (by omega) hd' hkl fun k' i' q1 q2=>hnl k' i' (hx' k' i' q1 q2).1 (hx' k' i' q1 q2).2
      have:=hnl j X.m hj'.1 hj'.2
      unfold Anc at this
      exact (aWK hfl l _ _ _ h1 (by simpa using this)).2
end
open Go.RowKit
open Go.Eng (Od aKW callable lL aDb sK vD)
section
variable {P:Program} {n:Nat} {ds:List D} {an:List Nat} {st0:AS} {X:Dt} {j:Nat} {a a':Acc} {call:jO}
theorem aTf {Γ:Ctx} {d:D} {re:Tr AV} {m:Tr pA} {lo hi:Nat} {v:AV} (hlh:lo=hi) (hg:gOk d.i ⟨re,.nil,0⟩=some true) (hq:cP d.i.o ⟨re,m,0⟩=some v):aEr Γ d.i ⟨re,m,lo⟩ ((⟨re,m,hi⟩:AS).putO d.i.d v):=by
 subst hlh
 have h1:gOk d.i (⟨re,m,lo⟩:AS)=some true:=by rw [← hg];exact aVQ
 have h2:cP d.i.o (⟨re,m,lo⟩:AS)=some v:=by rw [aXk];exact hq
 have hb:d.i.o≠.bad:=fun hb=>by rw [hb] at h2;cases h2
 exact .of h1 hb (Low.refl _ _) fun o ho=>.quiet (by rw [← ho];exact h2)
theorem W.step (hcall:Bd P call) (hok:okD ds an=true) (Γ0:Ctx) (hP:Γ0.P=P) (hn:Γ0.n=n) (h:W P n ds an st0 X j a) {d:D} (hd:ds[j]? = some d) (hs:Y0 call j d (an.getD j 0) a=some a'):∃ X',W P n ds an st0 X' (j+1) a':=by
  have hlt:∀ b,Anc an j b→b<j:=fun b hb=>aV4 hok hd hb
  have hanc:∀ k' i',k'<j→X.kind k'=.x i'→¬ Anc an k' j:=fun k' i' hk _ ha=>by
    have hk'l:k'<ds.length:=Nat.lt_trans hk (List.getElem?_eq_some_iff.1 hd).1
    have:=aV4 hok (List.getElem?_eq_getElem hk'l) ha
    omega
  simp only [Y0] at hs
  split at hs
  · cases hs
  · rename_i hg
    injection hs with hs
    subst hs
    refine ⟨_,h.calm hd .p (.tup []) a.nx a.pend a.fl (Nat.le_refl _) (by simp) (fun _=>⟨rfl,fun Γ h1 h2=>.skip hg⟩) (fun h=>by cases h) (fun t h=>by cases h) (fun p hp=>.inl hp) (fun p hp=>hp) (fun t b kk h=>by cases h) (fun p hp=>hp) (fun h=>by cases h) hanc⟩
  · rename_i hg
    have hg0:gOk d.i ⟨nE a.env d.sl,.nil,0⟩=some true:=by rw [← hg];exact aVQ
    split at hs
    · rename_i v hv
      injection hs with hs
      subst hs
      exact ⟨_,h.calm hd .p v a.nx a.pend a.fl (Nat.le_refl _) (by simp) (fun _=>⟨rfl,fun Γ h1 h2=>aTf rfl hg0 (by rw [← aXk d.i.o a.nx];exact hv)⟩) (fun h=>by cases h) (fun t h=>by cases h) (fun p hp=>.inl hp) (fun p hp=>hp) (fun t b kk h=>by cases h) (fun p hp=>hp) (fun h=>by cases h) hanc⟩
    · split at hs
      · -- a load
        split at hs
        · cases hs
        rename_i x0 m0 l0 hm
        split at hs
        · cases hs
        rename_i v hv
        split at hs
        case h_2=>cases hs
        rename_i hrd
        injection hs with hs
        subst hs
        refine ⟨_,h.calm hd .l v a.nx a.pend _ (Nat.le_refl _) (by simp) (fun h=>by cases h) (fun _=>⟨rfl,hg0,fun c hc hlo=>?_⟩) (fun t h=>by cases h) (fun p hp=>.inl hp) (fun p hp=>hp) (fun t b kk h=>by cases h) (fun p hp=>List.mem_cons_of_mem _ hp) (fun _=>List.mem_cons_self ..) hanc⟩
        rw [h.ml] at hrd
        have htg:∀ i t,i<X.m→X.tg (i+1)=t→∃ k,k<j∧X.kind k=.x i∧t=k+1:=fun i t hi ht=>by
          obtain ⟨k,hk,hkx⟩:=h.x2 i hi
          exact ⟨k,hk,hkx,by rw [← ht];exact h.tgx k i hk hkx⟩
        have key:∀ i,i≤X.m→aSB d.i.o (nE a.env d.sl) (an.getD j 0) v (aD0 X.tg X.mem i)=true→∀ c,c≤i→(∀ k' i',k'<j→X.kind k'=.x i'→Anc an j k'→i'<c)→cP d.i.o ⟨nE a.env d.sl,X.mem c,0⟩=some v:=by
          intro i
          induction i with
          | zero =>
            intro _ h1 c hc _
            have:c=0:=by omega
            subst this
            simp only [aD0,aSB,Bool.and_eq_true] at h1
            have h1:=h1.1
            split at h1
            · rename_i v' hv'
              have:=aTB h1
              subst this
              exact hv'
            · cases h1
          | succ i ih =>
            intro hi h1 c hc hlo
            simp only [aD0,aSB,Bool.and_eq_true] at h1
            by_cases e:c=i+1
            · subst e
              have h1:=h1.1
              split at h1
              · rename_i v' hv'
                have:=aTB h1
                subst this
                exact hv'
              · cases h1
            · obtain ⟨k, hk, hkx, hkt⟩ := htg i _ (by omega) rfl
              have h2:=h1.2
              rw [hkt] at h2
              simp only [Bool.or_eq_true] at h2
              rcases h2 with h2 | h2
              · have:=hlo k i hk hkx h2
                omega
              · exact ih (by omega) h2 c (by omega) hlo
        exact key X.m (Nat.le_refl _) hrd c hc hlo
      · rename_i hnl
        split at hs
        · -- something of its own
          rename_i s1 v hv
          split at hs
          case h_2=>cases hs
          rename_i k hk hnx
          have hnx:s1.nx=a.nx+1:=Nat.eq_of_beq_eq_true hnx
          injection hs with hs
          subst hs
          have hlow:=aGx hv
          have hone:∀ b kk,s1.mem.get b=some kk→b=a.nx∧kk=k:=by
            intro b kk hb
            rcases hlow.2.1 b kk hb with ⟨k1,h1⟩ | h1
            · simp only [Tr.get_nil] at h1;cases h1
            · have : b = a.nx := by simp only [hnx] at h1; omega
              subst this
              rw [hk] at hb
              injection hb with hb
              exact ⟨rfl,hb.symm⟩
          have hbd:d.i.o≠.bad:=fun hb=>by rw [hb] at hv;cases hv
          refine ⟨_,h.calm hd (.a s1.mem) v (a.nx+1) _ a.fl (Nat.le_succ _) (by simp) (fun h=>by cases h) (fun h=>by cases h) (fun t ht Γ h1 h2=>?_) (fun p hp=>?_) (fun p hp=>List.mem_cons_of_mem _ hp) (fun t b kk ht hb=>?_) (fun p hp=>hp) (fun h=>by cases h) hanc⟩
          · injection ht with ht
            subst ht
            rw [← hnx]
            exact .of hg hbd ⟨hlow.1,hlow.2.1,hlow.2.2.2⟩ fun o ho=>.eff (by rw [← ho];exact hv)
          · rcases List.mem_cons.1 hp with rfl | hp
            · exact .inr ⟨rfl,s1.mem,rfl,hk,hanc⟩
            · exact .inl hp
          · injection ht with ht
            subst ht
            obtain ⟨rfl,rfl⟩:=hone b kk hb
            exact List.mem_cons_self ..
        · -- a changer
          split at hs
          · cases hs
          rename_i x0 m0 l0 hm
          have hm0:m0=X.mem X.m:=by
            obtain ⟨l1,hl1⟩:=aTY X.tg X.mem X.m
            rw [h.ml,hl1] at hm
            injection hm with hm _
            injection hm with _ hm
            exact hm.symm
          subst hm0
          split at hs
          · cases hs
          rename_i v m' nx' hv
          split at hs
          case h_2=>cases hs
          rename_i fl' hlast hfl
          injection hs with hs
          subst hs
          have hbd:d.i.o≠.bad:=fun hb=>by rw [hb,aZt] at hv;cases hv
          exact ⟨_,h.chg Γ0 hP hn hd v m' nx' fl' (fun Γ h1 h2=>.of (by rw [← hg];exact aVQ) hbd (bAb hcall hv) fun o ho=>aVb (by rw [h1];exact hcall) (by rw [← ho];exact hv)) hlast hfl hlt⟩
theorem W.all (hcall:Bd P call) (hok:okD ds an=true) (Γ0:Ctx) (hP:Γ0.P=P) (hn:Γ0.n=n):∀ (l:List D) (j:Nat) (X:Dt) (a a':Acc),(∀ i d,l[i]? = some d→ds[j+i]? = some d)→W P n ds an st0 X j a→aSU call an j l a=some a'→∃ X',W P n ds an st0 X' (j+l.length) a':=by
 intro l
 induction l with
 | nil=>intro j X a a' _ h hs;simp only [aSU] at hs;injection hs with hs;subst hs;exact ⟨X,h⟩
 | cons d l ih =>
  intro j X a a' hl h hs
  simp only [aSU] at hs
  split at hs
  ·rename_i a1 h1
   obtain ⟨X1,hX1⟩:=h.step hcall hok Γ0 hP hn (hl 0 d rfl) h1
   obtain ⟨X2,hX2⟩:=ih (j+1) X1 a1 a' (fun i d' hi=>by have:=hl (i+1) d' (by simpa using hi);rwa [show j+1+i=j+(i+1) by omega]) hX1 hs
   exact ⟨X2,by rw [List.length_cons,show j+(l.length+1)=j+1+l.length by omega];exact hX2⟩
  cases hs
theorem W.zero:W P n ds an st0 ⟨fun _=>.p,fun _=>.any,fun _=>.nil,fun _=>0,fun _=>0,fun _=>st0.mem,fun _=>.nil,fun _=>0,0⟩ 0 ⟨st0.env,st0.nx,[(0,st0.mem)],[],[],0⟩:=
  { e1 := fun q v h => .inr ⟨fun k d hk => by omega, h⟩, e2 := fun k d q v hk => by omega, n0 := Nat.le_refl _, n1 := fun k hk => by omega, n2 := fun k k' h1 h2 => by omega, mem0 := rfl, x1 := fun k i hk => by omega
    x2:=fun i hi=>absurd hi (Nat.not_lt_zero _),x3:=fun k k' i i' h1 h2=>by omega,x4:=fun k k' i i' h1 h2=>by omega,la:=fun k i b hk=>by omega,fP:=fun k d hk=>by omega,fL:=fun k d hk=>by omega
    fA:=fun k d t hk=>by omega,fX:=fun k d i hk=>by omega,pX:=fun k i b kk hk=>by omega,dm:=Dom.refl _ _,ml:=rfl,tg0:=rfl,tgx:=fun k i hk=>by omega
    p1:=fun A b kk hm=>absurd hm List.not_mem_nil,p2:=fun A t b kk hk=>by omega,fl:=fun l d hl=>by omega }
theorem W.draw (hok:okD ds an=true) (Γ0:Ctx) (hP:Γ0.P=P) (hn:Γ0.n=n) (h:W P n ds an st0 X ds.length a):Nonempty (Xn P n ds st0 a.fin):=by
  have hlt:∀ {j d},ds[j]? = some d→j<ds.length:=fun hd=>(List.getElem?_eq_some_iff.1 hd).1
  have hget:∀ j,j<ds.length→∃ d,ds[j]? = some d:=fun j hj=>⟨_,List.getElem?_eq_getElem hj⟩
  obtain ⟨l1,hl1⟩:=aTY X.tg X.mem X.m
  have hfin:a.fin=⟨a.env,ovl (X.mem X.m) a.pend,a.nx⟩:=by unfold Acc.fin;rw [h.ml,hl1]
  have hord:∀ j j' k k',j<ds.length→j'<ds.length→X.kind j=.x k→X.kind j'=.x k'→k<k'→j<j':=by
    intro j j' k k' hj hj' hk hk' hkk
    rcases Nat.lt_trichotomy j j' with h1 | h1 | h1
    · exact h1
    · subst h1;rw [hk] at hk';injection hk' with hk';omega
    · have:=h.x3 j' j k' k h1 hj hk' hk;omega
  rw [hfin]
  refine ⟨⟨Anc an, X.kind, X.out, X.re, X.lo, X.hi, X.mem, X.pre, X.m, fun j d k hd hk => bFg hok hd hk, fun p hp => bLB hok p hp, fun j k d d' q hd hk h1 h2 => bPw hok hd hk h1 h2, fun j d q v hd hq => ?_, fun j d hd => ?_, fun j k d d' hd hk hne => ?_, h.n0, h.mem0,
    fun j d k hd hk=>h.x1 j k (hlt hd) hk,fun k hk=>?_,fun j j' d d' k hd hd' h1 h2=>?_,fun j j' d d' k k' hd hd' h1 h2 hkk=>?_,fun j j' A d d' k k' hd hd' h1 h2 hkk hA=>?_,fun j d hd hk=>h.fP j d (hlt hd) hd hk,fun j d hd hk=>?_,fun j d t hd hk=>h.fA j d t (hlt hd) hd hk,fun j d k hd hk=>h.fX j d k (hlt hd) hd hk,
    fun j d k b kk hd hk hb=>?_,fun b kk hb=>?_,fun b kk hb=>?_,fun q v hq=>?_⟩⟩
  · obtain ⟨hsl, h1⟩ := h.e2 j d q v (hlt hd) hd hq
    rcases h1 with ⟨k,d',g1,g2,g3,g4⟩ | ⟨g1,g2⟩
    · left
      refine ⟨k,d',g2,?_,g3,g4⟩
      rcases bAc hok hd hsl g2 g3 with h2 | h2
      · exact h2
      · have:=aV4 hok g2 h2;omega
    · right
      refine ⟨fun k d' hk hdk=>?_,g2⟩
      rcases bAc hok hd hsl hk hdk with h2 | h2
      · have:=aV4 hok hd h2
        exact absurd hdk (g1 k d' this hk)
      · exact h2
  · exact h.n1 j (hlt hd)
  · rcases Nat.lt_or_gt_of_ne hne with h1 | h1
    · exact .inl (h.n2 j k h1 (hlt hk))
    · exact .inr (h.n2 k j h1 (hlt hd))
  · obtain ⟨j, hj, hjk⟩ := h.x2 k hk
    obtain ⟨d,hd⟩:=hget j hj
    exact ⟨j,d,hd,hjk⟩
  · rcases Nat.lt_trichotomy j j' with g | g | g
    · have:=h.x3 j j' k k g (hlt hd') h1 h2;omega
    · exact g
    · have:=h.x3 j' j k k g (hlt hd) h2 h1;omega
  · exact h.x4 j j' k k' (hord j j' k k' (hlt hd) (hlt hd') h1 h2 hkk) (hlt hd') h1 h2 j (.inl rfl)
  · exact h.x4 j j' k k' (hord j j' k k' (hlt hd) (hlt hd') h1 h2 hkk) (hlt hd') h1 h2 A (.inr hA)
  · obtain ⟨g1, g2, g3⟩ := h.fL j d (hlt hd) hd hk
    refine ⟨g1,fun c hc hlo hhi=>⟨X.out j,fun _ _ h=>h,fun Γ h1 h2=>aTf g1 g2 (g3 c hc (fun k' i hk' hx ha=>?_) fun k' i hk' hx ha=>?_)⟩⟩
    · obtain ⟨d', hd'⟩ := hget k' hk'
      exact hlo k' d' i hd' hx ha
    · obtain ⟨d', hd'⟩ := hget k' hk'
      exact hhi k' d' i hd' hx ha
  · rcases h.pX j k b kk (hlt hd) hk hb with h1 | ⟨A,t,g1,g2,g3,g4,g5⟩
    · exact .inl h1
    · obtain ⟨d', hd'⟩ := hget A g1
      exact .inr ⟨A,d',t,hd',g2,g3,g4,fun j' d'' k' q1 q2 q3=>g5 j' k' (hlt q1) q2 q3⟩
  · rcases aS4 hb with ⟨A, hA⟩ | h1
    · obtain ⟨g1, t, g2, g3, g4⟩ := h.p1 A b kk hA
      obtain ⟨d',hd'⟩:=hget A g1
      have:=h.aRange Γ0 hP hn g1 hd' g2 g3
      have g5:=h.n1 A g1
      exact .inr (by show st0.nx≤b∧b<a.nx;omega)
    · exact h.dm b kk h1
  · rcases aS4 hb with ⟨A, hA⟩ | h1
    · obtain ⟨g1, t, g2, g3, g4⟩ := h.p1 A b kk hA
      obtain ⟨d',hd'⟩:=hget A g1
      exact .inr ⟨A,d',t,hd',g2,g3,fun j' d'' k' q1 q2=>g4 j' k' (hlt q1) q2⟩
    · exact .inl h1
  · rcases h.e1 q v hq with ⟨k, d', g1, g2, g3, g4⟩ | ⟨g1, g2⟩
    · exact .inl ⟨k,d',g2,g3,g4⟩
    · exact .inr ⟨fun k d' hk=>g1 k d' (hlt hk) hk,g2⟩
end
section
variable {Γ:Ctx} {st st':AS} {call:jO} {a:Act} {w:World}
theorem bBT (hcall:Bd Γ.P call) (hm:Γ.P.follows .mixedOrders=true) {ds:List D} {an:List Nat} (hok:okD ds an=true) (h:evD call ds an st=some st'):Jb Γ (.draw ds) st .normal st':=by
 unfold evD at h
 split at h
 ·rename_i a ha
  injection h with h
  subst h
  obtain ⟨X,hX⟩:=W.all (n:=Γ.n) (st0:=st) hcall hok Γ rfl rfl ds 0 _ _ _ (fun i d hd=>by simpa using hd) W.zero ha
  rw [Nat.zero_add] at hX
  obtain ⟨D⟩:=hX.draw hok Γ rfl rfl
  exact .draw hm D
 cases h
theorem aV1 {x:IC} {body:AS→Option (Exit×AS)} (hb:∀ st e st',body st=some (e,st')→Jb Γ x st e st'):∀ {k:Nat} {st:AS} {e:Exit} {st':AS},aDE body k st=some (e,st')→∃ n,aYN Γ x n st e st':=by
 intro k
 induction k with
 | zero=>intro st e st' h;cases h
 | succ k ih =>
  intro st e st' h
  simp only [aDE] at h
  split at h
  ·cases h
  ·rename_i st1 h1
   obtain ⟨n,hn⟩:=ih h
   exact ⟨n+1,.more (hb _ _ _ h1) hn⟩
  rename_i e1 st1 hne h1
  injection h with h
  obtain ⟨rfl,rfl⟩:=Prod.mk.inj h
  exact ⟨1,.last (hb _ _ _ h1) fun he=>hne he⟩
theorem aF9 (hcall:Bd Γ.P call) (hm:Γ.P.follows .mixedOrders=true) (k:Nat):∀ {x:XC} {st:AS} {e:Exit} {st':AS},x.ok=true→V2 call k x st=some (e,st')→Jb Γ x.ic st e st':=by
 intro x
 induction x with
 | skip=>intro st e st' _ h;simp only [V2] at h;injection h with h;obtain ⟨rfl,rfl⟩:=Prod.mk.inj h;exact .skip
 | region l =>
  intro st e st' _ h
  simp only [V2] at h
  split at h
  ·rename_i st1 h1
   injection h with h;obtain ⟨rfl,rfl⟩:=Prod.mk.inj h
   exact .region (bAE hcall h1)
  cases h
 | draw ds an =>
  intro st e st' hok h
  simp only [V2] at h
  split at h
  ·rename_i st1 h1
   injection h with h;obtain ⟨rfl,rfl⟩:=Prod.mk.inj h
   exact bBT hcall hm hok h1
  cases h
 | seq a b iha ihb =>
  intro st e st' hok h
  simp only [XC.ok,Bool.and_eq_true] at hok
  simp only [V2] at h
  split at h
  ·cases h
  ·rename_i st1 h1
   exact .seq (iha hok.1 h1) (ihb hok.2 h)
  rename_i e1 st1 hne h1
  injection h with h
  obtain ⟨rfl,rfl⟩:=Prod.mk.inj h
  exact .seq' (iha hok.1 h1) fun he=>hne he
 | cond c a b iha ihb =>
  intro st e st' hok h
  simp only [XC.ok,Bool.and_eq_true] at hok
  simp only [V2] at h
  split at h
  ·cases h
  ·rename_i hb
   exact .cond (b:=true) hb (iha hok.1 h)
  rename_i hb
  exact .cond (b:=false) hb (ihb hok.2 h)
 | block id b ih =>
  intro st e st' hok h
  simp only [V2] at h
  split at h
  ·cases h
  rename_i e1 st1 h1
  injection h with h
  obtain ⟨rfl,rfl⟩:=Prod.mk.inj h
  exact .block (ih hok h1)
 | loop b ih =>
  intro st e st' hok h
  simp only [V2] at h
  obtain ⟨n,hn⟩:=aV1 (x:=b.ic) (fun st e st' h=>ih hok h) h
  exact .loop hn
 | exit id=>intro st e st' _ h;simp only [V2] at h;injection h with h;obtain ⟨rfl,rfl⟩:=Prod.mk.inj h;exact .exit
 | ret=>intro st e st' _ h;simp only [V2] at h;injection h with h;obtain ⟨rfl,rfl⟩:=Prod.mk.inj h;exact .ret
 | bad=>intro st e st' _ h;cases h
theorem bCq:∀ (vs:List AV) (k:Nat) (t:Tr AV) (i:Nat),(Zj k t vs).get i=if i<k then t.get i else match vs[i - k]? with
    | some v=>some v
    | none=>t.get i:=by
  intro vs
  induction vs with
  | nil=>intro k t i;simp [Zj]
  | cons v vs ih =>
    intro k t i
    simp only [Zj]
    rw [ih,Tr.get_put _ _ _ _ _ (by omega)]
    by_cases h1:i<k
    · rw [if_pos (by omega),if_neg (by omega),if_pos h1]
    · rw [if_neg h1]
      by_cases h2:i=k
      · subst h2
        rw [if_pos (by omega),if_pos rfl]
        simp
      · rw [if_neg (by omega), if_neg (fun h => h2 h.symm)]
        have:i - k=(i - (k+1))+1:=by omega
        rw [this]
        simp
def rrS (tmps:Array Value):ResultVar→Sem Value
 | .tmp t=>pure (tmps.getD t undef)
 | .cell c t=>do loadVar t (← asAddr (tmps.getD c undef))
theorem bDr {P:Program} {ρ:qS} (hΓ:Γ.P=P) (h:mL Γ ρ st a w) {r:ResultVar} {q:RR} {v:AV} (hq:RR.of P r=some q) (hv:aY2 st q=some v) :
  ∃ x,(rrS a.tmps r).run P w=.ok x w∧nS (nK ρ) v x:=by
 cases r with
 | tmp t =>
  simp only [RR.of] at hq
  injection hq with hq
  subst hq
  simp only [aY2] at hv
  injection hv with hv
  subst hv
  exact ⟨_,rfl,h.env t⟩
 | cell c t =>
  simp only [RR.of] at hq
  split at hq
  case h_2=>cases hq
  rename_i g s hg hs
  split at hq
  case isFalse=>cases hq
  rename_i hok
  injection hq with hq
  subst hq
  simp only [aY2] at hv
  split at hv
  case h_2=>cases hv
  rename_i b o hb
  split at hv
  case h_2=>cases hv
  rename_i cs hcs
  injection hv with hv
  subst hv
  have hev:=h.env c
  rw [hb] at hev
  obtain ⟨la,hla,hc'⟩:=hev.cInv.ptrInv
  obtain ⟨la1,xs,hla1,hcl,hxl,hcell,hrep,hle⟩:=h.read hcs
  rw [hla1] at hla
  injection hla with hla
  subst hla
  refine ⟨_,?_,aTr hok hxl hcl hrep⟩
  have:=vD w hg hs hok la1.b (la1.off+o) xs hxl hcell
  simpa [rrS,asAddr,hc'] using this
theorem bGm {P:Program} {ρ:qS} (hΓ:Γ.P=P) (h:mL Γ ρ st a w):∀ {rs:List ResultVar} {qs:List RR} {vs:List AV},rs.map (RR.of P)=qs.map some→aX3 st qs=some vs →
  ∃ xs:List Value,(rs.mapM (rrS a.tmps)).run P w=.ok xs w∧xs.length=vs.length∧∀ (i:Nat) (v:AV),vs[i]? = some v→nS (nK ρ) v (xs.getD i undef):=by
 intro rs
 induction rs with
 | nil =>
  intro qs vs hq hv
  have:qs=[]:=by simpa using hq.symm
  subst this
  simp only [aX3] at hv
  injection hv with hv
  subst hv
  exact ⟨[],by simp,rfl,by simp⟩
 | cons r rs ih =>
  intro qs vs hq hv
  match qs,hq with
  | q::qs,hq =>
   simp only [List.map_cons,List.cons.injEq] at hq
   simp only [aX3] at hv
   split at hv
   case h_1=>cases hv
   rename_i v hv1
   split at hv
   case h_2=>cases hv
   rename_i vs' hv2
   injection hv with hv
   subst hv
   obtain ⟨x,hx1,hx2⟩:=bDr hΓ h hq.1 hv1
   obtain ⟨xs,h1,h2,h3⟩:=ih hq.2 hv2
   refine ⟨x::xs,?_,by simp [h2],fun i v' hi=>?_⟩
   ·simp only [List.mapM_cons,Sem.run_bind,hx1,Result.andThen_ok,h1,Sem.run_pure]
   cases i with
   | zero=>simp at hi;subst hi;simpa using hx2
   | succ i=>simpa using h3 i v' (by simpa using hi)
theorem bCF {P:Program} {ρ:qS} (hΓ:Γ.P=P) (h:mL Γ ρ st a w) {fn:Func} {ts:List RR} {v:AV} (hr:fn.results.toList.map (RR.of P)=ts.map some) (hv:aXT st ts=some v) :
  ∃ x,(results fn a.tmps).run P w=.ok x w∧nS (nK ρ) v x:=by
 unfold aXT at hv
 have key:∀ vs:List AV,aX3 st ts=some vs→∃ xs:List Value,(results fn a.tmps).run P w=.ok (if h:xs.toArray.size=1 then xs.toArray[0] else .tuple xs.toArray) w∧xs.length=vs.length∧∀ (i:Nat) (v:AV),vs[i]? = some v→nS (nK ρ) v (xs.getD i undef):=by
  intro vs hvs
  obtain ⟨xs,h1,h2,h3⟩:=bGm hΓ h hr hvs
  refine ⟨xs,?_,h2,h3⟩
  have hres:fn.results=fn.results.toList.toArray:=by simp
  unfold results
  rw [hres]
  simp only [List.mapM_toArray,Sem.run_bind,Sem.run_map,Sem.run_pure]
  show ((Sem.run P (List.mapM (rrS a.tmps) fn.results.toList) w).andThen fun a w'=>Result.ok a.toArray w').andThen _=_
  exact (congrArg (fun r:Result (List Value)=>(r.andThen fun a w'=>Result.ok a.toArray w').andThen fun a w'=>Result.ok (if h:a.size=1 then a[0] else Value.tuple a) w') h1)
 split at hv
 ·rename_i v1 hvs
  injection hv with hv
  subst hv
  obtain ⟨xs,h1,h2,h3⟩:=key _ hvs
  match xs,h2 with
  | [x],_ =>
   refine ⟨_,h1,?_⟩
   have:=h3 0 v1 rfl
   simpa using this
 ·rename_i vs hne hvs
  injection hv with hv
  subst hv
  obtain ⟨xs,h1,h2,h3⟩:=key _ hvs
  have h4:xs.length≠1:=by
   rw [h2]
   intro h5
   match vs,h5 with
   | [v],_=>exact hne v rfl
  rw [dif_neg (by simpa using h4)] at h1
  exact ⟨_,h1,.tup vs _ (by simpa using h2) fun i v hi=>by simpa [lL] using h3 i v hi⟩
 cases hv
def IC.ofS (P:Program) (n:Nat):Code→IC
 | .scope c=>IC.ofS P n c
 | .seq a b=>.seq (IC.of P n a) (IC.ofS P n b)
 | c=>IC.of P n c
theorem bJy {Γ:Ctx} {call:jO} (hcall:Bd Γ.P call) (hm:Γ.P.follows .mixedOrders=true) (k:Nat):∀ (code:Code) {x:XC} {st:AS} {e:Exit} {st':AS},IC.ofS Γ.P Γ.n code=x.ic→x.ok=true→V2 call k x st=some (e,st')→(e=.ret∨e=.normal)→st'.nx≤Γ.top →
  ∀ (a:Act) (w:World),Sat Γ st a w→code.wp Γ.P (fun e' a' w'=>e'=e∧Sat Γ st' a' w') a w:=by
 intro code
 induction code with
 | scope c ih =>
  intro x st e st' hc hok hev he ht a w hs
  refine wp_scope_straight (wp_mono (ih hc hok hev he ht a w hs) fun e1 a1 w1 hl=>?_)
  obtain ⟨rfl,h⟩:=hl
  rcases he with rfl | rfl
  ·exact ⟨rfl,h⟩
  exact ⟨rfl,h⟩
 | seq c d _ ih =>
  intro x st e st' hc hok hev he ht a w hs
  simp only [IC.ofS] at hc
  cases x with
  | seq x1 x2 =>
   simp only [XC.ic,IC.seq.injEq] at hc
   obtain ⟨h1,h2⟩:=hc
   simp only [XC.ok,Bool.and_eq_true] at hok
   simp only [V2] at hev
   cases hx:V2 call k x1 st with
   | none=>rw [hx] at hev;cases hev
   | some p =>
    obtain ⟨e1,st1⟩:=p
    rw [hx] at hev
    have s1:=aF9 (Γ:=Γ) hcall hm k hok.1 hx
    cases e1 with
    | normal =>
     have s2:=aF9 (Γ:=Γ) hcall hm k hok.2 hev
     refine wp_seq (wp_mono (s1.run (Nat.le_trans s2.low.le ht) c h1 a w hs) fun e2 a2 w2 hl=>?_)
     obtain ⟨rfl,hs2⟩:=hl
     exact ih h2 hok.2 hev he ht a2 w2 hs2
    | _ =>
     simp only at hev
     injection hev with hev
     obtain ⟨rfl,rfl⟩:=Prod.mk.inj hev
     refine wp_seq (wp_mono (s1.run ht c h1 a w hs) fun e2 a2 w2 hl=>?_)
     obtain ⟨rfl,hs2⟩:=hl
     exact ⟨rfl,hs2⟩
  | _=>simp [XC.ic] at hc
 | _ =>
  intro x st e st' hc hok hev he ht a w hs
  exact (aF9 (Γ:=Γ) hcall hm k hok hev).run ht _ hc a w hs
def iI (P : Program) (f : Nat) (e : FE) : Prop :=
 ∃ fn code, P.funcs[f]? = some fn ∧ fn.ntmps = e.n ∧ fn.body = some code ∧ (fn.name != "runtime.NumGoroutine") = true ∧ IC.ofS P e.n code = e.x.ic ∧ fn.results.toList.map (RR.of P) = e.ts.map some ∧ e.x.ok = true
def bHK (P:Program) (T:Tr FE):Prop:=∀ f e,T.get f=some e→iI P f e
theorem bN6 {P:Program}:∀ {l:List (Nat×FE)},(∀ p∈l,iI P p.1 p.2)→bHK P (oC l):=by
 intro l
 induction l with
 | nil=>intro _ f e h;simp only [oC,Tr.get_nil] at h;cases h
 | cons p l ih =>
  intro hl f e h
  simp only [oC] at h
  rw [Tr.get_put _ _ _ _ _ (by omega)] at h
  split at h
  ·rename_i he
   injection h with h
   subst he h
   exact hl p (List.mem_cons_self ..)
  exact ih (fun q hq=>hl q (List.mem_cons_of_mem _ hq)) f e h
theorem aUY {P:Program} (hm:P.follows .mixedOrders=true) {T:Tr FE} (hT:bHK P T) {hand:jO} (hh:Bd P hand) (k0:Nat):∀ k,Bd P (evF T hand k0 k):=by
 intro k
 induction k with
 | zero=>intro f args mem nx res mem' nx' h;cases h
 | succ k ih =>
  intro f args mem nx res mem' nx' h
  simp only [evF] at h
  split at h
  ·exact hh _ _ _ _ _ _ _ h
  rename_i e he
  split at h
  ·cases h
  rename_i Q3
  have Q3:args.length≤e.n:=Nat.le_of_ble_eq_true Q3
  obtain ⟨fn,code,hf,hn,hb,hname,hic,hr,hok⟩:=hT f e he
  have key:∀ (ex:Exit) (st:AS),(ex=.ret∨ex=.normal)→V2 (evF T hand k0 k) k0 e.x ⟨Zj 0 .nil args,mem,nx⟩=some (ex,st)→fin e st=some (res,mem',nx')→bSY P f args mem nx res mem' nx':=by
   intro ex st hex hev hfin
   unfold fin at hfin
   split at hfin
   case h_2=>cases hfin
   rename_i rv hrv
   cases hfin
   have hcs:∀ (K:Nat→Prop) (w0:World) (ρ:qS),Jb ⟨P,w0,K,e.n,ρ,nx,st.nx⟩ e.x.ic ⟨Zj 0 .nil args,mem,nx⟩ ex st:=fun K w0 ρ=>aF9 (Γ:=⟨P,w0,K,e.n,ρ,nx,st.nx⟩) ih hm k0 hok hev
   refine ⟨(hcs (fun _=>False) default fun _=>none).low,fun K w0 ρ w vs hms hfree hl hrep=>.inl ⟨by unfold callable;rw [hf];simp only [hname,hb];rfl,?_⟩⟩
   let Γ:Ctx:=⟨P,w0,K,e.n,ρ,nx,st.nx⟩
   have hsat:mL Γ ρ ⟨Zj 0 .nil args,mem,nx⟩ { tmps:=vs++Array.replicate (fn.ntmps - vs.size) undef,defers:=[] } w:=by
    refine ⟨rfl,by simp [Γ,hn,hl];omega,fun i=>?_,hms,zO.refl _ _,Nat.le_refl _,hfree⟩
    simp only [AS.get,bCq,Nat.not_lt_zero,if_false,Nat.sub_zero,Tr.get_nil]
    cases hi:args[i]? with
    | none=>exact .any _
    | some v =>
     have hlt:i<vs.size:=by rw [hl];exact (List.getElem?_eq_some_iff.1 hi).1
     have h2:(vs++Array.replicate (fn.ntmps - vs.size) undef).getD i undef=vs.getD i undef:=by
      simp [Array.getD_eq_getD_getElem?,Array.getElem?_append,hlt]
     simp only
     rw [h2]
     exact hrep i v hi
   refine calls_of_wp hf hb (wp_mono (bJy (Γ:=Γ) ih hm k0 code hic hok hev hex (Nat.le_refl _) _ _ ⟨ρ,hsat⟩) fun e' a w' hl=>?_)
   obtain ⟨rfl,ρ',hs'⟩:=hl
   obtain ⟨x,hx1,hx2⟩:=bCF (Γ:=Γ) rfl hs' hr hrv
   have hpost:a.defers=[]∧∃ v,(results fn a.tmps).run P w'=.ok v w'∧∃ x ρ',(Ending.returned v)=.returned x∧zO ρ nx st.nx ρ'∧Ek K w0 ρ' st.mem.m w'∧nS (nK ρ') res x:=
    ⟨hs'.defers,x,hx1,_,ρ',rfl,hs'.base,hs'.m,hx2⟩
   rcases hex with rfl | rfl
   ·exact hpost
   exact hpost
  split at h
  ·rename_i st h1
   exact key _ _ (.inl rfl) h1 h
  ·rename_i st h1
   exact key _ _ (.inr rfl) h1 h
  cases h
end
end Go.CE

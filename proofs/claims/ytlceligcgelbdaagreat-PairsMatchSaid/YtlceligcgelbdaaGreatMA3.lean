/- A reckoner for closed calls, part 3: the evaluator and its faster twin answer what the program does. -/
import Derived.WalkKit
import Derived.Orders
import Derived.Scope
import Derived.Test.YtlceligcgelbdaaGreatMA2
set_option linter.unusedVariables false
set_option linter.unusedSimpArgs false
namespace Go.CE
open Go.RowKit
open Go.Eng (Od aGs lS)
abbrev Anc (an:List Nat) (j k:Nat):Prop:=(an.getD j 0).testBit k=true
section static
variable {ds:List D} {an:List Nat}
theorem aUr (h : okD ds an = true) {j : Nat} {d : D} (hd : ds[j]? = some d) : (d.af.all (fun k => Nat.blt k j) && Nat.beq (an.getD j 0) (aZ3 an d.af) && d.sl.all (bHq ds an j) && (match d.i.d with
    | some q=>bME ds j q
    | none=>true))=true:=by
  have:=List.all_eq_true.1 h j (by simpa using (List.getElem?_eq_some_iff.1 hd).1)
  rw [hd] at this
  exact this
theorem bES (h:okD ds an=true) {j k:Nat} {d:D} (hd:ds[j]? = some d) (hk:k∈d.af):k<j:=by
 have:=aUr h hd
 simp only [Bool.and_eq_true] at this
 exact aSv (List.all_eq_true.1 this.1.1.1 k hk)
theorem bLy (h:okD ds an=true) {j:Nat} {d:D} (hd:ds[j]? = some d):an.getD j 0=aZ3 an d.af:=by
 have:=aUr h hd
 simp only [Bool.and_eq_true] at this
 exact Nat.eq_of_beq_eq_true this.1.1.2
theorem aZH (h:okD ds an=true) {j k q:Nat} {d d':D} (hd:ds[j]? = some d) (hq:q∈d.sl) (hk:ds[k]? = some d') (hdk:d'.i.d=some q):Anc an j k∨Anc an k j:=by
 have:=aUr h hd
 simp only [Bool.and_eq_true] at this
 have h1:=List.all_eq_true.1 this.1.2 q hq
 have h2:=List.all_eq_true.1 h1 k (by simpa using (List.getElem?_eq_some_iff.1 hk).1)
 rw [hk] at h2
 simp only [hdk,Nat.beq_refl,Bool.not_true,Bool.false_or,Bool.or_eq_true] at h2
 exact h2
theorem bN2 (h:okD ds an=true) {j k q:Nat} {d d':D} (hd:ds[j]? = some d) (hk:ds[k]? = some d') (hdj:d.i.d=some q) (hdk:d'.i.d=some q):j=k:=by
 have:=aUr h hd
 simp only [Bool.and_eq_true,hdj] at this
 have h2:=List.all_eq_true.1 this.2 k (by simpa using (List.getElem?_eq_some_iff.1 hk).1)
 rw [hk] at h2
 simp only [hdk,Nat.beq_refl,Bool.not_true,Bool.or_false] at h2
 exact (Nat.eq_of_beq_eq_true h2).symm
theorem aY8 (h:okD ds an=true) {j k:Nat} {d:D} (hd:ds[j]? = some d) (ha:Anc an j k):∃ l∈d.af,k=l∨Anc an l k:=by
 unfold Anc at ha
 rw [bLy h hd] at ha
 rcases Go.Eng.ancOf_bit an k d.af 0 ha with h1 | ⟨l,hl,h1⟩
 ·simp at h1
 exact ⟨l,hl,h1.imp Eq.symm id⟩
theorem aUs (h:okD ds an=true):∀ {j k:Nat} {d:D},ds[j]? = some d→Anc an j k→k<j:=by
 intro j
 induction j using Nat.strongRecOn with
 | ind j ih =>
  intro k d hd ha
  obtain ⟨l,hl,h1⟩:=aY8 h hd ha
  have hlj:=bES h hd hl
  rcases h1 with rfl | h1
  ·exact hlj
  have hlt:l<ds.length:=Nat.lt_trans hlj (List.getElem?_eq_some_iff.1 hd).1
  have:=ih l hlj (List.getElem?_eq_getElem hlt) h1
  omega
theorem bKR (h:okD ds an=true) (p:Nat→Prop) (hp:∀ (j:Nat) (d:D),ds[j]? = some d→p j→∀ (k:Nat),k∈d.af→p k):∀ (j:Nat) (d:D) (k:Nat),ds[j]? = some d→(∀ (k:Nat),k∈d.af→p k)→Anc an j k→p k:=by
 intro j
 induction j using Nat.strongRecOn with
 | ind j ih =>
  intro d k hd haf ha
  obtain ⟨l,hl,h1⟩:=aY8 h hd ha
  rcases h1 with rfl | h1
  ·exact haf _ hl
  have hlj:=bES h hd hl
  have hlt:l<ds.length:=Nat.lt_trans hlj (List.getElem?_eq_some_iff.1 hd).1
  have hld:=List.getElem?_eq_getElem hlt
  exact ih l hlj _ k hld (hp l _ hld (haf l hl)) h1
end static
section nx
variable {e:Tr AV} {m:Tr jX} {n:Nat}
theorem aWx (n:Nat) (x:Od):AS.ev ⟨e,m,n⟩ x=AS.ev ⟨e,m,0⟩ x:=by cases x<;>rfl
theorem aVz (n:Nat):∀ (l:List (Nat×Nat×Od)) (cs:List C),Ko ⟨e,m,n⟩ cs l=Ko ⟨e,m,0⟩ cs l
 | [],_=>rfl
 | (a,b,x)::l,cs=>by simp only [Ko,aWx n,aVz n l]
theorem aTq (n:Nat):∀ (l:List Od),Hi ⟨e,m,n⟩ l=Hi ⟨e,m,0⟩ l
 | []=>rfl
 | x::l=>by simp only [Hi,aWx n,aTq n l]
theorem bO2 (n:Nat) (o:Option Od) (k:Nat):bnd ⟨e,m,n⟩ o k=bnd ⟨e,m,0⟩ o k:=by cases o<;>simp only [bnd,aWx n]
theorem bKk (n:Nat) (b o k:Nat):AS.read ⟨e,m,n⟩ b o k=AS.read ⟨e,m,0⟩ b o k:=rfl
theorem aVx (i:mK) (n:Nat):dK i ⟨e,m,n⟩=dK i ⟨e,m,0⟩:=by
 cases i
 case len s x=>cases s<;>simp only [dK,aWx n]
 all_goals first
  | rfl
  | simp only [dK,aWx n,aVz n,aTq n,bO2 n,bKk n]
theorem aUa {i:I} {m':Tr jX} {n':Nat}:gOk i ⟨e,m,n⟩=gOk i ⟨e,m',n'⟩:=by
 unfold gOk
 cases i.g with
 | none=>rfl
 | some p=>rfl
end nx
def up {α:Type} (f:Nat→α) (j:Nat) (x:α):Nat→α:=fun k=>if k=j then x else f k
theorem sK {α:Type} (f:Nat→α) (j:Nat) (x:α):up f j x j=x:=by simp [up]
theorem mN {α:Type} (f:Nat→α) (j:Nat) (x:α) {k:Nat} (h:k≠j):up f j x k=f k:=by simp [up,h]
structure Dt where
 kind:Nat→Kd
 out:Nat→AV
 re:Nat→Tr AV
 lo:Nat→Nat
 hi:Nat→Nat
 mem:Nat→Tr jX
 pre:Nat→Tr jX
 tg:Nat→Nat
 m:Nat
def Z0 (tg:Nat→Nat) (mem:Nat→Tr jX):Nat→List (Nat×Tr jX)
 | 0=>[(tg 0,mem 0)]
 | i+1=>(tg (i+1),mem (i+1))::Z0 tg mem i
theorem aSH (tg:Nat→Nat) (mem:Nat→Tr jX) (i:Nat):∃ l,Z0 tg mem i=(tg i,mem i)::l:=by cases i<;>exact ⟨_,rfl⟩
theorem aWC {tg:Nat→Nat} {mem:Nat→Tr jX} {t:Nat} {x:Tr jX} {i0:Nat}:∀ i,i<i0→Z0 (up tg i0 t) (up mem i0 x) i=Z0 tg mem i
 | 0,h=>by simp only [Z0];rw [mN _ _ _ (by omega),mN _ _ _ (by omega)]
 | i+1,h=>by simp only [Z0];rw [mN _ _ _ (by omega),mN _ _ _ (by omega),aWC i (by omega)]
structure W (P:Program) (n:Nat) (ds:List D) (an:List Nat) (st0:AS) (X:Dt) (j:Nat) (a:Ya):Prop where
 e1:∀ (q:Nat) (v:AV),a.env.get q=some v→(∃ (k:Nat) (d:D),k<j∧ds[k]? = some d∧d.i.d=some q∧X.out k=v)∨((∀ (k:Nat) (d:D),k<j→ds[k]? = some d→d.i.d≠some q)∧st0.env.get q=some v)
 e2:∀ (k:Nat) (d:D) (q:Nat) (v:AV),k<j→ds[k]? = some d→(X.re k).get q=some v→q∈d.sl ∧
  ((∃ (k':Nat) (d':D),k'<k∧ds[k']? = some d'∧d'.i.d=some q∧X.out k'=v)∨((∀ (k':Nat) (d':D),k'<k→ds[k']? = some d'→d'.i.d≠some q)∧st0.env.get q=some v))
 n0:st0.nx≤a.nx
 n1:∀ k,k<j→st0.nx≤X.lo k∧X.lo k≤X.hi k∧X.hi k≤a.nx
 n2:∀ k k',k<k'→k'<j→X.hi k≤X.lo k'
 mem0:X.mem 0=st0.mem
 x1:∀ k i,k<j→X.kind k=.x i→i<X.m
 x2:∀ i,i<X.m→∃ k,k<j∧X.kind k=.x i
 x3:∀ k k' i i',k<k'→k'<j→X.kind k=.x i→X.kind k'=.x i'→i<i'
 x4:∀ k k' i i',k<k'→k'<j→X.kind k=.x i→X.kind k'=.x i'→∀ b,(b=k∨Anc an k b)→Anc an k' b
 la:∀ k i b,k<j→X.kind k=.x i→(b=k∨Anc an k b)→a.last.testBit b=true
 fP:∀ (k:Nat) (d:D),k<j→ds[k]? = some d→X.kind k=.p→X.lo k=X.hi k∧∀ Γ:Ctx,Γ.P=P→Γ.n=n→aAC Γ d.i ⟨X.re k,.nil,X.lo k⟩ ((⟨X.re k,.nil,X.hi k⟩:AS).putO d.i.d (X.out k))
 fL:∀ (k:Nat) (d:D),k<j→ds[k]? = some d→X.kind k=.l→X.lo k=X.hi k∧gOk d.i ⟨X.re k,.nil,0⟩=some true∧∀ c,c≤X.m→(∀ k' i,k'<j→X.kind k'=.x i→Anc an k k'→i<c)→(∀ k' i,k'<j→X.kind k'=.x i→Anc an k' k→c≤i) →
  dK d.i.o ⟨X.re k,X.mem c,0⟩=some (X.out k)
 fA:∀ (k:Nat) (d:D) (t:Tr jX),k<j→ds[k]? = some d→X.kind k=.a t→∀ Γ:Ctx,Γ.P=P→Γ.n=n→aAC Γ d.i ⟨X.re k,.nil,X.lo k⟩ ((⟨X.re k,t,X.hi k⟩:AS).putO d.i.d (X.out k))
 fX:∀ (k:Nat) (d:D) (i:Nat),k<j→ds[k]? = some d→X.kind k=.x i→∀ Γ:Ctx,Γ.P=P→Γ.n=n→aAC Γ d.i ⟨X.re k,X.pre i,X.lo k⟩ ((⟨X.re k,X.mem (i+1),X.hi k⟩:AS).putO d.i.d (X.out k))
 pX:∀ (k i b:Nat) (kk:jX),k<j→X.kind k=.x i→(X.pre i).get b=some kk→(X.mem i).get b=some kk∨∃ (A:Nat) (t:Tr jX),A<j∧Anc an k A∧X.kind A=.a t∧t.get b=some kk∧∀ k' i',k'<j→X.kind k'=.x i'→i'<i→¬ Anc an k' A
 dm:Dom st0.mem st0.nx a.nx (X.mem X.m)
 ml:a.mems=Z0 X.tg X.mem X.m
 tg0:X.tg 0=0
 tgx:∀ k i,k<j→X.kind k=.x i→X.tg (i+1)=k+1
 p1:∀ (A b:Nat) (kk:jX),(A,b,kk)∈a.pend→A<j∧∃ t,X.kind A=.a t∧t.get b=some kk∧∀ k' i',k'<j→X.kind k'=.x i'→¬ Anc an k' A
 p2:∀ (A:Nat) (t:Tr jX) (b:Nat) (kk:jX),A<j→X.kind A=.a t→(∀ k' i',k'<j→X.kind k'=.x i'→¬ Anc an k' A)→t.get b=some kk→(A,b,kk)∈a.pend
 fl:∀ (l:Nat) (d:D),l<j→ds[l]? = some d→X.kind l=.l→(∀ k' i',k'<j→X.kind k'=.x i'→¬ Anc an k' l)→(l,d.i.o,X.re l,X.out l)∈a.fl
section
variable {P:Program} {n:Nat} {ds:List D} {an:List Nat} {st0:AS} {X:Dt} {j:Nat} {a:Ya}
theorem W.base (h:W P n ds an st0 X j a) {d:D} (hd:ds[j]? = some d) (K:Kd) (v:AV) (nx':Nat) (hnx:a.nx≤nx') :
    (∀ (q:Nat) (u:AV),(Yf a.env d.i.d v).get q=some u→(∃ (k:Nat) (d:D),k<j+1∧ds[k]? = some d∧d.i.d=some q∧up X.out j v k=u)∨((∀ (k:Nat) (d:D),k<j+1→ds[k]? = some d→d.i.d≠some q)∧st0.env.get q=some u)) ∧
    (∀ (k : Nat) (d' : D) (q : Nat) (u : AV), k < j + 1 → ds[k]? = some d' → (up X.re j (nP a.env d.sl) k).get q = some u → q ∈ d'.sl ∧
      ((∃ (k':Nat) (d':D),k'<k∧ds[k']? = some d'∧d'.i.d=some q∧up X.out j v k'=u)∨((∀ (k':Nat) (d':D),k'<k→ds[k']? = some d'→d'.i.d≠some q)∧st0.env.get q=some u))) ∧
    (∀ k,k<j+1→st0.nx≤up X.lo j a.nx k∧up X.lo j a.nx k≤up X.hi j nx' k∧up X.hi j nx' k≤nx') ∧
    (∀ k k',k<k'→k'<j+1→up X.hi j nx' k≤up X.lo j a.nx k'):=by
  refine ⟨fun q u hq=>?_,fun k d' q u hk hd' hq=>?_,fun k hk=>?_,fun k k' hk hk'=>?_⟩
  · rcases bHC hq with ⟨h1, rfl⟩ | ⟨h1, h2⟩
    · exact .inl ⟨j,d,Nat.lt_succ_self _,hd,h1,sK _ _ _⟩
    · rcases h.e1 q u h2 with ⟨k, d', g1, g2, g3, g4⟩ | ⟨g1, g2⟩
      · exact .inl ⟨k,d',by omega,g2,g3,by rw [mN _ _ _ (by omega)];exact g4⟩
      · refine .inr ⟨fun k d' hk hd'=>?_,g2⟩
        by_cases e:k=j
        · subst e;rw [hd] at hd';injection hd' with hd';subst hd';exact h1
        · exact g1 k d' (by omega) hd'
  · have hlift : ∀ k', k' < k → up X.out j v k' = X.out k' := fun k' h' => mN _ _ _ (by omega)
    by_cases e:k=j
    · subst e
      rw [hd] at hd';injection hd' with hd';subst hd'
      rw [sK] at hq
      obtain ⟨h1,h2⟩:=aTc hq
      refine ⟨h1,?_⟩
      rcases h.e1 q u h2 with ⟨k',d',g1,g2,g3,g4⟩ | ⟨g1,g2⟩
      · exact .inl ⟨k',d',g1,g2,g3,by rw [hlift k' g1];exact g4⟩
      · exact .inr ⟨g1,g2⟩
    · rw [mN _ _ _ e] at hq
      obtain ⟨h1,h2⟩:=h.e2 k d' q u (by omega) hd' hq
      refine ⟨h1,?_⟩
      rcases h2 with ⟨k',d2,g1,g2,g3,g4⟩ | h2
      · exact .inl ⟨k',d2,g1,g2,g3,by rw [hlift k' g1];exact g4⟩
      · exact .inr h2
  · by_cases e:k=j
    · subst e;rw [sK,sK];exact ⟨h.n0,hnx,Nat.le_refl _⟩
    · rw [mN _ _ _ e,mN _ _ _ e]
      have:=h.n1 k (by omega)
      exact ⟨this.1,this.2.1,Nat.le_trans this.2.2 hnx⟩
  · rw [mN _ _ _ (by omega : k ≠ j)]
    by_cases e:k'=j
    · subst e;rw [sK];exact (h.n1 k hk).2.2
    · rw [mN _ _ _ e];exact h.n2 k k' hk (by omega)
theorem W.calm (h:W P n ds an st0 X j a) {d:D} (hd:ds[j]? = some d) (K:Kd) (v:AV) (nx':Nat) (pend':List (Nat×Nat×jX)) (fl':List (Nat×mK×Tr AV×AV)) (hnx:a.nx≤nx') (hKx:∀ i,K≠.x i)
    (fP:K=.p→a.nx=nx'∧∀ Γ:Ctx,Γ.P=P→Γ.n=n→aAC Γ d.i ⟨nP a.env d.sl,.nil,a.nx⟩ ((⟨nP a.env d.sl,.nil,nx'⟩:AS).putO d.i.d v))
    (fL:K=.l→a.nx=nx'∧gOk d.i ⟨nP a.env d.sl,.nil,0⟩=some true∧∀ c,c≤X.m→(∀ k' i,k'<j→X.kind k'=.x i→Anc an j k'→i<c)→dK d.i.o ⟨nP a.env d.sl,X.mem c,0⟩=some v)
    (fA:∀ t,K=.a t→∀ Γ:Ctx,Γ.P=P→Γ.n=n→aAC Γ d.i ⟨nP a.env d.sl,.nil,a.nx⟩ ((⟨nP a.env d.sl,t,nx'⟩:AS).putO d.i.d v))
    (hp1:∀ p,p∈pend'→p∈a.pend∨(p.1=j∧∃ t,K=.a t∧t.get p.2.1=some p.2.2∧∀ k' i',k'<j→X.kind k'=.x i'→¬ Anc an k' j))
    (hp2:∀ p,p∈a.pend→p∈pend') (hp3:∀ (t:Tr jX) (b:Nat) (kk:jX),K=.a t→t.get b=some kk→(j,b,kk)∈pend')
    (hf1:∀ p,p∈a.fl→p∈fl') (hf2:K=.l→(j,d.i.o,nP a.env d.sl,v)∈fl') (hanc:∀ k' i',k'<j→X.kind k'=.x i'→¬ Anc an k' j) :
    W P n ds an st0 ⟨up X.kind j K,up X.out j v,up X.re j (nP a.env d.sl),up X.lo j a.nx,up X.hi j nx',X.mem,X.pre,X.tg,X.m⟩ (j+1) ⟨Yf a.env d.i.d v,nx',a.mems,pend',fl',a.last⟩:=by
  obtain ⟨b1,b2,b3,b4⟩:=h.base hd K v nx' hnx
  have hx:∀ k i,k<j+1→up X.kind j K k=.x i→k<j∧X.kind k=.x i:=by
    intro k i hk hki
    by_cases e:k=j
    · subst e;rw [sK] at hki;exact absurd hki (hKx i)
    · rw [mN _ _ _ e] at hki;exact ⟨by omega,hki⟩
  have hx':∀ k i,k<j→X.kind k=.x i→k<j+1∧up X.kind j K k=.x i:=fun k i hk hki=>⟨by omega,by rw [mN _ _ _ (by omega)];exact hki⟩
  have hno:∀ A,(∀ k' i',k'<j+1→up X.kind j K k'=.x i'→¬ Anc an k' A)→∀ k' i',k'<j→X.kind k'=.x i'→¬ Anc an k' A:=fun A hA k' i' h1 h2=>hA k' i' (hx' k' i' h1 h2).1 (hx' k' i' h1 h2).2
  refine ⟨b1,b2,Nat.le_trans h.n0 hnx,b3,b4,h.mem0,fun k i hk hki=>?_,fun i hi=>?_,fun k k' i i' hk hk' h1 h2=>?_,fun k k' i i' hk hk' h1 h2 b hb=>?_,fun k i b hk hki hb=>?_,fun k d' hk hd' hki=>?_,fun k d' hk hd' hki=>?_,fun k d' t hk hd' hki=>?_,fun k d' i hk hd' hki=>?_,fun k i b kk hk hki hb=>?_,?_,h.ml,h.tg0,fun k i hk hki=>?_,fun A b kk hm=>?_,fun A t b kk hA hkA hnA hb=>?_,fun l d' hl hd' hkl hnl=>?_⟩
  · have:=hx k i hk hki;exact h.x1 k i this.1 this.2
  · obtain ⟨k,h1,h2⟩:=h.x2 i hi;exact ⟨k,(hx' k i h1 h2).1,(hx' k i h1 h2).2⟩
  · have g1:=hx k i (by omega) h1;have g2:=hx k' i' hk' h2;exact h.x3 k k' i i' hk g2.1 g1.2 g2.2
  · have g1:=hx k i (by omega) h1;have g2:=hx k' i' hk' h2;exact h.x4 k k' i i' hk g2.1 g1.2 g2.2 b hb
  · have:=hx k i hk hki;exact h.la k i b this.1 this.2 hb
  · by_cases e:k=j
    · subst e
      rw [hd] at hd';injection hd' with hd';subst hd'
      simp only [sK] at hki ⊢
      exact fP hki
    · simp only [mN _ _ _ e] at hki ⊢
      exact h.fP k d' (by omega) hd' hki
  · by_cases e:k=j
    · subst e
      rw [hd] at hd';injection hd' with hd';subst hd'
      simp only [sK] at hki ⊢
      obtain ⟨g1,g2,g3⟩:=fL hki
      exact ⟨g1,g2,fun c hc hlo _=>g3 c hc fun k' i h1 h2=>hlo k' i (hx' k' i h1 h2).1 (hx' k' i h1 h2).2⟩
    · simp only [mN _ _ _ e] at hki ⊢
      obtain ⟨g1,g2,g3⟩:=h.fL k d' (by omega) hd' hki
      exact ⟨g1,g2,fun c hc hlo hhi=>g3 c hc (fun k' i h1 h2=>hlo k' i (hx' k' i h1 h2).1 (hx' k' i h1 h2).2) fun k' i h1 h2=>hhi k' i (hx' k' i h1 h2).1 (hx' k' i h1 h2).2⟩
  · by_cases e:k=j
    · subst e
      rw [hd] at hd';injection hd' with hd';subst hd'
      simp only [sK] at hki ⊢
      exact fA t hki
    · simp only [mN _ _ _ e] at hki ⊢
      exact h.fA k d' t (by omega) hd' hki
  · have g:=hx k i hk hki
    have e:k≠j:=by omega
    simp only [mN _ _ _ e]
    exact h.fX k d' i g.1 hd' g.2
  · have g:=hx k i hk hki
    rcases h.pX k i b kk g.1 g.2 hb with h1 | ⟨A,t,g1,g2,g3,g4,g5⟩
    · exact .inl h1
    · refine .inr ⟨A, t, by omega, g2, (mN X.kind j K (by omega : A ≠ j)).trans g3, g4, fun k' i' q1 q2 q3 => ?_⟩
      have g6:=hx k' i' q1 q2
      exact g5 k' i' g6.1 g6.2 q3
  · intro b kk hb
    rcases h.dm b kk hb with h1 | h1
    · exact .inl h1
    · exact .inr ⟨h1.1,Nat.lt_of_lt_of_le h1.2 hnx⟩
  · have g:=hx k i hk hki;exact h.tgx k i g.1 g.2
  · rcases hp1 _ hm with h1 | ⟨h1,t,h2,h3,h4⟩
    · obtain ⟨g1, t, g2, g3, g4⟩ := h.p1 A b kk h1
      refine ⟨by omega,t,(mN X.kind j K (by omega:A≠j)).trans g2,g3,fun k' i' q1 q2=>?_⟩
      have g6:=hx k' i' q1 q2
      exact g4 k' i' g6.1 g6.2
    · simp only at h1 h3
      subst h1
      refine ⟨by omega,t,(sK X.kind A K).trans h2,h3,fun k' i' q1 q2=>?_⟩
      have g6:=hx k' i' q1 q2
      exact h4 k' i' g6.1 g6.2
  · by_cases e:A=j
    · subst e
      simp only [sK] at hkA
      exact hp3 t b kk hkA hb
    · simp only [mN _ _ _ e] at hkA
      exact hp2 _ (h.p2 A t b kk (by omega) hkA (hno A hnA) hb)
  · by_cases e:l=j
    · subst e
      rw [hd] at hd';injection hd' with hd';subst hd'
      simp only [sK] at hkl ⊢
      exact hf2 hkl
    · simp only [mN _ _ _ e] at hkl ⊢
      exact hf1 _ (h.fl l d' (by omega) hd' hkl (hno l hnl))
theorem aVj {bits:Nat} {m:Tr jX}:∀ {l l':List (Nat×mK×Tr AV×AV)},aUD bits m l=some l'→∀ (k:Nat) (o:mK) (re:Tr AV) (v:AV),(k,o,re,v)∈l→bits.testBit k=false→dK o ⟨re,m,0⟩=some v∧(k,o,re,v)∈l':=by
 intro l
 induction l with
 | nil=>intro l' _ k o re v hm;cases hm
 | cons p l ih =>
  intro l' h k o re v hm hb
  obtain ⟨k0,o0,re0,v0⟩:=p
  simp only [aUD] at h
  split at h
  ·cases h
  rename_i r' hr
  split at h
  ·rename_i hbit
   injection h with h
   subst h
   rcases List.mem_cons.1 hm with hm | hm
   ·injection hm with e1 hm
    subst e1
    rw [hb] at hbit;cases hbit
   exact ih hr k o re v hm hb
  split at h
  ·rename_i v' hv'
   split at h
   ·rename_i hs
    injection h with h
    subst h
    have hs:=aPe hs
    subst hs
    rcases List.mem_cons.1 hm with hm | hm
    ·injection hm with e1 hm
     injection hm with e2 hm
     injection hm with e3 e4
     subst e1 e2 e3 e4
     exact ⟨hv',by simp⟩
    obtain ⟨g1,g2⟩:=ih hr k o re v hm hb
    exact ⟨g1,by simp [g2]⟩
   cases h
  cases h
theorem W.aRange (h:W P n ds an st0 X j a) (Γ:Ctx) (hP:Γ.P=P) (hn:Γ.n=n) {A:Nat} {d:D} {t:Tr jX} (hA:A<j) (hd:ds[A]? = some d) (hk:X.kind A=.a t) {b:Nat} {kk:jX} (hb:t.get b=some kk):X.lo A≤b∧b<X.hi A:=by
 have h:=(h.fA A d t hA hd hk Γ hP hn).low.dom
 simp only [Ei,Lp] at h
 rcases h b kk hb with ⟨k,h1⟩ | h1
 ·rw [Tr.get_nil] at h1;cases h1
 exact h1
theorem W.chg (h:W P n ds an st0 X j a) (Γ:Ctx) (hP:Γ.P=P) (hn:Γ.n=n) {d:D} (hd:ds[j]? = some d) (v:AV) (m':Tr jX) (nx':Nat) (fl':List (Nat×mK×Tr AV×AV))
    (hI:∀ Γ:Ctx,Γ.P=P→Γ.n=n→aAC Γ d.i ⟨nP a.env d.sl,ovl (X.mem X.m) (a.pend.filter fun p=>(an.getD j 0).testBit p.1),a.nx⟩ ((⟨nP a.env d.sl,m',nx'⟩:AS).putO d.i.d v))
    (hlast:Nat.beq (an.getD j 0 ||| a.last) (an.getD j 0)=true) (hfl:aUD (an.getD j 0) m' a.fl=some fl') (hanc:∀ b,Anc an j b→b<j) :
    W P n ds an st0 ⟨up X.kind j (.x X.m),up X.out j v,up X.re j (nP a.env d.sl),up X.lo j a.nx,up X.hi j nx',up X.mem (X.m+1) m',up X.pre X.m (ovl (X.mem X.m) (a.pend.filter fun p=>(an.getD j 0).testBit p.1)),up X.tg (X.m+1) (j+1),X.m+1⟩
      (j+1) ⟨Yf a.env d.i.d v,nx',(j+1,m')::a.mems,a.pend.filter (fun p=>!(an.getD j 0).testBit p.1),fl',an.getD j 0 ||| (1 <<< j)⟩:=by
  have hlow:=(hI Γ hP hn).low
  simp only [Ei,Lp] at hlow
  obtain ⟨b1,b2,b3,b4⟩:=h.base hd (.x X.m) v nx' hlow.le
  have hx:∀ k i,k<j+1→up X.kind j (.x X.m) k=.x i→(k<j∧X.kind k=.x i)∨(k=j∧i=X.m):=by
    intro k i hk hki
    by_cases e:k=j
    · subst e;rw [sK] at hki;injection hki with hki;exact .inr ⟨rfl,hki.symm⟩
    · rw [mN _ _ _ e] at hki;exact .inl ⟨by omega,hki⟩
  have hx':∀ k i,k<j→X.kind k=.x i→k<j+1∧up X.kind j (.x X.m) k=.x i:=fun k i hk hki=>⟨by omega,by rw [mN _ _ _ (by omega)];exact hki⟩
  have hj':j<j+1∧up X.kind j (.x X.m) j=.x X.m:=⟨Nat.lt_succ_self _,sK _ _ _⟩
  have hla:∀ b,a.last.testBit b=true→Anc an j b:=by
    intro b hb
    have h1:=Nat.eq_of_beq_eq_true hlast
    unfold Anc
    rw [← h1,Nat.testBit_or,hb]
    simp
  have hmem:∀ c,c≤X.m→up X.mem (X.m+1) m' c=X.mem c:=fun c hc=>mN _ _ _ (by omega)
  refine ⟨b1,b2,Nat.le_trans h.n0 hlow.le,b3,b4,(hmem 0 (Nat.zero_le _)).trans h.mem0,fun k i hk hki=>?_,fun i hi=>?_,fun k k' i i' hk hk' h1 h2=>?_,fun k k' i i' hk hk' h1 h2 b hb=>?_,fun k i b hk hki hb=>?_,fun k d' hk hd' hki=>?_,fun k d' hk hd' hki=>?_,fun k d' t hk hd' hki=>?_,fun k d' i hk hd' hki=>?_,fun k i b kk hk hki hb=>?_,?_,?_,(mN X.tg _ (j+1) (by omega:0≠X.m+1)).trans h.tg0,fun k i hk hki=>?_,fun A b kk hm=>?_,fun A t b kk hA hkA hnA hb=>?_,fun l d' hl hd' hkl hnl=>?_⟩
  · rcases hx k i hk hki with g | ⟨_,rfl⟩
    · have:=h.x1 k i g.1 g.2;show i<X.m+1;omega
    · exact Nat.lt_succ_self _
  · have hi:i<X.m+1:=hi
    by_cases e:i=X.m
    · subst e;exact ⟨j,hj'.1,hj'.2⟩
    · obtain ⟨k,h1,h2⟩:=h.x2 i (by omega);exact ⟨k,(hx' k i h1 h2).1,(hx' k i h1 h2).2⟩
  · rcases hx k i (by omega) h1 with g1 | g1
    · rcases hx k' i' hk' h2 with g2 | ⟨_,rfl⟩
      · exact h.x3 k k' i i' hk g2.1 g1.2 g2.2
      · exact h.x1 k i g1.1 g1.2
    · omega
  · rcases hx k i (by omega) h1 with g1 | g1
    · rcases hx k' i' hk' h2 with g2 | ⟨rfl,_⟩
      · exact h.x4 k k' i i' hk g2.1 g1.2 g2.2 b hb
      · exact hla b (h.la k i b g1.1 g1.2 hb)
    · omega
  · show (an.getD j 0 ||| (1 <<< j)).testBit b=true
    rw [Nat.testBit_or]
    rcases hx k i hk hki with g | ⟨rfl,_⟩
    · have:Anc an j b:=hla b (h.la k i b g.1 g.2 hb)
      unfold Anc at this
      rw [this];rfl
    · rcases hb with rfl | hb
      · rw [Nat.one_shiftLeft,Nat.testBit_two_pow_self];simp
      · unfold Anc at hb;rw [hb];rfl
  · by_cases e:k=j
    · subst e;simp only [sK] at hki;cases hki
    · simp only [mN _ _ _ e] at hki ⊢;exact h.fP k d' (by omega) hd' hki
  · by_cases e:k=j
    · subst e;simp only [sK] at hki;cases hki
    · simp only [mN _ _ _ e] at hki ⊢
      obtain ⟨g1,g2,g3⟩:=h.fL k d' (by omega) hd' hki
      refine ⟨g1,g2,fun c hc hlo hhi=>?_⟩
      have hc:c≤X.m+1:=hc
      by_cases e2:c=X.m+1
      · subst e2
        rw [sK]
        have hnj:¬ Anc an j k:=fun ha=>by have:=hhi j X.m hj'.1 hj'.2 ha;omega
        have hno:∀ k' i',k'<j→X.kind k'=.x i'→¬ Anc an k' k:=fun k' i' q1 q2 ha=>by
          have:=hhi k' i' (hx' k' i' q1 q2).1 (hx' k' i' q1 q2).2 ha
          have:=h.x1 k' i' q1 q2
          omega
        have hin:=h.fl k d' (by omega) hd' hki hno
        exact (aVj hfl k _ _ _ hin (by unfold Anc at hnj;simpa using hnj)).1
      · rw [hmem c (by omega)]
        exact g3 c (by omega) (fun k' i q1 q2=>hlo k' i (hx' k' i q1 q2).1 (hx' k' i q1 q2).2) fun k' i q1 q2=>hhi k' i (hx' k' i q1 q2).1 (hx' k' i q1 q2).2
  · by_cases e:k=j
    · subst e;simp only [sK] at hki;cases hki
    · simp only [mN _ _ _ e] at hki ⊢;exact h.fA k d' t (by omega) hd' hki
  · rcases hx k i hk hki with g | ⟨rfl,rfl⟩
    · have e : k ≠ j := by omega
      have hi:=h.x1 k i g.1 g.2
      simp only [mN _ _ _ e]
      rw [mN X.pre _ _ (by omega:i≠X.m),hmem (i+1) (by omega)]
      exact h.fX k d' i g.1 hd' g.2
    · rw [hd] at hd'; injection hd' with hd'; subst hd'
      simp only [sK]
      exact hI
  · have hkk : ∀ A, A < j → up X.kind j (.x X.m) A = X.kind A := fun A hA => mN _ _ _ (by omega)
    rcases hx k i hk hki with g | ⟨rfl,rfl⟩
    · have hi:=h.x1 k i g.1 g.2
      have hb':(X.pre i).get b=some kk:=by
        have:up X.pre X.m (ovl (X.mem X.m) (a.pend.filter fun p=>(an.getD j 0).testBit p.1)) i=X.pre i:=mN _ _ _ (by omega)
        rw [← this];exact hb
      rcases h.pX k i b kk g.1 g.2 hb' with h1 | ⟨A,t,g1,g2,g3,g4,g5⟩
      · exact .inl (by show (up X.mem (X.m+1) m' i).get b=_;rw [hmem i (by omega)];exact h1)
      · refine .inr ⟨A, t, by omega, g2, (hkk A g1).trans g3, g4, fun k' i' q1 q2 q3 => ?_⟩
        rcases hx k' i' q1 q2 with g6 | ⟨_,rfl⟩
        · exact g5 k' i' g6.1 g6.2 q3
        · omega
    · have hb':(ovl (X.mem X.m) (a.pend.filter fun p=>(an.getD k 0).testBit p.1)).get b=some kk:=by
        have:up X.pre X.m (ovl (X.mem X.m) (a.pend.filter fun p=>(an.getD k 0).testBit p.1)) X.m=_:=sK _ _ _
        rw [← this];exact hb
      rcases aM3 hb' with ⟨A,hA⟩ | h1
      · obtain ⟨hA1, hA2⟩ := List.mem_filter.1 hA
        obtain ⟨g1,t,g2,g3,g4⟩:=h.p1 A b kk hA1
        refine .inr ⟨A,t,by omega,hA2,(hkk A g1).trans g2,g3,fun k' i' q1 q2 q3=>?_⟩
        rcases hx k' i' q1 q2 with g6 | ⟨_,rfl⟩
        · exact g4 k' i' g6.1 g6.2
        · omega
      · exact .inl (by show (up X.mem (X.m+1) m' X.m).get b=_;rw [hmem X.m (Nat.le_refl _)];exact h1)
  · show Dom st0.mem st0.nx nx' (up X.mem (X.m+1) m' (X.m+1))
    rw [sK]
    intro b kk hb
    rcases hlow.dom b kk hb with ⟨k1,h1⟩ | h1
    · rcases aM3 h1 with ⟨A, hA⟩ | h2
      · obtain ⟨hA1, hA2⟩ := List.mem_filter.1 hA
        obtain ⟨g1,t,g2,g3,_⟩:=h.p1 A b k1 hA1
        have hAl:A<ds.length:=Nat.lt_trans g1 (List.getElem?_eq_some_iff.1 hd).1
        have:=h.aRange Γ hP hn g1 (List.getElem?_eq_getElem hAl) g2 g3
        have g5:=h.n1 A g1
        have:=hlow.le
        exact .inr (by omega)
      · rcases h.dm b k1 h2 with h3 | h3
        · exact .inl h3
        · have:=hlow.le;exact .inr (by omega)
    · have:=h.n0;exact .inr (by omega)
  · show (j+1,m')::a.mems=Z0 (up X.tg (X.m+1) (j+1)) (up X.mem (X.m+1) m') (X.m+1)
    simp only [Z0,sK]
    rw [aWC X.m (Nat.lt_succ_self _),h.ml]
  · rcases hx k i hk hki with g | ⟨rfl,rfl⟩
    · have hi:=h.x1 k i g.1 g.2
      exact (mN X.tg _ _ (by omega)).trans (h.tgx k i g.1 g.2)
    · exact sK _ _ _
  · obtain ⟨hA1, hA2⟩ := List.mem_filter.1 hm
    obtain ⟨g1,t,g2,g3,g4⟩:=h.p1 A b kk hA1
    refine ⟨by omega,t,(mN X.kind j _ (by omega:A≠j)).trans g2,g3,fun k' i' q1 q2=>?_⟩
    rcases hx k' i' q1 q2 with g6 | ⟨rfl,_⟩
    · exact g4 k' i' g6.1 g6.2
    · intro ha
      unfold Anc at ha
      simp only [ha,Bool.not_true] at hA2
      cases hA2
  · by_cases e:A=j
    · subst e;simp only [sK] at hkA;cases hkA
    · simp only [mN _ _ _ e] at hkA
      have h1:=h.p2 A t b kk (by omega) hkA (fun k' i' q1 q2=>hnA k' i' (hx' k' i' q1 q2).1 (hx' k' i' q1 q2).2) hb
      refine List.mem_filter.2 ⟨h1,?_⟩
      have:=hnA j X.m hj'.1 hj'.2
      unfold Anc at this
      simpa using this
  · by_cases e:l=j
    · subst e;simp only [sK] at hkl;cases hkl
    · simp only [mN _ _ _ e] at hkl ⊢
      have h1:=h.fl l d' (by omega) hd' hkl fun k' i' q1 q2=>hnl k' i' (hx' k' i' q1 q2).1 (hx' k' i' q1 q2).2
      have:=hnl j X.m hj'.1 hj'.2
      unfold Anc at this
      exact (aVj hfl l _ _ _ h1 (by simpa using this)).2
end
open Go.RowKit
open Go.Eng (Od aGs callable lS Xb sY uO)
section
variable {P:Program} {n:Nat} {ds:List D} {an:List Nat} {st0:AS} {X:Dt} {j:Nat} {a a':Ya} {call:iJ}
theorem aPd {Γ:Ctx} {d:D} {re:Tr AV} {m:Tr jX} {lo hi:Nat} {v:AV} (hlh:lo=hi) (hg:gOk d.i ⟨re,.nil,0⟩=some true) (hq:dK d.i.o ⟨re,m,0⟩=some v):aAC Γ d.i ⟨re,m,lo⟩ ((⟨re,m,hi⟩:AS).putO d.i.d v):=by
 subst hlh
 have h1:gOk d.i (⟨re,m,lo⟩:AS)=some true:=by rw [← hg];exact aUa
 have h2:dK d.i.o (⟨re,m,lo⟩:AS)=some v:=by rw [aVx];exact hq
 have hb:d.i.o≠.bad:=fun hb=>by rw [hb] at h2;cases h2
 exact .of h1 hb (Low.refl _ _) fun o ho=>.quiet (by rw [← ho];exact h2)
theorem W.step (hcall:sJ P call) (hok:okD ds an=true) (Γ0:Ctx) (hP:Γ0.P=P) (hn:Γ0.n=n) (h:W P n ds an st0 X j a) {d:D} (hd:ds[j]? = some d) (hs:Vx call j d (an.getD j 0) a=some a'):∃ X',W P n ds an st0 X' (j+1) a':=by
  have hlt:∀ b,Anc an j b→b<j:=fun b hb=>aUs hok hd hb
  have hanc:∀ k' i',k'<j→X.kind k'=.x i'→¬ Anc an k' j:=fun k' i' hk _ ha=>by
    have hk'l:k'<ds.length:=Nat.lt_trans hk (List.getElem?_eq_some_iff.1 hd).1
    have:=aUs hok (List.getElem?_eq_getElem hk'l) ha
    omega
  simp only [Vx] at hs
  split at hs
  · cases hs
  · rename_i hg
    injection hs with hs
    subst hs
    refine ⟨_,h.calm hd .p (.tup []) a.nx a.pend a.fl (Nat.le_refl _) (by simp) (fun _=>⟨rfl,fun Γ h1 h2=>.skip hg⟩) (fun h=>by cases h) (fun t h=>by cases h) (fun p hp=>.inl hp) (fun p hp=>hp) (fun t b kk h=>by cases h) (fun p hp=>hp) (fun h=>by cases h) hanc⟩
  · rename_i hg
    have hg0:gOk d.i ⟨nP a.env d.sl,.nil,0⟩=some true:=by rw [← hg];exact aUa
    split at hs
    · rename_i v hv
      injection hs with hs
      subst hs
      exact ⟨_,h.calm hd .p v a.nx a.pend a.fl (Nat.le_refl _) (by simp) (fun _=>⟨rfl,fun Γ h1 h2=>aPd rfl hg0 (by rw [← aVx d.i.o a.nx];exact hv)⟩) (fun h=>by cases h) (fun t h=>by cases h) (fun p hp=>.inl hp) (fun p hp=>hp) (fun t b kk h=>by cases h) (fun p hp=>hp) (fun h=>by cases h) hanc⟩
    · split at hs
      · -- a load
        split at hs
        · cases hs
        rename_i x0 m0 l0 hm
        split at hs
        · cases hs
        rename_i v hv
        split at hs
        case h_2=>cases hs
        rename_i hrd
        injection hs with hs
        subst hs
        refine ⟨_,h.calm hd .l v a.nx a.pend _ (Nat.le_refl _) (by simp) (fun h=>by cases h) (fun _=>⟨rfl,hg0,fun c hc hlo=>?_⟩) (fun t h=>by cases h) (fun p hp=>.inl hp) (fun p hp=>hp) (fun t b kk h=>by cases h) (fun p hp=>List.mem_cons_of_mem _ hp) (fun _=>List.mem_cons_self ..) hanc⟩
        rw [h.ml] at hrd
        have htg:∀ i t,i<X.m→X.tg (i+1)=t→∃ k,k<j∧X.kind k=.x i∧t=k+1:=fun i t hi ht=>by
          obtain ⟨k,hk,hkx⟩:=h.x2 i hi
          exact ⟨k,hk,hkx,by rw [← ht];exact h.tgx k i hk hkx⟩
        have key:∀ i,i≤X.m→aLH d.i.o (nP a.env d.sl) (an.getD j 0) v (Z0 X.tg X.mem i)=true→∀ c,c≤i→(∀ k' i',k'<j→X.kind k'=.x i'→Anc an j k'→i'<c)→dK d.i.o ⟨nP a.env d.sl,X.mem c,0⟩=some v:=by
          intro i
          induction i with
          | zero =>
            intro _ h1 c hc _
            have:c=0:=by omega
            subst this
            simp only [Z0,aLH,Bool.and_eq_true] at h1
            have h1:=h1.1
            split at h1
            · rename_i v' hv'
              have:=aPe h1
              subst this
              exact hv'
            · cases h1
          | succ i ih =>
            intro hi h1 c hc hlo
            simp only [Z0,aLH,Bool.and_eq_true] at h1
            by_cases e:c=i+1
            · subst e
              have h1:=h1.1
              split at h1
              · rename_i v' hv'
                have:=aPe h1
                subst this
                exact hv'
              · cases h1
            · obtain ⟨k, hk, hkx, hkt⟩ := htg i _ (by omega) rfl
              have h2:=h1.2
              rw [hkt] at h2
              simp only [Bool.or_eq_true] at h2
              rcases h2 with h2 | h2
              · have:=hlo k i hk hkx h2
                omega
              · exact ih (by omega) h2 c (by omega) hlo
        exact key X.m (Nat.le_refl _) hrd c hc hlo
      · rename_i hnl
        split at hs
        · -- something of its own
          rename_i s1 v hv
          split at hs
          case h_2=>cases hs
          rename_i k hk hnx
          have hnx:s1.nx=a.nx+1:=Nat.eq_of_beq_eq_true hnx
          injection hs with hs
          subst hs
          have hlow:=aC0 hv
          have hone:∀ b kk,s1.mem.get b=some kk→b=a.nx∧kk=k:=by
            intro b kk hb
            rcases hlow.2.1 b kk hb with ⟨k1,h1⟩ | h1
            · simp only [Tr.get_nil] at h1;cases h1
            · have : b = a.nx := by simp only [hnx] at h1; omega
              subst this
              rw [hk] at hb
              injection hb with hb
              exact ⟨rfl,hb.symm⟩
          have hbd:d.i.o≠.bad:=fun hb=>by rw [hb] at hv;cases hv
          refine ⟨_,h.calm hd (.a s1.mem) v (a.nx+1) _ a.fl (Nat.le_succ _) (by simp) (fun h=>by cases h) (fun h=>by cases h) (fun t ht Γ h1 h2=>?_) (fun p hp=>?_) (fun p hp=>List.mem_cons_of_mem _ hp) (fun t b kk ht hb=>?_) (fun p hp=>hp) (fun h=>by cases h) hanc⟩
          · injection ht with ht
            subst ht
            rw [← hnx]
            exact .of hg hbd ⟨hlow.1,hlow.2.1,hlow.2.2.2⟩ fun o ho=>.eff (by rw [← ho];exact hv)
          · rcases List.mem_cons.1 hp with rfl | hp
            · exact .inr ⟨rfl,s1.mem,rfl,hk,hanc⟩
            · exact .inl hp
          · injection ht with ht
            subst ht
            obtain ⟨rfl,rfl⟩:=hone b kk hb
            exact List.mem_cons_self ..
        · -- a changer
          split at hs
          · cases hs
          rename_i x0 m0 l0 hm
          have hm0:m0=X.mem X.m:=by
            obtain ⟨l1,hl1⟩:=aSH X.tg X.mem X.m
            rw [h.ml,hl1] at hm
            injection hm with hm _
            injection hm with _ hm
            exact hm.symm
          subst hm0
          split at hs
          · cases hs
          rename_i v m' nx' hv
          split at hs
          case h_2=>cases hs
          rename_i fl' hlast hfl
          injection hs with hs
          subst hs
          have hbd:d.i.o≠.bad:=fun hb=>by rw [hb,aXU] at hv;cases hv
          exact ⟨_,h.chg Γ0 hP hn hd v m' nx' fl' (fun Γ h1 h2=>.of (by rw [← hg];exact aUa) hbd (aZF hcall hv) fun o ho=>aTm (by rw [h1];exact hcall) (by rw [← ho];exact hv)) hlast hfl hlt⟩
theorem W.all (hcall:sJ P call) (hok:okD ds an=true) (Γ0:Ctx) (hP:Γ0.P=P) (hn:Γ0.n=n):∀ (l:List D) (j:Nat) (X:Dt) (a a':Ya),(∀ i d,l[i]? = some d→ds[j+i]? = some d)→W P n ds an st0 X j a→aLP call an j l a=some a'→∃ X',W P n ds an st0 X' (j+l.length) a':=by
 intro l
 induction l with
 | nil=>intro j X a a' _ h hs;simp only [aLP] at hs;injection hs with hs;subst hs;exact ⟨X,h⟩
 | cons d l ih =>
  intro j X a a' hl h hs
  simp only [aLP] at hs
  split at hs
  ·rename_i a1 h1
   obtain ⟨X1,hX1⟩:=h.step hcall hok Γ0 hP hn (hl 0 d rfl) h1
   obtain ⟨X2,hX2⟩:=ih (j+1) X1 a1 a' (fun i d' hi=>by have:=hl (i+1) d' (by simpa using hi);rwa [show j+1+i=j+(i+1) by omega]) hX1 hs
   exact ⟨X2,by rw [List.length_cons,show j+(l.length+1)=j+1+l.length by omega];exact hX2⟩
  cases hs
theorem W.zero:W P n ds an st0 ⟨fun _=>.p,fun _=>.any,fun _=>.nil,fun _=>0,fun _=>0,fun _=>st0.mem,fun _=>.nil,fun _=>0,0⟩ 0 ⟨st0.env,st0.nx,[(0,st0.mem)],[],[],0⟩:=
  { e1 := fun q v h => .inr ⟨fun k d hk => by omega, h⟩, e2 := fun k d q v hk => by omega, n0 := Nat.le_refl _, n1 := fun k hk => by omega, n2 := fun k k' h1 h2 => by omega, mem0 := rfl, x1 := fun k i hk => by omega
    x2:=fun i hi=>absurd hi (Nat.not_lt_zero _),x3:=fun k k' i i' h1 h2=>by omega,x4:=fun k k' i i' h1 h2=>by omega,la:=fun k i b hk=>by omega,fP:=fun k d hk=>by omega,fL:=fun k d hk=>by omega
    fA:=fun k d t hk=>by omega,fX:=fun k d i hk=>by omega,pX:=fun k i b kk hk=>by omega,dm:=Dom.refl _ _,ml:=rfl,tg0:=rfl,tgx:=fun k i hk=>by omega
    p1:=fun A b kk hm=>absurd hm List.not_mem_nil,p2:=fun A t b kk hk=>by omega,fl:=fun l d hl=>by omega }
theorem W.draw (hok:okD ds an=true) (Γ0:Ctx) (hP:Γ0.P=P) (hn:Γ0.n=n) (h:W P n ds an st0 X ds.length a):Nonempty (Og P n ds st0 a.fin):=by
  have hlt:∀ {j d},ds[j]? = some d→j<ds.length:=fun hd=>(List.getElem?_eq_some_iff.1 hd).1
  have hget:∀ j,j<ds.length→∃ d,ds[j]? = some d:=fun j hj=>⟨_,List.getElem?_eq_getElem hj⟩
  obtain ⟨l1,hl1⟩:=aSH X.tg X.mem X.m
  have hfin:a.fin=⟨a.env,ovl (X.mem X.m) a.pend,a.nx⟩:=by unfold Ya.fin;rw [h.ml,hl1]
  have hord:∀ j j' k k',j<ds.length→j'<ds.length→X.kind j=.x k→X.kind j'=.x k'→k<k'→j<j':=by
    intro j j' k k' hj hj' hk hk' hkk
    rcases Nat.lt_trichotomy j j' with h1 | h1 | h1
    · exact h1
    · subst h1;rw [hk] at hk';injection hk' with hk';omega
    · have:=h.x3 j' j k' k h1 hj hk' hk;omega
  rw [hfin]
  refine ⟨⟨Anc an, X.kind, X.out, X.re, X.lo, X.hi, X.mem, X.pre, X.m, fun j d k hd hk => bES hok hd hk, fun p hp => bKR hok p hp, fun j k d d' q hd hk h1 h2 => bN2 hok hd hk h1 h2, fun j d q v hd hq => ?_, fun j d hd => ?_, fun j k d d' hd hk hne => ?_, h.n0, h.mem0,
    fun j d k hd hk=>h.x1 j k (hlt hd) hk,fun k hk=>?_,fun j j' d d' k hd hd' h1 h2=>?_,fun j j' d d' k k' hd hd' h1 h2 hkk=>?_,fun j j' A d d' k k' hd hd' h1 h2 hkk hA=>?_,fun j d hd hk=>h.fP j d (hlt hd) hd hk,fun j d hd hk=>?_,fun j d t hd hk=>h.fA j d t (hlt hd) hd hk,fun j d k hd hk=>h.fX j d k (hlt hd) hd hk,
    fun j d k b kk hd hk hb=>?_,fun b kk hb=>?_,fun b kk hb=>?_,fun q v hq=>?_⟩⟩
  · obtain ⟨hsl, h1⟩ := h.e2 j d q v (hlt hd) hd hq
    rcases h1 with ⟨k,d',g1,g2,g3,g4⟩ | ⟨g1,g2⟩
    · left
      refine ⟨k,d',g2,?_,g3,g4⟩
      rcases aZH hok hd hsl g2 g3 with h2 | h2
      · exact h2
      · have:=aUs hok g2 h2;omega
    · right
      refine ⟨fun k d' hk hdk=>?_,g2⟩
      rcases aZH hok hd hsl hk hdk with h2 | h2
      · have:=aUs hok hd h2
        exact absurd hdk (g1 k d' this hk)
      · exact h2
  · exact h.n1 j (hlt hd)
  · rcases Nat.lt_or_gt_of_ne hne with h1 | h1
    · exact .inl (h.n2 j k h1 (hlt hk))
    · exact .inr (h.n2 k j h1 (hlt hd))
  · obtain ⟨j, hj, hjk⟩ := h.x2 k hk
    obtain ⟨d,hd⟩:=hget j hj
    exact ⟨j,d,hd,hjk⟩
  · rcases Nat.lt_trichotomy j j' with g | g | g
    · have:=h.x3 j j' k k g (hlt hd') h1 h2;omega
    · exact g
    · have:=h.x3 j' j k k g (hlt hd) h2 h1;omega
  · exact h.x4 j j' k k' (hord j j' k k' (hlt hd) (hlt hd') h1 h2 hkk) (hlt hd') h1 h2 j (.inl rfl)
  · exact h.x4 j j' k k' (hord j j' k k' (hlt hd) (hlt hd') h1 h2 hkk) (hlt hd') h1 h2 A (.inr hA)
  · obtain ⟨g1, g2, g3⟩ := h.fL j d (hlt hd) hd hk
    refine ⟨g1,fun c hc hlo hhi=>⟨X.out j,fun _ _ h=>h,fun Γ h1 h2=>aPd g1 g2 (g3 c hc (fun k' i hk' hx ha=>?_) fun k' i hk' hx ha=>?_)⟩⟩
    · obtain ⟨d', hd'⟩ := hget k' hk'
      exact hlo k' d' i hd' hx ha
    · obtain ⟨d', hd'⟩ := hget k' hk'
      exact hhi k' d' i hd' hx ha
  · rcases h.pX j k b kk (hlt hd) hk hb with h1 | ⟨A,t,g1,g2,g3,g4,g5⟩
    · exact .inl h1
    · obtain ⟨d', hd'⟩ := hget A g1
      exact .inr ⟨A,d',t,hd',g2,g3,g4,fun j' d'' k' q1 q2 q3=>g5 j' k' (hlt q1) q2 q3⟩
  · rcases aM3 hb with ⟨A, hA⟩ | h1
    · obtain ⟨g1, t, g2, g3, g4⟩ := h.p1 A b kk hA
      obtain ⟨d',hd'⟩:=hget A g1
      have:=h.aRange Γ0 hP hn g1 hd' g2 g3
      have g5:=h.n1 A g1
      exact .inr (by show st0.nx≤b∧b<a.nx;omega)
    · exact h.dm b kk h1
  · rcases aM3 hb with ⟨A, hA⟩ | h1
    · obtain ⟨g1, t, g2, g3, g4⟩ := h.p1 A b kk hA
      obtain ⟨d',hd'⟩:=hget A g1
      exact .inr ⟨A,d',t,hd',g2,g3,fun j' d'' k' q1 q2=>g4 j' k' (hlt q1) q2⟩
    · exact .inl h1
  · rcases h.e1 q v hq with ⟨k, d', g1, g2, g3, g4⟩ | ⟨g1, g2⟩
    · exact .inl ⟨k,d',g2,g3,g4⟩
    · exact .inr ⟨fun k d' hk=>g1 k d' (hlt hk) hk,g2⟩
end
section
variable {Γ:Ctx} {st st':AS} {call:iJ} {a:Act} {w:World}
theorem bBy (hcall:sJ Γ.P call) (hm:Γ.P.follows .mixedOrders=true) {ds:List D} {an:List Nat} (hok:okD ds an=true) (h:evD call ds an st=some st'):F8 Γ (.draw ds) st .normal st':=by
 unfold evD at h
 split at h
 ·rename_i a ha
  injection h with h
  subst h
  obtain ⟨X,hX⟩:=W.all (n:=Γ.n) (st0:=st) hcall hok Γ rfl rfl ds 0 _ _ _ (fun i d hd=>by simpa using hd) W.zero ha
  rw [Nat.zero_add] at hX
  obtain ⟨D⟩:=hX.draw hok Γ rfl rfl
  exact .draw hm D
 cases h
theorem aUA {x:IC} {body:AS→Option (Exit×AS)} (hb:∀ st e st',body st=some (e,st')→F8 Γ x st e st'):∀ {k:Nat} {st:AS} {e:Exit} {st':AS},Nw body k st=some (e,st')→∃ n,aW6 Γ x n st e st':=by
 intro k
 induction k with
 | zero=>intro st e st' h;cases h
 | succ k ih =>
  intro st e st' h
  simp only [Nw] at h
  split at h
  ·cases h
  ·rename_i st1 h1
   obtain ⟨n,hn⟩:=ih h
   exact ⟨n+1,.more (hb _ _ _ h1) hn⟩
  rename_i e1 st1 hne h1
  injection h with h
  obtain ⟨rfl,rfl⟩:=Prod.mk.inj h
  exact ⟨1,.last (hb _ _ _ h1) fun he=>hne he⟩
theorem aDD (hcall:sJ Γ.P call) (hm:Γ.P.follows .mixedOrders=true) (k:Nat):∀ {x:XC} {st:AS} {e:Exit} {st':AS},x.ok=true→I3 call k x st=some (e,st')→F8 Γ x.ic st e st':=by
 intro x
 induction x with
 | skip=>intro st e st' _ h;simp only [I3] at h;injection h with h;obtain ⟨rfl,rfl⟩:=Prod.mk.inj h;exact .skip
 | region l =>
  intro st e st' _ h
  simp only [I3] at h
  split at h
  ·rename_i st1 h1
   injection h with h;obtain ⟨rfl,rfl⟩:=Prod.mk.inj h
   exact .region (bDa hcall h1)
  cases h
 | draw ds an =>
  intro st e st' hok h
  simp only [I3] at h
  split at h
  ·rename_i st1 h1
   injection h with h;obtain ⟨rfl,rfl⟩:=Prod.mk.inj h
   exact bBy hcall hm hok h1
  cases h
 | seq a b iha ihb =>
  intro st e st' hok h
  simp only [XC.ok,Bool.and_eq_true] at hok
  simp only [I3] at h
  split at h
  ·cases h
  ·rename_i st1 h1
   exact .seq (iha hok.1 h1) (ihb hok.2 h)
  rename_i e1 st1 hne h1
  injection h with h
  obtain ⟨rfl,rfl⟩:=Prod.mk.inj h
  exact .seq' (iha hok.1 h1) fun he=>hne he
 | cond c a b iha ihb =>
  intro st e st' hok h
  simp only [XC.ok,Bool.and_eq_true] at hok
  simp only [I3] at h
  split at h
  ·cases h
  ·rename_i hb
   exact .cond (b:=true) hb (iha hok.1 h)
  rename_i hb
  exact .cond (b:=false) hb (ihb hok.2 h)
 | block id b ih =>
  intro st e st' hok h
  simp only [I3] at h
  split at h
  ·cases h
  rename_i e1 st1 h1
  injection h with h
  obtain ⟨rfl,rfl⟩:=Prod.mk.inj h
  exact .block (ih hok h1)
 | loop b ih =>
  intro st e st' hok h
  simp only [I3] at h
  obtain ⟨n,hn⟩:=aUA (x:=b.ic) (fun st e st' h=>ih hok h) h
  exact .loop hn
 | exit id=>intro st e st' _ h;simp only [I3] at h;injection h with h;obtain ⟨rfl,rfl⟩:=Prod.mk.inj h;exact .exit
 | ret=>intro st e st' _ h;simp only [I3] at h;injection h with h;obtain ⟨rfl,rfl⟩:=Prod.mk.inj h;exact .ret
 | bad=>intro st e st' _ h;cases h
theorem bCe:∀ (vs:List AV) (k:Nat) (t:Tr AV) (i:Nat),(K5 k t vs).get i=if i<k then t.get i else match vs[i - k]? with
    | some v=>some v
    | none=>t.get i:=by
  intro vs
  induction vs with
  | nil=>intro k t i;simp [K5]
  | cons v vs ih =>
    intro k t i
    simp only [K5]
    rw [ih,Tr.get_put _ _ _ _ _ (by omega)]
    by_cases h1:i<k
    · rw [if_pos (by omega),if_neg (by omega),if_pos h1]
    · rw [if_neg h1]
      by_cases h2:i=k
      · subst h2
        rw [if_pos (by omega),if_pos rfl]
        simp
      · rw [if_neg (by omega), if_neg (fun h => h2 h.symm)]
        have:i - k=(i - (k+1))+1:=by omega
        rw [this]
        simp
def rrS (tmps:Array Value):ResultVar→Sem Value
 | .tmp t=>pure (tmps.getD t undef)
 | .cell c t=>do loadVar t (← asAddr (tmps.getD c undef))
theorem bGa {P:Program} {ρ:pO} (hΓ:Γ.P=P) (h:mV Γ ρ st a w) {r:ResultVar} {q:RR} {v:AV} (hq:RR.of P r=some q) (hv:aRp st q=some v) :
  ∃ x,(rrS a.tmps r).run P w=.ok x w∧nK (nC ρ) v x:=by
 cases r with
 | tmp t =>
  simp only [RR.of] at hq
  injection hq with hq
  subst hq
  simp only [aRp] at hv
  injection hv with hv
  subst hv
  exact ⟨_,rfl,h.env t⟩
 | cell c t =>
  simp only [RR.of] at hq
  split at hq
  case h_2=>cases hq
  rename_i g s hg hs
  split at hq
  case isFalse=>cases hq
  rename_i hok
  injection hq with hq
  subst hq
  simp only [aRp] at hv
  split at hv
  case h_2=>cases hv
  rename_i b o hb
  split at hv
  case h_2=>cases hv
  rename_i cs hcs
  injection hv with hv
  subst hv
  have hev:=h.env c
  rw [hb] at hev
  obtain ⟨la,hla,hc'⟩:=hev.cInv.ptrInv
  obtain ⟨la1,xs,hla1,hcl,hxl,hcell,hrep,hle⟩:=h.read hcs
  rw [hla1] at hla
  injection hla with hla
  subst hla
  refine ⟨_,?_,aO7 hok hxl hcl hrep⟩
  have:=uO w hg hs hok la1.b (la1.off+o) xs hxl hcell
  simpa [rrS,asAddr,hc'] using this
theorem bH1 {P:Program} {ρ:pO} (hΓ:Γ.P=P) (h:mV Γ ρ st a w):∀ {rs:List ResultVar} {qs:List RR} {vs:List AV},rs.map (RR.of P)=qs.map some→aLV st qs=some vs →
  ∃ xs:List Value,(rs.mapM (rrS a.tmps)).run P w=.ok xs w∧xs.length=vs.length∧∀ (i:Nat) (v:AV),vs[i]? = some v→nK (nC ρ) v (xs.getD i undef):=by
 intro rs
 induction rs with
 | nil =>
  intro qs vs hq hv
  have:qs=[]:=by simpa using hq.symm
  subst this
  simp only [aLV] at hv
  injection hv with hv
  subst hv
  exact ⟨[],by simp,rfl,by simp⟩
 | cons r rs ih =>
  intro qs vs hq hv
  match qs,hq with
  | q::qs,hq =>
   simp only [List.map_cons,List.cons.injEq] at hq
   simp only [aLV] at hv
   split at hv
   case h_1=>cases hv
   rename_i v hv1
   split at hv
   case h_2=>cases hv
   rename_i vs' hv2
   injection hv with hv
   subst hv
   obtain ⟨x,hx1,hx2⟩:=bGa hΓ h hq.1 hv1
   obtain ⟨xs,h1,h2,h3⟩:=ih hq.2 hv2
   refine ⟨x::xs,?_,by simp [h2],fun i v' hi=>?_⟩
   ·simp only [List.mapM_cons,Sem.run_bind,hx1,Result.andThen_ok,h1,Sem.run_pure]
   cases i with
   | zero=>simp at hi;subst hi;simpa using hx2
   | succ i=>simpa using h3 i v' (by simpa using hi)
theorem bCt {P:Program} {ρ:pO} (hΓ:Γ.P=P) (h:mV Γ ρ st a w) {fn:Func} {ts:List RR} {v:AV} (hr:fn.results.toList.map (RR.of P)=ts.map some) (hv:aTd st ts=some v) :
  ∃ x,(results fn a.tmps).run P w=.ok x w∧nK (nC ρ) v x:=by
 unfold aTd at hv
 have key:∀ vs:List AV,aLV st ts=some vs→∃ xs:List Value,(results fn a.tmps).run P w=.ok (if h:xs.toArray.size=1 then xs.toArray[0] else .tuple xs.toArray) w∧xs.length=vs.length∧∀ (i:Nat) (v:AV),vs[i]? = some v→nK (nC ρ) v (xs.getD i undef):=by
  intro vs hvs
  obtain ⟨xs,h1,h2,h3⟩:=bH1 hΓ h hr hvs
  refine ⟨xs,?_,h2,h3⟩
  have hres:fn.results=fn.results.toList.toArray:=by simp
  unfold results
  rw [hres]
  simp only [List.mapM_toArray,Sem.run_bind,Sem.run_map,Sem.run_pure]
  show ((Sem.run P (List.mapM (rrS a.tmps) fn.results.toList) w).andThen fun a w'=>Result.ok a.toArray w').andThen _=_
  exact (congrArg (fun r:Result (List Value)=>(r.andThen fun a w'=>Result.ok a.toArray w').andThen fun a w'=>Result.ok (if h:a.size=1 then a[0] else Value.tuple a) w') h1)
 split at hv
 ·rename_i v1 hvs
  injection hv with hv
  subst hv
  obtain ⟨xs,h1,h2,h3⟩:=key _ hvs
  match xs,h2 with
  | [x],_ =>
   refine ⟨_,h1,?_⟩
   have:=h3 0 v1 rfl
   simpa using this
 ·rename_i vs hne hvs
  injection hv with hv
  subst hv
  obtain ⟨xs,h1,h2,h3⟩:=key _ hvs
  have h4:xs.length≠1:=by
   rw [h2]
   intro h5
   match vs,h5 with
   | [v],_=>exact hne v rfl
  rw [dif_neg (by simpa using h4)] at h1
  exact ⟨_,h1,.tup vs _ (by simpa using h2) fun i v hi=>by simpa [lS] using h3 i v hi⟩
 cases hv
def IC.ofS (P:Program) (n:Nat):Code→IC
 | .scope c=>IC.ofS P n c
 | .seq a b=>.seq (IC.of P n a) (IC.ofS P n b)
 | c=>IC.of P n c
theorem bJH {Γ:Ctx} {call:iJ} (hcall:sJ Γ.P call) (hm:Γ.P.follows .mixedOrders=true) (k:Nat):∀ (code:Code) {x:XC} {st:AS} {e:Exit} {st':AS},IC.ofS Γ.P Γ.n code=x.ic→x.ok=true→I3 call k x st=some (e,st')→(e=.ret∨e=.normal)→st'.nx≤Γ.top →
  ∀ (a:Act) (w:World),Sat Γ st a w→code.wp Γ.P (fun e' a' w'=>e'=e∧Sat Γ st' a' w') a w:=by
 intro code
 induction code with
 | scope c ih =>
  intro x st e st' hc hok hev he ht a w hs
  refine wp_scope_straight (wp_mono (ih hc hok hev he ht a w hs) fun e1 a1 w1 hl=>?_)
  obtain ⟨rfl,h⟩:=hl
  rcases he with rfl | rfl
  ·exact ⟨rfl,h⟩
  exact ⟨rfl,h⟩
 | seq c d _ ih =>
  intro x st e st' hc hok hev he ht a w hs
  simp only [IC.ofS] at hc
  cases x with
  | seq x1 x2 =>
   simp only [XC.ic,IC.seq.injEq] at hc
   obtain ⟨h1,h2⟩:=hc
   simp only [XC.ok,Bool.and_eq_true] at hok
   simp only [I3] at hev
   cases hx:I3 call k x1 st with
   | none=>rw [hx] at hev;cases hev
   | some p =>
    obtain ⟨e1,st1⟩:=p
    rw [hx] at hev
    have s1:=aDD (Γ:=Γ) hcall hm k hok.1 hx
    cases e1 with
    | normal =>
     have s2:=aDD (Γ:=Γ) hcall hm k hok.2 hev
     refine wp_seq (wp_mono (s1.run (Nat.le_trans s2.low.le ht) c h1 a w hs) fun e2 a2 w2 hl=>?_)
     obtain ⟨rfl,hs2⟩:=hl
     exact ih h2 hok.2 hev he ht a2 w2 hs2
    | _ =>
     simp only at hev
     injection hev with hev
     obtain ⟨rfl,rfl⟩:=Prod.mk.inj hev
     refine wp_seq (wp_mono (s1.run ht c h1 a w hs) fun e2 a2 w2 hl=>?_)
     obtain ⟨rfl,hs2⟩:=hl
     exact ⟨rfl,hs2⟩
  | _=>simp [XC.ic] at hc
 | _ =>
  intro x st e st' hc hok hev he ht a w hs
  exact (aDD (Γ:=Γ) hcall hm k hok hev).run ht _ hc a w hs
def lQ (P : Program) (f : Nat) (e : FE) : Prop :=
 ∃ fn code, P.funcs[f]? = some fn ∧ fn.ntmps = e.n ∧ fn.body = some code ∧ (fn.name != "runtime.NumGoroutine") = true ∧ IC.ofS P e.n code = e.x.ic ∧ fn.results.toList.map (RR.of P) = e.ts.map some ∧ e.x.ok = true
def aDP (P:Program) (T:Tr FE):Prop:=∀ f e,T.get f=some e→lQ P f e
theorem aEs {P:Program}:∀ {l:List (Nat×FE)},(∀ p∈l,lQ P p.1 p.2)→aDP P (pM l):=by
 intro l
 induction l with
 | nil=>intro _ f e h;simp only [pM,Tr.get_nil] at h;cases h
 | cons p l ih =>
  intro hl f e h
  simp only [pM] at h
  rw [Tr.get_put _ _ _ _ _ (by omega)] at h
  split at h
  ·rename_i he
   injection h with h
   subst he h
   exact hl p (List.mem_cons_self ..)
  exact ih (fun q hq=>hl q (List.mem_cons_of_mem _ hq)) f e h
theorem aTM {P:Program} (hm:P.follows .mixedOrders=true) {T:Tr FE} (hT:aDP P T) {hand:iJ} (hh:sJ P hand) (k0:Nat):∀ k,sJ P (evF T hand k0 k):=by
 intro k
 induction k with
 | zero=>intro f args mem nx res mem' nx' h;cases h
 | succ k ih =>
  intro f args mem nx res mem' nx' h
  simp only [evF] at h
  split at h
  ·exact hh _ _ _ _ _ _ _ h
  rename_i e he
  split at h
  ·cases h
  rename_i I0
  have I0:args.length≤e.n:=Nat.le_of_ble_eq_true I0
  obtain ⟨fn,code,hf,hn,hb,hname,hic,hr,hok⟩:=hT f e he
  have key:∀ (ex:Exit) (st:AS),(ex=.ret∨ex=.normal)→I3 (evF T hand k0 k) k0 e.x ⟨K5 0 .nil args,mem,nx⟩=some (ex,st)→fin e st=some (res,mem',nx')→bKr P f args mem nx res mem' nx':=by
   intro ex st hex hev hfin
   unfold fin at hfin
   split at hfin
   case h_2=>cases hfin
   rename_i rv hrv
   cases hfin
   have hcs:∀ (K:Nat→Prop) (w0:World) (ρ:pO),F8 ⟨P,w0,K,e.n,ρ,nx,st.nx,[]⟩ e.x.ic ⟨K5 0 .nil args,mem,nx⟩ ex st:=fun K w0 ρ=>aDD (Γ:=⟨P,w0,K,e.n,ρ,nx,st.nx,[]⟩) ih hm k0 hok hev
   refine ⟨(hcs (fun _=>False) default fun _=>none).low,fun K w0 ρ w vs hms hfree hl hrep=>.inl ⟨by unfold callable;rw [hf];simp only [hname,hb];rfl,?_⟩⟩
   let Γ:Ctx:=⟨P,w0,K,e.n,ρ,nx,st.nx,[]⟩
   have hsat:mV Γ ρ ⟨K5 0 .nil args,mem,nx⟩ { tmps:=vs++Array.replicate (fn.ntmps - vs.size) undef,defers:=[] } w:=by
    refine ⟨rfl,by simp [Γ,hn,hl];omega,fun i=>?_,hms,wR.refl _ _,Nat.le_refl _,hfree⟩
    simp only [AS.get,bCe,Nat.not_lt_zero,if_false,Nat.sub_zero,Tr.get_nil]
    cases hi:args[i]? with
    | none=>exact .any _
    | some v =>
     have hlt:i<vs.size:=by rw [hl];exact (List.getElem?_eq_some_iff.1 hi).1
     have h2:(vs++Array.replicate (fn.ntmps - vs.size) undef).getD i undef=vs.getD i undef:=by
      simp [Array.getD_eq_getD_getElem?,Array.getElem?_append,hlt]
     simp only
     rw [h2]
     exact hrep i v hi
   refine calls_of_wp hf hb (wp_mono (bJH (Γ:=Γ) ih hm k0 code hic hok hev hex (Nat.le_refl _) _ _ ⟨ρ,hsat⟩) fun e' a w' hl=>?_)
   obtain ⟨rfl,ρ',hs'⟩:=hl
   obtain ⟨x,hx1,hx2⟩:=bCt (Γ:=Γ) rfl hs' hr hrv
   have hpost:a.defers=[]∧∃ v,(results fn a.tmps).run P w'=.ok v w'∧∃ x ρ',(Ending.returned v)=.returned x∧wR ρ nx st.nx ρ'∧zO K w0 ρ' st.mem.m w'∧nK (nC ρ') res x:=
    ⟨hs'.defers,x,hx1,_,ρ',rfl,hs'.base,hs'.m,hx2⟩
   rcases hex with rfl | rfl
   ·exact hpost
   exact hpost
  split at h
  ·rename_i st h1
   exact key _ _ (.inl rfl) h1 h
  ·rename_i st h1
   exact key _ _ (.inr rfl) h1 h
  cases h
end
open Go.RowKit
open Go.Eng (Od need need_pos iU mR binV)
abbrev Rs:=Option (AV×Tr jX×Nat)
abbrev Kv:=AV→Tr jX→Nat→Rs
abbrev zT:=Nat→List AV→Tr jX→Nat→Kv→Rs
abbrev Hd:=zT→Tr AV→Tr jX→Nat→Kv→Rs
def aft (r:Option (AV×Tr jX×Nat)) (k:Kv):Rs:=match r with
 | some (v,m,n)=>k v m n
 | none=>none
def IsK (ck:zT) (c:iJ):Prop:=∀ f args mem nx k,ck f args mem nx k=aft (c f args mem nx) k
noncomputable def wE (n:Nat) (k:Nat→Rs):Rs:=@Nat.rec (fun _=>Rs) (k Nat.zero) (fun m _=>k (Nat.succ m)) n
theorem Bm (n:Nat) (k:Nat→Rs):wE n k=k n:=by cases n<;>rfl
noncomputable def aSV (env:Tr AV):Nat→(AV→Rs)→Rs:=@Tr.rec AV (fun _=>Nat→(AV→Rs)→Rs) (fun _ k=>k .any)
 (fun v l r gl gr i k=>@Nat.rec (fun _=>Rs) (@Option.rec AV (fun _=>Rs) (k .any) k v) (fun i _=>@Bool.rec (fun _=>Rs) (gr (Nat.div i 2) k) (gl (Nat.div i 2) k) (Nat.beq (Nat.mod i 2) 0)) i) env
theorem O9:∀ (env:Tr AV) (i:Nat) (k:AV→Rs),aSV env i k=(match env.get i with | some v=>k v | none=>k .any):=by
 intro env
 induction env with
 | nil=>intro i k;rw [Tr.get_nil];rfl
 | node v l r ihl ihr =>
  intro i k
  cases i with
  | zero =>
   show @Option.rec AV (fun _=>Rs) (k .any) k v=_
   cases v<;>rfl
  | succ i =>
   show @Bool.rec (fun _=>Rs) (aSV r (i / 2) k) (aSV l (i / 2) k) (Nat.beq (i % 2) 0)=_
   simp only [Tr.get]
   cases Nat.beq (i % 2) 0
   ·exact ihr ..
   exact ihl ..
def bO9 (v:Value) (k:AV→Rs):Rs:=match v with
 | .int kd n=>k (.c (.v (.int kd n)))
 | v=>k (avk v)
noncomputable def evK (env:Tr AV) (x:Od):(AV→Rs)→Rs:=@Od.rec (fun _=>(AV→Rs)→Rs) (aSV env) bO9 (fun f k=>k (.c (.fn f [] []))) (fun k=>k .any) x
theorem Bo (env:Tr AV) (mem:Tr jX) (nx:Nat) (x:Od) (k:AV→Rs):evK env x k=k ((⟨env,mem,nx⟩:AS).ev x):=by
 cases x with
 | t i =>
  show aSV env i k=_
  rw [O9]
  simp only [AS.ev,AS.get]
  cases env.get i<;>rfl
 | k v=>cases v<;>rfl
 | f f=>rfl
 | bad=>rfl
noncomputable def bGQ (env:Tr AV) (l:List Od):(List AV→Rs)→Rs:=@List.rec Od (fun _=>(List AV→Rs)→Rs) (fun k=>k []) (fun x _ ih k=>evK env x fun v=>ih fun vs=>k (v::vs)) l
theorem bK4 (env:Tr AV) (mem:Tr jX) (nx:Nat):∀ (xs:List Od) (k:List AV→Rs),bGQ env xs k=k (xs.map (⟨env,mem,nx⟩:AS).ev):=by
 intro xs
 induction xs with
 | nil=>intro k;rfl
 | cons x xs ih =>
  intro k
  show evK env x (fun v=>bGQ env xs fun vs=>k (v::vs))=_
  rw [Bo env mem nx,ih]
  rfl
noncomputable def aLR {α:Type} (v:Option α) (n:Nat):Tr α→Nat→(Tr α→Rs)→Rs:=@Nat.rec (fun _=>Tr α→Nat→(Tr α→Rs)→Rs) (fun t _ K=>K t)
  (fun _ ih t k K => @Tr.rec α (fun _ => Rs)
    (@Nat.rec (fun _=>Rs) (K (.node v .nil .nil)) (fun k _=>@Bool.rec (fun _=>Rs) (ih .nil (Nat.div k 2) fun r=>K (.node none .nil r)) (ih .nil (Nat.div k 2) fun l=>K (.node none l .nil)) (Nat.beq (Nat.mod k 2) 0)) k)
    (fun x l r _ _=>@Nat.rec (fun _=>Rs) (K (.node v l r)) (fun k _=>@Bool.rec (fun _=>Rs) (ih r (Nat.div k 2) fun r=>K (.node x l r)) (ih l (Nat.div k 2) fun l=>K (.node x l r)) (Nat.beq (Nat.mod k 2) 0)) k) t) n
theorem aFr {α:Type} (v:Option α):∀ (n:Nat) (t:Tr α) (k:Nat) (K:Tr α→Rs),aLR v n t k K=K (Tr.put n t k v):=by
 intro n
 induction n with
 | zero=>intro t k K;rfl
 | succ n ih =>
  intro t k K
  cases t with
  | nil =>
   cases k with
   | zero=>rfl
   | succ k =>
    show @Bool.rec (fun _=>Rs) (aLR v n .nil (k / 2) fun r=>K (.node none .nil r)) (aLR v n .nil (k / 2) fun l=>K (.node none l .nil)) (Nat.beq (k % 2) 0)=_
    simp only [Tr.put]
    cases Nat.beq (k % 2) 0<;>simp only [ih]
  | node x l r =>
   cases k with
   | zero=>rfl
   | succ k =>
    show @Bool.rec (fun _=>Rs) (aLR v n r (k / 2) fun r=>K (.node x l r)) (aLR v n l (k / 2) fun l=>K (.node x l r)) (Nat.beq (k % 2) 0)=_
    simp only [Tr.put]
    cases Nat.beq (k % 2) 0<;>simp only [ih]
noncomputable def kc (k:IntKind):Nat:=@IntKind.rec (fun _=>Nat) 0 1 2 3 4 5 6 7 k
theorem bRd {a b:IntKind} (h:Nat.beq (kc a) (kc b)=true):a=b:=by
 have:=Nat.eq_of_beq_eq_true h
 cases a<;>cases b<;>first | rfl | (simp [kc] at this)
noncomputable def top (k:IntKind):Nat:=@IntKind.rec (fun _=>Nat) 128 32768 2147483648 9223372036854775808 256 65536 4294967296 18446744073709551616 k
noncomputable def bTA (k:IntKind) (a b:Rs):Rs:=@IntKind.rec (fun _=>Rs) a a a a b b b b k
theorem bJ3 (k:IntKind) (a b:Rs):bTA k a b=(match k.signed with | true=>a | false=>b):=by cases k<;>rfl
noncomputable def ifK (c:Bool) (a b:Rs):Rs:=@Bool.rec (fun _=>Rs) b a c
theorem bHT {k:IntKind} {n:Nat} (h:n<top k):k.wrap (Int.ofNat n)=Int.ofNat n:=by
 cases k<;>simp [IntKind.wrap,IntKind.bits,IntKind.signed,top] at *<;>omega
theorem bPN {k:IntKind} {n:Nat} (h:k.signed=false):k.wrap (Int.ofNat n)=Int.ofNat (n % top k):=by
 cases k<;>simp [IntKind.wrap,IntKind.bits,IntKind.signed,top] at *
noncomputable def V2 (kd:IntKind) (n:Nat) (slow:Rs) (k:Value→Rs):Rs:=bTA kd
 (@Bool.rec (fun _=>Rs) (wE n fun c=>k (.int kd (.ofNat c))) slow (Nat.ble (top kd) n))
 (wE (Nat.mod n (top kd)) fun c=>k (.int kd (.ofNat c)))
theorem aBH {kd:IntKind} {n:Nat} {slow:Rs} {k:Value→Rs} (h:slow=k (.int kd (kd.wrap (Int.ofNat n)))):V2 kd n slow k=slow:=by
  unfold V2
  rw [bJ3]
  split
  · cases h1:Nat.ble (top kd) n with
    | true=>rfl
    | false =>
      show wE n (fun c=>k (.int kd (.ofNat c)))=_
      rw [Bm, h, bHT (by
        have:¬ top kd≤n:=fun h2=>by rw [Nat.ble_eq_true_of_le h2] at h1;cases h1
        omega)]
  · rename_i h1
    rw [Bm,h,bPN h1]
    rfl
noncomputable def yn (b:Bool) (k:Value→Rs):Rs:=@Bool.rec (fun _=>Rs) (k (.bool false)) (k (.bool true)) b
theorem aTG (b:Bool) (k:Value→Rs):yn b k=k (.bool b):=by cases b<;>rfl
abbrev NK':=IntKind→Nat→Nat→Rs→(Value→Rs)→Rs
noncomputable def cBl:NK':=fun kd a b slow k=>V2 kd (Nat.add a b) slow k
noncomputable def bWp:NK':=fun kd a b slow k=>ifK (Nat.ble b a) (V2 kd (Nat.sub a b) slow k) slow
noncomputable def bYf:NK':=fun kd a b slow k=>V2 kd (Nat.mul a b) slow k
noncomputable def bUm:NK':=fun kd a b slow k=>@Nat.rec (fun _=>Rs) slow (fun b _=>V2 kd (Nat.div a (Nat.succ b)) slow k) b
noncomputable def bYt:NK':=fun kd a b slow k=>@Nat.rec (fun _=>Rs) slow (fun b _=>wE (Nat.mod a (Nat.succ b)) fun c=>k (.int kd (.ofNat c))) b
noncomputable def bYT:NK':=fun kd a b slow k=>ifK (Nat.ble b kd.bits) (wE (Nat.div a (Nat.pow 2 b)) fun c=>k (.int kd (.ofNat c))) slow
noncomputable def cDf:NK':=fun kd a b slow k=>yn (Nat.beq a b) k
noncomputable def bUM:NK':=fun kd a b slow k=>@Bool.rec (fun _=>Rs) (k (.bool true)) (k (.bool false)) (Nat.beq a b)
noncomputable def bZn:NK':=fun kd a b slow k=>yn (Nat.ble (Nat.succ a) b) k
noncomputable def cBc:NK':=fun kd a b slow k=>yn (Nat.ble a b) k
noncomputable def bUF:NK':=fun kd a b slow k=>yn (Nat.ble (Nat.succ b) a) k
noncomputable def cBM:NK':=fun kd a b slow k=>yn (Nat.ble b a) k
noncomputable def aVI:NK':=fun kd a b slow k=>slow
noncomputable def bGY (op:BinOp):NK':=@BinOp.rec (fun _=>NK') cBl bWp bYf bUm bYt aVI aVI aVI aVI bYT aVI cDf bUM bZn cBc bUF cBM op
theorem bIo (op : BinOp) (kd : IntKind) (a b : Nat) (slow : Rs) (k : Value → Rs) : bGY op kd a b slow k = (match op with
  | .add=>V2 kd (Nat.add a b) slow k
  | .sub=>ifK (Nat.ble b a) (V2 kd (Nat.sub a b) slow k) slow
  | .mul=>V2 kd (Nat.mul a b) slow k
  | .quo=>@Nat.rec (fun _=>Rs) slow (fun b _=>V2 kd (Nat.div a (Nat.succ b)) slow k) b
  | .rem=>@Nat.rec (fun _=>Rs) slow (fun b _=>wE (Nat.mod a (Nat.succ b)) fun c=>k (.int kd (.ofNat c))) b
  | .shr=>ifK (Nat.ble b kd.bits) (wE (Nat.div a (Nat.pow 2 b)) fun c=>k (.int kd (.ofNat c))) slow
  | .eql=>yn (Nat.beq a b) k
  | .neq=>yn (not (Nat.beq a b)) k
  | .lss=>yn (Nat.blt a b) k
  | .leq=>yn (Nat.ble a b) k
  | .gtr=>yn (Nat.blt b a) k
  | .geq=>yn (Nat.ble b a) k
  | _=>slow):=by
  cases op
  case neq =>
    show @Bool.rec (fun _=>Rs) (k (.bool true)) (k (.bool false)) (Nat.beq a b)=yn (not (Nat.beq a b)) k
    cases Nat.beq a b<;>rfl
  all_goals rfl
def sB (op:BinOp) (u v:Value) (k:Value→Rs):Rs:=match pC op u v with
 | some r=>k r
 | none=>none
theorem bMh (a b:Nat):(Int.ofNat a == Int.ofNat b)=Nat.beq a b:=by
 rw [Bool.eq_iff_iff];simp;omega
theorem bMW (a b:Nat):decide (Int.ofNat a<Int.ofNat b)=Nat.blt a b:=by
 rw [Bool.eq_iff_iff];simp
theorem bMI (a b:Nat):decide (Int.ofNat a≤Int.ofNat b)=Nat.ble a b:=by
 rw [Bool.eq_iff_iff];simp
theorem bKo (op:BinOp) (kd:IntKind) (a b:Nat) (k:Value→Rs):bGY op kd a b (sB op (.int kd (.ofNat a)) (.int kd (.ofNat b)) k) k=sB op (.int kd (.ofNat a)) (.int kd (.ofNat b)) k:=by
 cases op<;>simp only [bIo,sB,pC,binV,need,true_and,if_true,↓reduceIte]
 case add=>exact aBH rfl
 case sub =>
  cases h:Nat.ble b a with
  | true =>
   have h:=Nat.le_of_ble_eq_true h
   refine aBH ?_
   show _=k (.int kd (kd.wrap (Int.ofNat (a - b))))
   rw [show Int.ofNat (a - b)=Int.ofNat a - Int.ofNat b by simp;omega]
  | false=>rfl
 case mul=>exact aBH rfl
 case quo =>
  cases b with
  | zero=>rfl
  | succ b =>
   rw [if_pos (by simp;omega)]
   refine aBH ?_
   rfl
 case rem =>
  cases b with
  | zero=>rfl
  | succ b =>
   rw [if_pos (by simp;omega)]
   show wE (a % (b+1)) (fun c=>k (.int kd (.ofNat c)))=_
   rw [Bm]
   rfl
 case shr =>
  rw [if_pos (by simp)]
  cases h:Nat.ble b kd.bits with
  | true =>
    have h:=Nat.le_of_ble_eq_true h
    show wE (Nat.div a (Nat.pow 2 b)) (fun c=>k (.int kd (.ofNat c)))=_
    rw [Bm]
    show k (.int kd (Int.ofNat (a / 2 ^ b)))=k (.int kd ((Int.ofNat a).fdiv (2 ^ min b kd.bits)))
    rw [Nat.min_eq_left h]
    rw [Int.fdiv_eq_ediv_of_nonneg _ (by exact Int.le_of_lt (Int.pow_pos (by omega)))]
    simp
  | false=>rfl
 case eql=>rw [aTG,bMh]
 case neq=>rw [aTG];simp only [bne,bMh]
 case lss=>rw [aTG,bMW]
 case leq=>rw [aTG,bMI]
 case gtr=>rw [aTG,← bMW]
 case geq=>rw [aTG,← bMI]
noncomputable def valR (v:Value) (fb:Bool→Rs) (f:IntKind→Int→Rs) (s:Rs):Rs:=@Value.rec (fun _=>Rs) (fun _=>Rs) (fun _=>Rs) fb f
 (fun _ _=>s) (fun _ _ _=>s) (fun _=>s) (fun _=>s) (fun _ _ _=>s) (fun _=>s) (fun _=>s) (fun _ _ _ _ _=>s) s (fun _ _ _=>s) s (fun _ _=>s) (fun _ _=>s) (fun _ _=>s) s (fun _ _ _ _=>s) v
noncomputable def cR (c:C) (fv:Value→Rs) (fp:Nat→Nat→Rs) (fs:Nat→Nat→Nat→Nat→Rs) (s:Rs):Rs:=@C.rec (fun _=>Rs) (fun _=>Rs) (fun _=>Rs) (fun _=>Rs) s fv fp fs
 (fun _ _ _ _ _=>s) (fun _=>s) s s (fun _ _ _ _=>s) (fun _ _ _=>s) s (fun _ _ _ _=>s) c
noncomputable def aR (u:AV) (f:C→Rs) (fa:List C→Rs) (ft:List AV→Rs) (s:Rs):Rs:=@AV.rec (fun _=>Rs) (fun _=>Rs) s f fa (fun l _=>ft l) s (fun _ _ _ _=>s) u
noncomputable def cK (u:AV) (f:C→Rs) (s:Rs):Rs:=@AV.rec (fun _=>Rs) (fun _=>Rs) s f (fun _=>s) (fun _ _=>s) s (fun _ _ _ _=>s) u
noncomputable def K4 (u:AV) (f:IntKind→Nat→Rs) (s:Rs):Rs:=cK u (fun c=>cR c (fun x=>valR x (fun _=>s) (fun kd n=>@Int.rec (fun _=>Rs) (f kd) (fun _=>s) n) s) (fun _ _=>s) (fun _ _ _ _=>s) s) s
theorem Oe (u:AV) (f:IntKind→Nat→Rs) (s:Rs):(∃ kd a,u=.c (.v (.int kd (.ofNat a)))∧K4 u f s=f kd a)∨K4 u f s=s:=by
 cases u with
 | c c =>
  cases c with
  | v x =>
   cases x with
   | int kd n =>
    cases n with
    | ofNat n=>exact .inl ⟨_,_,rfl,rfl⟩
    | negSucc n=>exact .inr rfl
   | _=>exact .inr rfl
  | _=>exact .inr rfl
 | _=>exact .inr rfl
def sA (op:BinOp) (u v:AV) (k:Value→Rs):Rs:=match u.val?,v.val? with
 | some u,some v=>sB op u v k
 | _,_=>none
noncomputable def bK6 (op : BinOp) (u w : AV) (k : Value → Rs) : Rs := K4 u (fun kd a => K4 w (fun kd' b => match Nat.beq (kc kd) (kc kd') with
    | true=>bGY op kd a b (sB op (.int kd (.ofNat a)) (.int kd (.ofNat b)) k) k
    | false=>sA op u w k) (sA op u w k)) (sA op u w k)
theorem bK8 (op:BinOp) (u w:AV) (k:Value→Rs):bK6 op u w k=sA op u w k:=by
  unfold bK6
  rcases Oe u (fun kd a => K4 w (fun kd' b => match Nat.beq (kc kd) (kc kd') with
    | true=>bGY op kd a b (sB op (.int kd (.ofNat a)) (.int kd (.ofNat b)) k) k
    | false=>sA op u w k) (sA op u w k)) (sA op u w k) with ⟨kd,a,rfl,h⟩ | h
  · rw [h]
    rcases Oe w (fun kd' b => match Nat.beq (kc kd) (kc kd') with
      | true=>bGY op kd a b (sB op (.int kd (.ofNat a)) (.int kd (.ofNat b)) k) k
      | false=>sA op (.c (.v (.int kd (.ofNat a)))) w k) (sA op (.c (.v (.int kd (.ofNat a)))) w k) with ⟨kd',b,rfl,h⟩ | h
    · rw [h]
      split
      · rename_i h1
        have:=bRd h1
        subst this
        rw [bKo]
        rfl
      · rfl
    · exact h
  · exact h
open Go.RowKit
open Go.Eng (Od need need_pos iU mR binV)
noncomputable def aZJ (n:Nat):List C→(List C→Rs)→Rs:=@Nat.rec (fun _=>List C→(List C→Rs)→Rs) (fun _ K=>K [])
 (fun _ ih cs K=>@List.rec C (fun _=>Rs) none (fun c cs _=>ih cs fun l=>K (c::l)) cs) n
theorem bGg:∀ (n:Nat) (cs:List C) (K:List C→Rs),aZJ n cs K=if n≤cs.length then K (cs.take n) else none:=by
 intro n
 induction n with
 | zero=>intro cs K;simp only [Nat.zero_le,if_true,List.take_zero];rfl
 | succ n ih =>
  intro cs K
  cases cs with
  | nil=>rw [if_neg (by simp)];rfl
  | cons c cs =>
   show aZJ n cs (fun l=>K (c::l))=_
   simp only [ih,List.length_cons,Nat.add_le_add_iff_right,List.take_succ_cons]
noncomputable def aTI (o:Nat) (cs:List C) (n:Nat) (K:List C→Rs):Rs:=@Nat.rec (fun _=>List C→Rs) (fun cs=>aZJ n cs K)
 (fun _ ih cs=>@List.rec C (fun _=>Rs) none (fun _ cs _=>ih cs) cs) o cs
theorem aWo (n:Nat) (K:List C→Rs):∀ (o:Nat) (cs:List C),aTI o cs n K=if o+n≤cs.length then K ((cs.drop o).take n) else none:=by
 intro o
 induction o with
 | zero =>
  intro cs
  show aZJ n cs K=_
  simp [bGg]
 | succ o ih =>
  intro cs
  cases cs with
  | nil=>rw [if_neg (by simp)];rfl
  | cons c cs =>
   show aTI o cs n K=_
   simp only [ih,List.length_cons,List.drop_succ_cons]
   by_cases g:o+n≤cs.length
   ·rw [if_pos g,if_pos (by omega)]
   rw [if_neg g,if_neg (by omega)]
noncomputable def aYL (ds:List C):List C→(List C→Rs)→Rs:=@List.rec C (fun _=>List C→(List C→Rs)→Rs) (fun cs K=>K cs)
 (fun d _ ih cs K=>@List.rec C (fun _=>Rs) none (fun _ cs _=>ih cs fun l=>K (d::l)) cs) ds
theorem bFa:∀ (ds cs:List C) (K:List C→Rs),aYL ds cs K=if ds.length≤cs.length then K (ds++cs.drop ds.length) else none:=by
 intro ds
 induction ds with
 | nil=>intro cs K;simp only [List.length_nil,Nat.zero_le,if_true,List.drop_zero,List.nil_append];rfl
 | cons d ds ih =>
  intro cs K
  cases cs with
  | nil=>rw [if_neg (by simp)];rfl
  | cons c cs =>
   show aYL ds cs (fun l=>K (d::l))=_
   simp only [ih,List.length_cons,Nat.add_le_add_iff_right,List.drop_succ_cons,List.cons_append]
noncomputable def bB4 (o:Nat) (cs ds:List C) (K:List C→Rs):Rs:=@Nat.rec (fun _=>List C→(List C→Rs)→Rs) (fun cs K=>aYL ds cs K)
 (fun _ ih cs K=>@List.rec C (fun _=>Rs) none (fun c cs _=>ih cs fun l=>K (c::l)) cs) o cs K
theorem aUR (ds:List C):∀ (o:Nat) (cs:List C) (K:List C→Rs),bB4 o cs ds K=if o+ds.length≤cs.length then K (mR cs o ds) else none:=by
 intro o
 induction o with
 | zero =>
  intro cs K
  show aYL ds cs K=_
  simp [bFa,mR]
 | succ o ih =>
  intro cs K
  cases cs with
  | nil=>rw [if_neg (by simp)];rfl
  | cons c cs =>
   show bB4 o cs ds (fun l=>K (c::l))=_
   simp only [ih,List.length_cons]
   have e:mR (c::cs) (o+1) ds=c::mR cs o ds:=by simp [mR,show o+1+ds.length=(o+ds.length)+1 by omega]
   by_cases g:o+ds.length≤cs.length
   ·rw [if_pos g,if_pos (by omega),e]
   rw [if_neg g,if_neg (by omega)]
noncomputable def mkK (agg:Bool) (l:List C) (k:AV→Rs):Rs:=@Bool.rec (fun _=>Rs)
 (@List.rec C (fun _=>Rs) (k .any) (fun c r _=>@List.rec C (fun _=>Rs) (k (.c c)) (fun _ _ _=>k .any) r) l) (k (.agg l)) agg
theorem bF8 (agg:Bool) (l:List C) (k:AV→Rs):mkK agg l k=k (Ek agg l):=by
 cases agg with
 | true=>rfl
 | false =>
  match l with
  | []=>rfl
  | [c]=>rfl
  | c::d::r=>rfl
noncomputable def aJe (v:AV) (k:List C→Rs):Rs:=aR v (fun x=>k [x]) k (fun _=>none) none
theorem aCC (v:AV) (k:List C→Rs):aJe v k=(match v.cells? with | some cs=>k cs | none=>none):=by
 cases v<;>rfl
noncomputable def aUM (v:AV) (k:Nat→Nat→Rs):Rs:=cK v (fun c=>cR c (fun _=>none) k (fun _ _ _ _=>none) none) none
theorem aO9 (b o:Nat) (k:Nat→Nat→Rs):aUM (.c (.ptr b o)) k=k b o:=rfl
noncomputable def bST (x:jX) (k:Nat→List C→Rs):Rs:=@jX.casesOn (fun _=>Rs) x k (fun _=>none) (fun _ _=>none) (fun _ _=>none)
noncomputable def bF6 (mem:Tr jX) (b:Nat) (k:Nat→List C→Rs):Rs:=@Tr.rec jX (fun _=>Nat→Rs) (fun _=>none)
 (fun v l r gl gr i=>@Nat.rec (fun _=>Rs) (@Option.rec jX (fun _=>Rs) none (fun x=>bST x k) v) (fun i _=>@Bool.rec (fun _=>Rs) (gr (Nat.div i 2)) (gl (Nat.div i 2)) (Nat.beq (Nat.mod i 2) 0)) i) mem b
theorem bKp (k:Nat→List C→Rs):∀ (mem:Tr jX) (b:Nat),bF6 mem b k=(match mem.get b with | some x=>(match x with | .cells ty cs=>k ty cs | _=>none) | none=>none):=by
 intro env
 induction env with
 | nil=>intro i;rw [Tr.get_nil];rfl
 | node v l r ihl ihr =>
  intro i
  cases i with
  | zero =>
   show @Option.rec jX (fun _=>Rs) none (fun x=>bST x k) v=_
   cases v with
   | none=>rfl
   | some x=>cases x<;>rfl
  | succ i =>
   show @Bool.rec (fun _=>Rs) (bF6 r (i / 2) k) (bF6 l (i / 2) k) (Nat.beq (i % 2) 0)=_
   simp only [Tr.get]
   cases Nat.beq (i % 2) 0
   ·exact ihr ..
   exact ihl ..
noncomputable def bRL (x:jX) (k:Nat→List C→Rs):Rs:=@jX.casesOn (fun _=>Rs) x k (fun cs=>k 0 cs) (fun _ _=>none) (fun _ _=>none)
noncomputable def aW0 (mem:Tr jX) (b:Nat) (k:Nat→List C→Rs):Rs:=@Tr.rec jX (fun _=>Nat→Rs) (fun _=>none)
 (fun v l r gl gr i=>@Nat.rec (fun _=>Rs) (@Option.rec jX (fun _=>Rs) none (fun x=>bRL x k) v) (fun i _=>@Bool.rec (fun _=>Rs) (gr (Nat.div i 2)) (gl (Nat.div i 2)) (Nat.beq (Nat.mod i 2) 0)) i) mem b
theorem aZv (k:Nat→List C→Rs):∀ (mem:Tr jX) (b:Nat),aW0 mem b k=(match mem.get b with | some x=>(match x with | .cells ty cs=>k ty cs | .ro cs=>k 0 cs | _=>none) | none=>none):=by
 intro env
 induction env with
 | nil=>intro i;rw [Tr.get_nil];rfl
 | node v l r ihl ihr =>
  intro i
  cases i with
  | zero =>
   show @Option.rec jX (fun _=>Rs) none (fun x=>bRL x k) v=_
   cases v with
   | none=>rfl
   | some x=>cases x<;>rfl
  | succ i =>
   show @Bool.rec (fun _=>Rs) (aW0 r (i / 2) k) (aW0 l (i / 2) k) (Nat.beq (i % 2) 0)=_
   simp only [Tr.get]
   cases Nat.beq (i % 2) 0
   ·exact ihr ..
   exact ihl ..
noncomputable def bB9 (l:List Value):(List C→Rs)→Rs:=@List.rec Value (fun _=>(List C→Rs)→Rs) (fun k=>k []) (fun v _ ih k=>ih fun l=>k (.v v::l)) l
theorem aNf:∀ (vs:List Value) (k:List C→Rs),bB9 vs k=k (vs.map fun v=>.v v):=by
 intro vs
 induction vs with
 | nil=>intro k;rfl
 | cons v vs ih =>
  intro k
  show bB9 vs (fun l=>k (.v v::l))=_
  rw [ih]
  rfl
noncomputable def bBb (mem:Tr jX) (nx:Nat) (x:jX) (k:Tr jX→Nat→Rs):Rs:=aLR (some x) (Nat.succ nx) mem nx fun mem'=>wE (Nat.succ nx) fun nx'=>k mem' nx'
theorem aM1 (env:Tr AV) (mem:Tr jX) (nx:Nat) (x:jX) (k:Tr jX→Nat→Rs):bBb mem nx x k=k ((⟨env,mem,nx⟩:AS).new x).mem ((⟨env,mem,nx⟩:AS).new x).nx:=by
 simp only [bBb,aFr,Bm];rfl
noncomputable def bAO (env:Tr AV):List C→List (Nat×Nat×Od)→(List C→Rs)→Rs
 | cs,[],k=>k cs
 | cs,p::r,k=>match p with
  | (off,size,x)=>evK env x fun v=>aJe v fun ds=>match Nat.beq ds.length size with
   | true=>bB4 off cs ds fun cs'=>bAO env cs' r k
   | false=>none
theorem bGD (env:Tr AV) (mem:Tr jX) (nx:Nat):∀ (r:List (Nat×Nat×Od)) (cs:List C) (k:List C→Rs),bAO env cs r k=(match Ko ⟨env,mem,nx⟩ cs r with | some l=>k l | none=>none):=by
 intro r
 induction r with
 | nil=>intro cs k;rfl
 | cons p r ih =>
  obtain ⟨off,size,x⟩:=p
  intro cs k
  simp only [bAO,Ko,Bo env mem nx,aCC]
  cases ((⟨env,mem,nx⟩:AS).ev x).cells? with
  | none=>rfl
  | some ds =>
   simp only
   split
   ·rename_i h
    have h:=Nat.eq_of_beq_eq_true h
    rw [aUR,h,need]
    by_cases g:off+size≤cs.length
    ·rw [if_pos g,if_pos ⟨rfl,g⟩,ih]
    rw [if_neg g,if_neg (fun h=>g h.2)]
   rename_i h
   rw [need,if_neg (fun g=>by rw [g.1,Nat.beq_refl] at h;cases h)]
noncomputable def aUI (env:Tr AV) (size:Nat):List C→List (Nat×Od)→(List C→Rs)→Rs
 | cs,[],k=>k cs
 | cs,p::r,k=>match p with
  | (j,x)=>evK env x fun v=>aJe v fun ds=>match Nat.beq ds.length size with
   | true=>bB4 (Nat.mul j size) cs ds fun cs'=>aUI env size cs' r k
   | false=>none
def Q1 (h:Hd) (o:mK):Prop:=∀ ck c,IsK ck c→∀ env mem nx k,h ck env mem nx k=aft (Io c o ⟨env,mem,nx⟩) k
def fG (o:mK):Hd:=fun _ env mem nx k=>match dK o ⟨env,mem,nx⟩ with
 | some v=>k v mem nx
 | none=>match eP o ⟨env,mem,nx⟩ with
  | some (st',v)=>k v st'.mem st'.nx
  | none=>none
theorem M6 {o:mK} (h:∀ st,callee st o=none):Q1 (fG o) o:=by
 intro ck c hc env mem nx k
 simp only [fG,Io,h]
 cases dK o ⟨env,mem,nx⟩ with
 | some v=>rfl
 | none =>
  cases eP o ⟨env,mem,nx⟩ with
  | some p=>rfl
  | none=>rfl
noncomputable def fMv (x:Od):Hd:=fun _ env mem nx k=>evK env x fun v=>k v mem nx
theorem bOZ (x:Od):Q1 (fMv x) (.mv x):=by
 intro ck c hc env mem nx k
 simp only [fMv,Bo env mem nx]
 rfl
noncomputable def bFM (op:BinOp) (x y:Od):Hd:=fun _ env mem nx k=>evK env x fun u=>evK env y fun w=>bK6 op u w fun r=>k (.c (.v r)) mem nx
theorem bJx (op:BinOp) (x y:Od):Q1 (bFM op x y) (.bin op x y):=by
 intro ck c hc env mem nx k
 simp only [bFM,Bo env mem nx,bK8,sA,Io,callee,dK,eP]
 cases ((⟨env,mem,nx⟩:AS).ev x).val? with
 | none=>rfl
 | some u =>
  cases ((⟨env,mem,nx⟩:AS).ev y).val? with
  | none=>rfl
  | some v =>
   simp only [sB]
   cases pC op u v<;>rfl
noncomputable def aVn (agg:Bool) (size:Nat) (x:Od):Hd:=fun _ env mem nx k=>evK env x fun u=>aUM u fun b o=>aW0 mem b fun _ cs=>aTI o cs size fun l=>mkK agg l fun v=>k v mem nx
theorem bDO (agg:Bool) (size:Nat) (x:Od):Q1 (aVn agg size x) (.load agg size x):=by
 intro ck c hc env mem nx k
 simp only [aVn,Bo env mem nx,Io,callee,dK,eP,aWo,bF8,AS.read,AS.blk]
 cases (⟨env,mem,nx⟩:AS).ev x with
 | any=>rfl
 | agg l=>rfl
 | tup l=>rfl
 | c u =>
  cases u with
  | ptr b o =>
   simp only [aO9,aZv]
   cases mem.get b with
   | none=>rfl
   | some kk =>
    cases kk with
    | cells ty cs =>
     simp only [need]
     split<;>rfl
    | ro cs =>
     simp only [need]
     split<;>rfl
    | sit _ _=>rfl
    | mp _ _=>rfl
  | _=>rfl
noncomputable def aSx (size:Nat) (x y:Od):Hd:=fun _ env mem nx k=>evK env x fun u=>aUM u fun b o=>evK env y fun w=>aJe w fun ds=>match Nat.beq ds.length size with
 | true=>bF6 mem b fun ty cs=>bB4 o cs ds fun cs'=>aLR (some (.cells ty cs')) (Nat.succ b) mem b fun mem'=>k .any mem' nx
 | false=>none
theorem bA0 (size:Nat) (x y:Od):Q1 (aSx size x y) (.store size x y):=by
 intro ck c hc env mem nx k
 simp only [aSx,Bo env mem nx,Io,callee,dK,eP,aUR,aFr,aCC]
 cases (⟨env,mem,nx⟩:AS).ev x with
 | any=>rfl
 | agg l=>rfl
 | tup l=>rfl
 | c u =>
  cases u with
  | ptr b o =>
   simp only [aO9]
   cases ((⟨env,mem,nx⟩:AS).ev y).cells? with
   | none=>rfl
   | some ds =>
    simp only [bKp]
    cases hm:mem.get b with
    | none=>simp only;split<;>rfl
    | some kk =>
     cases kk with
     | cells ty cs =>
      simp only [need]
      split
      ·rename_i h
       have h:=Nat.eq_of_beq_eq_true h
       subst h
       by_cases g:o+ds.length≤cs.length
       ·rw [if_pos g,if_pos ⟨rfl,g⟩];rfl
       rw [if_neg g,if_neg (fun h=>g h.2)];rfl
      rename_i h
      rw [if_neg (fun g=>by rw [g.1,Nat.beq_refl] at h;cases h)];rfl
     | ro _=>simp only;split<;>rfl
     | sit _ _=>simp only;split<;>rfl
     | mp _ _=>simp only;split<;>rfl
  | _=>rfl
noncomputable def aW2 (ty:Nat) (zero:List Value):Hd:=fun _ env mem nx k=>bB9 zero fun cs=>bBb mem nx (.cells ty cs) fun mem' nx'=>k (.c (.ptr nx 0)) mem' nx'
theorem bC3 (ty:Nat) (zero:List Value):Q1 (aW2 ty zero) (.alloc ty zero):=by
 intro ck c hc env mem nx k
 simp only [aW2,aNf,aM1 env]
 rfl
noncomputable def bPf (ty:Nat) (x:Od):Hd:=fun _ env mem nx k=>evK env x fun u=>aJe u fun cs=>bBb mem nx (.cells ty cs) fun mem' nx'=>k (.c (.ptr nx 0)) mem' nx'
theorem bL7 (ty:Nat) (x:Od):Q1 (bPf ty x) (.box ty x):=by
 intro ck c hc env mem nx k
 simp only [bPf,Bo env mem nx,aCC,aM1 env,Io,callee,dK,eP]
 cases ((⟨env,mem,nx⟩:AS).ev x).cells?<;>rfl
noncomputable def aWR (zero:List Value) (parts:List (Nat×Nat×Od)):Hd:=fun _ env mem nx k=>bB9 zero fun cs=>bAO env cs parts fun l=>k (.agg l) mem nx
theorem bBJ (zero:List Value) (parts:List (Nat×Nat×Od)):Q1 (aWR zero parts) (.build zero parts):=by
 intro ck c hc env mem nx k
 simp only [aWR,aNf,bGD env mem nx,Io,callee,dK,eP]
 cases Ko ⟨env,mem,nx⟩ (zero.map fun v=>.v v) parts<;>rfl
noncomputable def bEP (off:Nat) (x:Od):Hd:=fun _ env mem nx k=>evK env x fun u=>aUM u fun b o=>wE (Nat.add o off) fun p=>k (.c (.ptr b p)) mem nx
theorem bI0 (off:Nat) (x:Od):Q1 (bEP off x) (.fad off x):=by
 intro ck c hc env mem nx k
 simp only [bEP,Bo env mem nx,Io,callee,dK,eP,Bm]
 cases (⟨env,mem,nx⟩:AS).ev x with
 | c u=>cases u<;>rfl
 | _=>rfl
noncomputable def aVC (x:Od) (i:Nat):Hd:=fun _ env mem nx k=>evK env x fun u=>match u with
 | .tup vs=>nthK vs i fun v=>k v mem nx
 | _=>none
where nthK:List AV→Nat→(AV→Rs)→Rs
 | [],_,_=>none
 | v::vs,i,k=>match i with
  | 0=>k v
  | i+1=>nthK vs i k
theorem bKE (k:AV→Rs):∀ (vs:List AV) (i:Nat),aVC.nthK vs i k=(match vs[i]? with | some v=>k v | none=>none):=by
 intro vs
 induction vs with
 | nil=>intro i;rfl
 | cons v vs ih =>
  intro i
  cases i with
  | zero=>rfl
  | succ i=>simp only [aVC.nthK,ih,List.getElem?_cons_succ]
theorem bIR (x:Od) (i:Nat):Q1 (aVC x i) (.ext x i):=by
 intro ck c hc env mem nx k
 simp only [aVC,Bo env mem nx,Io,callee,dK,eP,bKE]
 cases (⟨env,mem,nx⟩:AS).ev x with
 | tup vs=>simp only;cases vs[i]?<;>rfl
 | _=>rfl
noncomputable def slK (u:AV) (k:Nat→Nat→Nat→Nat→Rs) (s:Rs):Rs:=cK u (fun c=>cR c (fun _=>s) (fun _ _=>s) k s) s
theorem aXh (u:AV) (k:Nat→Nat→Nat→Nat→Rs) (s:Rs):(∃ b o n z,u=.c (.sl b o n z)∧slK u k s=k b o n z)∨slK u k s=s:=by
 cases u with
 | c c =>
  cases c with
  | sl b o n z=>exact .inl ⟨_,_,_,_,rfl,rfl⟩
  | _=>exact .inr rfl
 | _=>exact .inr rfl
noncomputable def bD9 (str:Bool) (x:Od):Hd:=fun ck env mem nx k=>match str with
 | true=>fG (.len true x) ck env mem nx k
 | false=>evK env x fun u=>slK u (fun _ _ n _=>k (.c (.v (.int .i64 (.ofNat n)))) mem nx) (fG (.len false x) ck env mem nx k)
theorem bJJ (str:Bool) (x:Od):Q1 (bD9 str x) (.len str x):=by
 intro ck c hc env mem nx k
 cases str with
 | true=>exact M6 (fun _=>rfl) ck c hc env mem nx k
 | false =>
  simp only [bD9,Bo env mem nx]
  rcases aXh ((⟨env,mem,nx⟩:AS).ev x) (fun _ _ n _=>k (.c (.v (.int .i64 (.ofNat n)))) mem nx) (fG (.len false x) ck env mem nx k) with ⟨b,o,n,z,h1,h2⟩ | h
  ·rw [h2]
   simp only [Io,callee,dK,h1]
   rfl
  rw [h]
  exact M6 (fun _=>rfl) ck c hc env mem nx k
noncomputable def bEs (size : Nat) (x i : Od) : Hd := fun ck env mem nx k => evK env x fun u => evK env i fun w => slK u (fun b o n s => K4 w (fun _ j => match Nat.beq s size with
  | true=>match Nat.blt j n with
    | true=>wE (Nat.add o (Nat.mul j s)) fun p=>k (.c (.ptr b p)) mem nx
    | false=>none
  | false=>none) (fG (.iad size x i) ck env mem nx k)) (fG (.iad size x i) ck env mem nx k)
theorem bLs (size:Nat) (x i:Od):Q1 (bEs size x i) (.iad size x i):=by
  intro ck c hc env mem nx k
  have hG:=M6 (o:=.iad size x i) (fun _=>rfl) ck c hc env mem nx k
  simp only [bEs,Bo env mem nx]
  generalize fG (.iad size x i) ck env mem nx k=G at hG ⊢
  rcases aXh ((⟨env, mem, nx⟩ : AS).ev x) (fun b o n s => K4 ((⟨env, mem, nx⟩ : AS).ev i) (fun _ j => match Nat.beq s size with
    | true=>match Nat.blt j n with
      | true=>wE (Nat.add o (Nat.mul j s)) fun p=>k (.c (.ptr b p)) mem nx
      | false=>none
    | false=>none) G) G with ⟨b,o,n,z,h1,h2⟩ | h
  · rw [h2]
    rcases Oe ((⟨env, mem, nx⟩ : AS).ev i) (fun _ j => match Nat.beq z size with
      | true=>match Nat.blt j n with
        | true=>wE (Nat.add o (Nat.mul j z)) fun p=>k (.c (.ptr b p)) mem nx
        | false=>none
      | false=>none) G with ⟨kd,j,h3,h4⟩ | h
    · rw [h4]
      simp only [Io,callee,dK,eP,h1,h3,AV.int?,Bm]
      split
      · rename_i g1
        have g1:=Nat.eq_of_beq_eq_true g1
        split
        · rename_i g2
          rw [need_pos ⟨g1,by simp,by simp [Nat.blt_eq] at g2 ⊢;omega⟩]
          rfl
        · rename_i g2
          rw [need, if_neg (fun h => by
            have h3:j<n:=by have:=h.2.2;simp at this;omega
            rw [← Nat.blt_eq,g2] at h3;cases h3)]
          rfl
      · rename_i g1
        rw [need,if_neg (fun h=>by rw [h.1,Nat.beq_refl] at g1;cases g1)]
        rfl
    · rw [h];exact hG
  · rw [h];exact hG
noncomputable def bG1 (kd:IntKind) (x:Od):Hd:=fun ck env mem nx k=>evK env x fun u=>K4 u (fun _ n=>V2 kd n (fG (.cvi kd x) ck env mem nx k) fun r=>k (.c (.v r)) mem nx) (fG (.cvi kd x) ck env mem nx k)
theorem bLc (kd:IntKind) (x:Od):Q1 (bG1 kd x) (.cvi kd x):=by
 intro ck c hc env mem nx k
 have hG:=M6 (o:=.cvi kd x) (fun _=>rfl) ck c hc env mem nx k
 simp only [bG1,Bo env mem nx]
 rcases Oe ((⟨env,mem,nx⟩:AS).ev x) (fun _ n=>V2 kd n (fG (.cvi kd x) ck env mem nx k) fun r=>k (.c (.v r)) mem nx) (fG (.cvi kd x) ck env mem nx k) with ⟨kd',n,h1,h2⟩ | h
 ·rw [h2,aBH,hG]
  rw [hG]
  simp only [Io,callee,dK,h1,AV.int?]
  rfl
 rw [h];exact hG
noncomputable def aVg (f:Nat) (xs:List Od):Hd:=fun ck env mem nx k=>bGQ env xs fun l=>ck f l mem nx k
theorem bFr (f:Nat) (xs:List Od):Q1 (aVg f xs) (.call f xs):=by
 intro ck c hc env mem nx k
 simp only [aVg,bK4 env mem nx,Io,callee]
 exact hc ..
def aWY (t:Od) (xs:List Od):Hd:=fun ck env mem nx k=>match callee ⟨env,mem,nx⟩ (.callv t xs) with
 | some (f,l)=>ck f l mem nx k
 | none=>none
theorem bC2 (t:Od) (xs:List Od):Q1 (aWY t xs) (.callv t xs):=by
 intro ck c hc env mem nx k
 simp only [aWY,Io]
 split
 ·rename_i f l h
  rw [h]
  exact hc ..
 rename_i h
 rw [h]
 rfl
def fQ (q:AS→Option AV):Hd:=fun _ env mem nx k=>match q ⟨env,mem,nx⟩ with
 | some v=>k v mem nx
 | none=>none
theorem aZG {q:AS→Option AV} {o:mK} (h:∀ st,callee st o=none) (hq:∀ st,dK o st=q st) (he:∀ st,eP o st=none):Q1 (fQ q) o:=by
 intro ck c hc env mem nx k
 simp only [fQ,Io,h,hq,he]
 cases q ⟨env,mem,nx⟩<;>rfl
def bNg (x:Od) (st:AS):Option AV:=match st.ev x with
 | .c (.ptr b o)=>some (.c (.ptr b o))
 | .c (.fn f us vs)=>some (.c (.fn f us vs))
 | _=>none
def qUn (op:UnOp) (x:Od) (st:AS):Option AV:=match (st.ev x).val? with
 | some u=>match unW op u with
  | some r=>some (Iu r)
  | none=>none
 | none=>none
def bQ5 (k:NK) (ne:Bool) (x y:Od) (st:AS):Option AV:=match aGJ k (st.ev x),aGJ k (st.ev y) with
 | some a,some b=>match a || b with
  | true=>some (Iu (.bool ((a && b) != ne)))
  | false=>none
 | _,_=>none
def bGU (c a b:Od) (st:AS):Option AV:=match (st.ev c).bool? with
 | some t=>some (if t=true then st.ev a else st.ev b)
 | none=>none
noncomputable def aWS (env:Tr AV) (o:Option Od) (dflt:Nat) (f:Nat→Rs) (s:Rs):Rs:=@Option.rec Od (fun _=>Rs) (f dflt) (fun x=>evK env x fun w=>K4 w (fun _ j=>f j) s) o
theorem aZc (env:Tr AV) (mem:Tr jX) (nx:Nat) (o:Option Od) (dflt:Nat) (f:Nat→Rs) (s:Rs):(∃ j:Nat,bnd ⟨env,mem,nx⟩ o dflt=some (Int.ofNat j)∧aWS env o dflt f s=f j)∨aWS env o dflt f s=s:=by
 cases o with
 | none=>exact .inl ⟨dflt,rfl,rfl⟩
 | some x =>
  show (∃ j:Nat,((⟨env,mem,nx⟩:AS).ev x).int? = some (Int.ofNat j)∧evK env x (fun w=>K4 w (fun _ j=>f j) s)=f j)∨evK env x (fun w=>K4 w (fun _ j=>f j) s)=s
  rw [Bo env mem nx]
  rcases Oe ((⟨env,mem,nx⟩:AS).ev x) (fun _ j=>f j) s with ⟨kd,a,h1,h2⟩ | h
  ·exact .inl ⟨a,by rw [h1];rfl,h2⟩
  exact .inr h
noncomputable def bFn (b o n z l h:Nat) (k:AV→Rs):Rs:=@Nat.rec (fun _=>Rs) (wE h fun m=>k (.c (.sl b o m z)))
 (fun l' _=>ifK (Nat.ble (Nat.succ (Nat.succ l')) n) (wE (Nat.add o (Nat.mul (Nat.succ l') z)) fun p=>wE (Nat.sub h (Nat.succ l')) fun m=>k (.c (.sl b p m z))) (k (.c .em))) l
noncomputable def bPF (size : Nat) (x : Od) (lo hi : Option Od) : Hd := fun ck env mem nx k => evK env x fun u => slK u (fun b o n z => aWS env lo 0 (fun l => aWS env hi n (fun h =>
  ifK (Nat.beq z size) (ifK (Nat.ble l h) (ifK (Nat.ble h n) (bFn b o n z l h fun v=>k v mem nx) none) none) none) (fG (.slc size x lo hi) ck env mem nx k)) (fG (.slc size x lo hi) ck env mem nx k)) (fG (.slc size x lo hi) ck env mem nx k)
theorem L2 {a b:Nat} (h:Nat.ble a b=false):¬ a≤b:=fun h2=>by rw [Nat.ble_eq_true_of_le h2] at h;cases h
theorem bDj {a b:Nat} (h:Nat.beq a b=false):¬ a=b:=fun h2=>by subst h2;rw [Nat.beq_refl] at h;cases h
theorem bKg (size:Nat) (x:Od) (lo hi:Option Od):Q1 (bPF size x lo hi) (.slc size x lo hi):=by
  intro ck c hc env mem nx k
  have hG:=M6 (o:=.slc size x lo hi) (fun _=>rfl) ck c hc env mem nx k
  simp only [bPF,Bo env mem nx]
  generalize fG (.slc size x lo hi) ck env mem nx k=G at hG ⊢
  rcases aXh ((⟨env, mem, nx⟩ : AS).ev x) (fun b o n z => aWS env lo 0 (fun l => aWS env hi n (fun h =>
    ifK (Nat.beq z size) (ifK (Nat.ble l h) (ifK (Nat.ble h n) (bFn b o n z l h fun v=>k v mem nx) none) none) none) G) G) G with ⟨b,o,n,z,h1,h2⟩ | h
  case inr=>rw [h];exact hG
  rw [h2]
  rcases aZc env mem nx lo 0 (fun l => aWS env hi n (fun h =>
    ifK (Nat.beq z size) (ifK (Nat.ble l h) (ifK (Nat.ble h n) (bFn b o n z l h fun v=>k v mem nx) none) none) none) G) G with ⟨l,h3,h4⟩ | h
  case inr=>rw [h];exact hG
  rw [h4]
  rcases aZc env mem nx hi n (fun h =>
    ifK (Nat.beq z size) (ifK (Nat.ble l h) (ifK (Nat.ble h n) (bFn b o n z l h fun v=>k v mem nx) none) none) none) G with ⟨h,h5,h6⟩ | h
  case inr=>rw [h];exact hG
  rw [h6]
  simp only [Io,callee,dK,eP,h1,h3,h5]
  cases g1:Nat.beq z size with
  | false =>
    rw [need,if_neg (fun hh=>bDj g1 hh.1)]
    rfl
  | true =>
    have g1:=Nat.eq_of_beq_eq_true g1
    cases g2:Nat.ble l h with
    | false =>
      rw [need,if_neg (fun hh=>L2 g2 (by have:=hh.2.2.1;simp at this;omega))]
      rfl
    | true =>
      have g2:=Nat.le_of_ble_eq_true g2
      cases g3:Nat.ble h n with
      | false =>
        rw [need,if_neg (fun hh=>L2 g3 (by have:=hh.2.2.2;simp at this;omega))]
        rfl
      | true =>
        have g3:=Nat.le_of_ble_eq_true g3
        rw [need,if_pos ⟨g1,by simp,by simp;omega,by simp;omega⟩]
        show bFn b o n z l h (fun v=>k v mem nx)=_
        cases l with
        | zero =>
          show wE h (fun m=>k (.c (.sl b o m z)) mem nx)=_
          rw [Bm]
          rfl
        | succ l =>
          rw [if_neg (by simp;omega)]
          show ifK (Nat.ble (Nat.succ (Nat.succ l)) n) (wE (Nat.add o (Nat.mul (Nat.succ l) z)) fun p=>wE (Nat.sub h (Nat.succ l)) fun m=>k (.c (.sl b p m z)) mem nx) (k (.c .em) mem nx)=_
          cases g4:Nat.ble (Nat.succ (Nat.succ l)) n with
          | true =>
            have g4:=Nat.le_of_ble_eq_true g4
            rw [if_pos (by simp;omega)]
            show wE (Nat.add o (Nat.mul (Nat.succ l) z)) (fun p=>wE (Nat.sub h (Nat.succ l)) fun m=>k (.c (.sl b p m z)) mem nx)=_
            rw [Bm,Bm]
            rfl
          | false =>
            have g4:=L2 g4
            rw [if_neg (by simp;omega)]
            rfl
noncomputable def bJn (l:List C) (r:List C):(List C→Rs)→Rs:=@List.rec C (fun _=>(List C→Rs)→Rs) (fun K=>K r) (fun c _ ih K=>ih fun l=>K (c::l)) l
theorem bLk (r:List C):∀ (l:List C) (K:List C→Rs),bJn l r K=K (l++r):=by
 intro l
 induction l with
 | nil=>intros;rfl
 | cons c l ih =>
  intro K
  show bJn l r (fun l=>K (c::l))=_
  rw [ih]
  rfl
noncomputable def aX4 (n:Nat) (z:List C):(List C→Rs)→Rs:=@Nat.rec (fun _=>(List C→Rs)→Rs) (fun K=>K []) (fun _ ih K=>ih fun l=>bJn z l K) n
theorem aVM (z:List C):∀ (n:Nat) (K:List C→Rs),aX4 n z K=K (Gi n z):=by
 intro n
 induction n with
 | zero=>intros;rfl
 | succ n ih =>
  intro K
  show aX4 n z (fun l=>bJn z l K)=_
  rw [ih,bLk]
  rfl
theorem bCo (env:Tr AV) (mem:Tr jX) (nx:Nat) (size:Nat):∀ (r:List (Nat×Od)) (cs:List C) (k:List C→Rs),aUI env size cs r k=(match yB ⟨env,mem,nx⟩ size cs r with | some l=>k l | none=>none):=by
 intro r
 induction r with
 | nil=>intro cs k;rfl
 | cons p r ih =>
  obtain ⟨j,x⟩:=p
  intro cs k
  simp only [aUI,yB,Bo env mem nx,aCC]
  cases ((⟨env,mem,nx⟩:AS).ev x).cells? with
  | none=>rfl
  | some ds =>
   simp only
   split
   ·rename_i h
    have h:=Nat.eq_of_beq_eq_true h
    rw [aUR,h,need]
    by_cases g:j * size+size≤cs.length
    ·rw [if_pos (show Nat.mul j size+size≤cs.length from g),if_pos ⟨rfl,g⟩,ih]
     rfl
    rw [if_neg (show ¬ Nat.mul j size+size≤cs.length from g),if_neg (fun h=>g h.2)]
   rename_i h
   rw [need,if_neg (fun g=>by rw [g.1,Nat.beq_refl] at h;cases h)]
noncomputable def aTX (ty size len:Nat) (zero:List Value) (parts:List (Nat×Od)):Hd:=fun _ env mem nx k=>bB9 zero fun z=>aX4 len z fun cs=>aUI env size cs parts fun cs=>bBb mem nx (.cells ty cs) fun mem' nx'=>k (.c (.sl nx 0 len size)) mem' nx'
theorem aXl (ty size len:Nat) (zero:List Value) (parts:List (Nat×Od)):Q1 (aTX ty size len zero parts) (.bslice ty size len zero parts):=by
 intro ck c hc env mem nx k
 simp only [aTX,aNf,aVM,bCo env mem nx,aM1 env,Io,callee,dK,eP]
 cases yB ⟨env,mem,nx⟩ size (Gi len (zero.map fun v=>.v v)) parts<;>rfl
theorem bMN {m b q:Nat}:(Int.ofNat m * (b:Int)≤(q:Int))↔m * b≤q:=by
 rw [show Int.ofNat m * (b:Int)=((m * b:Nat):Int) from rfl]
 exact Int.ofNat_le
noncomputable def bG8 (ty size bytes : Nat) (zero : List Value) (l c : Od) : Hd := fun ck env mem nx k => evK env l fun u => evK env c fun w => K4 u (fun _ n => K4 w (fun _ m =>
  ifK (Nat.ble n m) (ifK (Nat.ble (Nat.mul m bytes) 140737488355328) (ifK (Nat.ble m 9223372036854775807) (bB9 zero fun z=>aX4 n z fun cs=>bBb mem nx (.cells ty cs) fun mem' nx'=>k (.c (.sl nx 0 n size)) mem' nx') none) none) none)
  (fG (.mksl ty size bytes zero l c) ck env mem nx k)) (fG (.mksl ty size bytes zero l c) ck env mem nx k)
theorem bD8 (ty size bytes:Nat) (zero:List Value) (l c:Od):Q1 (bG8 ty size bytes zero l c) (.mksl ty size bytes zero l c):=by
  intro ck cl hc env mem nx k
  have hG:=M6 (o:=.mksl ty size bytes zero l c) (fun _=>rfl) ck cl hc env mem nx k
  simp only [bG8,Bo env mem nx,aNf,aVM,aM1 env]
  generalize fG (.mksl ty size bytes zero l c) ck env mem nx k=G at hG ⊢
  rcases Oe ((⟨env, mem, nx⟩ : AS).ev l) (fun _ n => K4 ((⟨env, mem, nx⟩ : AS).ev c) (fun _ m =>
    ifK (Nat.ble n m) (ifK (Nat.ble (Nat.mul m bytes) 140737488355328) (ifK (Nat.ble m 9223372036854775807) (k (.c (.sl nx 0 n size)) ((⟨env,mem,nx⟩:AS).new (.cells ty (Gi n (zero.map fun v=>.v v)))).mem ((⟨env,mem,nx⟩:AS).new (.cells ty (Gi n (zero.map fun v=>.v v)))).nx) none) none) none) G) G with ⟨kd,n,h1,h2⟩ | h
  case inr=>rw [h];exact hG
  rw [h2]
  rcases Oe ((⟨env, mem, nx⟩ : AS).ev c) (fun _ m =>
    ifK (Nat.ble n m) (ifK (Nat.ble (Nat.mul m bytes) 140737488355328) (ifK (Nat.ble m 9223372036854775807) (k (.c (.sl nx 0 n size)) ((⟨env,mem,nx⟩:AS).new (.cells ty (Gi n (zero.map fun v=>.v v)))).mem ((⟨env,mem,nx⟩:AS).new (.cells ty (Gi n (zero.map fun v=>.v v)))).nx) none) none) none) G with ⟨kd',m,h3,h4⟩ | h
  case inr=>rw [h];exact hG
  rw [h4]
  simp only [Io,callee,dK,eP,h1,h3,AV.int?]
  cases g2:Nat.ble n m with
  | false =>
    rw [need,if_neg (fun hh=>L2 g2 (by have:=hh.2.1;simp at this;omega))]
    rfl
  | true =>
    have g2:=Nat.le_of_ble_eq_true g2
    cases g3:Nat.ble (Nat.mul m bytes) 140737488355328 with
    | false =>
      rw [need,if_neg (fun hh=>L2 g3 (bMN.1 hh.2.2.1))]
      rfl
    | true =>
      have g3:m * bytes≤140737488355328:=Nat.le_of_ble_eq_true g3
      cases g4:Nat.ble m 9223372036854775807 with
      | false =>
        rw [need,if_neg (fun hh=>L2 g4 (by have:=hh.2.2.2;simp only [Int.ofNat_eq_natCast] at this;omega))]
        rfl
      | true =>
        have g4:=Nat.le_of_ble_eq_true g4
        rw [need,if_pos ⟨by simp,by simp;omega,bMN.2 g3,by simp only [Int.ofNat_eq_natCast];omega⟩]
        rfl
noncomputable def fO (o:mK):Hd:=@mK.rec (fun _=>Hd) fMv
 (fun c a b=>fQ (bGU c a b))
 aW2
 bPf
 aWR
 aTX
 aVn
 aSx
 (fun x=>fQ (bNg x))
 bFM
 (fun x0 x1 x2=>fG (.binB x0 x1 x2))
 (fun o x=>fQ (qUn o x))
 bG1
 (fun x0=>fG (.cvs x0))
 (fun x0=>fG (.bstr x0))
 (fun x0 x1 x2=>fG (.mkf x0 x1 x2))
 bG8
 (fun x0 x1 x2=>fG (.slcS x0 x1 x2))
 bPF
 bEP
 (fun x0 x1 x2 x3=>fG (.fld x0 x1 x2 x3))
 bEs
 (fun x0 x1=>fG (.ixs x0 x1))
 (fun x0 x1 x2 x3 x4=>fG (.ixa x0 x1 x2 x3 x4))
 aVC
 bD9
 (fun x0 x1 x2 x3 x4 x5=>fG (.app x0 x1 x2 x3 x4 x5))
 aVg
 aWY
 (fun k n x y=>fQ (bQ5 k n x y))
 (fun x0 x1 x2=>fG (.mx x0 x1 x2))
 (fun x0 x1 x2 x3=>fG (.iaa x0 x1 x2 x3))
 (fun x0=>fG (.rngS x0))
 (fun x0=>fG (.nxtS x0))
 (fG .mkm)
 (fun x0 x1 x2 x3 x4 x5=>fG (.look x0 x1 x2 x3 x4 x5))
 (fun x0 x1 x2 x3=>fG (.mupd x0 x1 x2 x3))
 (fun x0 x1 x2 x3=>fG (.binA x0 x1 x2 x3))
 (fG .bad) o
theorem bEt (o:mK):Q1 (fO o) o:=by
 cases o
 case mv=>exact bOZ _
 case bin=>exact bJx _ _ _
 case load=>exact bDO _ _ _
 case store=>exact bA0 _ _ _
 case alloc=>exact bC3 _ _
 case box=>exact bL7 _ _
 case build=>exact bBJ _ _
 case fad=>exact bI0 _ _
 case ext=>exact bIR _ _
 case len=>exact bJJ _ _
 case iad=>exact bLs _ _ _
 case cvi=>exact bLc _ _
 case call=>exact bFr _ _
 case callv=>exact bC2 _ _
 case nilck=>exact aZG (fun _=>rfl) (fun _=>rfl) (fun _=>rfl)
 case un=>exact aZG (fun _=>rfl) (fun _=>rfl) (fun _=>rfl)
 case cmpn=>exact aZG (fun _=>rfl) (fun _=>rfl) (fun _=>rfl)
 case pick=>exact aZG (fun _=>rfl) (fun _=>rfl) (fun _=>rfl)
 case bslice=>exact aXl _ _ _ _ _
 case slc=>exact bKg _ _ _ _
 case bstr x0=>exact M6 (o:=.bstr x0) fun _=>rfl
 case mksl=>exact bD8 _ _ _ _ _ _
 case app x0 x1 x2 x3 x4 x5=>exact M6 (o:=.app x0 x1 x2 x3 x4 x5) fun _=>rfl
 case rngS x0=>exact M6 (o:=.rngS x0) fun _=>rfl
 case nxtS x0=>exact M6 (o:=.nxtS x0) fun _=>rfl
 case mkm =>exact M6 (o:=.mkm ) fun _=>rfl
 case look x0 x1 x2 x3 x4 x5=>exact M6 (o:=.look x0 x1 x2 x3 x4 x5) fun _=>rfl
 case mupd x0 x1 x2 x3=>exact M6 (o:=.mupd x0 x1 x2 x3) fun _=>rfl
 case bad =>exact M6 (o:=.bad ) fun _=>rfl
 all_goals exact M6 (fun _=>rfl)
open Go.RowKit
open Go.Eng (Od need need_pos iU mR binV)
abbrev Ks:=Tr AV→Tr jX→Nat→Rs
abbrev Kx:=Exit→Tr AV→Tr jX→Nat→Rs
noncomputable def bF4 (d:Option Nat) (env:Tr AV) (v:AV) (k:Tr AV→Rs):Rs:=@Option.rec Nat (fun _=>Rs) (k env) (fun q=>aLR (some v) (Nat.succ q) env q k) d
theorem aXS (d:Option Nat) (env:Tr AV) (mem:Tr jX) (nx:Nat) (v:AV) (k:Ks):bF4 d env v (fun env=>k env mem nx)=k ((⟨env,mem,nx⟩:AS).putO d v).env ((⟨env,mem,nx⟩:AS).putO d v).mem ((⟨env,mem,nx⟩:AS).putO d v).nx:=by
 cases d with
 | none=>rfl
 | some q=>simp only [bF4,aFr];rfl
noncomputable def fDo (d:Option Nat) (o:mK) (ck:zT) (env:Tr AV) (mem:Tr jX) (nx:Nat) (k:Ks):Rs:=fO o ck env mem nx fun v mem nx=>bF4 d env v fun env=>k env mem nx
noncomputable def fGd (d:Option Nat) (o:mK) (p:Nat×Bool) (ck:zT) (env:Tr AV) (mem:Tr jX) (nx:Nat) (k:Ks):Rs:=match gd ((⟨env,mem,nx⟩:AS).get p.1) p.2 with
 | some t=>match t with
  | true=>fDo d o ck env mem nx k
  | false=>bF4 d env (.tup []) fun env=>k env mem nx
 | none=>none
noncomputable def fI (i:I):zT→Tr AV→Tr jX→Nat→Ks→Rs:=@I.rec (fun _=>zT→Tr AV→Tr jX→Nat→Ks→Rs) (fun d g o=>@Option.rec (Nat×Bool) (fun _=>zT→Tr AV→Tr jX→Nat→Ks→Rs) (fDo d o) (fGd d o) g) i
def aXk (r:Option AS) (k:Ks):Rs:=match r with
 | some st=>k st.env st.mem st.nx
 | none=>none
theorem bUb {ck:zT} {c:iJ} (hc:IsK ck c) (i:I) (env:Tr AV) (mem:Tr jX) (nx:Nat) (k:Ks):fI i ck env mem nx k=aXk (evI c i ⟨env,mem,nx⟩) k:=by
  obtain ⟨d,g,o⟩:=i
  have hdo : fDo d o ck env mem nx k = aXk (match Io c o ⟨env, mem, nx⟩ with
    | some (v,mem,nx)=>some ((⟨env,mem,nx⟩:AS).putO d v)
    | none=>none) k:=by
    unfold fDo
    rw [bEt o ck c hc]
    cases Io c o ⟨env,mem,nx⟩ with
    | none=>rfl
    | some p =>
      obtain ⟨v,m,n⟩:=p
      simp only [aft,aXk]
      exact aXS d env m n v k
  cases g with
  | none =>
    show fDo d o ck env mem nx k=_
    simp only [evI,gOk]
    exact hdo
  | some p =>
    obtain ⟨s,want⟩:=p
    show fGd d o (s,want) ck env mem nx k=_
    simp only [fGd,evI,gOk]
    cases gd ((⟨env,mem,nx⟩:AS).get s) want with
    | none=>rfl
    | some t =>
      cases t with
      | true=>exact hdo
      | false=>exact aXS d env mem nx _ k
noncomputable def fL (ck:zT) (l:List I):Tr AV→Tr jX→Nat→Ks→Rs:=@List.rec I (fun _=>Tr AV→Tr jX→Nat→Ks→Rs) (fun env mem nx k=>k env mem nx)
 (fun i _ ih env mem nx k=>fI i ck env mem nx fun env mem nx=>ih env mem nx k) l
theorem bTv {ck:zT} {c:iJ} (hc:IsK ck c):∀ (l:List I) (env:Tr AV) (mem:Tr jX) (nx:Nat) (k:Ks),fL ck l env mem nx k=aXk (I4 c l ⟨env,mem,nx⟩) k:=by
 intro l
 induction l with
 | nil=>intros;rfl
 | cons i l ih =>
  intro env mem nx k
  show fI i ck env mem nx (fun env mem nx=>fL ck l env mem nx k)=_
  simp only [I4,bUb hc]
  cases evI c i ⟨env,mem,nx⟩ with
  | none=>rfl
  | some st=>exact ih ..
def bIl (ck:zT):iJ:=fun f args mem nx=>ck f args mem nx fun v m n=>some (v,m,n)
theorem bKH {ck:zT} {c:iJ} (hc:IsK ck c):bIl ck=c:=by
 funext f args mem nx
 simp only [bIl,hc f args mem nx]
 cases c f args mem nx<;>rfl
def bPh (r:Option (Exit×AS)) (k:Kx):Rs:=match r with
 | some (e,st)=>k e st.env st.mem st.nx
 | none=>none
noncomputable def onK (e:Exit) (a:Rs) (k:Exit→Rs):Rs:=@Exit.rec (fun _=>Rs) a (fun i=>k (.exit i)) (fun l=>k (.goto l)) (k .ret) (fun c=>k (.panic c)) (k .outgrown) e
theorem bFA (e:Exit) (a:Rs) (k:Exit→Rs):onK e a k=(match e with | .normal=>a | e=>k e):=by cases e<;>rfl
noncomputable def aTS (body:Tr AV→Tr jX→Nat→Kx→Rs) (n:Nat):Tr AV→Tr jX→Nat→Kx→Rs:=@Nat.rec (fun _=>Tr AV→Tr jX→Nat→Kx→Rs) (fun _ _ _ _=>none)
 (fun _ ih env mem nx k=>body env mem nx fun e env mem nx=>onK e (ih env mem nx k) fun e=>k e env mem nx) n
noncomputable def aTp (v:AV) (a b:Rs):Rs:=cK v (fun c=>cR c (fun x=>valR x (fun t=>@Bool.rec (fun _=>Rs) b a t) (fun _ _=>none) none) (fun _ _=>none) (fun _ _ _ _=>none) none) none
theorem aWI (v:AV) (a b:Rs):aTp v a b=(match v.bool? with | none=>none | some true=>a | some false=>b):=by
 cases v with
 | c c =>
  cases c with
  | v x =>
   cases x with
   | bool t=>cases t<;>rfl
   | _=>rfl
  | _=>rfl
 | _=>rfl
noncomputable def fX (ck:zT) (k0:Nat) (x:XC):Tr AV→Tr jX→Nat→Kx→Rs:=@XC.rec (fun _=>Tr AV→Tr jX→Nat→Kx→Rs)
 (fun env mem nx k=>k .normal env mem nx)
 (fun l env mem nx k=>fL ck l env mem nx (k .normal))
 (fun ds an env mem nx k=>aXk (evD (bIl ck) ds an ⟨env,mem,nx⟩) (k .normal))
 (fun _ _ ra rb env mem nx k=>ra env mem nx fun e env mem nx=>onK e (rb env mem nx k) fun e=>k e env mem nx)
 (fun c _ _ ra rb env mem nx k=>evK env c fun v=>aTp v (ra env mem nx k) (rb env mem nx k))
 (fun id _ rb env mem nx k=>rb env mem nx fun e=>k (P8 id e))
 (fun _ rb=>aTS rb k0)
 (fun id env mem nx k=>k (.exit id) env mem nx)
 (fun env mem nx k=>k .ret env mem nx)
 (fun _ _ _ _=>none) x
theorem bED {body:Tr AV→Tr jX→Nat→Kx→Rs} {b:AS→Option (Exit×AS)} (hb:∀ env mem nx k,body env mem nx k=bPh (b ⟨env,mem,nx⟩) k):∀ (n:Nat) (env:Tr AV) (mem:Tr jX) (nx:Nat) (k:Kx),aTS body n env mem nx k=bPh (Nw b n ⟨env,mem,nx⟩) k:=by
 intro n
 induction n with
 | zero=>intros;rfl
 | succ n ih =>
  intro env mem nx k
  show body env mem nx (fun e env mem nx=>onK e (aTS body n env mem nx k) fun e=>k e env mem nx)=_
  simp only [Nw,hb,bFA]
  cases b ⟨env,mem,nx⟩ with
  | none=>rfl
  | some p =>
   obtain ⟨e,st⟩:=p
   cases e with
   | normal=>exact ih ..
   | _=>rfl
theorem bRR {ck:zT} {c:iJ} (hc:IsK ck c) (k0:Nat):∀ (x:XC) (env:Tr AV) (mem:Tr jX) (nx:Nat) (k:Kx),fX ck k0 x env mem nx k=bPh (I3 c k0 x ⟨env,mem,nx⟩) k:=by
 intro x
 induction x with
 | skip=>intros;rfl
 | region l =>
  intro env mem nx k
  show fL ck l env mem nx (k .normal)=_
  simp only [I3,bTv hc]
  cases I4 c l ⟨env,mem,nx⟩<;>rfl
 | draw ds an =>
  intro env mem nx k
  show aXk (evD (bIl ck) ds an ⟨env,mem,nx⟩) (k .normal)=_
  simp only [I3,bKH hc]
  cases evD c ds an ⟨env,mem,nx⟩<;>rfl
 | seq a b iha ihb =>
  intro env mem nx k
  show fX ck k0 a env mem nx (fun e env mem nx=>onK e (fX ck k0 b env mem nx k) fun e=>k e env mem nx)=_
  simp only [I3,iha,bFA]
  cases I3 c k0 a ⟨env,mem,nx⟩ with
  | none=>rfl
  | some p =>
   obtain ⟨e,st⟩:=p
   cases e with
   | normal=>exact ihb ..
   | _=>rfl
 | cond t a b iha ihb =>
  intro env mem nx k
  show evK env t (fun v=>aTp v (fX ck k0 a env mem nx k) (fX ck k0 b env mem nx k))=_
  rw [Bo env mem nx,aWI]
  simp only [I3]
  cases ((⟨env,mem,nx⟩:AS).ev t).bool? with
  | none=>rfl
  | some t =>
   cases t with
   | true=>exact iha ..
   | false=>exact ihb ..
 | block id b ih =>
  intro env mem nx k
  show fX ck k0 b env mem nx (fun e=>k (P8 id e))=_
  simp only [I3,ih]
  cases I3 c k0 b ⟨env,mem,nx⟩ with
  | none=>rfl
  | some p=>rfl
 | loop b ih=>exact bED ih k0
 | exit id=>intros;rfl
 | ret=>intros;rfl
 | bad=>intros;rfl
noncomputable def bLi (n:Nat) (t:Tr AV) (l:List AV) (k:Tr AV→Rs):Rs:=@List.rec AV (fun _=>Nat→Tr AV→Rs) (fun _ t=>k t) (fun v _ ih n t=>aLR (some v) (Nat.succ n) t n fun t=>ih (Nat.succ n) t) l n t
theorem bLH (k:Tr AV→Rs):∀ (l:List AV) (n:Nat) (t:Tr AV),bLi n t l k=k (K5 n t l):=by
 intro l
 induction l with
 | nil=>intros;rfl
 | cons v vs ih =>
  intro n t
  show aLR (some v) (Nat.succ n) t n (fun t=>bLi (Nat.succ n) t vs k)=_
  simp only [aFr,ih]
  rfl
noncomputable def bEX (env:Tr AV) (mem:Tr jX) (r:RR) (k:AV→Rs):Rs:=match r with
 | .t i=>aSV env i k
 | .c i g s=>aSV env i fun u=>aUM u fun b o=>aW0 mem b fun _ cs=>aTI o cs s fun l=>mkK g l k
theorem bHl (env:Tr AV) (mem:Tr jX) (nx:Nat) (r:RR) (k:AV→Rs):bEX env mem r k=(match aRp ⟨env,mem,nx⟩ r with | some v=>k v | none=>none):=by
 cases r with
 | t i =>
  simp only [bEX,aRp,O9,AS.get]
  cases env.get i<;>rfl
 | c i g s =>
  have h:∀ q:AV→Rs,aSV env i q=q ((⟨env,mem,nx⟩:AS).get i):=fun q=>by
   simp only [O9,AS.get]
   cases env.get i<;>rfl
  show aSV env i (fun u=>aUM u fun b o=>aW0 mem b fun _ cs=>aTI o cs s fun l=>mkK g l k)=_
  rw [h]
  simp only [aRp,aWo,bF8,AS.read,AS.blk]
  cases (⟨env,mem,nx⟩:AS).get i with
  | c u =>
   cases u with
   | ptr b o =>
    simp only [aO9,aZv]
    cases mem.get b with
    | none=>rfl
    | some kk =>
     cases kk with
     | cells ty cs =>
      by_cases g1:o+s≤cs.length
      ·simp only [need,if_pos g1]
      simp only [need,if_neg g1]
     | ro cs =>
      by_cases g1:o+s≤cs.length
      ·simp only [need,if_pos g1]
      simp only [need,if_neg g1]
     | sit _ _=>rfl
     | mp _ _=>rfl
   | _=>rfl
  | _=>rfl
noncomputable def aSz (env:Tr AV) (mem:Tr jX):List RR→(List AV→Rs)→Rs
 | [],k=>k []
 | r::rs,k=>bEX env mem r fun v=>aSz env mem rs fun vs=>k (v::vs)
theorem bHZ (env:Tr AV) (mem:Tr jX) (nx:Nat):∀ (rs:List RR) (k:List AV→Rs),aSz env mem rs k=(match aLV ⟨env,mem,nx⟩ rs with | some l=>k l | none=>none):=by
 intro rs
 induction rs with
 | nil=>intros;rfl
 | cons r rs ih =>
  intro k
  simp only [aSz,bHl env mem nx,aLV,ih]
  cases aRp ⟨env,mem,nx⟩ r with
  | none=>rfl
  | some v=>cases aLV ⟨env,mem,nx⟩ rs<;>rfl
def one (l:List AV) (k:AV→Rs):Rs:=match l with
 | []=>k (.tup [])
 | v::r=>match r with
  | []=>k v
  | w::r=>k (.tup (v::w::r))
noncomputable def bL4 (ts:List RR) (e:Exit) (env:Tr AV) (mem:Tr jX) (nx:Nat) (k:Kv):Rs:=match e with
 | .ret=>aSz env mem ts fun l=>one l fun v=>k v mem nx
 | .normal=>aSz env mem ts fun l=>one l fun v=>k v mem nx
 | _=>none
theorem aYX (e:FE) (env:Tr AV) (mem:Tr jX) (nx:Nat) (k:Kv):(aSz env mem e.ts fun l=>one l fun v=>k v mem nx)=aft (fin e ⟨env,mem,nx⟩) k:=by
 rw [bHZ env mem nx]
 unfold fin aTd
 cases aLV ⟨env,mem,nx⟩ e.ts with
 | none=>rfl
 | some l =>
  match l with
  | []=>rfl
  | [v]=>rfl
  | v::w::r=>rfl
noncomputable def fF (T:Tr FE) (hand:iJ) (k0:Nat):Nat→zT
 | 0,_,_,_,_,_=>none
 | n+1,f,args,mem,nx,k=>match T.get f with
  | none=>aft (hand f args mem nx) k
  | some e=>match Nat.ble args.length e.n with
   | false=>none
   | true=>bLi 0 .nil args fun env=>fX (fF T hand k0 n) k0 e.x env mem nx fun x env mem nx=>bL4 e.ts x env mem nx k
theorem bMl (T:Tr FE) (hand:iJ) (k0:Nat):∀ n,IsK (fF T hand k0 n) (evF T hand k0 n):=by
 intro n
 induction n with
 | zero=>intro f args mem nx k;rfl
 | succ n ih =>
  intro f args mem nx k
  simp only [fF,evF]
  cases T.get f with
  | none=>rfl
  | some e =>
   simp only
   cases Nat.ble args.length e.n with
   | false=>rfl
   | true =>
    simp only [bLH,bRR ih]
    cases I3 (evF T hand k0 n) k0 e.x ⟨K5 0 .nil args,mem,nx⟩ with
    | none=>rfl
    | some p =>
     obtain ⟨x,st⟩:=p
     cases x with
     | ret=>exact aYX ..
     | normal=>exact aYX ..
     | _=>rfl
theorem bOb {T:Tr FE} {hand:iJ} {k0 n f:Nat} {args:List AV} {mem:Tr jX} {nx:Nat} {r:AV×Tr jX×Nat} (h:fF T hand k0 n f args mem nx (fun v m n=>some (v,m,n))=some r):evF T hand k0 n f args mem nx=some r:=by
 rw [← h,bMl]
 cases evF T hand k0 n f args mem nx<;>rfl
open Go.RowKit
open Go.Eng (Od need need_pos iU mR binV)
inductive Pa where
 | h
 | a (p:Pa)
 | b (p:Pa)
def Pa.n:Pa→Nat
 | .h=>0
 | .a p=>2 * p.n+1
 | .b p=>2 * p.n+2
theorem bSm {α:Type} (x:Option α) (l r:Tr α) (m:Nat):(Tr.node x l r).get (2 * m+1)=l.get m:=by
 have h:Nat.beq (2 * m % 2) 0=true:=by rw [Nat.beq_eq];omega
 have h2:2 * m / 2=m:=by omega
 simp only [Tr.get,h,h2]
theorem bTU {α:Type} (x:Option α) (l r:Tr α) (m:Nat):(Tr.node x l r).get (2 * m+2)=r.get m:=by
 have h:Nat.beq ((2 * m+1) % 2) 0=false:=by
  cases h:Nat.beq ((2 * m+1) % 2) 0 with
  | false=>rfl
  | true=>have:=Nat.eq_of_beq_eq_true h;omega
 have h2:(2 * m+1) / 2=m:=by omega
 show (match Nat.beq ((2 * m+1) % 2) 0 with | true=>l.get ((2 * m+1) / 2) | false=>r.get ((2 * m+1) / 2))=_
 rw [h,h2]
theorem bSf {α:Type} (v:Option α) (t:Tr α) (m n:Nat):Tr.put (n+1) t (2 * m+1) v=(match t with | .nil=>.node none (Tr.put n .nil m v) .nil | .node x l r=>.node x (Tr.put n l m v) r):=by
 have h:Nat.beq (2 * m % 2) 0=true:=by rw [Nat.beq_eq];omega
 have h2:2 * m / 2=m:=by omega
 cases t<;>simp only [Tr.put,h,h2]
theorem bTQ {α:Type} (v:Option α) (t:Tr α) (m n:Nat):Tr.put (n+1) t (2 * m+2) v=(match t with | .nil=>.node none .nil (Tr.put n .nil m v) | .node x l r=>.node x l (Tr.put n r m v)):=by
 have h:Nat.beq ((2 * m+1) % 2) 0=false:=by
  cases h:Nat.beq ((2 * m+1) % 2) 0 with
  | false=>rfl
  | true=>have:=Nat.eq_of_beq_eq_true h;omega
 have h2:(2 * m+1) / 2=m:=by omega
 cases t with
 | nil =>
  show (match Nat.beq ((2 * m+1) % 2) 0 with | true=>_ | false=>Tr.node none .nil (Tr.put n .nil ((2 * m+1) / 2) v))=_
  rw [h,h2]
 | node x l r =>
  show (match Nat.beq ((2 * m+1) % 2) 0 with | true=>_ | false=>Tr.node x l (Tr.put n r ((2 * m+1) / 2) v))=_
  rw [h,h2]
theorem aFt {α:Type} (v:Option α):∀ (n m:Nat) (t:Tr α) (k:Nat),k<n→k<m→Tr.put n t k v=Tr.put m t k v:=by
 intro n
 induction n with
 | zero=>intro m t k h;omega
 | succ n ih =>
  intro m t k h hm
  cases m with
  | zero=>omega
  | succ m =>
   cases t with
   | nil =>
    cases k with
    | zero=>rfl
    | succ k =>
     simp only [Tr.put]
     cases Nat.beq (k % 2) 0<;>simp only []<;>rw [ih m _ _ (by omega) (by omega)]
   | node x l r =>
    cases k with
    | zero=>rfl
    | succ k =>
     simp only [Tr.put]
     cases Nat.beq (k % 2) 0<;>simp only []<;>rw [ih m _ _ (by omega) (by omega)]
noncomputable def aWX (p:Pa):Tr AV→(AV→Rs)→Rs:=@Pa.rec (fun _=>Tr AV→(AV→Rs)→Rs)
 (fun t k=>@Tr.rec AV (fun _=>Rs) (k .any) (fun v _ _ _ _=>@Option.rec AV (fun _=>Rs) (k .any) k v) t)
 (fun _ ih t k=>@Tr.rec AV (fun _=>Rs) (k .any) (fun _ l _ _ _=>ih l k) t)
 (fun _ ih t k=>@Tr.rec AV (fun _=>Rs) (k .any) (fun _ _ r _ _=>ih r k) t) p
theorem aY7 (k:AV→Rs):∀ (p:Pa) (t:Tr AV),aWX p t k=aSV t p.n k:=by
 intro p
 induction p with
 | h=>intro t;cases t<;>rfl
 | a p ih =>
  intro t
  rw [O9]
  cases t with
  | nil=>rw [Tr.get_nil];rfl
  | node x l r =>
   show aWX p l k=_
   rw [ih,O9]
   simp only [Pa.n,bSm]
 | b p ih =>
  intro t
  rw [O9]
  cases t with
  | nil=>rw [Tr.get_nil];rfl
  | node x l r =>
   show aWX p r k=_
   rw [ih,O9]
   simp only [Pa.n,bTU]
noncomputable def aXy (v:AV) (p:Pa):Tr AV→(Tr AV→Rs)→Rs:=@Pa.rec (fun _=>Tr AV→(Tr AV→Rs)→Rs)
 (fun t K=>@Tr.rec AV (fun _=>Rs) (K (.node (some v) .nil .nil)) (fun _ l r _ _=>K (.node (some v) l r)) t)
 (fun _ ih t K=>@Tr.rec AV (fun _=>Rs) (ih .nil fun l=>K (.node none l .nil)) (fun x l r _ _=>ih l fun l=>K (.node x l r)) t)
 (fun _ ih t K=>@Tr.rec AV (fun _=>Rs) (ih .nil fun r=>K (.node none .nil r)) (fun x l r _ _=>ih r fun r=>K (.node x l r)) t) p
theorem bIO (v:AV):∀ (p:Pa) (t:Tr AV) (K:Tr AV→Rs),aXy v p t K=K (Tr.put (p.n+1) t p.n (some v)):=by
 intro p
 induction p with
 | h=>intro t K;cases t<;>rfl
 | a p ih =>
  intro t K
  simp only [Pa.n]
  rw [show 2 * p.n+1+1=(2 * p.n+1)+1 from rfl,bSf]
  cases t with
  | nil =>
   show aXy v p .nil (fun l=>K (.node none l .nil))=_
   rw [ih,aFt (some v) (p.n+1) (2 * p.n+1) _ _ (by omega) (by omega)]
  | node x l r =>
   show aXy v p l (fun l=>K (.node x l r))=_
   rw [ih,aFt (some v) (p.n+1) (2 * p.n+1) _ _ (by omega) (by omega)]
 | b p ih =>
  intro t K
  simp only [Pa.n]
  rw [show 2 * p.n+2+1=(2 * p.n+2)+1 from rfl,bTQ]
  cases t with
  | nil =>
   show aXy v p .nil (fun r=>K (.node none .nil r))=_
   rw [ih,aFt (some v) (p.n+1) (2 * p.n+2) _ _ (by omega) (by omega)]
  | node x l r =>
   show aXy v p r (fun r=>K (.node x l r))=_
   rw [ih,aFt (some v) (p.n+1) (2 * p.n+2) _ _ (by omega) (by omega)]
inductive O2 where
 | t (p:Pa)
 | i (kd:IntKind) (n:Nat)
 | o (x:Od)
def O2.od:O2→Od
 | .t p=>.t p.n
 | .i kd n=>.k (.int kd (.ofNat n))
 | .o x=>x
noncomputable def ev2 (env:Tr AV) (x:O2):(AV→Rs)→Rs:=@O2.rec (fun _=>(AV→Rs)→Rs) (fun p=>aWX p env) (fun kd n k=>k (.c (.v (.int kd (.ofNat n))))) (fun x=>evK env x) x
theorem J7 (env:Tr AV) (x:O2) (k:AV→Rs):ev2 env x k=evK env x.od k:=by
 cases x with
 | t p=>exact aY7 k p env
 | i kd n=>rfl
 | o x=>rfl
noncomputable def bM9 (env:Tr AV) (l:List O2):(List AV→Rs)→Rs:=@List.rec O2 (fun _=>(List AV→Rs)→Rs) (fun k=>k []) (fun x _ ih k=>ev2 env x fun v=>ih fun vs=>k (v::vs)) l
theorem bJl (env:Tr AV):∀ (l:List O2) (k:List AV→Rs),bM9 env l k=bGQ env (l.map O2.od) k:=by
 intro l
 induction l with
 | nil=>intro k;rfl
 | cons x l ih =>
  intro k
  show ev2 env x (fun v=>bM9 env l fun vs=>k (v::vs))=evK env x.od (fun v=>bGQ env (l.map O2.od) fun vs=>k (v::vs))
  rw [J7]
  simp only [ih]
inductive J where
 | mv (x:O2)
 | bin (op:BinOp) (x y:O2)
 | load (agg:Bool) (size:Nat) (x:O2)
 | store (size:Nat) (x y:O2)
 | iad (size:Nat) (x i:O2)
 | len (x:O2)
 | fad (off:Nat) (x:O2)
 | ext (x:O2) (i:Nat)
 | cvi (k:IntKind) (x:O2)
 | pick (c a b:O2)
 | call (f:Nat) (l:List O2)
 | gen (o:mK)
def J.ins:J→mK
 | .mv x=>.mv x.od
 | .bin op x y=>.bin op x.od y.od
 | .load a s x=>.load a s x.od
 | .store s x y=>.store s x.od y.od
 | .iad s x i=>.iad s x.od i.od
 | .len x=>.len false x.od
 | .fad o x=>.fad o x.od
 | .ext x i=>.ext x.od i
 | .cvi k x=>.cvi k x.od
 | .pick c a b=>.pick c.od a.od b.od
 | .call f l=>.call f (l.map O2.od)
 | .gen o=>o
noncomputable def jMv (x:O2):Hd:=fun _ env mem nx k=>ev2 env x fun v=>k v mem nx
noncomputable def bO3 (op:BinOp) (x y:O2):Hd:=fun _ env mem nx k=>ev2 env x fun u=>ev2 env y fun w=>bK6 op u w fun r=>k (.c (.v r)) mem nx
noncomputable def bET (agg:Bool) (size:Nat) (x:O2):Hd:=fun _ env mem nx k=>ev2 env x fun u=>aUM u fun b o=>aW0 mem b fun _ cs=>aTI o cs size fun l=>mkK agg l fun v=>k v mem nx
noncomputable def aXa (size:Nat) (x y:O2):Hd:=fun _ env mem nx k=>ev2 env x fun u=>aUM u fun b o=>ev2 env y fun w=>aJe w fun ds=>ifK (Nat.beq ds.length size)
 (bF6 mem b fun ty cs=>bB4 o cs ds fun cs'=>aLR (some (.cells ty cs')) (Nat.succ b) mem b fun mem'=>k .any mem' nx) none
noncomputable def bQw (size : Nat) (x i : O2) : Hd := fun ck env mem nx k => ev2 env x fun u => ev2 env i fun w => slK u (fun b o n s => K4 w (fun _ j => ifK (Nat.beq s size)
  (ifK (Nat.blt j n) (wE (Nat.add o (Nat.mul j s)) fun p=>k (.c (.ptr b p)) mem nx) none) none) (fG (.iad size x.od i.od) ck env mem nx k)) (fG (.iad size x.od i.od) ck env mem nx k)
noncomputable def bOl (x:O2):Hd:=fun ck env mem nx k=>ev2 env x fun u=>slK u (fun _ _ n _=>k (.c (.v (.int .i64 (.ofNat n)))) mem nx) (fG (.len false x.od) ck env mem nx k)
noncomputable def bM3 (off:Nat) (x:O2):Hd:=fun _ env mem nx k=>ev2 env x fun u=>aUM u fun b o=>wE (Nat.add o off) fun p=>k (.c (.ptr b p)) mem nx
noncomputable def bQr (x:O2) (i:Nat):Hd:=fun _ env mem nx k=>ev2 env x fun u=>match u with
 | .tup vs=>aVC.nthK vs i fun v=>k v mem nx
 | _=>none
noncomputable def bOA (kd:IntKind) (x:O2):Hd:=fun ck env mem nx k=>ev2 env x fun u=>K4 u (fun _ n=>V2 kd n (fG (.cvi kd x.od) ck env mem nx k) fun r=>k (.c (.v r)) mem nx) (fG (.cvi kd x.od) ck env mem nx k)
noncomputable def bHu (c a b:O2):Hd:=fun _ env mem nx k=>ev2 env c fun v=>aTp v (ev2 env a fun v=>k v mem nx) (ev2 env b fun v=>k v mem nx)
noncomputable def bFt (f:Nat) (l:List O2):Hd:=fun ck env mem nx k=>bM9 env l fun l=>ck f l mem nx k
noncomputable def jO (o:J):Hd:=@J.rec (fun _=>Hd) jMv bO3 bET aXa bQw bOl bM3 bQr bOA bHu bFt fO o
theorem bF0 (c:Bool) (a b:Rs):ifK c a b=(match c with | true=>a | false=>b):=by cases c<;>rfl
theorem bRU (o:J):Q1 (jO o) o.ins:=by
 intro ck c hc env mem nx k
 rw [← bEt o.ins ck c hc env mem nx k]
 cases o with
 | mv x=>show jMv x ck env mem nx k=fMv x.od ck env mem nx k;simp only [jMv,fMv,J7]
 | bin op x y=>show bO3 op x y ck env mem nx k=bFM op x.od y.od ck env mem nx k;simp only [bO3,bFM,J7]
 | load a s x=>show bET a s x ck env mem nx k=aVn a s x.od ck env mem nx k;simp only [bET,aVn,J7]
 | store s x y=>show aXa s x y ck env mem nx k=aSx s x.od y.od ck env mem nx k;simp only [aXa,aSx,J7,bF0]<;>rfl
 | iad s x i=>show bQw s x i ck env mem nx k=bEs s x.od i.od ck env mem nx k;simp only [bQw,bEs,J7,bF0]<;>rfl
 | len x=>show bOl x ck env mem nx k=bD9 false x.od ck env mem nx k;simp only [bOl,bD9,J7]
 | fad o x=>show bM3 o x ck env mem nx k=bEP o x.od ck env mem nx k;simp only [bM3,bEP,J7]
 | ext x i=>show bQr x i ck env mem nx k=aVC x.od i ck env mem nx k;simp only [bQr,aVC,J7]<;>rfl
 | cvi kd x=>show bOA kd x ck env mem nx k=bG1 kd x.od ck env mem nx k;simp only [bOA,bG1,J7]
 | pick x a b =>
  show bHu x a b ck env mem nx k=fQ (bGU x.od a.od b.od) ck env mem nx k
  simp only [bHu,J7,Bo env mem nx,aWI,fQ,bGU]
  cases ((⟨env,mem,nx⟩:AS).ev x.od).bool? with
  | none=>rfl
  | some t=>cases t<;>rfl
 | call f l=>show bFt f l ck env mem nx k=aVg f (l.map O2.od) ck env mem nx k;simp only [bFt,aVg,bJl]
 | gen o=>rfl
structure I2 where
 d:Option Pa
 g:Option (Pa×Bool)
 o:J
def I2.i (x:I2):I:=⟨x.d.map Pa.n,x.g.map fun p=>(p.1.n,p.2),x.o.ins⟩
inductive X2 where
 | skip
 | region (l:List I2)
 | draw (l:List D) (an:List Nat)
 | seq (a b:X2)
 | cond (c:O2) (a b:X2)
 | block (id:Nat) (b:X2)
 | loop (b:X2)
 | exit (id:Nat)
 | ret
 | bad
def X2.xc:X2→XC
 | .skip=>.skip
 | .region l=>.region (l.map I2.i)
 | .draw l an=>.draw l an
 | .seq a b=>.seq a.xc b.xc
 | .cond c a b=>.cond c.od a.xc b.xc
 | .block id b=>.block id b.xc
 | .loop b=>.loop b.xc
 | .exit id=>.exit id
 | .ret=>.ret
 | .bad=>.bad
noncomputable def aYx (d:Option Pa) (env:Tr AV) (v:AV) (k:Tr AV→Rs):Rs:=@Option.rec Pa (fun _=>Rs) (k env) (fun p=>aXy v p env k) d
theorem aWp (d:Option Pa) (env:Tr AV) (v:AV) (k:Tr AV→Rs):aYx d env v k=bF4 (d.map Pa.n) env v k:=by
 cases d with
 | none=>rfl
 | some p =>
  show aXy v p env k=aLR (some v) (Nat.succ p.n) env p.n k
  rw [bIO,aFr]
noncomputable def do2 (d:Option Pa) (o:J) (ck:zT) (env:Tr AV) (mem:Tr jX) (nx:Nat) (k:Ks):Rs:=jO o ck env mem nx fun v mem nx=>aYx d env v fun env=>k env mem nx
theorem bFU {ck:zT} {c:iJ} (hc:IsK ck c) (d:Option Pa) (o:J) (env:Tr AV) (mem:Tr jX) (nx:Nat) (k:Ks):do2 d o ck env mem nx k=fDo (d.map Pa.n) o.ins ck env mem nx k:=by
 simp only [do2,fDo,aWp]
 rw [bRU o ck c hc,bEt o.ins ck c hc]
noncomputable def gdK (v:AV) (want:Bool) (a b:Rs):Rs:=aR v
 (fun c=>cR c (fun x=>valR x (fun t=>@Bool.rec (fun _=>Rs) (@Bool.rec (fun _=>Rs) a b want) (@Bool.rec (fun _=>Rs) b a want) t) (fun _ _=>none) none) (fun _ _=>none) (fun _ _ _ _=>none) none)
 (fun _=>none) (fun l=>@List.rec AV (fun _=>Rs) b (fun _ _ _=>none) l) none
theorem bPD (v:AV) (want:Bool) (a b:Rs):gdK v want a b=(match gd v want with | some t=>(match t with | true=>a | false=>b) | none=>none):=by
 cases v with
 | any=>rfl
 | agg l=>rfl
 | tup l=>cases l<;>rfl
 | c c =>
  cases c with
  | v x =>
   cases x with
   | bool t=>cases t<;>cases want<;>rfl
   | _=>rfl
  | _=>rfl
noncomputable def gd2 (d:Option Pa) (o:J) (p:Pa×Bool) (ck:zT) (env:Tr AV) (mem:Tr jX) (nx:Nat) (k:Ks):Rs:=@Prod.rec Pa Bool (fun _=>Rs) (fun q want=>aWX q env fun v=>gdK v want (do2 d o ck env mem nx k) (aYx d env (.tup []) fun env=>k env mem nx)) p
noncomputable def i2 (i:I2):zT→Tr AV→Tr jX→Nat→Ks→Rs:=@I2.rec (fun _=>zT→Tr AV→Tr jX→Nat→Ks→Rs) (fun d g o=>@Option.rec (Pa×Bool) (fun _=>zT→Tr AV→Tr jX→Nat→Ks→Rs) (do2 d o) (gd2 d o) g) i
theorem bRS {ck:zT} {c:iJ} (hc:IsK ck c) (i:I2) (env:Tr AV) (mem:Tr jX) (nx:Nat) (k:Ks):i2 i ck env mem nx k=fI i.i ck env mem nx k:=by
 obtain ⟨d,g,o⟩:=i
 cases g with
 | none=>exact bFU hc d o env mem nx k
 | some p =>
  obtain ⟨q,want⟩:=p
  show aWX q env (fun v=>gdK v want (do2 d o ck env mem nx k) (aYx d env (.tup []) fun env=>k env mem nx))=fGd (d.map Pa.n) o.ins (q.n,want) ck env mem nx k
  have h:∀ q':AV→Rs,aWX q env q'=q' ((⟨env,mem,nx⟩:AS).get q.n):=fun q'=>by
   rw [aY7,O9]
   simp only [AS.get]
   cases env.get q.n<;>rfl
  rw [h,bPD,bFU hc,aWp]
  rfl
noncomputable def l2 (ck:zT) (l:List I2):Tr AV→Tr jX→Nat→Ks→Rs:=@List.rec I2 (fun _=>Tr AV→Tr jX→Nat→Ks→Rs) (fun env mem nx k=>k env mem nx)
 (fun i _ ih env mem nx k=>i2 i ck env mem nx fun env mem nx=>ih env mem nx k) l
theorem bTu {ck:zT} {c:iJ} (hc:IsK ck c):∀ (l:List I2) (env:Tr AV) (mem:Tr jX) (nx:Nat) (k:Ks),l2 ck l env mem nx k=fL ck (l.map I2.i) env mem nx k:=by
 intro l
 induction l with
 | nil=>intros;rfl
 | cons i l ih =>
  intro env mem nx k
  show i2 i ck env mem nx (fun env mem nx=>l2 ck l env mem nx k)=fI i.i ck env mem nx (fun env mem nx=>fL ck (l.map I2.i) env mem nx k)
  rw [bRS hc]
  simp only [ih]
noncomputable def aGB (kn:Ks) (kx:Kx):Kx:=fun e env mem nx=>onK e (kn env mem nx) fun e=>kx e env mem nx
noncomputable def bGu (body:Tr AV→Tr jX→Nat→Ks→Kx→Rs) (n:Nat):Tr AV→Tr jX→Nat→Ks→Kx→Rs:=@Nat.rec (fun _=>Tr AV→Tr jX→Nat→Ks→Kx→Rs) (fun _ _ _ _ _=>none)
 (fun _ ih env mem nx kn kx=>body env mem nx (fun env mem nx=>ih env mem nx kn kx) kx) n
noncomputable def x2 (ck:zT) (k0:Nat) (x:X2):Tr AV→Tr jX→Nat→Ks→Kx→Rs:=@X2.rec (fun _=>Tr AV→Tr jX→Nat→Ks→Kx→Rs)
 (fun env mem nx kn _=>kn env mem nx)
 (fun l env mem nx kn _=>l2 ck l env mem nx kn)
 (fun ds an env mem nx kn _=>aXk (evD (bIl ck) ds an ⟨env,mem,nx⟩) kn)
 (fun _ _ ra rb env mem nx kn kx=>ra env mem nx (fun env mem nx=>rb env mem nx kn kx) kx)
 (fun c _ _ ra rb env mem nx kn kx=>ev2 env c fun v=>aTp v (ra env mem nx kn kx) (rb env mem nx kn kx))
 (fun id _ rb env mem nx kn kx=>rb env mem nx kn fun e env mem nx=>onK (P8 id e) (kn env mem nx) fun e=>kx e env mem nx)
 (fun _ rb=>bGu rb k0)
 (fun id env mem nx _ kx=>kx (.exit id) env mem nx)
 (fun env mem nx _ kx=>kx .ret env mem nx)
 (fun _ _ _ _ _=>none) x
theorem aVT (F:Ks) (kn:Ks) (kx:Kx):(fun (e:Exit) (env:Tr AV) (mem:Tr jX) (nx:Nat)=>onK e (F env mem nx) fun e=>aGB kn kx e env mem nx)=aGB F kx:=by
 funext e env mem nx
 cases e<;>rfl
theorem bH5 {body:Tr AV→Tr jX→Nat→Ks→Kx→Rs} {b:Tr AV→Tr jX→Nat→Kx→Rs} (hb:∀ env mem nx kn kx,body env mem nx kn kx=b env mem nx (aGB kn kx)):∀ (n:Nat) (env:Tr AV) (mem:Tr jX) (nx:Nat) (kn:Ks) (kx:Kx),bGu body n env mem nx kn kx=aTS b n env mem nx (aGB kn kx):=by
 intro n
 induction n with
 | zero=>intros;rfl
 | succ n ih =>
  intro env mem nx kn kx
  show body env mem nx (fun env mem nx=>bGu body n env mem nx kn kx) kx=b env mem nx (fun e env mem nx=>onK e (aTS b n env mem nx (aGB kn kx)) fun e=>aGB kn kx e env mem nx)
  rw [hb,aVT (fun env mem nx=>aTS b n env mem nx (aGB kn kx)) kn kx]
  congr 2
  funext env mem nx
  exact ih env mem nx kn kx
theorem bTs {ck:zT} {c:iJ} (hc:IsK ck c) (k0:Nat):∀ (x:X2) (env:Tr AV) (mem:Tr jX) (nx:Nat) (kn:Ks) (kx:Kx),x2 ck k0 x env mem nx kn kx=fX ck k0 x.xc env mem nx (aGB kn kx):=by
 intro x
 induction x with
 | region l =>
  intro env mem nx kn kx
  show l2 ck l env mem nx kn=fL ck (l.map I2.i) env mem nx (aGB kn kx .normal)
  exact bTu hc l env mem nx kn
 | seq a b iha ihb =>
  intro env mem nx kn kx
  show x2 ck k0 a env mem nx (fun env mem nx=>x2 ck k0 b env mem nx kn kx) kx=fX ck k0 a.xc env mem nx (fun e env mem nx=>onK e (fX ck k0 b.xc env mem nx (aGB kn kx)) fun e=>aGB kn kx e env mem nx)
  rw [iha,aVT (fun env mem nx=>fX ck k0 b.xc env mem nx (aGB kn kx)) kn kx]
  congr 2
  funext env mem nx
  exact ihb env mem nx kn kx
 | cond t a b iha ihb =>
  intro env mem nx kn kx
  show ev2 env t (fun v=>aTp v (x2 ck k0 a env mem nx kn kx) (x2 ck k0 b env mem nx kn kx))=_
  rw [J7]
  simp only [iha,ihb]
  rfl
 | block id b ih =>
  intro env mem nx kn kx
  show x2 ck k0 b env mem nx kn (fun e env mem nx=>onK (P8 id e) (kn env mem nx) fun e=>kx e env mem nx)=fX ck k0 b.xc env mem nx (fun e=>aGB kn kx (P8 id e))
  rw [ih]
  congr 1
  funext e env mem nx
  cases e<;>rfl
 | loop b ih =>
  intro env mem nx kn kx
  exact bH5 (fun env mem nx kn kx=>ih env mem nx kn kx) k0 env mem nx kn kx
 | _=>intros;rfl
structure F2 where
 n:Nat
 x:X2
 ts:List RR
def F2.fe (e:F2):FE:=⟨e.n,e.x.xc,e.ts⟩
def aEf (l:List (Nat×F2)):List (Nat×FE):=l.map fun p=>(p.1,p.2.fe)
def aUW:List (Nat×F2)→Tr F2
 | []=>.nil
 | (f,e)::l=>Tr.put (f+1) (aUW l) f (some e)
theorem bIj (f:Nat):∀ (l:List (Nat×F2)),(pM (aEf l)).get f=((aUW l).get f).map F2.fe:=by
 intro l
 induction l with
 | nil=>simp only [aEf,List.map,pM,aUW,Tr.get_nil];rfl
 | cons p l ih =>
  obtain ⟨g,e⟩:=p
  simp only [aEf,List.map_cons,pM,aUW] at ih ⊢
  rw [Tr.get_put _ _ _ _ _ (by omega),Tr.get_put _ _ _ _ _ (by omega),ih]
  split<;>rfl
noncomputable def bTc (ts:List RR) (env:Tr AV) (mem:Tr jX) (k:AV→Rs):Rs:=aSz env mem ts fun l=>one l k
theorem bE8 (ts:List RR) (k:Kv):aGB (fun env mem nx=>bTc ts env mem fun v=>k v mem nx) (fun x env mem nx=>bL4 ts x env mem nx k)=fun x env mem nx=>bL4 ts x env mem nx k:=by
 funext e env mem nx
 cases e<;>rfl
noncomputable def f2 (l:Tr F2) (hand:iJ) (k0:Nat):Nat→zT
 | 0,_,_,_,_,_=>none
 | n+1,f,args,mem,nx,k=>match l.get f with
  | none=>aft (hand f args mem nx) k
  | some e=>match Nat.ble args.length e.n with
   | false=>none
   | true=>bLi 0 .nil args fun env=>x2 (f2 l hand k0 n) k0 e.x env mem nx (fun env mem nx=>bTc e.ts env mem fun v=>k v mem nx) fun x env mem nx=>bL4 e.ts x env mem nx k
theorem bRW (l:List (Nat×F2)) (hand:iJ) (k0:Nat):∀ n,f2 (aUW l) hand k0 n=fF (pM (aEf l)) hand k0 n:=by
 intro n
 induction n with
 | zero=>rfl
 | succ n ih =>
  funext f args mem nx k
  simp only [f2,fF,bIj]
  cases (aUW l).get f with
  | none=>rfl
  | some e =>
   simp only [Option.map,F2.fe]
   cases Nat.ble args.length e.n with
   | false=>rfl
   | true =>
    simp only
    simp only [ih,bTs (bMl _ _ _ n),bE8]
theorem bJz {l:List (Nat×F2)} {hand:iJ} {k0 n f:Nat} {args:List AV} {mem:Tr jX} {nx:Nat} {r:AV×Tr jX×Nat} (h:f2 (aUW l) hand k0 n f args mem nx (fun v m n=>some (v,m,n))=some r):evF (pM (aEf l)) hand k0 n f args mem nx=some r:=by
 rw [bRW] at h
 exact bOb h
end Go.CE

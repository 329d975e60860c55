/- A reckoner for closed calls, part 3: the evaluator and its faster twin answer what the program does. -/
import Derived.WalkKit
import Derived.Orders
import Derived.Scope
import Derived.Test.YtlceligcgelbdaaGreatKA2
set_option linter.unusedVariables false
set_option linter.unusedSimpArgs false
namespace Go.CE
open Go.RowKit
open Go.Eng (Od Grow getD_toList)
abbrev Anc (an:List Nat) (j k:Nat):Prop:=(an.getD j 0).testBit k=true
section static
variable {ds:List D} {an:List Nat}
theorem okD_at (h : okD ds an = true) {j : Nat} {d : D} (hd : ds[j]? = some d) : (d.af.all (fun k => Nat.blt k j) && Nat.beq (an.getD j 0) (ancOf an d.af) && d.sl.all (lookOk ds an j) && (match d.i.d with
    | some q=>dstOk ds j q
    | none=>true))=true:=by
  have:=List.all_eq_true.1 h j (by simpa using (List.getElem?_eq_some_iff.1 hd).1)
  rw [hd] at this
  exact this
theorem ok_lt (h:okD ds an=true) {j k:Nat} {d:D} (hd:ds[j]? = some d) (hk:k∈d.af):k<j:=by
 have:=okD_at h hd
 simp only [Bool.and_eq_true] at this
 exact blt_true (List.all_eq_true.1 this.1.1.1 k hk)
theorem ok_bits (h:okD ds an=true) {j:Nat} {d:D} (hd:ds[j]? = some d):an.getD j 0=ancOf an d.af:=by
 have:=okD_at h hd
 simp only [Bool.and_eq_true] at this
 exact Nat.eq_of_beq_eq_true this.1.1.2
theorem ok_look (h:okD ds an=true) {j k q:Nat} {d d':D} (hd:ds[j]? = some d) (hq:q∈d.sl) (hk:ds[k]? = some d') (hdk:d'.i.d=some q):Anc an j k∨Anc an k j:=by
 have:=okD_at h hd
 simp only [Bool.and_eq_true] at this
 have h1:=List.all_eq_true.1 this.1.2 q hq
 have h2:=List.all_eq_true.1 h1 k (by simpa using (List.getElem?_eq_some_iff.1 hk).1)
 rw [hk] at h2
 simp only [hdk,Nat.beq_refl,Bool.not_true,Bool.false_or,Bool.or_eq_true] at h2
 exact h2
theorem ok_dst (h:okD ds an=true) {j k q:Nat} {d d':D} (hd:ds[j]? = some d) (hk:ds[k]? = some d') (hdj:d.i.d=some q) (hdk:d'.i.d=some q):j=k:=by
 have:=okD_at h hd
 simp only [Bool.and_eq_true,hdj] at this
 have h2:=List.all_eq_true.1 this.2 k (by simpa using (List.getElem?_eq_some_iff.1 hk).1)
 rw [hk] at h2
 simp only [hdk,Nat.beq_refl,Bool.not_true,Bool.or_false] at h2
 exact (Nat.eq_of_beq_eq_true h2).symm
theorem anc_inv (h:okD ds an=true) {j k:Nat} {d:D} (hd:ds[j]? = some d) (ha:Anc an j k):∃ l∈d.af,k=l∨Anc an l k:=by
 unfold Anc at ha
 rw [ok_bits h hd] at ha
 rcases Go.Eng.ancOf_bit an k d.af 0 ha with h1 | ⟨l,hl,h1⟩
 ·simp at h1
 exact ⟨l,hl,h1.imp Eq.symm id⟩
theorem anc_lt (h:okD ds an=true):∀ {j k:Nat} {d:D},ds[j]? = some d→Anc an j k→k<j:=by
 intro j
 induction j using Nat.strongRecOn with
 | ind j ih =>
  intro k d hd ha
  obtain ⟨l,hl,h1⟩:=anc_inv h hd ha
  have hlj:=ok_lt h hd hl
  rcases h1 with rfl | h1
  ·exact hlj
  have hlt:l<ds.length:=Nat.lt_trans hlj (List.getElem?_eq_some_iff.1 hd).1
  have:=ih l hlj (List.getElem?_eq_getElem hlt) h1
  omega
theorem anc_clS (h:okD ds an=true) (p:Nat→Prop) (hp:∀ (j:Nat) (d:D),ds[j]? = some d→p j→∀ (k:Nat),k∈d.af→p k):∀ (j:Nat) (d:D) (k:Nat),ds[j]? = some d→(∀ (k:Nat),k∈d.af→p k)→Anc an j k→p k:=by
 intro j
 induction j using Nat.strongRecOn with
 | ind j ih =>
  intro d k hd haf ha
  obtain ⟨l,hl,h1⟩:=anc_inv h hd ha
  rcases h1 with rfl | h1
  ·exact haf _ hl
  have hlj:=ok_lt h hd hl
  have hlt:l<ds.length:=Nat.lt_trans hlj (List.getElem?_eq_some_iff.1 hd).1
  have hld:=List.getElem?_eq_getElem hlt
  exact ih l hlj _ k hld (hp l _ hld (haf l hl)) h1
end static
section nx
variable {e:Tr AV} {m:Tr Blk} {n:Nat}
theorem ev_nx (n:Nat) (x:Od):AS.ev ⟨e,m,n⟩ x=AS.ev ⟨e,m,0⟩ x:=by cases x<;>rfl
theorem fillC_nx (n:Nat):∀ (l:List (Nat×Nat×Od)) (cs:List C),fillC ⟨e,m,n⟩ cs l=fillC ⟨e,m,0⟩ cs l
 | [],_=>rfl
 | (a,b,x)::l,cs=>by simp only [fillC,ev_nx n,fillC_nx n l]
theorem capsOf_nx (n:Nat):∀ (l:List Od),capsOf ⟨e,m,n⟩ l=capsOf ⟨e,m,0⟩ l
 | []=>rfl
 | x::l=>by simp only [capsOf,ev_nx n,capsOf_nx n l]
theorem bnd_nx (n:Nat) (o:Option Od) (k:Nat):bnd ⟨e,m,n⟩ o k=bnd ⟨e,m,0⟩ o k:=by cases o<;>simp only [bnd,ev_nx n]
theorem read_nx (n:Nat) (b o k:Nat):AS.read ⟨e,m,n⟩ b o k=AS.read ⟨e,m,0⟩ b o k:=rfl
theorem stepQ_nx (i:Ins) (n:Nat):stepQ i ⟨e,m,n⟩=stepQ i ⟨e,m,0⟩:=by
 cases i
 case len s x=>cases s<;>simp only [stepQ,ev_nx n]
 all_goals first
  | rfl
  | simp only [stepQ,ev_nx n,fillC_nx n,capsOf_nx n,bnd_nx n,read_nx n]
theorem gOk_env {i:I} {m':Tr Blk} {n':Nat}:gOk i ⟨e,m,n⟩=gOk i ⟨e,m',n'⟩:=by
 unfold gOk
 cases i.g with
 | none=>rfl
 | some p=>rfl
end nx
def up {α:Type} (f:Nat→α) (j:Nat) (x:α):Nat→α:=fun k=>if k=j then x else f k
theorem up_same {α:Type} (f:Nat→α) (j:Nat) (x:α):up f j x j=x:=by simp [up]
theorem up_other {α:Type} (f:Nat→α) (j:Nat) (x:α) {k:Nat} (h:k≠j):up f j x k=f k:=by simp [up,h]
structure Dt where
 kind:Nat→Kd
 out:Nat→AV
 re:Nat→Tr AV
 lo:Nat→Nat
 hi:Nat→Nat
 mem:Nat→Tr Blk
 pre:Nat→Tr Blk
 tg:Nat→Nat
 m:Nat
def snaps (tg:Nat→Nat) (mem:Nat→Tr Blk):Nat→List (Nat×Tr Blk)
 | 0=>[(tg 0,mem 0)]
 | i+1=>(tg (i+1),mem (i+1))::snaps tg mem i
theorem snaps_head (tg:Nat→Nat) (mem:Nat→Tr Blk) (i:Nat):∃ l,snaps tg mem i=(tg i,mem i)::l:=by cases i<;>exact ⟨_,rfl⟩
theorem snaps_up {tg:Nat→Nat} {mem:Nat→Tr Blk} {t:Nat} {x:Tr Blk} {i0:Nat}:∀ i,i<i0→snaps (up tg i0 t) (up mem i0 x) i=snaps tg mem i
 | 0,h=>by simp only [snaps];rw [up_other _ _ _ (by omega),up_other _ _ _ (by omega)]
 | i+1,h=>by simp only [snaps];rw [up_other _ _ _ (by omega),up_other _ _ _ (by omega),snaps_up i (by omega)]
structure W (P:Program) (n:Nat) (ds:List D) (an:List Nat) (st0:AS) (X:Dt) (j:Nat) (a:Acc):Prop where
 e1:∀ (q:Nat) (v:AV),a.env.get q=some v→(∃ (k:Nat) (d:D),k<j∧ds[k]? = some d∧d.i.d=some q∧X.out k=v)∨((∀ (k:Nat) (d:D),k<j→ds[k]? = some d→d.i.d≠some q)∧st0.env.get q=some v)
 e2:∀ (k:Nat) (d:D) (q:Nat) (v:AV),k<j→ds[k]? = some d→(X.re k).get q=some v→q∈d.sl ∧
  ((∃ (k':Nat) (d':D),k'<k∧ds[k']? = some d'∧d'.i.d=some q∧X.out k'=v)∨((∀ (k':Nat) (d':D),k'<k→ds[k']? = some d'→d'.i.d≠some q)∧st0.env.get q=some v))
 n0:st0.nx≤a.nx
 n1:∀ k,k<j→st0.nx≤X.lo k∧X.lo k≤X.hi k∧X.hi k≤a.nx
 n2:∀ k k',k<k'→k'<j→X.hi k≤X.lo k'
 mem0:X.mem 0=st0.mem
 x1:∀ k i,k<j→X.kind k=.x i→i<X.m
 x2:∀ i,i<X.m→∃ k,k<j∧X.kind k=.x i
 x3:∀ k k' i i',k<k'→k'<j→X.kind k=.x i→X.kind k'=.x i'→i<i'
 x4:∀ k k' i i',k<k'→k'<j→X.kind k=.x i→X.kind k'=.x i'→∀ b,(b=k∨Anc an k b)→Anc an k' b
 la:∀ k i b,k<j→X.kind k=.x i→(b=k∨Anc an k b)→a.last.testBit b=true
 fP:∀ (k:Nat) (d:D),k<j→ds[k]? = some d→X.kind k=.p→X.lo k=X.hi k∧∀ Γ:Ctx,Γ.P=P→Γ.n=n→ISnd Γ d.i ⟨X.re k,.nil,X.lo k⟩ ((⟨X.re k,.nil,X.hi k⟩:AS).putO d.i.d (X.out k))
 fL:∀ (k:Nat) (d:D),k<j→ds[k]? = some d→X.kind k=.l→X.lo k=X.hi k∧gOk d.i ⟨X.re k,.nil,0⟩=some true∧∀ c,c≤X.m→(∀ k' i,k'<j→X.kind k'=.x i→Anc an k k'→i<c)→(∀ k' i,k'<j→X.kind k'=.x i→Anc an k' k→c≤i) →
  stepQ d.i.o ⟨X.re k,X.mem c,0⟩=some (X.out k)
 fA:∀ (k:Nat) (d:D) (t:Tr Blk),k<j→ds[k]? = some d→X.kind k=.a t→∀ Γ:Ctx,Γ.P=P→Γ.n=n→ISnd Γ d.i ⟨X.re k,.nil,X.lo k⟩ ((⟨X.re k,t,X.hi k⟩:AS).putO d.i.d (X.out k))
 fX:∀ (k:Nat) (d:D) (i:Nat),k<j→ds[k]? = some d→X.kind k=.x i→∀ Γ:Ctx,Γ.P=P→Γ.n=n→ISnd Γ d.i ⟨X.re k,X.pre i,X.lo k⟩ ((⟨X.re k,X.mem (i+1),X.hi k⟩:AS).putO d.i.d (X.out k))
 pX:∀ (k i b:Nat) (kk:Blk),k<j→X.kind k=.x i→(X.pre i).get b=some kk→(X.mem i).get b=some kk∨∃ (A:Nat) (t:Tr Blk),A<j∧Anc an k A∧X.kind A=.a t∧t.get b=some kk∧∀ k' i',k'<j→X.kind k'=.x i'→i'<i→¬ Anc an k' A
 dm:Dom st0.mem st0.nx a.nx (X.mem X.m)
 ml:a.mems=snaps X.tg X.mem X.m
 tg0:X.tg 0=0
 tgx:∀ k i,k<j→X.kind k=.x i→X.tg (i+1)=k+1
 p1:∀ (A b:Nat) (kk:Blk),(A,b,kk)∈a.pend→A<j∧∃ t,X.kind A=.a t∧t.get b=some kk∧∀ k' i',k'<j→X.kind k'=.x i'→¬ Anc an k' A
 p2:∀ (A:Nat) (t:Tr Blk) (b:Nat) (kk:Blk),A<j→X.kind A=.a t→(∀ k' i',k'<j→X.kind k'=.x i'→¬ Anc an k' A)→t.get b=some kk→(A,b,kk)∈a.pend
 fl:∀ (l:Nat) (d:D),l<j→ds[l]? = some d→X.kind l=.l→(∀ k' i',k'<j→X.kind k'=.x i'→¬ Anc an k' l)→(l,d.i.o,X.re l,X.out l)∈a.fl
section
variable {P:Program} {n:Nat} {ds:List D} {an:List Nat} {st0:AS} {X:Dt} {j:Nat} {a:Acc}
theorem W.base (h:W P n ds an st0 X j a) {d:D} (hd:ds[j]? = some d) (K:Kd) (v:AV) (nx':Nat) (hnx:a.nx≤nx') :
    (∀ (q:Nat) (u:AV),(putE a.env d.i.d v).get q=some u→(∃ (k:Nat) (d:D),k<j+1∧ds[k]? = some d∧d.i.d=some q∧up X.out j v k=u)∨((∀ (k:Nat) (d:D),k<j+1→ds[k]? = some d→d.i.d≠some q)∧st0.env.get q=some u)) ∧
    (∀ (k : Nat) (d' : D) (q : Nat) (u : AV), k < j + 1 → ds[k]? = some d' → (up X.re j (restr a.env d.sl) k).get q = some u → q ∈ d'.sl ∧
      ((∃ (k':Nat) (d':D),k'<k∧ds[k']? = some d'∧d'.i.d=some q∧up X.out j v k'=u)∨((∀ (k':Nat) (d':D),k'<k→ds[k']? = some d'→d'.i.d≠some q)∧st0.env.get q=some u))) ∧
    (∀ k,k<j+1→st0.nx≤up X.lo j a.nx k∧up X.lo j a.nx k≤up X.hi j nx' k∧up X.hi j nx' k≤nx') ∧
    (∀ k k',k<k'→k'<j+1→up X.hi j nx' k≤up X.lo j a.nx k'):=by
  refine ⟨fun q u hq=>?_,fun k d' q u hk hd' hq=>?_,fun k hk=>?_,fun k k' hk hk'=>?_⟩
  · rcases putE_get hq with ⟨h1, rfl⟩ | ⟨h1, h2⟩
    · exact .inl ⟨j,d,Nat.lt_succ_self _,hd,h1,up_same _ _ _⟩
    · rcases h.e1 q u h2 with ⟨k, d', g1, g2, g3, g4⟩ | ⟨g1, g2⟩
      · exact .inl ⟨k,d',by omega,g2,g3,by rw [up_other _ _ _ (by omega)];exact g4⟩
      · refine .inr ⟨fun k d' hk hd'=>?_,g2⟩
        by_cases e:k=j
        · subst e;rw [hd] at hd';injection hd' with hd';subst hd';exact h1
        · exact g1 k d' (by omega) hd'
  · have hlift : ∀ k', k' < k → up X.out j v k' = X.out k' := fun k' h' => up_other _ _ _ (by omega)
    by_cases e:k=j
    · subst e
      rw [hd] at hd';injection hd' with hd';subst hd'
      rw [up_same] at hq
      obtain ⟨h1,h2⟩:=restr_get hq
      refine ⟨h1,?_⟩
      rcases h.e1 q u h2 with ⟨k',d',g1,g2,g3,g4⟩ | ⟨g1,g2⟩
      · exact .inl ⟨k',d',g1,g2,g3,by rw [hlift k' g1];exact g4⟩
      · exact .inr ⟨g1,g2⟩
    · rw [up_other _ _ _ e] at hq
      obtain ⟨h1,h2⟩:=h.e2 k d' q u (by omega) hd' hq
      refine ⟨h1,?_⟩
      rcases h2 with ⟨k',d2,g1,g2,g3,g4⟩ | h2
      · exact .inl ⟨k',d2,g1,g2,g3,by rw [hlift k' g1];exact g4⟩
      · exact .inr h2
  · by_cases e:k=j
    · subst e;rw [up_same,up_same];exact ⟨h.n0,hnx,Nat.le_refl _⟩
    · rw [up_other _ _ _ e,up_other _ _ _ e]
      have:=h.n1 k (by omega)
      exact ⟨this.1,this.2.1,Nat.le_trans this.2.2 hnx⟩
  · rw [up_other _ _ _ (by omega : k ≠ j)]
    by_cases e:k'=j
    · subst e;rw [up_same];exact (h.n1 k hk).2.2
    · rw [up_other _ _ _ e];exact h.n2 k k' hk (by omega)
theorem W.calm (h:W P n ds an st0 X j a) {d:D} (hd:ds[j]? = some d) (K:Kd) (v:AV) (nx':Nat) (pend':List (Nat×Nat×Blk)) (fl':List (Nat×Ins×Tr AV×AV)) (hnx:a.nx≤nx') (hKx:∀ i,K≠.x i)
    (fP:K=.p→a.nx=nx'∧∀ Γ:Ctx,Γ.P=P→Γ.n=n→ISnd Γ d.i ⟨restr a.env d.sl,.nil,a.nx⟩ ((⟨restr a.env d.sl,.nil,nx'⟩:AS).putO d.i.d v))
    (fL:K=.l→a.nx=nx'∧gOk d.i ⟨restr a.env d.sl,.nil,0⟩=some true∧∀ c,c≤X.m→(∀ k' i,k'<j→X.kind k'=.x i→Anc an j k'→i<c)→stepQ d.i.o ⟨restr a.env d.sl,X.mem c,0⟩=some v)
    (fA:∀ t,K=.a t→∀ Γ:Ctx,Γ.P=P→Γ.n=n→ISnd Γ d.i ⟨restr a.env d.sl,.nil,a.nx⟩ ((⟨restr a.env d.sl,t,nx'⟩:AS).putO d.i.d v))
    (hp1:∀ p,p∈pend'→p∈a.pend∨(p.1=j∧∃ t,K=.a t∧t.get p.2.1=some p.2.2∧∀ k' i',k'<j→X.kind k'=.x i'→¬ Anc an k' j))
    (hp2:∀ p,p∈a.pend→p∈pend') (hp3:∀ (t:Tr Blk) (b:Nat) (kk:Blk),K=.a t→t.get b=some kk→(j,b,kk)∈pend')
    (hf1:∀ p,p∈a.fl→p∈fl') (hf2:K=.l→(j,d.i.o,restr a.env d.sl,v)∈fl') (hanc:∀ k' i',k'<j→X.kind k'=.x i'→¬ Anc an k' j) :
    W P n ds an st0 ⟨up X.kind j K,up X.out j v,up X.re j (restr a.env d.sl),up X.lo j a.nx,up X.hi j nx',X.mem,X.pre,X.tg,X.m⟩ (j+1) ⟨putE a.env d.i.d v,nx',a.mems,pend',fl',a.last⟩:=by
  obtain ⟨b1,b2,b3,b4⟩:=h.base hd K v nx' hnx
  have hx:∀ k i,k<j+1→up X.kind j K k=.x i→k<j∧X.kind k=.x i:=by
    intro k i hk hki
    by_cases e:k=j
    · subst e;rw [up_same] at hki;exact absurd hki (hKx i)
    · rw [up_other _ _ _ e] at hki;exact ⟨by omega,hki⟩
  have hx':∀ k i,k<j→X.kind k=.x i→k<j+1∧up X.kind j K k=.x i:=fun k i hk hki=>⟨by omega,by rw [up_other _ _ _ (by omega)];exact hki⟩
  have hno:∀ A,(∀ k' i',k'<j+1→up X.kind j K k'=.x i'→¬ Anc an k' A)→∀ k' i',k'<j→X.kind k'=.x i'→¬ Anc an k' A:=fun A hA k' i' h1 h2=>hA k' i' (hx' k' i' h1 h2).1 (hx' k' i' h1 h2).2
  refine ⟨b1,b2,Nat.le_trans h.n0 hnx,b3,b4,h.mem0,fun k i hk hki=>?_,fun i hi=>?_,fun k k' i i' hk hk' h1 h2=>?_,fun k k' i i' hk hk' h1 h2 b hb=>?_,fun k i b hk hki hb=>?_,fun k d' hk hd' hki=>?_,fun k d' hk hd' hki=>?_,fun k d' t hk hd' hki=>?_,fun k d' i hk hd' hki=>?_,fun k i b kk hk hki hb=>?_,?_,h.ml,h.tg0,fun k i hk hki=>?_,fun A b kk hm=>?_,fun A t b kk hA hkA hnA hb=>?_,fun l d' hl hd' hkl hnl=>?_⟩
  · have:=hx k i hk hki;exact h.x1 k i this.1 this.2
  · obtain ⟨k,h1,h2⟩:=h.x2 i hi;exact ⟨k,(hx' k i h1 h2).1,(hx' k i h1 h2).2⟩
  · have g1:=hx k i (by omega) h1;have g2:=hx k' i' hk' h2;exact h.x3 k k' i i' hk g2.1 g1.2 g2.2
  · have g1:=hx k i (by omega) h1;have g2:=hx k' i' hk' h2;exact h.x4 k k' i i' hk g2.1 g1.2 g2.2 b hb
  · have:=hx k i hk hki;exact h.la k i b this.1 this.2 hb
  · by_cases e:k=j
    · subst e
      rw [hd] at hd';injection hd' with hd';subst hd'
      simp only [up_same] at hki ⊢
      exact fP hki
    · simp only [up_other _ _ _ e] at hki ⊢
      exact h.fP k d' (by omega) hd' hki
  · by_cases e:k=j
    · subst e
      rw [hd] at hd';injection hd' with hd';subst hd'
      simp only [up_same] at hki ⊢
      obtain ⟨g1,g2,g3⟩:=fL hki
      exact ⟨g1,g2,fun c hc hlo _=>g3 c hc fun k' i h1 h2=>hlo k' i (hx' k' i h1 h2).1 (hx' k' i h1 h2).2⟩
    · simp only [up_other _ _ _ e] at hki ⊢
      obtain ⟨g1,g2,g3⟩:=h.fL k d' (by omega) hd' hki
      exact ⟨g1,g2,fun c hc hlo hhi=>g3 c hc (fun k' i h1 h2=>hlo k' i (hx' k' i h1 h2).1 (hx' k' i h1 h2).2) fun k' i h1 h2=>hhi k' i (hx' k' i h1 h2).1 (hx' k' i h1 h2).2⟩
  · by_cases e:k=j
    · subst e
      rw [hd] at hd';injection hd' with hd';subst hd'
      simp only [up_same] at hki ⊢
      exact fA t hki
    · simp only [up_other _ _ _ e] at hki ⊢
      exact h.fA k d' t (by omega) hd' hki
  · have g:=hx k i hk hki
    have e:k≠j:=by omega
    simp only [up_other _ _ _ e]
    exact h.fX k d' i g.1 hd' g.2
  · have g:=hx k i hk hki
    rcases h.pX k i b kk g.1 g.2 hb with h1 | ⟨A,t,g1,g2,g3,g4,g5⟩
    · exact .inl h1
    · refine .inr ⟨A, t, by omega, g2, (up_other X.kind j K (by omega : A ≠ j)).trans g3, g4, fun k' i' q1 q2 q3 => ?_⟩
      have g6:=hx k' i' q1 q2
      exact g5 k' i' g6.1 g6.2 q3
  · intro b kk hb
    rcases h.dm b kk hb with h1 | h1
    · exact .inl h1
    · exact .inr ⟨h1.1,Nat.lt_of_lt_of_le h1.2 hnx⟩
  · have g:=hx k i hk hki;exact h.tgx k i g.1 g.2
  · rcases hp1 _ hm with h1 | ⟨h1,t,h2,h3,h4⟩
    · obtain ⟨g1, t, g2, g3, g4⟩ := h.p1 A b kk h1
      refine ⟨by omega,t,(up_other X.kind j K (by omega:A≠j)).trans g2,g3,fun k' i' q1 q2=>?_⟩
      have g6:=hx k' i' q1 q2
      exact g4 k' i' g6.1 g6.2
    · simp only at h1 h3
      subst h1
      refine ⟨by omega,t,(up_same X.kind A K).trans h2,h3,fun k' i' q1 q2=>?_⟩
      have g6:=hx k' i' q1 q2
      exact h4 k' i' g6.1 g6.2
  · by_cases e:A=j
    · subst e
      simp only [up_same] at hkA
      exact hp3 t b kk hkA hb
    · simp only [up_other _ _ _ e] at hkA
      exact hp2 _ (h.p2 A t b kk (by omega) hkA (hno A hnA) hb)
  · by_cases e:l=j
    · subst e
      rw [hd] at hd';injection hd' with hd';subst hd'
      simp only [up_same] at hkl ⊢
      exact hf2 hkl
    · simp only [up_other _ _ _ e] at hkl ⊢
      exact hf1 _ (h.fl l d' (by omega) hd' hkl (hno l hnl))
theorem flOk_inv {bits:Nat} {m:Tr Blk}:∀ {l l':List (Nat×Ins×Tr AV×AV)},flOk bits m l=some l'→∀ (k:Nat) (o:Ins) (re:Tr AV) (v:AV),(k,o,re,v)∈l→bits.testBit k=false→stepQ o ⟨re,m,0⟩=some v∧(k,o,re,v)∈l':=by
 intro l
 induction l with
 | nil=>intro l' _ k o re v hm;cases hm
 | cons p l ih =>
  intro l' h k o re v hm hb
  obtain ⟨k0,o0,re0,v0⟩:=p
  simp only [flOk] at h
  split at h
  ·cases h
  rename_i r' hr
  split at h
  ·rename_i hbit
   injection h with h
   subst h
   rcases List.mem_cons.1 hm with hm | hm
   ·injection hm with e1 hm
    subst e1
    rw [hb] at hbit;cases hbit
   exact ih hr k o re v hm hb
  split at h
  ·rename_i v' hv'
   split at h
   ·rename_i hs
    injection h with h
    subst h
    have hs:=sameA_eq hs
    subst hs
    rcases List.mem_cons.1 hm with hm | hm
    ·injection hm with e1 hm
     injection hm with e2 hm
     injection hm with e3 e4
     subst e1 e2 e3 e4
     exact ⟨hv',by simp⟩
    obtain ⟨g1,g2⟩:=ih hr k o re v hm hb
    exact ⟨g1,by simp [g2]⟩
   cases h
  cases h
theorem W.aRange (h:W P n ds an st0 X j a) (Γ:Ctx) (hP:Γ.P=P) (hn:Γ.n=n) {A:Nat} {d:D} {t:Tr Blk} (hA:A<j) (hd:ds[A]? = some d) (hk:X.kind A=.a t) {b:Nat} {kk:Blk} (hb:t.get b=some kk):X.lo A≤b∧b<X.hi A:=by
 have h:=(h.fA A d t hA hd hk Γ hP hn).low.dom
 simp only [putO_mem,putO_nx] at h
 rcases h b kk hb with ⟨k,h1⟩ | h1
 ·rw [Tr.get_nil] at h1;cases h1
 exact h1
theorem W.chg (h:W P n ds an st0 X j a) (Γ:Ctx) (hP:Γ.P=P) (hn:Γ.n=n) {d:D} (hd:ds[j]? = some d) (v:AV) (m':Tr Blk) (nx':Nat) (fl':List (Nat×Ins×Tr AV×AV))
    (hI:∀ Γ:Ctx,Γ.P=P→Γ.n=n→ISnd Γ d.i ⟨restr a.env d.sl,ovl (X.mem X.m) (a.pend.filter fun p=>(an.getD j 0).testBit p.1),a.nx⟩ ((⟨restr a.env d.sl,m',nx'⟩:AS).putO d.i.d v))
    (hlast:Nat.beq (an.getD j 0 ||| a.last) (an.getD j 0)=true) (hfl:flOk (an.getD j 0) m' a.fl=some fl') (hanc:∀ b,Anc an j b→b<j) :
    W P n ds an st0 ⟨up X.kind j (.x X.m),up X.out j v,up X.re j (restr a.env d.sl),up X.lo j a.nx,up X.hi j nx',up X.mem (X.m+1) m',up X.pre X.m (ovl (X.mem X.m) (a.pend.filter fun p=>(an.getD j 0).testBit p.1)),up X.tg (X.m+1) (j+1),X.m+1⟩
      (j+1) ⟨putE a.env d.i.d v,nx',(j+1,m')::a.mems,a.pend.filter (fun p=>!(an.getD j 0).testBit p.1),fl',an.getD j 0 ||| (1 <<< j)⟩:=by
  have hlow:=(hI Γ hP hn).low
  simp only [putO_mem,putO_nx] at hlow
  obtain ⟨b1,b2,b3,b4⟩:=h.base hd (.x X.m) v nx' hlow.le
  have hx:∀ k i,k<j+1→up X.kind j (.x X.m) k=.x i→(k<j∧X.kind k=.x i)∨(k=j∧i=X.m):=by
    intro k i hk hki
    by_cases e:k=j
    · subst e;rw [up_same] at hki;injection hki with hki;exact .inr ⟨rfl,hki.symm⟩
    · rw [up_other _ _ _ e] at hki;exact .inl ⟨by omega,hki⟩
  have hx':∀ k i,k<j→X.kind k=.x i→k<j+1∧up X.kind j (.x X.m) k=.x i:=fun k i hk hki=>⟨by omega,by rw [up_other _ _ _ (by omega)];exact hki⟩
  have hj':j<j+1∧up X.kind j (.x X.m) j=.x X.m:=⟨Nat.lt_succ_self _,up_same _ _ _⟩
  have hla:∀ b,a.last.testBit b=true→Anc an j b:=by
    intro b hb
    have h1:=Nat.eq_of_beq_eq_true hlast
    unfold Anc
    rw [← h1,Nat.testBit_or,hb]
    simp
  have hmem:∀ c,c≤X.m→up X.mem (X.m+1) m' c=X.mem c:=fun c hc=>up_other _ _ _ (by omega)
  refine ⟨b1,b2,Nat.le_trans h.n0 hlow.le,b3,b4,(hmem 0 (Nat.zero_le _)).trans h.mem0,fun k i hk hki=>?_,fun i hi=>?_,fun k k' i i' hk hk' h1 h2=>?_,fun k k' i i' hk hk' h1 h2 b hb=>?_,fun k i b hk hki hb=>?_,fun k d' hk hd' hki=>?_,fun k d' hk hd' hki=>?_,fun k d' t hk hd' hki=>?_,fun k d' i hk hd' hki=>?_,fun k i b kk hk hki hb=>?_,?_,?_,(up_other X.tg _ (j+1) (by omega:0≠X.m+1)).trans h.tg0,fun k i hk hki=>?_,fun A b kk hm=>?_,fun A t b kk hA hkA hnA hb=>?_,fun l d' hl hd' hkl hnl=>?_⟩
  · rcases hx k i hk hki with g | ⟨_,rfl⟩
    · have:=h.x1 k i g.1 g.2;show i<X.m+1;omega
    · exact Nat.lt_succ_self _
  · have hi:i<X.m+1:=hi
    by_cases e:i=X.m
    · subst e;exact ⟨j,hj'.1,hj'.2⟩
    · obtain ⟨k,h1,h2⟩:=h.x2 i (by omega);exact ⟨k,(hx' k i h1 h2).1,(hx' k i h1 h2).2⟩
  · rcases hx k i (by omega) h1 with g1 | g1
    · rcases hx k' i' hk' h2 with g2 | ⟨_,rfl⟩
      · exact h.x3 k k' i i' hk g2.1 g1.2 g2.2
      · exact h.x1 k i g1.1 g1.2
    · omega
  · rcases hx k i (by omega) h1 with g1 | g1
    · rcases hx k' i' hk' h2 with g2 | ⟨rfl,_⟩
      · exact h.x4 k k' i i' hk g2.1 g1.2 g2.2 b hb
      · exact hla b (h.la k i b g1.1 g1.2 hb)
    · omega
  · show (an.getD j 0 ||| (1 <<< j)).testBit b=true
    rw [Nat.testBit_or]
    rcases hx k i hk hki with g | ⟨rfl,_⟩
    · have:Anc an j b:=hla b (h.la k i b g.1 g.2 hb)
      unfold Anc at this
      rw [this];rfl
    · rcases hb with rfl | hb
      · rw [Nat.one_shiftLeft,Nat.testBit_two_pow_self];simp
      · unfold Anc at hb;rw [hb];rfl
  · by_cases e:k=j
    · subst e;simp only [up_same] at hki;cases hki
    · simp only [up_other _ _ _ e] at hki ⊢;exact h.fP k d' (by omega) hd' hki
  · by_cases e:k=j
    · subst e;simp only [up_same] at hki;cases hki
    · simp only [up_other _ _ _ e] at hki ⊢
      obtain ⟨g1,g2,g3⟩:=h.fL k d' (by omega) hd' hki
      refine ⟨g1,g2,fun c hc hlo hhi=>?_⟩
      have hc:c≤X.m+1:=hc
      by_cases e2:c=X.m+1
      · subst e2
        rw [up_same]
        have hnj:¬ Anc an j k:=fun ha=>by have:=hhi j X.m hj'.1 hj'.2 ha;omega
        have hno:∀ k' i',k'<j→X.kind k'=.x i'→¬ Anc an k' k:=fun k' i' q1 q2 ha=>by
          have:=hhi k' i' (hx' k' i' q1 q2).1 (hx' k' i' q1 q2).2 ha
          have:=h.x1 k' i' q1 q2
          omega
        have hin:=h.fl k d' (by omega) hd' hki hno
        exact (flOk_inv hfl k _ _ _ hin (by unfold Anc at hnj;simpa using hnj)).1
      · rw [hmem c (by omega)]
        exact g3 c (by omega) (fun k' i q1 q2=>hlo k' i (hx' k' i q1 q2).1 (hx' k' i q1 q2).2) fun k' i q1 q2=>hhi k' i (hx' k' i q1 q2).1 (hx' k' i q1 q2).2
  · by_cases e:k=j
    · subst e;simp only [up_same] at hki;cases hki
    · simp only [up_other _ _ _ e] at hki ⊢;exact h.fA k d' t (by omega) hd' hki
  · rcases hx k i hk hki with g | ⟨rfl,rfl⟩
    · have e : k ≠ j := by omega
      have hi:=h.x1 k i g.1 g.2
      simp only [up_other _ _ _ e]
      rw [up_other X.pre _ _ (by omega:i≠X.m),hmem (i+1) (by omega)]
      exact h.fX k d' i g.1 hd' g.2
    · rw [hd] at hd'; injection hd' with hd'; subst hd'
      simp only [up_same]
      exact hI
  · have hkk : ∀ A, A < j → up X.kind j (.x X.m) A = X.kind A := fun A hA => up_other _ _ _ (by omega)
    rcases hx k i hk hki with g | ⟨rfl,rfl⟩
    · have hi:=h.x1 k i g.1 g.2
      have hb':(X.pre i).get b=some kk:=by
        have:up X.pre X.m (ovl (X.mem X.m) (a.pend.filter fun p=>(an.getD j 0).testBit p.1)) i=X.pre i:=up_other _ _ _ (by omega)
        rw [← this];exact hb
      rcases h.pX k i b kk g.1 g.2 hb' with h1 | ⟨A,t,g1,g2,g3,g4,g5⟩
      · exact .inl (by show (up X.mem (X.m+1) m' i).get b=_;rw [hmem i (by omega)];exact h1)
      · refine .inr ⟨A, t, by omega, g2, (hkk A g1).trans g3, g4, fun k' i' q1 q2 q3 => ?_⟩
        rcases hx k' i' q1 q2 with g6 | ⟨_,rfl⟩
        · exact g5 k' i' g6.1 g6.2 q3
        · omega
    · have hb':(ovl (X.mem X.m) (a.pend.filter fun p=>(an.getD k 0).testBit p.1)).get b=some kk:=by
        have:up X.pre X.m (ovl (X.mem X.m) (a.pend.filter fun p=>(an.getD k 0).testBit p.1)) X.m=_:=up_same _ _ _
        rw [← this];exact hb
      rcases ovl_get hb' with ⟨A,hA⟩ | h1
      · obtain ⟨hA1, hA2⟩ := List.mem_filter.1 hA
        obtain ⟨g1,t,g2,g3,g4⟩:=h.p1 A b kk hA1
        refine .inr ⟨A,t,by omega,hA2,(hkk A g1).trans g2,g3,fun k' i' q1 q2 q3=>?_⟩
        rcases hx k' i' q1 q2 with g6 | ⟨_,rfl⟩
        · exact g4 k' i' g6.1 g6.2
        · omega
      · exact .inl (by show (up X.mem (X.m+1) m' X.m).get b=_;rw [hmem X.m (Nat.le_refl _)];exact h1)
  · show Dom st0.mem st0.nx nx' (up X.mem (X.m+1) m' (X.m+1))
    rw [up_same]
    intro b kk hb
    rcases hlow.dom b kk hb with ⟨k1,h1⟩ | h1
    · rcases ovl_get h1 with ⟨A, hA⟩ | h2
      · obtain ⟨hA1, hA2⟩ := List.mem_filter.1 hA
        obtain ⟨g1,t,g2,g3,_⟩:=h.p1 A b k1 hA1
        have hAl:A<ds.length:=Nat.lt_trans g1 (List.getElem?_eq_some_iff.1 hd).1
        have:=h.aRange Γ hP hn g1 (List.getElem?_eq_getElem hAl) g2 g3
        have g5:=h.n1 A g1
        have:=hlow.le
        exact .inr (by omega)
      · rcases h.dm b k1 h2 with h3 | h3
        · exact .inl h3
        · have:=hlow.le;exact .inr (by omega)
    · have:=h.n0;exact .inr (by omega)
  · show (j+1,m')::a.mems=snaps (up X.tg (X.m+1) (j+1)) (up X.mem (X.m+1) m') (X.m+1)
    simp only [snaps,up_same]
    rw [snaps_up X.m (Nat.lt_succ_self _),h.ml]
  · rcases hx k i hk hki with g | ⟨rfl,rfl⟩
    · have hi:=h.x1 k i g.1 g.2
      exact (up_other X.tg _ _ (by omega)).trans (h.tgx k i g.1 g.2)
    · exact up_same _ _ _
  · obtain ⟨hA1, hA2⟩ := List.mem_filter.1 hm
    obtain ⟨g1,t,g2,g3,g4⟩:=h.p1 A b kk hA1
    refine ⟨by omega,t,(up_other X.kind j _ (by omega:A≠j)).trans g2,g3,fun k' i' q1 q2=>?_⟩
    rcases hx k' i' q1 q2 with g6 | ⟨rfl,_⟩
    · exact g4 k' i' g6.1 g6.2
    · intro ha
      unfold Anc at ha
      simp only [ha,Bool.not_true] at hA2
      cases hA2
  · by_cases e:A=j
    · subst e;simp only [up_same] at hkA;cases hkA
    · simp only [up_other _ _ _ e] at hkA
      have h1:=h.p2 A t b kk (by omega) hkA (fun k' i' q1 q2=>hnA k' i' (hx' k' i' q1 q2).1 (hx' k' i' q1 q2).2) hb
      refine List.mem_filter.2 ⟨h1,?_⟩
      have:=hnA j X.m hj'.1 hj'.2
      unfold Anc at this
      simpa using this
  · by_cases e:l=j
    · subst e;simp only [up_same] at hkl;cases hkl
    · simp only [up_other _ _ _ e] at hkl ⊢
      have h1:=h.fl l d' (by omega) hd' hkl fun k' i' q1 q2=>hnl k' i' (hx' k' i' q1 q2).1 (hx' k' i' q1 q2).2
      have:=hnl j X.m hj'.1 hj'.2
      unfold Anc at this
      exact (flOk_inv hfl l _ _ _ h1 (by simpa using this)).2
end
open Go.RowKit
open Go.Eng (Od Grow callable getD_toList aggT sizeT run_loadVar_gen)
section
variable {P:Program} {n:Nat} {ds:List D} {an:List Nat} {st0:AS} {X:Dt} {j:Nat} {a a':Acc} {call:Call'}
theorem isnd_quiet {Γ:Ctx} {d:D} {re:Tr AV} {m:Tr Blk} {lo hi:Nat} {v:AV} (hlh:lo=hi) (hg:gOk d.i ⟨re,.nil,0⟩=some true) (hq:stepQ d.i.o ⟨re,m,0⟩=some v):ISnd Γ d.i ⟨re,m,lo⟩ ((⟨re,m,hi⟩:AS).putO d.i.d v):=by
 subst hlh
 have h1:gOk d.i (⟨re,m,lo⟩:AS)=some true:=by rw [← hg];exact gOk_env
 have h2:stepQ d.i.o (⟨re,m,lo⟩:AS)=some v:=by rw [stepQ_nx];exact hq
 have hb:d.i.o≠.bad:=fun hb=>by rw [hb] at h2;cases h2
 exact .of h1 hb (Low.refl _ _) fun o ho=>.quiet (by rw [← ho];exact h2)
theorem W.step (hcall:CallSnd P call) (hok:okD ds an=true) (Γ0:Ctx) (hP:Γ0.P=P) (hn:Γ0.n=n) (h:W P n ds an st0 X j a) {d:D} (hd:ds[j]? = some d) (hs:dStep call j d (an.getD j 0) a=some a'):∃ X',W P n ds an st0 X' (j+1) a':=by
  have hlt:∀ b,Anc an j b→b<j:=fun b hb=>anc_lt hok hd hb
  have hanc:∀ k' i',k'<j→X.kind k'=.x i'→¬ Anc an k' j:=fun k' i' hk _ ha=>by
    have hk'l:k'<ds.length:=Nat.lt_trans hk (List.getElem?_eq_some_iff.1 hd).1
    have:=anc_lt hok (List.getElem?_eq_getElem hk'l) ha
    omega
  simp only [dStep] at hs
  split at hs
  · cases hs
  · rename_i hg
    injection hs with hs
    subst hs
    refine ⟨_,h.calm hd .p (.tup []) a.nx a.pend a.fl (Nat.le_refl _) (by simp) (fun _=>⟨rfl,fun Γ h1 h2=>.skip hg⟩) (fun h=>by cases h) (fun t h=>by cases h) (fun p hp=>.inl hp) (fun p hp=>hp) (fun t b kk h=>by cases h) (fun p hp=>hp) (fun h=>by cases h) hanc⟩
  · rename_i hg
    have hg0:gOk d.i ⟨restr a.env d.sl,.nil,0⟩=some true:=by rw [← hg];exact gOk_env
    split at hs
    · rename_i v hv
      injection hs with hs
      subst hs
      exact ⟨_,h.calm hd .p v a.nx a.pend a.fl (Nat.le_refl _) (by simp) (fun _=>⟨rfl,fun Γ h1 h2=>isnd_quiet rfl hg0 (by rw [← stepQ_nx d.i.o a.nx];exact hv)⟩) (fun h=>by cases h) (fun t h=>by cases h) (fun p hp=>.inl hp) (fun p hp=>hp) (fun t b kk h=>by cases h) (fun p hp=>hp) (fun h=>by cases h) hanc⟩
    · split at hs
      · -- a load
        split at hs
        · cases hs
        rename_i x0 m0 l0 hm
        split at hs
        · cases hs
        rename_i v hv
        split at hs
        case h_2=>cases hs
        rename_i hrd
        injection hs with hs
        subst hs
        refine ⟨_,h.calm hd .l v a.nx a.pend _ (Nat.le_refl _) (by simp) (fun h=>by cases h) (fun _=>⟨rfl,hg0,fun c hc hlo=>?_⟩) (fun t h=>by cases h) (fun p hp=>.inl hp) (fun p hp=>hp) (fun t b kk h=>by cases h) (fun p hp=>List.mem_cons_of_mem _ hp) (fun _=>List.mem_cons_self ..) hanc⟩
        rw [h.ml] at hrd
        have htg:∀ i t,i<X.m→X.tg (i+1)=t→∃ k,k<j∧X.kind k=.x i∧t=k+1:=fun i t hi ht=>by
          obtain ⟨k,hk,hkx⟩:=h.x2 i hi
          exact ⟨k,hk,hkx,by rw [← ht];exact h.tgx k i hk hkx⟩
        have key:∀ i,i≤X.m→rdAll d.i.o (restr a.env d.sl) (an.getD j 0) v (snaps X.tg X.mem i)=true→∀ c,c≤i→(∀ k' i',k'<j→X.kind k'=.x i'→Anc an j k'→i'<c)→stepQ d.i.o ⟨restr a.env d.sl,X.mem c,0⟩=some v:=by
          intro i
          induction i with
          | zero =>
            intro _ h1 c hc _
            have:c=0:=by omega
            subst this
            simp only [snaps,rdAll,Bool.and_eq_true] at h1
            have h1:=h1.1
            split at h1
            · rename_i v' hv'
              have:=sameA_eq h1
              subst this
              exact hv'
            · cases h1
          | succ i ih =>
            intro hi h1 c hc hlo
            simp only [snaps,rdAll,Bool.and_eq_true] at h1
            by_cases e:c=i+1
            · subst e
              have h1:=h1.1
              split at h1
              · rename_i v' hv'
                have:=sameA_eq h1
                subst this
                exact hv'
              · cases h1
            · obtain ⟨k, hk, hkx, hkt⟩ := htg i _ (by omega) rfl
              have h2:=h1.2
              rw [hkt] at h2
              simp only [Bool.or_eq_true] at h2
              rcases h2 with h2 | h2
              · have:=hlo k i hk hkx h2
                omega
              · exact ih (by omega) h2 c (by omega) hlo
        exact key X.m (Nat.le_refl _) hrd c hc hlo
      · rename_i hnl
        split at hs
        · -- something of its own
          rename_i s1 v hv
          split at hs
          case h_2=>cases hs
          rename_i k hk hnx
          have hnx:s1.nx=a.nx+1:=Nat.eq_of_beq_eq_true hnx
          injection hs with hs
          subst hs
          have hlow:=stepE_low hv
          have hone:∀ b kk,s1.mem.get b=some kk→b=a.nx∧kk=k:=by
            intro b kk hb
            rcases hlow.2.1 b kk hb with ⟨k1,h1⟩ | h1
            · simp only [Tr.get_nil] at h1;cases h1
            · have : b = a.nx := by simp only [hnx] at h1; omega
              subst this
              rw [hk] at hb
              injection hb with hb
              exact ⟨rfl,hb.symm⟩
          have hbd:d.i.o≠.bad:=fun hb=>by rw [hb] at hv;cases hv
          refine ⟨_,h.calm hd (.a s1.mem) v (a.nx+1) _ a.fl (Nat.le_succ _) (by simp) (fun h=>by cases h) (fun h=>by cases h) (fun t ht Γ h1 h2=>?_) (fun p hp=>?_) (fun p hp=>List.mem_cons_of_mem _ hp) (fun t b kk ht hb=>?_) (fun p hp=>hp) (fun h=>by cases h) hanc⟩
          · injection ht with ht
            subst ht
            rw [← hnx]
            exact .of hg hbd ⟨hlow.1,hlow.2.1,hlow.2.2.2⟩ fun o ho=>.eff (by rw [← ho];exact hv)
          · rcases List.mem_cons.1 hp with rfl | hp
            · exact .inr ⟨rfl,s1.mem,rfl,hk,hanc⟩
            · exact .inl hp
          · injection ht with ht
            subst ht
            obtain ⟨rfl,rfl⟩:=hone b kk hb
            exact List.mem_cons_self ..
        · -- a changer
          split at hs
          · cases hs
          rename_i x0 m0 l0 hm
          have hm0:m0=X.mem X.m:=by
            obtain ⟨l1,hl1⟩:=snaps_head X.tg X.mem X.m
            rw [h.ml,hl1] at hm
            injection hm with hm _
            injection hm with _ hm
            exact hm.symm
          subst hm0
          split at hs
          · cases hs
          rename_i v m' nx' hv
          split at hs
          case h_2=>cases hs
          rename_i fl' hlast hfl
          injection hs with hs
          subst hs
          have hbd:d.i.o≠.bad:=fun hb=>by rw [hb,evV_bad] at hv;cases hv
          exact ⟨_,h.chg Γ0 hP hn hd v m' nx' fl' (fun Γ h1 h2=>.of (by rw [← hg];exact gOk_env) hbd (evV_low hcall hv) fun o ho=>evV_sound (by rw [h1];exact hcall) (by rw [← ho];exact hv)) hlast hfl hlt⟩
theorem W.all (hcall:CallSnd P call) (hok:okD ds an=true) (Γ0:Ctx) (hP:Γ0.P=P) (hn:Γ0.n=n):∀ (l:List D) (j:Nat) (X:Dt) (a a':Acc),(∀ i d,l[i]? = some d→ds[j+i]? = some d)→W P n ds an st0 X j a→dRun call an j l a=some a'→∃ X',W P n ds an st0 X' (j+l.length) a':=by
 intro l
 induction l with
 | nil=>intro j X a a' _ h hs;simp only [dRun] at hs;injection hs with hs;subst hs;exact ⟨X,h⟩
 | cons d l ih =>
  intro j X a a' hl h hs
  simp only [dRun] at hs
  split at hs
  ·rename_i a1 h1
   obtain ⟨X1,hX1⟩:=h.step hcall hok Γ0 hP hn (hl 0 d rfl) h1
   obtain ⟨X2,hX2⟩:=ih (j+1) X1 a1 a' (fun i d' hi=>by have:=hl (i+1) d' (by simpa using hi);rwa [show j+1+i=j+(i+1) by omega]) hX1 hs
   exact ⟨X2,by rw [List.length_cons,show j+(l.length+1)=j+1+l.length by omega];exact hX2⟩
  cases hs
theorem W.zero:W P n ds an st0 ⟨fun _=>.p,fun _=>.any,fun _=>.nil,fun _=>0,fun _=>0,fun _=>st0.mem,fun _=>.nil,fun _=>0,0⟩ 0 ⟨st0.env,st0.nx,[(0,st0.mem)],[],[],0⟩:=
  { e1 := fun q v h => .inr ⟨fun k d hk => by omega, h⟩, e2 := fun k d q v hk => by omega, n0 := Nat.le_refl _, n1 := fun k hk => by omega, n2 := fun k k' h1 h2 => by omega, mem0 := rfl, x1 := fun k i hk => by omega
    x2:=fun i hi=>absurd hi (Nat.not_lt_zero _),x3:=fun k k' i i' h1 h2=>by omega,x4:=fun k k' i i' h1 h2=>by omega,la:=fun k i b hk=>by omega,fP:=fun k d hk=>by omega,fL:=fun k d hk=>by omega
    fA:=fun k d t hk=>by omega,fX:=fun k d i hk=>by omega,pX:=fun k i b kk hk=>by omega,dm:=Dom.refl _ _,ml:=rfl,tg0:=rfl,tgx:=fun k i hk=>by omega
    p1:=fun A b kk hm=>absurd hm List.not_mem_nil,p2:=fun A t b kk hk=>by omega,fl:=fun l d hl=>by omega }
theorem W.draw (hok:okD ds an=true) (Γ0:Ctx) (hP:Γ0.P=P) (hn:Γ0.n=n) (h:W P n ds an st0 X ds.length a):Nonempty (Draw P n ds st0 a.fin):=by
  have hlt:∀ {j d},ds[j]? = some d→j<ds.length:=fun hd=>(List.getElem?_eq_some_iff.1 hd).1
  have hget:∀ j,j<ds.length→∃ d,ds[j]? = some d:=fun j hj=>⟨_,List.getElem?_eq_getElem hj⟩
  obtain ⟨l1,hl1⟩:=snaps_head X.tg X.mem X.m
  have hfin:a.fin=⟨a.env,ovl (X.mem X.m) a.pend,a.nx⟩:=by unfold Acc.fin;rw [h.ml,hl1]
  have hord:∀ j j' k k',j<ds.length→j'<ds.length→X.kind j=.x k→X.kind j'=.x k'→k<k'→j<j':=by
    intro j j' k k' hj hj' hk hk' hkk
    rcases Nat.lt_trichotomy j j' with h1 | h1 | h1
    · exact h1
    · subst h1;rw [hk] at hk';injection hk' with hk';omega
    · have:=h.x3 j' j k' k h1 hj hk' hk;omega
  rw [hfin]
  refine ⟨⟨Anc an, X.kind, X.out, X.re, X.lo, X.hi, X.mem, X.pre, X.m, fun j d k hd hk => ok_lt hok hd hk, fun p hp => anc_clS hok p hp, fun j k d d' q hd hk h1 h2 => ok_dst hok hd hk h1 h2, fun j d q v hd hq => ?_, fun j d hd => ?_, fun j k d d' hd hk hne => ?_, h.n0, h.mem0,
    fun j d k hd hk=>h.x1 j k (hlt hd) hk,fun k hk=>?_,fun j j' d d' k hd hd' h1 h2=>?_,fun j j' d d' k k' hd hd' h1 h2 hkk=>?_,fun j j' A d d' k k' hd hd' h1 h2 hkk hA=>?_,fun j d hd hk=>h.fP j d (hlt hd) hd hk,fun j d hd hk=>?_,fun j d t hd hk=>h.fA j d t (hlt hd) hd hk,fun j d k hd hk=>h.fX j d k (hlt hd) hd hk,
    fun j d k b kk hd hk hb=>?_,fun b kk hb=>?_,fun b kk hb=>?_,fun q v hq=>?_⟩⟩
  · obtain ⟨hsl, h1⟩ := h.e2 j d q v (hlt hd) hd hq
    rcases h1 with ⟨k,d',g1,g2,g3,g4⟩ | ⟨g1,g2⟩
    · left
      refine ⟨k,d',g2,?_,g3,g4⟩
      rcases ok_look hok hd hsl g2 g3 with h2 | h2
      · exact h2
      · have:=anc_lt hok g2 h2;omega
    · right
      refine ⟨fun k d' hk hdk=>?_,g2⟩
      rcases ok_look hok hd hsl hk hdk with h2 | h2
      · have:=anc_lt hok hd h2
        exact absurd hdk (g1 k d' this hk)
      · exact h2
  · exact h.n1 j (hlt hd)
  · rcases Nat.lt_or_gt_of_ne hne with h1 | h1
    · exact .inl (h.n2 j k h1 (hlt hk))
    · exact .inr (h.n2 k j h1 (hlt hd))
  · obtain ⟨j, hj, hjk⟩ := h.x2 k hk
    obtain ⟨d,hd⟩:=hget j hj
    exact ⟨j,d,hd,hjk⟩
  · rcases Nat.lt_trichotomy j j' with g | g | g
    · have:=h.x3 j j' k k g (hlt hd') h1 h2;omega
    · exact g
    · have:=h.x3 j' j k k g (hlt hd) h2 h1;omega
  · exact h.x4 j j' k k' (hord j j' k k' (hlt hd) (hlt hd') h1 h2 hkk) (hlt hd') h1 h2 j (.inl rfl)
  · exact h.x4 j j' k k' (hord j j' k k' (hlt hd) (hlt hd') h1 h2 hkk) (hlt hd') h1 h2 A (.inr hA)
  · obtain ⟨g1, g2, g3⟩ := h.fL j d (hlt hd) hd hk
    refine ⟨g1,fun c hc hlo hhi=>⟨X.out j,fun _ _ h=>h,fun Γ h1 h2=>isnd_quiet g1 g2 (g3 c hc (fun k' i hk' hx ha=>?_) fun k' i hk' hx ha=>?_)⟩⟩
    · obtain ⟨d', hd'⟩ := hget k' hk'
      exact hlo k' d' i hd' hx ha
    · obtain ⟨d', hd'⟩ := hget k' hk'
      exact hhi k' d' i hd' hx ha
  · rcases h.pX j k b kk (hlt hd) hk hb with h1 | ⟨A,t,g1,g2,g3,g4,g5⟩
    · exact .inl h1
    · obtain ⟨d', hd'⟩ := hget A g1
      exact .inr ⟨A,d',t,hd',g2,g3,g4,fun j' d'' k' q1 q2 q3=>g5 j' k' (hlt q1) q2 q3⟩
  · rcases ovl_get hb with ⟨A, hA⟩ | h1
    · obtain ⟨g1, t, g2, g3, g4⟩ := h.p1 A b kk hA
      obtain ⟨d',hd'⟩:=hget A g1
      have:=h.aRange Γ0 hP hn g1 hd' g2 g3
      have g5:=h.n1 A g1
      exact .inr (by show st0.nx≤b∧b<a.nx;omega)
    · exact h.dm b kk h1
  · rcases ovl_get hb with ⟨A, hA⟩ | h1
    · obtain ⟨g1, t, g2, g3, g4⟩ := h.p1 A b kk hA
      obtain ⟨d',hd'⟩:=hget A g1
      exact .inr ⟨A,d',t,hd',g2,g3,fun j' d'' k' q1 q2=>g4 j' k' (hlt q1) q2⟩
    · exact .inl h1
  · rcases h.e1 q v hq with ⟨k, d', g1, g2, g3, g4⟩ | ⟨g1, g2⟩
    · exact .inl ⟨k,d',g2,g3,g4⟩
    · exact .inr ⟨fun k d' hk=>g1 k d' (hlt hk) hk,g2⟩
end
section
variable {Γ:Ctx} {st st':AS} {call:Call'} {a:Act} {w:World}
theorem evD_sound (hcall:CallSnd Γ.P call) (hm:Γ.P.follows .mixedOrders=true) {ds:List D} {an:List Nat} (hok:okD ds an=true) (h:evD call ds an st=some st'):CSnd Γ (.draw ds) st .normal st':=by
 unfold evD at h
 split at h
 ·rename_i a ha
  injection h with h
  subst h
  obtain ⟨X,hX⟩:=W.all (n:=Γ.n) (st0:=st) hcall hok Γ rfl rfl ds 0 _ _ _ (fun i d hd=>by simpa using hd) W.zero ha
  rw [Nat.zero_add] at hX
  obtain ⟨D⟩:=hX.draw hok Γ rfl rfl
  exact .draw hm D
 cases h
theorem evLoop_sound {x:IC} {body:AS→Option (Exit×AS)} (hb:∀ st e st',body st=some (e,st')→CSnd Γ x st e st'):∀ {k:Nat} {st:AS} {e:Exit} {st':AS},evLoop body k st=some (e,st')→∃ n,RSnd Γ x n st e st':=by
 intro k
 induction k with
 | zero=>intro st e st' h;cases h
 | succ k ih =>
  intro st e st' h
  simp only [evLoop] at h
  split at h
  ·cases h
  ·rename_i st1 h1
   obtain ⟨n,hn⟩:=ih h
   exact ⟨n+1,.more (hb _ _ _ h1) hn⟩
  rename_i e1 st1 hne h1
  injection h with h
  obtain ⟨rfl,rfl⟩:=Prod.mk.inj h
  exact ⟨1,.last (hb _ _ _ h1) fun he=>hne he⟩
theorem evX_sound (hcall:CallSnd Γ.P call) (hm:Γ.P.follows .mixedOrders=true) (k:Nat):∀ {x:XC} {st:AS} {e:Exit} {st':AS},x.ok=true→evX call k x st=some (e,st')→CSnd Γ x.ic st e st':=by
 intro x
 induction x with
 | skip=>intro st e st' _ h;simp only [evX] at h;injection h with h;obtain ⟨rfl,rfl⟩:=Prod.mk.inj h;exact .skip
 | region l =>
  intro st e st' _ h
  simp only [evX] at h
  split at h
  ·rename_i st1 h1
   injection h with h;obtain ⟨rfl,rfl⟩:=Prod.mk.inj h
   exact .region (evL_sound hcall h1)
  cases h
 | draw ds an =>
  intro st e st' hok h
  simp only [evX] at h
  split at h
  ·rename_i st1 h1
   injection h with h;obtain ⟨rfl,rfl⟩:=Prod.mk.inj h
   exact evD_sound hcall hm hok h1
  cases h
 | seq a b iha ihb =>
  intro st e st' hok h
  simp only [XC.ok,Bool.and_eq_true] at hok
  simp only [evX] at h
  split at h
  ·cases h
  ·rename_i st1 h1
   exact .seq (iha hok.1 h1) (ihb hok.2 h)
  rename_i e1 st1 hne h1
  injection h with h
  obtain ⟨rfl,rfl⟩:=Prod.mk.inj h
  exact .seq' (iha hok.1 h1) fun he=>hne he
 | cond c a b iha ihb =>
  intro st e st' hok h
  simp only [XC.ok,Bool.and_eq_true] at hok
  simp only [evX] at h
  split at h
  ·cases h
  ·rename_i hb
   exact .cond (b:=true) hb (iha hok.1 h)
  rename_i hb
  exact .cond (b:=false) hb (ihb hok.2 h)
 | block id b ih =>
  intro st e st' hok h
  simp only [evX] at h
  split at h
  ·cases h
  rename_i e1 st1 h1
  injection h with h
  obtain ⟨rfl,rfl⟩:=Prod.mk.inj h
  exact .block (ih hok h1)
 | loop b ih =>
  intro st e st' hok h
  simp only [evX] at h
  obtain ⟨n,hn⟩:=evLoop_sound (x:=b.ic) (fun st e st' h=>ih hok h) h
  exact .loop hn
 | exit id=>intro st e st' _ h;simp only [evX] at h;injection h with h;obtain ⟨rfl,rfl⟩:=Prod.mk.inj h;exact .exit
 | ret=>intro st e st' _ h;simp only [evX] at h;injection h with h;obtain ⟨rfl,rfl⟩:=Prod.mk.inj h;exact .ret
 | bad=>intro st e st' _ h;cases h
theorem get_envOf:∀ (vs:List AV) (k:Nat) (t:Tr AV) (i:Nat),(envOf k t vs).get i=if i<k then t.get i else match vs[i - k]? with
    | some v=>some v
    | none=>t.get i:=by
  intro vs
  induction vs with
  | nil=>intro k t i;simp [envOf]
  | cons v vs ih =>
    intro k t i
    simp only [envOf]
    rw [ih,Tr.get_put _ _ _ _ _ (by omega)]
    by_cases h1:i<k
    · rw [if_pos (by omega),if_neg (by omega),if_pos h1]
    · rw [if_neg h1]
      by_cases h2:i=k
      · subst h2
        rw [if_pos (by omega),if_pos rfl]
        simp
      · rw [if_neg (by omega), if_neg (fun h => h2 h.symm)]
        have:i - k=(i - (k+1))+1:=by omega
        rw [this]
        simp
def rrS (tmps:Array Value):ResultVar→Sem Value
 | .tmp t=>pure (tmps.getD t undef)
 | .cell c t=>do loadVar t (← asAddr (tmps.getD c undef))
theorem res1_rep {P:Program} {ρ:Plan} (hΓ:Γ.P=P) (h:SatAt Γ ρ st a w) {r:ResultVar} {q:RR} {v:AV} (hq:RR.of P r=some q) (hv:res1 st q=some v) :
  ∃ x,(rrS a.tmps r).run P w=.ok x w∧AVRep (CRep ρ) v x:=by
 cases r with
 | tmp t =>
  simp only [RR.of] at hq
  injection hq with hq
  subst hq
  simp only [res1] at hv
  injection hv with hv
  subst hv
  exact ⟨_,rfl,h.env t⟩
 | cell c t =>
  simp only [RR.of] at hq
  split at hq
  case h_2=>cases hq
  rename_i g s hg hs
  split at hq
  case isFalse=>cases hq
  rename_i hok
  injection hq with hq
  subst hq
  simp only [res1] at hv
  split at hv
  case h_2=>cases hv
  rename_i b o hb
  split at hv
  case h_2=>cases hv
  rename_i cs hcs
  injection hv with hv
  subst hv
  have hev:=h.env c
  rw [hb] at hev
  obtain ⟨la,hla,hc'⟩:=hev.cInv.ptrInv
  obtain ⟨la1,xs,hla1,hcl,hxl,hcell,hrep,hle⟩:=h.read hcs
  rw [hla1] at hla
  injection hla with hla
  subst hla
  refine ⟨_,?_,mkAV_rep hok hxl hcl hrep⟩
  have:=run_loadVar_gen w hg hs hok la1.b (la1.off+o) xs hxl hcell
  simpa [rrS,asAddr,hc'] using this
theorem resL_rep {P:Program} {ρ:Plan} (hΓ:Γ.P=P) (h:SatAt Γ ρ st a w):∀ {rs:List ResultVar} {qs:List RR} {vs:List AV},rs.map (RR.of P)=qs.map some→resL st qs=some vs →
  ∃ xs:List Value,(rs.mapM (rrS a.tmps)).run P w=.ok xs w∧xs.length=vs.length∧∀ (i:Nat) (v:AV),vs[i]? = some v→AVRep (CRep ρ) v (xs.getD i undef):=by
 intro rs
 induction rs with
 | nil =>
  intro qs vs hq hv
  have:qs=[]:=by simpa using hq.symm
  subst this
  simp only [resL] at hv
  injection hv with hv
  subst hv
  exact ⟨[],by simp,rfl,by simp⟩
 | cons r rs ih =>
  intro qs vs hq hv
  match qs,hq with
  | q::qs,hq =>
   simp only [List.map_cons,List.cons.injEq] at hq
   simp only [resL] at hv
   split at hv
   case h_1=>cases hv
   rename_i v hv1
   split at hv
   case h_2=>cases hv
   rename_i vs' hv2
   injection hv with hv
   subst hv
   obtain ⟨x,hx1,hx2⟩:=res1_rep hΓ h hq.1 hv1
   obtain ⟨xs,h1,h2,h3⟩:=ih hq.2 hv2
   refine ⟨x::xs,?_,by simp [h2],fun i v' hi=>?_⟩
   ·simp only [List.mapM_cons,Sem.run_bind,hx1,Result.andThen_ok,h1,Sem.run_pure]
   cases i with
   | zero=>simp at hi;subst hi;simpa using hx2
   | succ i=>simpa using h3 i v' (by simpa using hi)
theorem resAV_rep {P:Program} {ρ:Plan} (hΓ:Γ.P=P) (h:SatAt Γ ρ st a w) {fn:Func} {ts:List RR} {v:AV} (hr:fn.results.toList.map (RR.of P)=ts.map some) (hv:resAV st ts=some v) :
  ∃ x,(results fn a.tmps).run P w=.ok x w∧AVRep (CRep ρ) v x:=by
 unfold resAV at hv
 have key:∀ vs:List AV,resL st ts=some vs→∃ xs:List Value,(results fn a.tmps).run P w=.ok (if h:xs.toArray.size=1 then xs.toArray[0] else .tuple xs.toArray) w∧xs.length=vs.length∧∀ (i:Nat) (v:AV),vs[i]? = some v→AVRep (CRep ρ) v (xs.getD i undef):=by
  intro vs hvs
  obtain ⟨xs,h1,h2,h3⟩:=resL_rep hΓ h hr hvs
  refine ⟨xs,?_,h2,h3⟩
  have hres:fn.results=fn.results.toList.toArray:=by simp
  unfold results
  rw [hres]
  simp only [List.mapM_toArray,Sem.run_bind,Sem.run_map,Sem.run_pure]
  show ((Sem.run P (List.mapM (rrS a.tmps) fn.results.toList) w).andThen fun a w'=>Result.ok a.toArray w').andThen _=_
  exact (congrArg (fun r:Result (List Value)=>(r.andThen fun a w'=>Result.ok a.toArray w').andThen fun a w'=>Result.ok (if h:a.size=1 then a[0] else Value.tuple a) w') h1)
 split at hv
 ·rename_i v1 hvs
  injection hv with hv
  subst hv
  obtain ⟨xs,h1,h2,h3⟩:=key _ hvs
  match xs,h2 with
  | [x],_ =>
   refine ⟨_,h1,?_⟩
   have:=h3 0 v1 rfl
   simpa using this
 ·rename_i vs hne hvs
  injection hv with hv
  subst hv
  obtain ⟨xs,h1,h2,h3⟩:=key _ hvs
  have h4:xs.length≠1:=by
   rw [h2]
   intro h5
   match vs,h5 with
   | [v],_=>exact hne v rfl
  rw [dif_neg (by simpa using h4)] at h1
  exact ⟨_,h1,.tup vs _ (by simpa using h2) fun i v hi=>by simpa [getD_toList] using h3 i v hi⟩
 cases hv
def IC.ofS (P:Program) (n:Nat):Code→IC
 | .scope c=>IC.ofS P n c
 | .seq a b=>.seq (IC.of P n a) (IC.ofS P n b)
 | c=>IC.of P n c
theorem ofS_run {Γ:Ctx} {call:Call'} (hcall:CallSnd Γ.P call) (hm:Γ.P.follows .mixedOrders=true) (k:Nat):∀ (code:Code) {x:XC} {st:AS} {e:Exit} {st':AS},IC.ofS Γ.P Γ.n code=x.ic→x.ok=true→evX call k x st=some (e,st')→(e=.ret∨e=.normal)→st'.nx≤Γ.top →
  ∀ (a:Act) (w:World),Sat Γ st a w→code.wp Γ.P (fun e' a' w'=>e'=e∧Sat Γ st' a' w') a w:=by
 intro code
 induction code with
 | scope c ih =>
  intro x st e st' hc hok hev he ht a w hs
  refine wp_scope_straight (wp_mono (ih hc hok hev he ht a w hs) fun e1 a1 w1 hl=>?_)
  obtain ⟨rfl,h⟩:=hl
  rcases he with rfl | rfl
  ·exact ⟨rfl,h⟩
  exact ⟨rfl,h⟩
 | seq c d _ ih =>
  intro x st e st' hc hok hev he ht a w hs
  simp only [IC.ofS] at hc
  cases x with
  | seq x1 x2 =>
   simp only [XC.ic,IC.seq.injEq] at hc
   obtain ⟨h1,h2⟩:=hc
   simp only [XC.ok,Bool.and_eq_true] at hok
   simp only [evX] at hev
   cases hx:evX call k x1 st with
   | none=>rw [hx] at hev;cases hev
   | some p =>
    obtain ⟨e1,st1⟩:=p
    rw [hx] at hev
    have s1:=evX_sound (Γ:=Γ) hcall hm k hok.1 hx
    cases e1 with
    | normal =>
     have s2:=evX_sound (Γ:=Γ) hcall hm k hok.2 hev
     refine wp_seq (wp_mono (s1.run (Nat.le_trans s2.low.le ht) c h1 a w hs) fun e2 a2 w2 hl=>?_)
     obtain ⟨rfl,hs2⟩:=hl
     exact ih h2 hok.2 hev he ht a2 w2 hs2
    | _ =>
     simp only at hev
     injection hev with hev
     obtain ⟨rfl,rfl⟩:=Prod.mk.inj hev
     refine wp_seq (wp_mono (s1.run ht c h1 a w hs) fun e2 a2 w2 hl=>?_)
     obtain ⟨rfl,hs2⟩:=hl
     exact ⟨rfl,hs2⟩
  | _=>simp [XC.ic] at hc
 | _ =>
  intro x st e st' hc hok hev he ht a w hs
  exact (evX_sound (Γ:=Γ) hcall hm k hok hev).run ht _ hc a w hs
def FOk (P : Program) (f : Nat) (e : FE) : Prop :=
 ∃ fn code, P.funcs[f]? = some fn ∧ fn.ntmps = e.n ∧ fn.body = some code ∧ (fn.name != "runtime.NumGoroutine") = true ∧ IC.ofS P e.n code = e.x.ic ∧ fn.results.toList.map (RR.of P) = e.ts.map some ∧ e.x.ok = true
def TblOk (P:Program) (T:Tr FE):Prop:=∀ f e,T.get f=some e→FOk P f e
theorem mkT_ok {P:Program}:∀ {l:List (Nat×FE)},(∀ p∈l,FOk P p.1 p.2)→TblOk P (mkT l):=by
 intro l
 induction l with
 | nil=>intro _ f e h;simp only [mkT,Tr.get_nil] at h;cases h
 | cons p l ih =>
  intro hl f e h
  simp only [mkT] at h
  rw [Tr.get_put _ _ _ _ _ (by omega)] at h
  split at h
  ·rename_i he
   injection h with h
   subst he h
   exact hl p (List.mem_cons_self ..)
  exact ih (fun q hq=>hl q (List.mem_cons_of_mem _ hq)) f e h
theorem evF_sound {P:Program} (hm:P.follows .mixedOrders=true) {T:Tr FE} (hT:TblOk P T) {hand:Call'} (hh:CallSnd P hand) (k0:Nat):∀ k,CallSnd P (evF T hand k0 k):=by
 intro k
 induction k with
 | zero=>intro f args mem nx res mem' nx' h;cases h
 | succ k ih =>
  intro f args mem nx res mem' nx' h
  simp only [evF] at h
  split at h
  ·exact hh _ _ _ _ _ _ _ h
  rename_i e he
  split at h
  ·cases h
  rename_i hlen
  have hlen:args.length≤e.n:=Nat.le_of_ble_eq_true hlen
  obtain ⟨fn,code,hf,hn,hb,hname,hic,hr,hok⟩:=hT f e he
  have key:∀ (ex:Exit) (st:AS),(ex=.ret∨ex=.normal)→evX (evF T hand k0 k) k0 e.x ⟨envOf 0 .nil args,mem,nx⟩=some (ex,st)→fin e st=some (res,mem',nx')→FSnd P f args mem nx res mem' nx':=by
   intro ex st hex hev hfin
   unfold fin at hfin
   split at hfin
   case h_2=>cases hfin
   rename_i rv hrv
   cases hfin
   have hcs:∀ (K:Nat→Prop) (w0:World) (ρ:Plan),CSnd ⟨P,w0,K,e.n,ρ,nx,st.nx,[]⟩ e.x.ic ⟨envOf 0 .nil args,mem,nx⟩ ex st:=fun K w0 ρ=>evX_sound (Γ:=⟨P,w0,K,e.n,ρ,nx,st.nx,[]⟩) ih hm k0 hok hev
   refine ⟨(hcs (fun _=>False) default fun _=>none).low,fun K w0 ρ w vs hms hfree hl hrep=>.inl ⟨by unfold callable;rw [hf];simp only [hname,hb];rfl,?_⟩⟩
   let Γ:Ctx:=⟨P,w0,K,e.n,ρ,nx,st.nx,[]⟩
   have hsat:SatAt Γ ρ ⟨envOf 0 .nil args,mem,nx⟩ { tmps:=vs++Array.replicate (fn.ntmps - vs.size) undef,defers:=[] } w:=by
    refine ⟨rfl,by simp [Γ,hn,hl];omega,fun i=>?_,hms,Grown.refl _ _,Nat.le_refl _,hfree⟩
    simp only [AS.get,get_envOf,Nat.not_lt_zero,if_false,Nat.sub_zero,Tr.get_nil]
    cases hi:args[i]? with
    | none=>exact .any _
    | some v =>
     have hlt:i<vs.size:=by rw [hl];exact (List.getElem?_eq_some_iff.1 hi).1
     have h2:(vs++Array.replicate (fn.ntmps - vs.size) undef).getD i undef=vs.getD i undef:=by
      simp [Array.getD_eq_getD_getElem?,Array.getElem?_append,hlt]
     simp only
     rw [h2]
     exact hrep i v hi
   refine calls_of_wp hf hb (wp_mono (ofS_run (Γ:=Γ) ih hm k0 code hic hok hev hex (Nat.le_refl _) _ _ ⟨ρ,hsat⟩) fun e' a w' hl=>?_)
   obtain ⟨rfl,ρ',hs'⟩:=hl
   obtain ⟨x,hx1,hx2⟩:=resAV_rep (Γ:=Γ) rfl hs' hr hrv
   have hpost:a.defers=[]∧∃ v,(results fn a.tmps).run P w'=.ok v w'∧∃ x ρ',(Ending.returned v)=.returned x∧Grown ρ nx st.nx ρ'∧MSat K w0 ρ' st.mem.m w'∧AVRep (CRep ρ') res x:=
    ⟨hs'.defers,x,hx1,_,ρ',rfl,hs'.base,hs'.m,hx2⟩
   rcases hex with rfl | rfl
   ·exact hpost
   exact hpost
  split at h
  ·rename_i st h1
   exact key _ _ (.inl rfl) h1 h
  ·rename_i st h1
   exact key _ _ (.inr rfl) h1 h
  cases h
end
open Go.RowKit
open Go.Eng (Od need need_pos need_some setL binV)
abbrev Rs:=Option (AV×Tr Blk×Nat)
abbrev Kv:=AV→Tr Blk→Nat→Rs
abbrev CallK:=Nat→List AV→Tr Blk→Nat→Kv→Rs
abbrev Hd:=CallK→Tr AV→Tr Blk→Nat→Kv→Rs
def aft (r:Option (AV×Tr Blk×Nat)) (k:Kv):Rs:=match r with
 | some (v,m,n)=>k v m n
 | none=>none
def IsK (ck:CallK) (c:Call'):Prop:=∀ f args mem nx k,ck f args mem nx k=aft (c f args mem nx) k
noncomputable def forceN (n:Nat) (k:Nat→Rs):Rs:=@Nat.rec (fun _=>Rs) (k Nat.zero) (fun m _=>k (Nat.succ m)) n
theorem forceN_eq (n:Nat) (k:Nat→Rs):forceN n k=k n:=by cases n<;>rfl
noncomputable def getK (env:Tr AV):Nat→(AV→Rs)→Rs:=@Tr.rec AV (fun _=>Nat→(AV→Rs)→Rs) (fun _ k=>k .any)
 (fun v l r gl gr i k=>@Nat.rec (fun _=>Rs) (@Option.rec AV (fun _=>Rs) (k .any) k v) (fun i _=>@Bool.rec (fun _=>Rs) (gr (Nat.div i 2) k) (gl (Nat.div i 2) k) (Nat.beq (Nat.mod i 2) 0)) i) env
theorem getK_eq:∀ (env:Tr AV) (i:Nat) (k:AV→Rs),getK env i k=(match env.get i with | some v=>k v | none=>k .any):=by
 intro env
 induction env with
 | nil=>intro i k;rw [Tr.get_nil];rfl
 | node v l r ihl ihr =>
  intro i k
  cases i with
  | zero =>
   show @Option.rec AV (fun _=>Rs) (k .any) k v=_
   cases v<;>rfl
  | succ i =>
   show @Bool.rec (fun _=>Rs) (getK r (i / 2) k) (getK l (i / 2) k) (Nat.beq (i % 2) 0)=_
   simp only [Tr.get]
   cases Nat.beq (i % 2) 0
   ·exact ihr ..
   exact ihl ..
def constK (v:Value) (k:AV→Rs):Rs:=match v with
 | .int kd n=>k (.c (.v (.int kd n)))
 | v=>k (avk v)
noncomputable def evK (env:Tr AV) (x:Od):(AV→Rs)→Rs:=@Od.rec (fun _=>(AV→Rs)→Rs) (getK env) constK (fun f k=>k (.c (.fn f [] []))) (fun k=>k .any) x
theorem evK_eq (env:Tr AV) (mem:Tr Blk) (nx:Nat) (x:Od) (k:AV→Rs):evK env x k=k ((⟨env,mem,nx⟩:AS).ev x):=by
 cases x with
 | t i =>
  show getK env i k=_
  rw [getK_eq]
  simp only [AS.ev,AS.get]
  cases env.get i<;>rfl
 | k v=>cases v<;>rfl
 | f f=>rfl
 | bad=>rfl
noncomputable def evLK (env:Tr AV) (l:List Od):(List AV→Rs)→Rs:=@List.rec Od (fun _=>(List AV→Rs)→Rs) (fun k=>k []) (fun x _ ih k=>evK env x fun v=>ih fun vs=>k (v::vs)) l
theorem evLK_eq (env:Tr AV) (mem:Tr Blk) (nx:Nat):∀ (xs:List Od) (k:List AV→Rs),evLK env xs k=k (xs.map (⟨env,mem,nx⟩:AS).ev):=by
 intro xs
 induction xs with
 | nil=>intro k;rfl
 | cons x xs ih =>
  intro k
  show evK env x (fun v=>evLK env xs fun vs=>k (v::vs))=_
  rw [evK_eq env mem nx,ih]
  rfl
noncomputable def putK {α:Type} (v:Option α) (n:Nat):Tr α→Nat→(Tr α→Rs)→Rs:=@Nat.rec (fun _=>Tr α→Nat→(Tr α→Rs)→Rs) (fun t _ K=>K t)
  (fun _ ih t k K => @Tr.rec α (fun _ => Rs)
    (@Nat.rec (fun _=>Rs) (K (.node v .nil .nil)) (fun k _=>@Bool.rec (fun _=>Rs) (ih .nil (Nat.div k 2) fun r=>K (.node none .nil r)) (ih .nil (Nat.div k 2) fun l=>K (.node none l .nil)) (Nat.beq (Nat.mod k 2) 0)) k)
    (fun x l r _ _=>@Nat.rec (fun _=>Rs) (K (.node v l r)) (fun k _=>@Bool.rec (fun _=>Rs) (ih r (Nat.div k 2) fun r=>K (.node x l r)) (ih l (Nat.div k 2) fun l=>K (.node x l r)) (Nat.beq (Nat.mod k 2) 0)) k) t) n
theorem putK_eq {α:Type} (v:Option α):∀ (n:Nat) (t:Tr α) (k:Nat) (K:Tr α→Rs),putK v n t k K=K (Tr.put n t k v):=by
 intro n
 induction n with
 | zero=>intro t k K;rfl
 | succ n ih =>
  intro t k K
  cases t with
  | nil =>
   cases k with
   | zero=>rfl
   | succ k =>
    show @Bool.rec (fun _=>Rs) (putK v n .nil (k / 2) fun r=>K (.node none .nil r)) (putK v n .nil (k / 2) fun l=>K (.node none l .nil)) (Nat.beq (k % 2) 0)=_
    simp only [Tr.put]
    cases Nat.beq (k % 2) 0<;>simp only [ih]
  | node x l r =>
   cases k with
   | zero=>rfl
   | succ k =>
    show @Bool.rec (fun _=>Rs) (putK v n r (k / 2) fun r=>K (.node x l r)) (putK v n l (k / 2) fun l=>K (.node x l r)) (Nat.beq (k % 2) 0)=_
    simp only [Tr.put]
    cases Nat.beq (k % 2) 0<;>simp only [ih]
noncomputable def kc (k:IntKind):Nat:=@IntKind.rec (fun _=>Nat) 0 1 2 3 4 5 6 7 k
theorem kc_eq {a b:IntKind} (h:Nat.beq (kc a) (kc b)=true):a=b:=by
 have:=Nat.eq_of_beq_eq_true h
 cases a<;>cases b<;>first | rfl | (simp [kc] at this)
noncomputable def top (k:IntKind):Nat:=@IntKind.rec (fun _=>Nat) 128 32768 2147483648 9223372036854775808 256 65536 4294967296 18446744073709551616 k
noncomputable def sgnK (k:IntKind) (a b:Rs):Rs:=@IntKind.rec (fun _=>Rs) a a a a b b b b k
theorem sgnK_eq (k:IntKind) (a b:Rs):sgnK k a b=(match k.signed with | true=>a | false=>b):=by cases k<;>rfl
noncomputable def ifK (c:Bool) (a b:Rs):Rs:=@Bool.rec (fun _=>Rs) b a c
theorem wrap_low {k:IntKind} {n:Nat} (h:n<top k):k.wrap (Int.ofNat n)=Int.ofNat n:=by
 cases k<;>simp [IntKind.wrap,IntKind.bits,IntKind.signed,top] at *<;>omega
theorem wrap_u {k:IntKind} {n:Nat} (h:k.signed=false):k.wrap (Int.ofNat n)=Int.ofNat (n % top k):=by
 cases k<;>simp [IntKind.wrap,IntKind.bits,IntKind.signed,top] at *
noncomputable def wrapK (kd:IntKind) (n:Nat) (slow:Rs) (k:Value→Rs):Rs:=sgnK kd
 (@Bool.rec (fun _=>Rs) (forceN n fun c=>k (.int kd (.ofNat c))) slow (Nat.ble (top kd) n))
 (forceN (Nat.mod n (top kd)) fun c=>k (.int kd (.ofNat c)))
theorem wrapK_eq {kd:IntKind} {n:Nat} {slow:Rs} {k:Value→Rs} (h:slow=k (.int kd (kd.wrap (Int.ofNat n)))):wrapK kd n slow k=slow:=by
  unfold wrapK
  rw [sgnK_eq]
  split
  · cases h1:Nat.ble (top kd) n with
    | true=>rfl
    | false =>
      show forceN n (fun c=>k (.int kd (.ofNat c)))=_
      rw [forceN_eq, h, wrap_low (by
        have:¬ top kd≤n:=fun h2=>by rw [Nat.ble_eq_true_of_le h2] at h1;cases h1
        omega)]
  · rename_i h1
    rw [forceN_eq,h,wrap_u h1]
    rfl
noncomputable def yn (b:Bool) (k:Value→Rs):Rs:=@Bool.rec (fun _=>Rs) (k (.bool false)) (k (.bool true)) b
theorem yn_eq (b:Bool) (k:Value→Rs):yn b k=k (.bool b):=by cases b<;>rfl
abbrev NK':=IntKind→Nat→Nat→Rs→(Value→Rs)→Rs
noncomputable def kAdd:NK':=fun kd a b slow k=>wrapK kd (Nat.add a b) slow k
noncomputable def kSub:NK':=fun kd a b slow k=>ifK (Nat.ble b a) (wrapK kd (Nat.sub a b) slow k) slow
noncomputable def kMul:NK':=fun kd a b slow k=>wrapK kd (Nat.mul a b) slow k
noncomputable def kQuo:NK':=fun kd a b slow k=>@Nat.rec (fun _=>Rs) slow (fun b _=>wrapK kd (Nat.div a (Nat.succ b)) slow k) b
noncomputable def kRem:NK':=fun kd a b slow k=>@Nat.rec (fun _=>Rs) slow (fun b _=>forceN (Nat.mod a (Nat.succ b)) fun c=>k (.int kd (.ofNat c))) b
noncomputable def kShr:NK':=fun kd a b slow k=>ifK (Nat.ble b kd.bits) (forceN (Nat.div a (Nat.pow 2 b)) fun c=>k (.int kd (.ofNat c))) slow
noncomputable def kEql:NK':=fun kd a b slow k=>yn (Nat.beq a b) k
noncomputable def kNeq:NK':=fun kd a b slow k=>@Bool.rec (fun _=>Rs) (k (.bool true)) (k (.bool false)) (Nat.beq a b)
noncomputable def kLss:NK':=fun kd a b slow k=>yn (Nat.ble (Nat.succ a) b) k
noncomputable def kLeq:NK':=fun kd a b slow k=>yn (Nat.ble a b) k
noncomputable def kGtr:NK':=fun kd a b slow k=>yn (Nat.ble (Nat.succ b) a) k
noncomputable def kGeq:NK':=fun kd a b slow k=>yn (Nat.ble b a) k
noncomputable def kSlow:NK':=fun kd a b slow k=>slow
noncomputable def natK (op:BinOp):NK':=@BinOp.rec (fun _=>NK') kAdd kSub kMul kQuo kRem kSlow kSlow kSlow kSlow kShr kSlow kEql kNeq kLss kLeq kGtr kGeq op
theorem natK_def (op : BinOp) (kd : IntKind) (a b : Nat) (slow : Rs) (k : Value → Rs) : natK op kd a b slow k = (match op with
  | .add=>wrapK kd (Nat.add a b) slow k
  | .sub=>ifK (Nat.ble b a) (wrapK kd (Nat.sub a b) slow k) slow
  | .mul=>wrapK kd (Nat.mul a b) slow k
  | .quo=>@Nat.rec (fun _=>Rs) slow (fun b _=>wrapK kd (Nat.div a (Nat.succ b)) slow k) b
  | .rem=>@Nat.rec (fun _=>Rs) slow (fun b _=>forceN (Nat.mod a (Nat.succ b)) fun c=>k (.int kd (.ofNat c))) b
  | .shr=>ifK (Nat.ble b kd.bits) (forceN (Nat.div a (Nat.pow 2 b)) fun c=>k (.int kd (.ofNat c))) slow
  | .eql=>yn (Nat.beq a b) k
  | .neq=>yn (not (Nat.beq a b)) k
  | .lss=>yn (Nat.blt a b) k
  | .leq=>yn (Nat.ble a b) k
  | .gtr=>yn (Nat.blt b a) k
  | .geq=>yn (Nat.ble b a) k
  | _=>slow):=by
  cases op
  case neq =>
    show @Bool.rec (fun _=>Rs) (k (.bool true)) (k (.bool false)) (Nat.beq a b)=yn (not (Nat.beq a b)) k
    cases Nat.beq a b<;>rfl
  all_goals rfl
def sB (op:BinOp) (u v:Value) (k:Value→Rs):Rs:=match binW op u v with
 | some r=>k r
 | none=>none
theorem beq_d (a b:Nat):(Int.ofNat a == Int.ofNat b)=Nat.beq a b:=by
 rw [Bool.eq_iff_iff];simp;omega
theorem blt_d (a b:Nat):decide (Int.ofNat a<Int.ofNat b)=Nat.blt a b:=by
 rw [Bool.eq_iff_iff];simp
theorem ble_d (a b:Nat):decide (Int.ofNat a≤Int.ofNat b)=Nat.ble a b:=by
 rw [Bool.eq_iff_iff];simp
theorem natK_eq (op:BinOp) (kd:IntKind) (a b:Nat) (k:Value→Rs):natK op kd a b (sB op (.int kd (.ofNat a)) (.int kd (.ofNat b)) k) k=sB op (.int kd (.ofNat a)) (.int kd (.ofNat b)) k:=by
 cases op<;>simp only [natK_def,sB,binW,binV,need,true_and,if_true,↓reduceIte]
 case add=>exact wrapK_eq rfl
 case sub =>
  cases h:Nat.ble b a with
  | true =>
   have h:=Nat.le_of_ble_eq_true h
   refine wrapK_eq ?_
   show _=k (.int kd (kd.wrap (Int.ofNat (a - b))))
   rw [show Int.ofNat (a - b)=Int.ofNat a - Int.ofNat b by simp;omega]
  | false=>rfl
 case mul=>exact wrapK_eq rfl
 case quo =>
  cases b with
  | zero=>rfl
  | succ b =>
   rw [if_pos (by simp;omega)]
   refine wrapK_eq ?_
   rfl
 case rem =>
  cases b with
  | zero=>rfl
  | succ b =>
   rw [if_pos (by simp;omega)]
   show forceN (a % (b+1)) (fun c=>k (.int kd (.ofNat c)))=_
   rw [forceN_eq]
   rfl
 case shr =>
  rw [if_pos (by simp)]
  cases h:Nat.ble b kd.bits with
  | true =>
    have h:=Nat.le_of_ble_eq_true h
    show forceN (Nat.div a (Nat.pow 2 b)) (fun c=>k (.int kd (.ofNat c)))=_
    rw [forceN_eq]
    show k (.int kd (Int.ofNat (a / 2 ^ b)))=k (.int kd ((Int.ofNat a).fdiv (2 ^ min b kd.bits)))
    rw [Nat.min_eq_left h]
    rw [Int.fdiv_eq_ediv_of_nonneg _ (by exact Int.le_of_lt (Int.pow_pos (by omega)))]
    simp
  | false=>rfl
 case eql=>rw [yn_eq,beq_d]
 case neq=>rw [yn_eq];simp only [bne,beq_d]
 case lss=>rw [yn_eq,blt_d]
 case leq=>rw [yn_eq,ble_d]
 case gtr=>rw [yn_eq,← blt_d]
 case geq=>rw [yn_eq,← ble_d]
noncomputable def valR (v:Value) (fb:Bool→Rs) (f:IntKind→Int→Rs) (s:Rs):Rs:=@Value.rec (fun _=>Rs) (fun _=>Rs) (fun _=>Rs) fb f
 (fun _ _=>s) (fun _ _ _=>s) (fun _=>s) (fun _=>s) (fun _ _ _=>s) (fun _=>s) (fun _=>s) (fun _ _ _ _ _=>s) s (fun _ _ _=>s) s (fun _ _=>s) (fun _ _=>s) (fun _ _=>s) s (fun _ _ _ _=>s) v
noncomputable def cR (c:C) (fv:Value→Rs) (fp:Nat→Nat→Rs) (fs:Nat→Nat→Nat→Nat→Rs) (s:Rs):Rs:=@C.rec (fun _=>Rs) (fun _=>Rs) (fun _=>Rs) (fun _=>Rs) s fv fp fs
 (fun _ _ _ _ _=>s) (fun _=>s) s s (fun _ _ _ _=>s) (fun _ _ _=>s) s (fun _ _ _ _=>s) c
noncomputable def aR (u:AV) (f:C→Rs) (fa:List C→Rs) (ft:List AV→Rs) (s:Rs):Rs:=@AV.rec (fun _=>Rs) (fun _=>Rs) s f fa (fun l _=>ft l) s (fun _ _ _ _=>s) u
noncomputable def cK (u:AV) (f:C→Rs) (s:Rs):Rs:=@AV.rec (fun _=>Rs) (fun _=>Rs) s f (fun _=>s) (fun _ _=>s) s (fun _ _ _ _=>s) u
noncomputable def natOf (u:AV) (f:IntKind→Nat→Rs) (s:Rs):Rs:=cK u (fun c=>cR c (fun x=>valR x (fun _=>s) (fun kd n=>@Int.rec (fun _=>Rs) (f kd) (fun _=>s) n) s) (fun _ _=>s) (fun _ _ _ _=>s) s) s
theorem natOf_eq (u:AV) (f:IntKind→Nat→Rs) (s:Rs):(∃ kd a,u=.c (.v (.int kd (.ofNat a)))∧natOf u f s=f kd a)∨natOf u f s=s:=by
 cases u with
 | c c =>
  cases c with
  | v x =>
   cases x with
   | int kd n =>
    cases n with
    | ofNat n=>exact .inl ⟨_,_,rfl,rfl⟩
    | negSucc n=>exact .inr rfl
   | _=>exact .inr rfl
  | _=>exact .inr rfl
 | _=>exact .inr rfl
def sA (op:BinOp) (u v:AV) (k:Value→Rs):Rs:=match u.val?,v.val? with
 | some u,some v=>sB op u v k
 | _,_=>none
noncomputable def binK (op : BinOp) (u w : AV) (k : Value → Rs) : Rs := natOf u (fun kd a => natOf w (fun kd' b => match Nat.beq (kc kd) (kc kd') with
    | true=>natK op kd a b (sB op (.int kd (.ofNat a)) (.int kd (.ofNat b)) k) k
    | false=>sA op u w k) (sA op u w k)) (sA op u w k)
theorem binK_eq (op:BinOp) (u w:AV) (k:Value→Rs):binK op u w k=sA op u w k:=by
  unfold binK
  rcases natOf_eq u (fun kd a => natOf w (fun kd' b => match Nat.beq (kc kd) (kc kd') with
    | true=>natK op kd a b (sB op (.int kd (.ofNat a)) (.int kd (.ofNat b)) k) k
    | false=>sA op u w k) (sA op u w k)) (sA op u w k) with ⟨kd,a,rfl,h⟩ | h
  · rw [h]
    rcases natOf_eq w (fun kd' b => match Nat.beq (kc kd) (kc kd') with
      | true=>natK op kd a b (sB op (.int kd (.ofNat a)) (.int kd (.ofNat b)) k) k
      | false=>sA op (.c (.v (.int kd (.ofNat a)))) w k) (sA op (.c (.v (.int kd (.ofNat a)))) w k) with ⟨kd',b,rfl,h⟩ | h
    · rw [h]
      split
      · rename_i h1
        have:=kc_eq h1
        subst this
        rw [natK_eq]
        rfl
      · rfl
    · exact h
  · exact h
open Go.RowKit
open Go.Eng (Od need need_pos need_some setL binV)
noncomputable def takeK (n:Nat):List C→(List C→Rs)→Rs:=@Nat.rec (fun _=>List C→(List C→Rs)→Rs) (fun _ K=>K [])
 (fun _ ih cs K=>@List.rec C (fun _=>Rs) none (fun c cs _=>ih cs fun l=>K (c::l)) cs) n
theorem takeK_eq:∀ (n:Nat) (cs:List C) (K:List C→Rs),takeK n cs K=if n≤cs.length then K (cs.take n) else none:=by
 intro n
 induction n with
 | zero=>intro cs K;simp only [Nat.zero_le,if_true,List.take_zero];rfl
 | succ n ih =>
  intro cs K
  cases cs with
  | nil=>rw [if_neg (by simp)];rfl
  | cons c cs =>
   show takeK n cs (fun l=>K (c::l))=_
   simp only [ih,List.length_cons,Nat.add_le_add_iff_right,List.take_succ_cons]
noncomputable def readK (o:Nat) (cs:List C) (n:Nat) (K:List C→Rs):Rs:=@Nat.rec (fun _=>List C→Rs) (fun cs=>takeK n cs K)
 (fun _ ih cs=>@List.rec C (fun _=>Rs) none (fun _ cs _=>ih cs) cs) o cs
theorem readK_eq (n:Nat) (K:List C→Rs):∀ (o:Nat) (cs:List C),readK o cs n K=if o+n≤cs.length then K ((cs.drop o).take n) else none:=by
 intro o
 induction o with
 | zero =>
  intro cs
  show takeK n cs K=_
  simp [takeK_eq]
 | succ o ih =>
  intro cs
  cases cs with
  | nil=>rw [if_neg (by simp)];rfl
  | cons c cs =>
   show readK o cs n K=_
   simp only [ih,List.length_cons,List.drop_succ_cons]
   by_cases g:o+n≤cs.length
   ·rw [if_pos g,if_pos (by omega)]
   rw [if_neg g,if_neg (by omega)]
noncomputable def overK (ds:List C):List C→(List C→Rs)→Rs:=@List.rec C (fun _=>List C→(List C→Rs)→Rs) (fun cs K=>K cs)
 (fun d _ ih cs K=>@List.rec C (fun _=>Rs) none (fun _ cs _=>ih cs fun l=>K (d::l)) cs) ds
theorem overK_eq:∀ (ds cs:List C) (K:List C→Rs),overK ds cs K=if ds.length≤cs.length then K (ds++cs.drop ds.length) else none:=by
 intro ds
 induction ds with
 | nil=>intro cs K;simp only [List.length_nil,Nat.zero_le,if_true,List.drop_zero,List.nil_append];rfl
 | cons d ds ih =>
  intro cs K
  cases cs with
  | nil=>rw [if_neg (by simp)];rfl
  | cons c cs =>
   show overK ds cs (fun l=>K (d::l))=_
   simp only [ih,List.length_cons,Nat.add_le_add_iff_right,List.drop_succ_cons,List.cons_append]
noncomputable def setK (o:Nat) (cs ds:List C) (K:List C→Rs):Rs:=@Nat.rec (fun _=>List C→(List C→Rs)→Rs) (fun cs K=>overK ds cs K)
 (fun _ ih cs K=>@List.rec C (fun _=>Rs) none (fun c cs _=>ih cs fun l=>K (c::l)) cs) o cs K
theorem setK_eq (ds:List C):∀ (o:Nat) (cs:List C) (K:List C→Rs),setK o cs ds K=if o+ds.length≤cs.length then K (setL cs o ds) else none:=by
 intro o
 induction o with
 | zero =>
  intro cs K
  show overK ds cs K=_
  simp [overK_eq,setL]
 | succ o ih =>
  intro cs K
  cases cs with
  | nil=>rw [if_neg (by simp)];rfl
  | cons c cs =>
   show setK o cs ds (fun l=>K (c::l))=_
   simp only [ih,List.length_cons]
   have e:setL (c::cs) (o+1) ds=c::setL cs o ds:=by simp [setL,show o+1+ds.length=(o+ds.length)+1 by omega]
   by_cases g:o+ds.length≤cs.length
   ·rw [if_pos g,if_pos (by omega),e]
   rw [if_neg g,if_neg (by omega)]
noncomputable def mkK (agg:Bool) (l:List C) (k:AV→Rs):Rs:=@Bool.rec (fun _=>Rs)
 (@List.rec C (fun _=>Rs) (k .any) (fun c r _=>@List.rec C (fun _=>Rs) (k (.c c)) (fun _ _ _=>k .any) r) l) (k (.agg l)) agg
theorem mkK_eq (agg:Bool) (l:List C) (k:AV→Rs):mkK agg l k=k (mkAV agg l):=by
 cases agg with
 | true=>rfl
 | false =>
  match l with
  | []=>rfl
  | [c]=>rfl
  | c::d::r=>rfl
noncomputable def cellsK (v:AV) (k:List C→Rs):Rs:=aR v (fun x=>k [x]) k (fun _=>none) none
theorem cellsK_eq (v:AV) (k:List C→Rs):cellsK v k=(match v.cells? with | some cs=>k cs | none=>none):=by
 cases v<;>rfl
noncomputable def ptrK (v:AV) (k:Nat→Nat→Rs):Rs:=cK v (fun c=>cR c (fun _=>none) k (fun _ _ _ _=>none) none) none
theorem ptrK_ptr (b o:Nat) (k:Nat→Nat→Rs):ptrK (.c (.ptr b o)) k=k b o:=rfl
noncomputable def celK (x:Blk) (k:Nat→List C→Rs):Rs:=@Blk.casesOn (fun _=>Rs) x k (fun _=>none) (fun _ _=>none) (fun _ _=>none)
noncomputable def blkK (mem:Tr Blk) (b:Nat) (k:Nat→List C→Rs):Rs:=@Tr.rec Blk (fun _=>Nat→Rs) (fun _=>none)
 (fun v l r gl gr i=>@Nat.rec (fun _=>Rs) (@Option.rec Blk (fun _=>Rs) none (fun x=>celK x k) v) (fun i _=>@Bool.rec (fun _=>Rs) (gr (Nat.div i 2)) (gl (Nat.div i 2)) (Nat.beq (Nat.mod i 2) 0)) i) mem b
theorem blkK_eq (k:Nat→List C→Rs):∀ (mem:Tr Blk) (b:Nat),blkK mem b k=(match mem.get b with | some x=>(match x with | .cells ty cs=>k ty cs | _=>none) | none=>none):=by
 intro env
 induction env with
 | nil=>intro i;rw [Tr.get_nil];rfl
 | node v l r ihl ihr =>
  intro i
  cases i with
  | zero =>
   show @Option.rec Blk (fun _=>Rs) none (fun x=>celK x k) v=_
   cases v with
   | none=>rfl
   | some x=>cases x<;>rfl
  | succ i =>
   show @Bool.rec (fun _=>Rs) (blkK r (i / 2) k) (blkK l (i / 2) k) (Nat.beq (i % 2) 0)=_
   simp only [Tr.get]
   cases Nat.beq (i % 2) 0
   ·exact ihr ..
   exact ihl ..
noncomputable def celR (x:Blk) (k:Nat→List C→Rs):Rs:=@Blk.casesOn (fun _=>Rs) x k (fun cs=>k 0 cs) (fun _ _=>none) (fun _ _=>none)
noncomputable def blkR (mem:Tr Blk) (b:Nat) (k:Nat→List C→Rs):Rs:=@Tr.rec Blk (fun _=>Nat→Rs) (fun _=>none)
 (fun v l r gl gr i=>@Nat.rec (fun _=>Rs) (@Option.rec Blk (fun _=>Rs) none (fun x=>celR x k) v) (fun i _=>@Bool.rec (fun _=>Rs) (gr (Nat.div i 2)) (gl (Nat.div i 2)) (Nat.beq (Nat.mod i 2) 0)) i) mem b
theorem blkR_eq (k:Nat→List C→Rs):∀ (mem:Tr Blk) (b:Nat),blkR mem b k=(match mem.get b with | some x=>(match x with | .cells ty cs=>k ty cs | .ro cs=>k 0 cs | _=>none) | none=>none):=by
 intro env
 induction env with
 | nil=>intro i;rw [Tr.get_nil];rfl
 | node v l r ihl ihr =>
  intro i
  cases i with
  | zero =>
   show @Option.rec Blk (fun _=>Rs) none (fun x=>celR x k) v=_
   cases v with
   | none=>rfl
   | some x=>cases x<;>rfl
  | succ i =>
   show @Bool.rec (fun _=>Rs) (blkR r (i / 2) k) (blkR l (i / 2) k) (Nat.beq (i % 2) 0)=_
   simp only [Tr.get]
   cases Nat.beq (i % 2) 0
   ·exact ihr ..
   exact ihl ..
noncomputable def mapK (l:List Value):(List C→Rs)→Rs:=@List.rec Value (fun _=>(List C→Rs)→Rs) (fun k=>k []) (fun v _ ih k=>ih fun l=>k (.v v::l)) l
theorem mapK_eq:∀ (vs:List Value) (k:List C→Rs),mapK vs k=k (vs.map fun v=>.v v):=by
 intro vs
 induction vs with
 | nil=>intro k;rfl
 | cons v vs ih =>
  intro k
  show mapK vs (fun l=>k (.v v::l))=_
  rw [ih]
  rfl
noncomputable def newK (mem:Tr Blk) (nx:Nat) (x:Blk) (k:Tr Blk→Nat→Rs):Rs:=putK (some x) (Nat.succ nx) mem nx fun mem'=>forceN (Nat.succ nx) fun nx'=>k mem' nx'
theorem newK_eq (env:Tr AV) (mem:Tr Blk) (nx:Nat) (x:Blk) (k:Tr Blk→Nat→Rs):newK mem nx x k=k ((⟨env,mem,nx⟩:AS).new x).mem ((⟨env,mem,nx⟩:AS).new x).nx:=by
 simp only [newK,putK_eq,forceN_eq];rfl
noncomputable def fillK (env:Tr AV):List C→List (Nat×Nat×Od)→(List C→Rs)→Rs
 | cs,[],k=>k cs
 | cs,p::r,k=>match p with
  | (off,size,x)=>evK env x fun v=>cellsK v fun ds=>match Nat.beq ds.length size with
   | true=>setK off cs ds fun cs'=>fillK env cs' r k
   | false=>none
theorem fillK_eq (env:Tr AV) (mem:Tr Blk) (nx:Nat):∀ (r:List (Nat×Nat×Od)) (cs:List C) (k:List C→Rs),fillK env cs r k=(match fillC ⟨env,mem,nx⟩ cs r with | some l=>k l | none=>none):=by
 intro r
 induction r with
 | nil=>intro cs k;rfl
 | cons p r ih =>
  obtain ⟨off,size,x⟩:=p
  intro cs k
  simp only [fillK,fillC,evK_eq env mem nx,cellsK_eq]
  cases ((⟨env,mem,nx⟩:AS).ev x).cells? with
  | none=>rfl
  | some ds =>
   simp only
   split
   ·rename_i h
    have h:=Nat.eq_of_beq_eq_true h
    rw [setK_eq,h,need]
    by_cases g:off+size≤cs.length
    ·rw [if_pos g,if_pos ⟨rfl,g⟩,ih]
    rw [if_neg g,if_neg (fun h=>g h.2)]
   rename_i h
   rw [need,if_neg (fun g=>by rw [g.1,Nat.beq_refl] at h;cases h)]
noncomputable def fillSK (env:Tr AV) (size:Nat):List C→List (Nat×Od)→(List C→Rs)→Rs
 | cs,[],k=>k cs
 | cs,p::r,k=>match p with
  | (j,x)=>evK env x fun v=>cellsK v fun ds=>match Nat.beq ds.length size with
   | true=>setK (Nat.mul j size) cs ds fun cs'=>fillSK env size cs' r k
   | false=>none
def HdOk (h:Hd) (o:Ins):Prop:=∀ ck c,IsK ck c→∀ env mem nx k,h ck env mem nx k=aft (evV c o ⟨env,mem,nx⟩) k
def fG (o:Ins):Hd:=fun _ env mem nx k=>match stepQ o ⟨env,mem,nx⟩ with
 | some v=>k v mem nx
 | none=>match stepE o ⟨env,mem,nx⟩ with
  | some (st',v)=>k v st'.mem st'.nx
  | none=>none
theorem fG_ok {o:Ins} (h:∀ st,callee st o=none):HdOk (fG o) o:=by
 intro ck c hc env mem nx k
 simp only [fG,evV,h]
 cases stepQ o ⟨env,mem,nx⟩ with
 | some v=>rfl
 | none =>
  cases stepE o ⟨env,mem,nx⟩ with
  | some p=>rfl
  | none=>rfl
noncomputable def fMv (x:Od):Hd:=fun _ env mem nx k=>evK env x fun v=>k v mem nx
theorem fMv_ok (x:Od):HdOk (fMv x) (.mv x):=by
 intro ck c hc env mem nx k
 simp only [fMv,evK_eq env mem nx]
 rfl
noncomputable def fBin (op:BinOp) (x y:Od):Hd:=fun _ env mem nx k=>evK env x fun u=>evK env y fun w=>binK op u w fun r=>k (.c (.v r)) mem nx
theorem fBin_ok (op:BinOp) (x y:Od):HdOk (fBin op x y) (.bin op x y):=by
 intro ck c hc env mem nx k
 simp only [fBin,evK_eq env mem nx,binK_eq,sA,evV,callee,stepQ,stepE]
 cases ((⟨env,mem,nx⟩:AS).ev x).val? with
 | none=>rfl
 | some u =>
  cases ((⟨env,mem,nx⟩:AS).ev y).val? with
  | none=>rfl
  | some v =>
   simp only [sB]
   cases binW op u v<;>rfl
noncomputable def fLoad (agg:Bool) (size:Nat) (x:Od):Hd:=fun _ env mem nx k=>evK env x fun u=>ptrK u fun b o=>blkR mem b fun _ cs=>readK o cs size fun l=>mkK agg l fun v=>k v mem nx
theorem fLoad_ok (agg:Bool) (size:Nat) (x:Od):HdOk (fLoad agg size x) (.load agg size x):=by
 intro ck c hc env mem nx k
 simp only [fLoad,evK_eq env mem nx,evV,callee,stepQ,stepE,readK_eq,mkK_eq,AS.read,AS.blk]
 cases (⟨env,mem,nx⟩:AS).ev x with
 | any=>rfl
 | agg l=>rfl
 | tup l=>rfl
 | c u =>
  cases u with
  | ptr b o =>
   simp only [ptrK_ptr,blkR_eq]
   cases mem.get b with
   | none=>rfl
   | some kk =>
    cases kk with
    | cells ty cs =>
     simp only [need]
     split<;>rfl
    | ro cs =>
     simp only [need]
     split<;>rfl
    | sit _ _=>rfl
    | mp _ _=>rfl
  | _=>rfl
noncomputable def fStore (size:Nat) (x y:Od):Hd:=fun _ env mem nx k=>evK env x fun u=>ptrK u fun b o=>evK env y fun w=>cellsK w fun ds=>match Nat.beq ds.length size with
 | true=>blkK mem b fun ty cs=>setK o cs ds fun cs'=>putK (some (.cells ty cs')) (Nat.succ b) mem b fun mem'=>k .any mem' nx
 | false=>none
theorem fStore_ok (size:Nat) (x y:Od):HdOk (fStore size x y) (.store size x y):=by
 intro ck c hc env mem nx k
 simp only [fStore,evK_eq env mem nx,evV,callee,stepQ,stepE,setK_eq,putK_eq,cellsK_eq]
 cases (⟨env,mem,nx⟩:AS).ev x with
 | any=>rfl
 | agg l=>rfl
 | tup l=>rfl
 | c u =>
  cases u with
  | ptr b o =>
   simp only [ptrK_ptr]
   cases ((⟨env,mem,nx⟩:AS).ev y).cells? with
   | none=>rfl
   | some ds =>
    simp only [blkK_eq]
    cases hm:mem.get b with
    | none=>simp only;split<;>rfl
    | some kk =>
     cases kk with
     | cells ty cs =>
      simp only [need]
      split
      ·rename_i h
       have h:=Nat.eq_of_beq_eq_true h
       subst h
       by_cases g:o+ds.length≤cs.length
       ·rw [if_pos g,if_pos ⟨rfl,g⟩];rfl
       rw [if_neg g,if_neg (fun h=>g h.2)];rfl
      rename_i h
      rw [if_neg (fun g=>by rw [g.1,Nat.beq_refl] at h;cases h)];rfl
     | ro _=>simp only;split<;>rfl
     | sit _ _=>simp only;split<;>rfl
     | mp _ _=>simp only;split<;>rfl
  | _=>rfl
noncomputable def fAlloc (ty:Nat) (zero:List Value):Hd:=fun _ env mem nx k=>mapK zero fun cs=>newK mem nx (.cells ty cs) fun mem' nx'=>k (.c (.ptr nx 0)) mem' nx'
theorem fAlloc_ok (ty:Nat) (zero:List Value):HdOk (fAlloc ty zero) (.alloc ty zero):=by
 intro ck c hc env mem nx k
 simp only [fAlloc,mapK_eq,newK_eq env]
 rfl
noncomputable def fBox (ty:Nat) (x:Od):Hd:=fun _ env mem nx k=>evK env x fun u=>cellsK u fun cs=>newK mem nx (.cells ty cs) fun mem' nx'=>k (.c (.ptr nx 0)) mem' nx'
theorem fBox_ok (ty:Nat) (x:Od):HdOk (fBox ty x) (.box ty x):=by
 intro ck c hc env mem nx k
 simp only [fBox,evK_eq env mem nx,cellsK_eq,newK_eq env,evV,callee,stepQ,stepE]
 cases ((⟨env,mem,nx⟩:AS).ev x).cells?<;>rfl
noncomputable def fBuild (zero:List Value) (parts:List (Nat×Nat×Od)):Hd:=fun _ env mem nx k=>mapK zero fun cs=>fillK env cs parts fun l=>k (.agg l) mem nx
theorem fBuild_ok (zero:List Value) (parts:List (Nat×Nat×Od)):HdOk (fBuild zero parts) (.build zero parts):=by
 intro ck c hc env mem nx k
 simp only [fBuild,mapK_eq,fillK_eq env mem nx,evV,callee,stepQ,stepE]
 cases fillC ⟨env,mem,nx⟩ (zero.map fun v=>.v v) parts<;>rfl
noncomputable def fFad (off:Nat) (x:Od):Hd:=fun _ env mem nx k=>evK env x fun u=>ptrK u fun b o=>forceN (Nat.add o off) fun p=>k (.c (.ptr b p)) mem nx
theorem fFad_ok (off:Nat) (x:Od):HdOk (fFad off x) (.fad off x):=by
 intro ck c hc env mem nx k
 simp only [fFad,evK_eq env mem nx,evV,callee,stepQ,stepE,forceN_eq]
 cases (⟨env,mem,nx⟩:AS).ev x with
 | c u=>cases u<;>rfl
 | _=>rfl
noncomputable def fExt (x:Od) (i:Nat):Hd:=fun _ env mem nx k=>evK env x fun u=>match u with
 | .tup vs=>nthK vs i fun v=>k v mem nx
 | _=>none
where nthK:List AV→Nat→(AV→Rs)→Rs
 | [],_,_=>none
 | v::vs,i,k=>match i with
  | 0=>k v
  | i+1=>nthK vs i k
theorem nthK_eq (k:AV→Rs):∀ (vs:List AV) (i:Nat),fExt.nthK vs i k=(match vs[i]? with | some v=>k v | none=>none):=by
 intro vs
 induction vs with
 | nil=>intro i;rfl
 | cons v vs ih =>
  intro i
  cases i with
  | zero=>rfl
  | succ i=>simp only [fExt.nthK,ih,List.getElem?_cons_succ]
theorem fExt_ok (x:Od) (i:Nat):HdOk (fExt x i) (.ext x i):=by
 intro ck c hc env mem nx k
 simp only [fExt,evK_eq env mem nx,evV,callee,stepQ,stepE,nthK_eq]
 cases (⟨env,mem,nx⟩:AS).ev x with
 | tup vs=>simp only;cases vs[i]?<;>rfl
 | _=>rfl
noncomputable def slK (u:AV) (k:Nat→Nat→Nat→Nat→Rs) (s:Rs):Rs:=cK u (fun c=>cR c (fun _=>s) (fun _ _=>s) k s) s
theorem slK_eq (u:AV) (k:Nat→Nat→Nat→Nat→Rs) (s:Rs):(∃ b o n z,u=.c (.sl b o n z)∧slK u k s=k b o n z)∨slK u k s=s:=by
 cases u with
 | c c =>
  cases c with
  | sl b o n z=>exact .inl ⟨_,_,_,_,rfl,rfl⟩
  | _=>exact .inr rfl
 | _=>exact .inr rfl
noncomputable def fLen (str:Bool) (x:Od):Hd:=fun ck env mem nx k=>match str with
 | true=>fG (.len true x) ck env mem nx k
 | false=>evK env x fun u=>slK u (fun _ _ n _=>k (.c (.v (.int .i64 (.ofNat n)))) mem nx) (fG (.len false x) ck env mem nx k)
theorem fLen_ok (str:Bool) (x:Od):HdOk (fLen str x) (.len str x):=by
 intro ck c hc env mem nx k
 cases str with
 | true=>exact fG_ok (fun _=>rfl) ck c hc env mem nx k
 | false =>
  simp only [fLen,evK_eq env mem nx]
  rcases slK_eq ((⟨env,mem,nx⟩:AS).ev x) (fun _ _ n _=>k (.c (.v (.int .i64 (.ofNat n)))) mem nx) (fG (.len false x) ck env mem nx k) with ⟨b,o,n,z,h1,h2⟩ | h
  ·rw [h2]
   simp only [evV,callee,stepQ,h1]
   rfl
  rw [h]
  exact fG_ok (fun _=>rfl) ck c hc env mem nx k
noncomputable def fIad (size : Nat) (x i : Od) : Hd := fun ck env mem nx k => evK env x fun u => evK env i fun w => slK u (fun b o n s => natOf w (fun _ j => match Nat.beq s size with
  | true=>match Nat.blt j n with
    | true=>forceN (Nat.add o (Nat.mul j s)) fun p=>k (.c (.ptr b p)) mem nx
    | false=>none
  | false=>none) (fG (.iad size x i) ck env mem nx k)) (fG (.iad size x i) ck env mem nx k)
theorem fIad_ok (size:Nat) (x i:Od):HdOk (fIad size x i) (.iad size x i):=by
  intro ck c hc env mem nx k
  have hG:=fG_ok (o:=.iad size x i) (fun _=>rfl) ck c hc env mem nx k
  simp only [fIad,evK_eq env mem nx]
  generalize fG (.iad size x i) ck env mem nx k=G at hG ⊢
  rcases slK_eq ((⟨env, mem, nx⟩ : AS).ev x) (fun b o n s => natOf ((⟨env, mem, nx⟩ : AS).ev i) (fun _ j => match Nat.beq s size with
    | true=>match Nat.blt j n with
      | true=>forceN (Nat.add o (Nat.mul j s)) fun p=>k (.c (.ptr b p)) mem nx
      | false=>none
    | false=>none) G) G with ⟨b,o,n,z,h1,h2⟩ | h
  · rw [h2]
    rcases natOf_eq ((⟨env, mem, nx⟩ : AS).ev i) (fun _ j => match Nat.beq z size with
      | true=>match Nat.blt j n with
        | true=>forceN (Nat.add o (Nat.mul j z)) fun p=>k (.c (.ptr b p)) mem nx
        | false=>none
      | false=>none) G with ⟨kd,j,h3,h4⟩ | h
    · rw [h4]
      simp only [evV,callee,stepQ,stepE,h1,h3,AV.int?,forceN_eq]
      split
      · rename_i g1
        have g1:=Nat.eq_of_beq_eq_true g1
        split
        · rename_i g2
          rw [need_pos ⟨g1,by simp,by simp [Nat.blt_eq] at g2 ⊢;omega⟩]
          rfl
        · rename_i g2
          rw [need, if_neg (fun h => by
            have h3:j<n:=by have:=h.2.2;simp at this;omega
            rw [← Nat.blt_eq,g2] at h3;cases h3)]
          rfl
      · rename_i g1
        rw [need,if_neg (fun h=>by rw [h.1,Nat.beq_refl] at g1;cases g1)]
        rfl
    · rw [h];exact hG
  · rw [h];exact hG
noncomputable def fCvi (kd:IntKind) (x:Od):Hd:=fun ck env mem nx k=>evK env x fun u=>natOf u (fun _ n=>wrapK kd n (fG (.cvi kd x) ck env mem nx k) fun r=>k (.c (.v r)) mem nx) (fG (.cvi kd x) ck env mem nx k)
theorem fCvi_ok (kd:IntKind) (x:Od):HdOk (fCvi kd x) (.cvi kd x):=by
 intro ck c hc env mem nx k
 have hG:=fG_ok (o:=.cvi kd x) (fun _=>rfl) ck c hc env mem nx k
 simp only [fCvi,evK_eq env mem nx]
 rcases natOf_eq ((⟨env,mem,nx⟩:AS).ev x) (fun _ n=>wrapK kd n (fG (.cvi kd x) ck env mem nx k) fun r=>k (.c (.v r)) mem nx) (fG (.cvi kd x) ck env mem nx k) with ⟨kd',n,h1,h2⟩ | h
 ·rw [h2,wrapK_eq,hG]
  rw [hG]
  simp only [evV,callee,stepQ,h1,AV.int?]
  rfl
 rw [h];exact hG
noncomputable def fCall (f:Nat) (xs:List Od):Hd:=fun ck env mem nx k=>evLK env xs fun l=>ck f l mem nx k
theorem fCall_ok (f:Nat) (xs:List Od):HdOk (fCall f xs) (.call f xs):=by
 intro ck c hc env mem nx k
 simp only [fCall,evLK_eq env mem nx,evV,callee]
 exact hc ..
def fCallv (t:Od) (xs:List Od):Hd:=fun ck env mem nx k=>match callee ⟨env,mem,nx⟩ (.callv t xs) with
 | some (f,l)=>ck f l mem nx k
 | none=>none
theorem fCallv_ok (t:Od) (xs:List Od):HdOk (fCallv t xs) (.callv t xs):=by
 intro ck c hc env mem nx k
 simp only [fCallv,evV]
 split
 ·rename_i f l h
  rw [h]
  exact hc ..
 rename_i h
 rw [h]
 rfl
def fQ (q:AS→Option AV):Hd:=fun _ env mem nx k=>match q ⟨env,mem,nx⟩ with
 | some v=>k v mem nx
 | none=>none
theorem fQ_ok {q:AS→Option AV} {o:Ins} (h:∀ st,callee st o=none) (hq:∀ st,stepQ o st=q st) (he:∀ st,stepE o st=none):HdOk (fQ q) o:=by
 intro ck c hc env mem nx k
 simp only [fQ,evV,h,hq,he]
 cases q ⟨env,mem,nx⟩<;>rfl
def qNilck (x:Od) (st:AS):Option AV:=match st.ev x with
 | .c (.ptr b o)=>some (.c (.ptr b o))
 | .c (.fn f us vs)=>some (.c (.fn f us vs))
 | _=>none
def qUn (op:UnOp) (x:Od) (st:AS):Option AV:=match (st.ev x).val? with
 | some u=>match unW op u with
  | some r=>some (scal r)
  | none=>none
 | none=>none
def qCmpn (k:NK) (ne:Bool) (x y:Od) (st:AS):Option AV:=match isNil k (st.ev x),isNil k (st.ev y) with
 | some a,some b=>match a || b with
  | true=>some (scal (.bool ((a && b) != ne)))
  | false=>none
 | _,_=>none
def qPick (c a b:Od) (st:AS):Option AV:=match (st.ev c).bool? with
 | some t=>some (if t=true then st.ev a else st.ev b)
 | none=>none
noncomputable def optK (env:Tr AV) (o:Option Od) (dflt:Nat) (f:Nat→Rs) (s:Rs):Rs:=@Option.rec Od (fun _=>Rs) (f dflt) (fun x=>evK env x fun w=>natOf w (fun _ j=>f j) s) o
theorem optK_eq (env:Tr AV) (mem:Tr Blk) (nx:Nat) (o:Option Od) (dflt:Nat) (f:Nat→Rs) (s:Rs):(∃ j:Nat,bnd ⟨env,mem,nx⟩ o dflt=some (Int.ofNat j)∧optK env o dflt f s=f j)∨optK env o dflt f s=s:=by
 cases o with
 | none=>exact .inl ⟨dflt,rfl,rfl⟩
 | some x =>
  show (∃ j:Nat,((⟨env,mem,nx⟩:AS).ev x).int? = some (Int.ofNat j)∧evK env x (fun w=>natOf w (fun _ j=>f j) s)=f j)∨evK env x (fun w=>natOf w (fun _ j=>f j) s)=s
  rw [evK_eq env mem nx]
  rcases natOf_eq ((⟨env,mem,nx⟩:AS).ev x) (fun _ j=>f j) s with ⟨kd,a,h1,h2⟩ | h
  ·exact .inl ⟨a,by rw [h1];rfl,h2⟩
  exact .inr h
noncomputable def slcR (b o n z l h:Nat) (k:AV→Rs):Rs:=@Nat.rec (fun _=>Rs) (forceN h fun m=>k (.c (.sl b o m z)))
 (fun l' _=>ifK (Nat.ble (Nat.succ (Nat.succ l')) n) (forceN (Nat.add o (Nat.mul (Nat.succ l') z)) fun p=>forceN (Nat.sub h (Nat.succ l')) fun m=>k (.c (.sl b p m z))) (k (.c .em))) l
noncomputable def fSlc (size : Nat) (x : Od) (lo hi : Option Od) : Hd := fun ck env mem nx k => evK env x fun u => slK u (fun b o n z => optK env lo 0 (fun l => optK env hi n (fun h =>
  ifK (Nat.beq z size) (ifK (Nat.ble l h) (ifK (Nat.ble h n) (slcR b o n z l h fun v=>k v mem nx) none) none) none) (fG (.slc size x lo hi) ck env mem nx k)) (fG (.slc size x lo hi) ck env mem nx k)) (fG (.slc size x lo hi) ck env mem nx k)
theorem ble_false {a b:Nat} (h:Nat.ble a b=false):¬ a≤b:=fun h2=>by rw [Nat.ble_eq_true_of_le h2] at h;cases h
theorem beq_false {a b:Nat} (h:Nat.beq a b=false):¬ a=b:=fun h2=>by subst h2;rw [Nat.beq_refl] at h;cases h
theorem fSlc_ok (size:Nat) (x:Od) (lo hi:Option Od):HdOk (fSlc size x lo hi) (.slc size x lo hi):=by
  intro ck c hc env mem nx k
  have hG:=fG_ok (o:=.slc size x lo hi) (fun _=>rfl) ck c hc env mem nx k
  simp only [fSlc,evK_eq env mem nx]
  generalize fG (.slc size x lo hi) ck env mem nx k=G at hG ⊢
  rcases slK_eq ((⟨env, mem, nx⟩ : AS).ev x) (fun b o n z => optK env lo 0 (fun l => optK env hi n (fun h =>
    ifK (Nat.beq z size) (ifK (Nat.ble l h) (ifK (Nat.ble h n) (slcR b o n z l h fun v=>k v mem nx) none) none) none) G) G) G with ⟨b,o,n,z,h1,h2⟩ | h
  case inr=>rw [h];exact hG
  rw [h2]
  rcases optK_eq env mem nx lo 0 (fun l => optK env hi n (fun h =>
    ifK (Nat.beq z size) (ifK (Nat.ble l h) (ifK (Nat.ble h n) (slcR b o n z l h fun v=>k v mem nx) none) none) none) G) G with ⟨l,h3,h4⟩ | h
  case inr=>rw [h];exact hG
  rw [h4]
  rcases optK_eq env mem nx hi n (fun h =>
    ifK (Nat.beq z size) (ifK (Nat.ble l h) (ifK (Nat.ble h n) (slcR b o n z l h fun v=>k v mem nx) none) none) none) G with ⟨h,h5,h6⟩ | h
  case inr=>rw [h];exact hG
  rw [h6]
  simp only [evV,callee,stepQ,stepE,h1,h3,h5]
  cases g1:Nat.beq z size with
  | false =>
    rw [need,if_neg (fun hh=>beq_false g1 hh.1)]
    rfl
  | true =>
    have g1:=Nat.eq_of_beq_eq_true g1
    cases g2:Nat.ble l h with
    | false =>
      rw [need,if_neg (fun hh=>ble_false g2 (by have:=hh.2.2.1;simp at this;omega))]
      rfl
    | true =>
      have g2:=Nat.le_of_ble_eq_true g2
      cases g3:Nat.ble h n with
      | false =>
        rw [need,if_neg (fun hh=>ble_false g3 (by have:=hh.2.2.2;simp at this;omega))]
        rfl
      | true =>
        have g3:=Nat.le_of_ble_eq_true g3
        rw [need,if_pos ⟨g1,by simp,by simp;omega,by simp;omega⟩]
        show slcR b o n z l h (fun v=>k v mem nx)=_
        cases l with
        | zero =>
          show forceN h (fun m=>k (.c (.sl b o m z)) mem nx)=_
          rw [forceN_eq]
          rfl
        | succ l =>
          rw [if_neg (by simp;omega)]
          show ifK (Nat.ble (Nat.succ (Nat.succ l)) n) (forceN (Nat.add o (Nat.mul (Nat.succ l) z)) fun p=>forceN (Nat.sub h (Nat.succ l)) fun m=>k (.c (.sl b p m z)) mem nx) (k (.c .em) mem nx)=_
          cases g4:Nat.ble (Nat.succ (Nat.succ l)) n with
          | true =>
            have g4:=Nat.le_of_ble_eq_true g4
            rw [if_pos (by simp;omega)]
            show forceN (Nat.add o (Nat.mul (Nat.succ l) z)) (fun p=>forceN (Nat.sub h (Nat.succ l)) fun m=>k (.c (.sl b p m z)) mem nx)=_
            rw [forceN_eq,forceN_eq]
            rfl
          | false =>
            have g4:=ble_false g4
            rw [if_neg (by simp;omega)]
            rfl
noncomputable def catK (l:List C) (r:List C):(List C→Rs)→Rs:=@List.rec C (fun _=>(List C→Rs)→Rs) (fun K=>K r) (fun c _ ih K=>ih fun l=>K (c::l)) l
theorem catK_eq (r:List C):∀ (l:List C) (K:List C→Rs),catK l r K=K (l++r):=by
 intro l
 induction l with
 | nil=>intros;rfl
 | cons c l ih =>
  intro K
  show catK l r (fun l=>K (c::l))=_
  rw [ih]
  rfl
noncomputable def replK (n:Nat) (z:List C):(List C→Rs)→Rs:=@Nat.rec (fun _=>(List C→Rs)→Rs) (fun K=>K []) (fun _ ih K=>ih fun l=>catK z l K) n
theorem replK_eq (z:List C):∀ (n:Nat) (K:List C→Rs),replK n z K=K (repl n z):=by
 intro n
 induction n with
 | zero=>intros;rfl
 | succ n ih =>
  intro K
  show replK n z (fun l=>catK z l K)=_
  rw [ih,catK_eq]
  rfl
theorem fillSK_eq (env:Tr AV) (mem:Tr Blk) (nx:Nat) (size:Nat):∀ (r:List (Nat×Od)) (cs:List C) (k:List C→Rs),fillSK env size cs r k=(match fillS ⟨env,mem,nx⟩ size cs r with | some l=>k l | none=>none):=by
 intro r
 induction r with
 | nil=>intro cs k;rfl
 | cons p r ih =>
  obtain ⟨j,x⟩:=p
  intro cs k
  simp only [fillSK,fillS,evK_eq env mem nx,cellsK_eq]
  cases ((⟨env,mem,nx⟩:AS).ev x).cells? with
  | none=>rfl
  | some ds =>
   simp only
   split
   ·rename_i h
    have h:=Nat.eq_of_beq_eq_true h
    rw [setK_eq,h,need]
    by_cases g:j * size+size≤cs.length
    ·rw [if_pos (show Nat.mul j size+size≤cs.length from g),if_pos ⟨rfl,g⟩,ih]
     rfl
    rw [if_neg (show ¬ Nat.mul j size+size≤cs.length from g),if_neg (fun h=>g h.2)]
   rename_i h
   rw [need,if_neg (fun g=>by rw [g.1,Nat.beq_refl] at h;cases h)]
noncomputable def fBslice (ty size len:Nat) (zero:List Value) (parts:List (Nat×Od)):Hd:=fun _ env mem nx k=>mapK zero fun z=>replK len z fun cs=>fillSK env size cs parts fun cs=>newK mem nx (.cells ty cs) fun mem' nx'=>k (.c (.sl nx 0 len size)) mem' nx'
theorem fBslice_ok (ty size len:Nat) (zero:List Value) (parts:List (Nat×Od)):HdOk (fBslice ty size len zero parts) (.bslice ty size len zero parts):=by
 intro ck c hc env mem nx k
 simp only [fBslice,mapK_eq,replK_eq,fillSK_eq env mem nx,newK_eq env,evV,callee,stepQ,stepE]
 cases fillS ⟨env,mem,nx⟩ size (repl len (zero.map fun v=>.v v)) parts<;>rfl
theorem prodI {m b q:Nat}:(Int.ofNat m * (b:Int)≤(q:Int))↔m * b≤q:=by
 rw [show Int.ofNat m * (b:Int)=((m * b:Nat):Int) from rfl]
 exact Int.ofNat_le
noncomputable def fMksl (ty size bytes : Nat) (zero : List Value) (l c : Od) : Hd := fun ck env mem nx k => evK env l fun u => evK env c fun w => natOf u (fun _ n => natOf w (fun _ m =>
  ifK (Nat.ble n m) (ifK (Nat.ble (Nat.mul m bytes) 140737488355328) (ifK (Nat.ble m 9223372036854775807) (mapK zero fun z=>replK n z fun cs=>newK mem nx (.cells ty cs) fun mem' nx'=>k (.c (.sl nx 0 n size)) mem' nx') none) none) none)
  (fG (.mksl ty size bytes zero l c) ck env mem nx k)) (fG (.mksl ty size bytes zero l c) ck env mem nx k)
theorem fMksl_ok (ty size bytes:Nat) (zero:List Value) (l c:Od):HdOk (fMksl ty size bytes zero l c) (.mksl ty size bytes zero l c):=by
  intro ck cl hc env mem nx k
  have hG:=fG_ok (o:=.mksl ty size bytes zero l c) (fun _=>rfl) ck cl hc env mem nx k
  simp only [fMksl,evK_eq env mem nx,mapK_eq,replK_eq,newK_eq env]
  generalize fG (.mksl ty size bytes zero l c) ck env mem nx k=G at hG ⊢
  rcases natOf_eq ((⟨env, mem, nx⟩ : AS).ev l) (fun _ n => natOf ((⟨env, mem, nx⟩ : AS).ev c) (fun _ m =>
    ifK (Nat.ble n m) (ifK (Nat.ble (Nat.mul m bytes) 140737488355328) (ifK (Nat.ble m 9223372036854775807) (k (.c (.sl nx 0 n size)) ((⟨env,mem,nx⟩:AS).new (.cells ty (repl n (zero.map fun v=>.v v)))).mem ((⟨env,mem,nx⟩:AS).new (.cells ty (repl n (zero.map fun v=>.v v)))).nx) none) none) none) G) G with ⟨kd,n,h1,h2⟩ | h
  case inr=>rw [h];exact hG
  rw [h2]
  rcases natOf_eq ((⟨env, mem, nx⟩ : AS).ev c) (fun _ m =>
    ifK (Nat.ble n m) (ifK (Nat.ble (Nat.mul m bytes) 140737488355328) (ifK (Nat.ble m 9223372036854775807) (k (.c (.sl nx 0 n size)) ((⟨env,mem,nx⟩:AS).new (.cells ty (repl n (zero.map fun v=>.v v)))).mem ((⟨env,mem,nx⟩:AS).new (.cells ty (repl n (zero.map fun v=>.v v)))).nx) none) none) none) G with ⟨kd',m,h3,h4⟩ | h
  case inr=>rw [h];exact hG
  rw [h4]
  simp only [evV,callee,stepQ,stepE,h1,h3,AV.int?]
  cases g2:Nat.ble n m with
  | false =>
    rw [need,if_neg (fun hh=>ble_false g2 (by have:=hh.2.1;simp at this;omega))]
    rfl
  | true =>
    have g2:=Nat.le_of_ble_eq_true g2
    cases g3:Nat.ble (Nat.mul m bytes) 140737488355328 with
    | false =>
      rw [need,if_neg (fun hh=>ble_false g3 (prodI.1 hh.2.2.1))]
      rfl
    | true =>
      have g3:m * bytes≤140737488355328:=Nat.le_of_ble_eq_true g3
      cases g4:Nat.ble m 9223372036854775807 with
      | false =>
        rw [need,if_neg (fun hh=>ble_false g4 (by have:=hh.2.2.2;simp only [Int.ofNat_eq_natCast] at this;omega))]
        rfl
      | true =>
        have g4:=Nat.le_of_ble_eq_true g4
        rw [need,if_pos ⟨by simp,by simp;omega,prodI.2 g3,by simp only [Int.ofNat_eq_natCast];omega⟩]
        rfl
noncomputable def fO (o:Ins):Hd:=@Ins.rec (fun _=>Hd) fMv
 (fun c a b=>fQ (qPick c a b))
 fAlloc
 fBox
 fBuild
 fBslice
 fLoad
 fStore
 (fun x=>fQ (qNilck x))
 fBin
 (fun x0 x1 x2=>fG (.binB x0 x1 x2))
 (fun o x=>fQ (qUn o x))
 fCvi
 (fun x0=>fG (.cvs x0))
 (fun x0=>fG (.bstr x0))
 (fun x0 x1 x2=>fG (.mkf x0 x1 x2))
 fMksl
 (fun x0 x1 x2=>fG (.slcS x0 x1 x2))
 fSlc
 fFad
 (fun x0 x1 x2 x3=>fG (.fld x0 x1 x2 x3))
 fIad
 (fun x0 x1=>fG (.ixs x0 x1))
 (fun x0 x1 x2 x3 x4=>fG (.ixa x0 x1 x2 x3 x4))
 fExt
 fLen
 (fun x0 x1 x2 x3 x4 x5=>fG (.app x0 x1 x2 x3 x4 x5))
 fCall
 fCallv
 (fun k n x y=>fQ (qCmpn k n x y))
 (fun x0 x1 x2=>fG (.mx x0 x1 x2))
 (fun x0 x1 x2 x3=>fG (.iaa x0 x1 x2 x3))
 (fun x0=>fG (.rngS x0))
 (fun x0=>fG (.nxtS x0))
 (fG .mkm)
 (fun x0 x1 x2 x3 x4 x5=>fG (.look x0 x1 x2 x3 x4 x5))
 (fun x0 x1 x2 x3=>fG (.mupd x0 x1 x2 x3))
 (fun x0 x1 x2 x3=>fG (.binA x0 x1 x2 x3))
 (fG .bad) o
theorem fO_ok (o:Ins):HdOk (fO o) o:=by
 cases o
 case mv=>exact fMv_ok _
 case bin=>exact fBin_ok _ _ _
 case load=>exact fLoad_ok _ _ _
 case store=>exact fStore_ok _ _ _
 case alloc=>exact fAlloc_ok _ _
 case box=>exact fBox_ok _ _
 case build=>exact fBuild_ok _ _
 case fad=>exact fFad_ok _ _
 case ext=>exact fExt_ok _ _
 case len=>exact fLen_ok _ _
 case iad=>exact fIad_ok _ _ _
 case cvi=>exact fCvi_ok _ _
 case call=>exact fCall_ok _ _
 case callv=>exact fCallv_ok _ _
 case nilck=>exact fQ_ok (fun _=>rfl) (fun _=>rfl) (fun _=>rfl)
 case un=>exact fQ_ok (fun _=>rfl) (fun _=>rfl) (fun _=>rfl)
 case cmpn=>exact fQ_ok (fun _=>rfl) (fun _=>rfl) (fun _=>rfl)
 case pick=>exact fQ_ok (fun _=>rfl) (fun _=>rfl) (fun _=>rfl)
 case bslice=>exact fBslice_ok _ _ _ _ _
 case slc=>exact fSlc_ok _ _ _ _
 case bstr x0=>exact fG_ok (o:=.bstr x0) fun _=>rfl
 case mksl=>exact fMksl_ok _ _ _ _ _ _
 case app x0 x1 x2 x3 x4 x5=>exact fG_ok (o:=.app x0 x1 x2 x3 x4 x5) fun _=>rfl
 case rngS x0=>exact fG_ok (o:=.rngS x0) fun _=>rfl
 case nxtS x0=>exact fG_ok (o:=.nxtS x0) fun _=>rfl
 case mkm =>exact fG_ok (o:=.mkm ) fun _=>rfl
 case look x0 x1 x2 x3 x4 x5=>exact fG_ok (o:=.look x0 x1 x2 x3 x4 x5) fun _=>rfl
 case mupd x0 x1 x2 x3=>exact fG_ok (o:=.mupd x0 x1 x2 x3) fun _=>rfl
 case bad =>exact fG_ok (o:=.bad ) fun _=>rfl
 all_goals exact fG_ok (fun _=>rfl)
open Go.RowKit
open Go.Eng (Od need need_pos need_some setL binV)
abbrev Ks:=Tr AV→Tr Blk→Nat→Rs
abbrev Kx:=Exit→Tr AV→Tr Blk→Nat→Rs
noncomputable def putD (d:Option Nat) (env:Tr AV) (v:AV) (k:Tr AV→Rs):Rs:=@Option.rec Nat (fun _=>Rs) (k env) (fun q=>putK (some v) (Nat.succ q) env q k) d
theorem putD_eq (d:Option Nat) (env:Tr AV) (mem:Tr Blk) (nx:Nat) (v:AV) (k:Ks):putD d env v (fun env=>k env mem nx)=k ((⟨env,mem,nx⟩:AS).putO d v).env ((⟨env,mem,nx⟩:AS).putO d v).mem ((⟨env,mem,nx⟩:AS).putO d v).nx:=by
 cases d with
 | none=>rfl
 | some q=>simp only [putD,putK_eq];rfl
noncomputable def fDo (d:Option Nat) (o:Ins) (ck:CallK) (env:Tr AV) (mem:Tr Blk) (nx:Nat) (k:Ks):Rs:=fO o ck env mem nx fun v mem nx=>putD d env v fun env=>k env mem nx
noncomputable def fGd (d:Option Nat) (o:Ins) (p:Nat×Bool) (ck:CallK) (env:Tr AV) (mem:Tr Blk) (nx:Nat) (k:Ks):Rs:=match gd ((⟨env,mem,nx⟩:AS).get p.1) p.2 with
 | some t=>match t with
  | true=>fDo d o ck env mem nx k
  | false=>putD d env (.tup []) fun env=>k env mem nx
 | none=>none
noncomputable def fI (i:I):CallK→Tr AV→Tr Blk→Nat→Ks→Rs:=@I.rec (fun _=>CallK→Tr AV→Tr Blk→Nat→Ks→Rs) (fun d g o=>@Option.rec (Nat×Bool) (fun _=>CallK→Tr AV→Tr Blk→Nat→Ks→Rs) (fDo d o) (fGd d o) g) i
def aftS (r:Option AS) (k:Ks):Rs:=match r with
 | some st=>k st.env st.mem st.nx
 | none=>none
theorem fI_eq {ck:CallK} {c:Call'} (hc:IsK ck c) (i:I) (env:Tr AV) (mem:Tr Blk) (nx:Nat) (k:Ks):fI i ck env mem nx k=aftS (evI c i ⟨env,mem,nx⟩) k:=by
  obtain ⟨d,g,o⟩:=i
  have hdo : fDo d o ck env mem nx k = aftS (match evV c o ⟨env, mem, nx⟩ with
    | some (v,mem,nx)=>some ((⟨env,mem,nx⟩:AS).putO d v)
    | none=>none) k:=by
    unfold fDo
    rw [fO_ok o ck c hc]
    cases evV c o ⟨env,mem,nx⟩ with
    | none=>rfl
    | some p =>
      obtain ⟨v,m,n⟩:=p
      simp only [aft,aftS]
      exact putD_eq d env m n v k
  cases g with
  | none =>
    show fDo d o ck env mem nx k=_
    simp only [evI,gOk]
    exact hdo
  | some p =>
    obtain ⟨s,want⟩:=p
    show fGd d o (s,want) ck env mem nx k=_
    simp only [fGd,evI,gOk]
    cases gd ((⟨env,mem,nx⟩:AS).get s) want with
    | none=>rfl
    | some t =>
      cases t with
      | true=>exact hdo
      | false=>exact putD_eq d env mem nx _ k
noncomputable def fL (ck:CallK) (l:List I):Tr AV→Tr Blk→Nat→Ks→Rs:=@List.rec I (fun _=>Tr AV→Tr Blk→Nat→Ks→Rs) (fun env mem nx k=>k env mem nx)
 (fun i _ ih env mem nx k=>fI i ck env mem nx fun env mem nx=>ih env mem nx k) l
theorem fL_eq {ck:CallK} {c:Call'} (hc:IsK ck c):∀ (l:List I) (env:Tr AV) (mem:Tr Blk) (nx:Nat) (k:Ks),fL ck l env mem nx k=aftS (evL c l ⟨env,mem,nx⟩) k:=by
 intro l
 induction l with
 | nil=>intros;rfl
 | cons i l ih =>
  intro env mem nx k
  show fI i ck env mem nx (fun env mem nx=>fL ck l env mem nx k)=_
  simp only [evL,fI_eq hc]
  cases evI c i ⟨env,mem,nx⟩ with
  | none=>rfl
  | some st=>exact ih ..
def dirC (ck:CallK):Call':=fun f args mem nx=>ck f args mem nx fun v m n=>some (v,m,n)
theorem dirC_eq {ck:CallK} {c:Call'} (hc:IsK ck c):dirC ck=c:=by
 funext f args mem nx
 simp only [dirC,hc f args mem nx]
 cases c f args mem nx<;>rfl
def aftX (r:Option (Exit×AS)) (k:Kx):Rs:=match r with
 | some (e,st)=>k e st.env st.mem st.nx
 | none=>none
noncomputable def onK (e:Exit) (a:Rs) (k:Exit→Rs):Rs:=@Exit.rec (fun _=>Rs) a (fun i=>k (.exit i)) (fun l=>k (.goto l)) (k .ret) (fun c=>k (.panic c)) (k .outgrown) e
theorem onK_eq (e:Exit) (a:Rs) (k:Exit→Rs):onK e a k=(match e with | .normal=>a | e=>k e):=by cases e<;>rfl
noncomputable def fLoop (body:Tr AV→Tr Blk→Nat→Kx→Rs) (n:Nat):Tr AV→Tr Blk→Nat→Kx→Rs:=@Nat.rec (fun _=>Tr AV→Tr Blk→Nat→Kx→Rs) (fun _ _ _ _=>none)
 (fun _ ih env mem nx k=>body env mem nx fun e env mem nx=>onK e (ih env mem nx k) fun e=>k e env mem nx) n
noncomputable def boolK (v:AV) (a b:Rs):Rs:=cK v (fun c=>cR c (fun x=>valR x (fun t=>@Bool.rec (fun _=>Rs) b a t) (fun _ _=>none) none) (fun _ _=>none) (fun _ _ _ _=>none) none) none
theorem boolK_eq (v:AV) (a b:Rs):boolK v a b=(match v.bool? with | none=>none | some true=>a | some false=>b):=by
 cases v with
 | c c =>
  cases c with
  | v x =>
   cases x with
   | bool t=>cases t<;>rfl
   | _=>rfl
  | _=>rfl
 | _=>rfl
noncomputable def fX (ck:CallK) (k0:Nat) (x:XC):Tr AV→Tr Blk→Nat→Kx→Rs:=@XC.rec (fun _=>Tr AV→Tr Blk→Nat→Kx→Rs)
 (fun env mem nx k=>k .normal env mem nx)
 (fun l env mem nx k=>fL ck l env mem nx (k .normal))
 (fun ds an env mem nx k=>aftS (evD (dirC ck) ds an ⟨env,mem,nx⟩) (k .normal))
 (fun _ _ ra rb env mem nx k=>ra env mem nx fun e env mem nx=>onK e (rb env mem nx k) fun e=>k e env mem nx)
 (fun c _ _ ra rb env mem nx k=>evK env c fun v=>boolK v (ra env mem nx k) (rb env mem nx k))
 (fun id _ rb env mem nx k=>rb env mem nx fun e=>k (blockE id e))
 (fun _ rb=>fLoop rb k0)
 (fun id env mem nx k=>k (.exit id) env mem nx)
 (fun env mem nx k=>k .ret env mem nx)
 (fun _ _ _ _=>none) x
theorem fLoop_eq {body:Tr AV→Tr Blk→Nat→Kx→Rs} {b:AS→Option (Exit×AS)} (hb:∀ env mem nx k,body env mem nx k=aftX (b ⟨env,mem,nx⟩) k):∀ (n:Nat) (env:Tr AV) (mem:Tr Blk) (nx:Nat) (k:Kx),fLoop body n env mem nx k=aftX (evLoop b n ⟨env,mem,nx⟩) k:=by
 intro n
 induction n with
 | zero=>intros;rfl
 | succ n ih =>
  intro env mem nx k
  show body env mem nx (fun e env mem nx=>onK e (fLoop body n env mem nx k) fun e=>k e env mem nx)=_
  simp only [evLoop,hb,onK_eq]
  cases b ⟨env,mem,nx⟩ with
  | none=>rfl
  | some p =>
   obtain ⟨e,st⟩:=p
   cases e with
   | normal=>exact ih ..
   | _=>rfl
theorem fX_eq {ck:CallK} {c:Call'} (hc:IsK ck c) (k0:Nat):∀ (x:XC) (env:Tr AV) (mem:Tr Blk) (nx:Nat) (k:Kx),fX ck k0 x env mem nx k=aftX (evX c k0 x ⟨env,mem,nx⟩) k:=by
 intro x
 induction x with
 | skip=>intros;rfl
 | region l =>
  intro env mem nx k
  show fL ck l env mem nx (k .normal)=_
  simp only [evX,fL_eq hc]
  cases evL c l ⟨env,mem,nx⟩<;>rfl
 | draw ds an =>
  intro env mem nx k
  show aftS (evD (dirC ck) ds an ⟨env,mem,nx⟩) (k .normal)=_
  simp only [evX,dirC_eq hc]
  cases evD c ds an ⟨env,mem,nx⟩<;>rfl
 | seq a b iha ihb =>
  intro env mem nx k
  show fX ck k0 a env mem nx (fun e env mem nx=>onK e (fX ck k0 b env mem nx k) fun e=>k e env mem nx)=_
  simp only [evX,iha,onK_eq]
  cases evX c k0 a ⟨env,mem,nx⟩ with
  | none=>rfl
  | some p =>
   obtain ⟨e,st⟩:=p
   cases e with
   | normal=>exact ihb ..
   | _=>rfl
 | cond t a b iha ihb =>
  intro env mem nx k
  show evK env t (fun v=>boolK v (fX ck k0 a env mem nx k) (fX ck k0 b env mem nx k))=_
  rw [evK_eq env mem nx,boolK_eq]
  simp only [evX]
  cases ((⟨env,mem,nx⟩:AS).ev t).bool? with
  | none=>rfl
  | some t =>
   cases t with
   | true=>exact iha ..
   | false=>exact ihb ..
 | block id b ih =>
  intro env mem nx k
  show fX ck k0 b env mem nx (fun e=>k (blockE id e))=_
  simp only [evX,ih]
  cases evX c k0 b ⟨env,mem,nx⟩ with
  | none=>rfl
  | some p=>rfl
 | loop b ih=>exact fLoop_eq ih k0
 | exit id=>intros;rfl
 | ret=>intros;rfl
 | bad=>intros;rfl
noncomputable def envK (n:Nat) (t:Tr AV) (l:List AV) (k:Tr AV→Rs):Rs:=@List.rec AV (fun _=>Nat→Tr AV→Rs) (fun _ t=>k t) (fun v _ ih n t=>putK (some v) (Nat.succ n) t n fun t=>ih (Nat.succ n) t) l n t
theorem envK_eq (k:Tr AV→Rs):∀ (l:List AV) (n:Nat) (t:Tr AV),envK n t l k=k (envOf n t l):=by
 intro l
 induction l with
 | nil=>intros;rfl
 | cons v vs ih =>
  intro n t
  show putK (some v) (Nat.succ n) t n (fun t=>envK (Nat.succ n) t vs k)=_
  simp only [putK_eq,ih]
  rfl
noncomputable def res1K (env:Tr AV) (mem:Tr Blk) (r:RR) (k:AV→Rs):Rs:=match r with
 | .t i=>getK env i k
 | .c i g s=>getK env i fun u=>ptrK u fun b o=>blkR mem b fun _ cs=>readK o cs s fun l=>mkK g l k
theorem res1K_eq (env:Tr AV) (mem:Tr Blk) (nx:Nat) (r:RR) (k:AV→Rs):res1K env mem r k=(match res1 ⟨env,mem,nx⟩ r with | some v=>k v | none=>none):=by
 cases r with
 | t i =>
  simp only [res1K,res1,getK_eq,AS.get]
  cases env.get i<;>rfl
 | c i g s =>
  have h:∀ q:AV→Rs,getK env i q=q ((⟨env,mem,nx⟩:AS).get i):=fun q=>by
   simp only [getK_eq,AS.get]
   cases env.get i<;>rfl
  show getK env i (fun u=>ptrK u fun b o=>blkR mem b fun _ cs=>readK o cs s fun l=>mkK g l k)=_
  rw [h]
  simp only [res1,readK_eq,mkK_eq,AS.read,AS.blk]
  cases (⟨env,mem,nx⟩:AS).get i with
  | c u =>
   cases u with
   | ptr b o =>
    simp only [ptrK_ptr,blkR_eq]
    cases mem.get b with
    | none=>rfl
    | some kk =>
     cases kk with
     | cells ty cs =>
      by_cases g1:o+s≤cs.length
      ·simp only [need,if_pos g1]
      simp only [need,if_neg g1]
     | ro cs =>
      by_cases g1:o+s≤cs.length
      ·simp only [need,if_pos g1]
      simp only [need,if_neg g1]
     | sit _ _=>rfl
     | mp _ _=>rfl
   | _=>rfl
  | _=>rfl
noncomputable def resLK (env:Tr AV) (mem:Tr Blk):List RR→(List AV→Rs)→Rs
 | [],k=>k []
 | r::rs,k=>res1K env mem r fun v=>resLK env mem rs fun vs=>k (v::vs)
theorem resLK_eq (env:Tr AV) (mem:Tr Blk) (nx:Nat):∀ (rs:List RR) (k:List AV→Rs),resLK env mem rs k=(match resL ⟨env,mem,nx⟩ rs with | some l=>k l | none=>none):=by
 intro rs
 induction rs with
 | nil=>intros;rfl
 | cons r rs ih =>
  intro k
  simp only [resLK,res1K_eq env mem nx,resL,ih]
  cases res1 ⟨env,mem,nx⟩ r with
  | none=>rfl
  | some v=>cases resL ⟨env,mem,nx⟩ rs<;>rfl
def one (l:List AV) (k:AV→Rs):Rs:=match l with
 | []=>k (.tup [])
 | v::r=>match r with
  | []=>k v
  | w::r=>k (.tup (v::w::r))
noncomputable def finK (ts:List RR) (e:Exit) (env:Tr AV) (mem:Tr Blk) (nx:Nat) (k:Kv):Rs:=match e with
 | .ret=>resLK env mem ts fun l=>one l fun v=>k v mem nx
 | .normal=>resLK env mem ts fun l=>one l fun v=>k v mem nx
 | _=>none
theorem finK_eq (e:FE) (env:Tr AV) (mem:Tr Blk) (nx:Nat) (k:Kv):(resLK env mem e.ts fun l=>one l fun v=>k v mem nx)=aft (fin e ⟨env,mem,nx⟩) k:=by
 rw [resLK_eq env mem nx]
 unfold fin resAV
 cases resL ⟨env,mem,nx⟩ e.ts with
 | none=>rfl
 | some l =>
  match l with
  | []=>rfl
  | [v]=>rfl
  | v::w::r=>rfl
noncomputable def fF (T:Tr FE) (hand:Call') (k0:Nat):Nat→CallK
 | 0,_,_,_,_,_=>none
 | n+1,f,args,mem,nx,k=>match T.get f with
  | none=>aft (hand f args mem nx) k
  | some e=>match Nat.ble args.length e.n with
   | false=>none
   | true=>envK 0 .nil args fun env=>fX (fF T hand k0 n) k0 e.x env mem nx fun x env mem nx=>finK e.ts x env mem nx k
theorem fF_eq (T:Tr FE) (hand:Call') (k0:Nat):∀ n,IsK (fF T hand k0 n) (evF T hand k0 n):=by
 intro n
 induction n with
 | zero=>intro f args mem nx k;rfl
 | succ n ih =>
  intro f args mem nx k
  simp only [fF,evF]
  cases T.get f with
  | none=>rfl
  | some e =>
   simp only
   cases Nat.ble args.length e.n with
   | false=>rfl
   | true =>
    simp only [envK_eq,fX_eq ih]
    cases evX (evF T hand k0 n) k0 e.x ⟨envOf 0 .nil args,mem,nx⟩ with
    | none=>rfl
    | some p =>
     obtain ⟨x,st⟩:=p
     cases x with
     | ret=>exact finK_eq ..
     | normal=>exact finK_eq ..
     | _=>rfl
theorem evF_of {T:Tr FE} {hand:Call'} {k0 n f:Nat} {args:List AV} {mem:Tr Blk} {nx:Nat} {r:AV×Tr Blk×Nat} (h:fF T hand k0 n f args mem nx (fun v m n=>some (v,m,n))=some r):evF T hand k0 n f args mem nx=some r:=by
 rw [← h,fF_eq]
 cases evF T hand k0 n f args mem nx<;>rfl
open Go.RowKit
open Go.Eng (Od need need_pos need_some setL binV)
inductive Pa where
 | h
 | a (p:Pa)
 | b (p:Pa)
def Pa.n:Pa→Nat
 | .h=>0
 | .a p=>2 * p.n+1
 | .b p=>2 * p.n+2
theorem get_a {α:Type} (x:Option α) (l r:Tr α) (m:Nat):(Tr.node x l r).get (2 * m+1)=l.get m:=by
 have h:Nat.beq (2 * m % 2) 0=true:=by rw [Nat.beq_eq];omega
 have h2:2 * m / 2=m:=by omega
 simp only [Tr.get,h,h2]
theorem get_b {α:Type} (x:Option α) (l r:Tr α) (m:Nat):(Tr.node x l r).get (2 * m+2)=r.get m:=by
 have h:Nat.beq ((2 * m+1) % 2) 0=false:=by
  cases h:Nat.beq ((2 * m+1) % 2) 0 with
  | false=>rfl
  | true=>have:=Nat.eq_of_beq_eq_true h;omega
 have h2:(2 * m+1) / 2=m:=by omega
 show (match Nat.beq ((2 * m+1) % 2) 0 with | true=>l.get ((2 * m+1) / 2) | false=>r.get ((2 * m+1) / 2))=_
 rw [h,h2]
theorem put_a {α:Type} (v:Option α) (t:Tr α) (m n:Nat):Tr.put (n+1) t (2 * m+1) v=(match t with | .nil=>.node none (Tr.put n .nil m v) .nil | .node x l r=>.node x (Tr.put n l m v) r):=by
 have h:Nat.beq (2 * m % 2) 0=true:=by rw [Nat.beq_eq];omega
 have h2:2 * m / 2=m:=by omega
 cases t<;>simp only [Tr.put,h,h2]
theorem put_b {α:Type} (v:Option α) (t:Tr α) (m n:Nat):Tr.put (n+1) t (2 * m+2) v=(match t with | .nil=>.node none .nil (Tr.put n .nil m v) | .node x l r=>.node x l (Tr.put n r m v)):=by
 have h:Nat.beq ((2 * m+1) % 2) 0=false:=by
  cases h:Nat.beq ((2 * m+1) % 2) 0 with
  | false=>rfl
  | true=>have:=Nat.eq_of_beq_eq_true h;omega
 have h2:(2 * m+1) / 2=m:=by omega
 cases t with
 | nil =>
  show (match Nat.beq ((2 * m+1) % 2) 0 with | true=>_ | false=>Tr.node none .nil (Tr.put n .nil ((2 * m+1) / 2) v))=_
  rw [h,h2]
 | node x l r =>
  show (match Nat.beq ((2 * m+1) % 2) 0 with | true=>_ | false=>Tr.node x l (Tr.put n r ((2 * m+1) / 2) v))=_
  rw [h,h2]
theorem put_fuel {α:Type} (v:Option α):∀ (n m:Nat) (t:Tr α) (k:Nat),k<n→k<m→Tr.put n t k v=Tr.put m t k v:=by
 intro n
 induction n with
 | zero=>intro m t k h;omega
 | succ n ih =>
  intro m t k h hm
  cases m with
  | zero=>omega
  | succ m =>
   cases t with
   | nil =>
    cases k with
    | zero=>rfl
    | succ k =>
     simp only [Tr.put]
     cases Nat.beq (k % 2) 0<;>simp only []<;>rw [ih m _ _ (by omega) (by omega)]
   | node x l r =>
    cases k with
    | zero=>rfl
    | succ k =>
     simp only [Tr.put]
     cases Nat.beq (k % 2) 0<;>simp only []<;>rw [ih m _ _ (by omega) (by omega)]
noncomputable def getP (p:Pa):Tr AV→(AV→Rs)→Rs:=@Pa.rec (fun _=>Tr AV→(AV→Rs)→Rs)
 (fun t k=>@Tr.rec AV (fun _=>Rs) (k .any) (fun v _ _ _ _=>@Option.rec AV (fun _=>Rs) (k .any) k v) t)
 (fun _ ih t k=>@Tr.rec AV (fun _=>Rs) (k .any) (fun _ l _ _ _=>ih l k) t)
 (fun _ ih t k=>@Tr.rec AV (fun _=>Rs) (k .any) (fun _ _ r _ _=>ih r k) t) p
theorem getP_eq (k:AV→Rs):∀ (p:Pa) (t:Tr AV),getP p t k=getK t p.n k:=by
 intro p
 induction p with
 | h=>intro t;cases t<;>rfl
 | a p ih =>
  intro t
  rw [getK_eq]
  cases t with
  | nil=>rw [Tr.get_nil];rfl
  | node x l r =>
   show getP p l k=_
   rw [ih,getK_eq]
   simp only [Pa.n,get_a]
 | b p ih =>
  intro t
  rw [getK_eq]
  cases t with
  | nil=>rw [Tr.get_nil];rfl
  | node x l r =>
   show getP p r k=_
   rw [ih,getK_eq]
   simp only [Pa.n,get_b]
noncomputable def putP (v:AV) (p:Pa):Tr AV→(Tr AV→Rs)→Rs:=@Pa.rec (fun _=>Tr AV→(Tr AV→Rs)→Rs)
 (fun t K=>@Tr.rec AV (fun _=>Rs) (K (.node (some v) .nil .nil)) (fun _ l r _ _=>K (.node (some v) l r)) t)
 (fun _ ih t K=>@Tr.rec AV (fun _=>Rs) (ih .nil fun l=>K (.node none l .nil)) (fun x l r _ _=>ih l fun l=>K (.node x l r)) t)
 (fun _ ih t K=>@Tr.rec AV (fun _=>Rs) (ih .nil fun r=>K (.node none .nil r)) (fun x l r _ _=>ih r fun r=>K (.node x l r)) t) p
theorem putP_eq (v:AV):∀ (p:Pa) (t:Tr AV) (K:Tr AV→Rs),putP v p t K=K (Tr.put (p.n+1) t p.n (some v)):=by
 intro p
 induction p with
 | h=>intro t K;cases t<;>rfl
 | a p ih =>
  intro t K
  simp only [Pa.n]
  rw [show 2 * p.n+1+1=(2 * p.n+1)+1 from rfl,put_a]
  cases t with
  | nil =>
   show putP v p .nil (fun l=>K (.node none l .nil))=_
   rw [ih,put_fuel (some v) (p.n+1) (2 * p.n+1) _ _ (by omega) (by omega)]
  | node x l r =>
   show putP v p l (fun l=>K (.node x l r))=_
   rw [ih,put_fuel (some v) (p.n+1) (2 * p.n+1) _ _ (by omega) (by omega)]
 | b p ih =>
  intro t K
  simp only [Pa.n]
  rw [show 2 * p.n+2+1=(2 * p.n+2)+1 from rfl,put_b]
  cases t with
  | nil =>
   show putP v p .nil (fun r=>K (.node none .nil r))=_
   rw [ih,put_fuel (some v) (p.n+1) (2 * p.n+2) _ _ (by omega) (by omega)]
  | node x l r =>
   show putP v p r (fun r=>K (.node x l r))=_
   rw [ih,put_fuel (some v) (p.n+1) (2 * p.n+2) _ _ (by omega) (by omega)]
inductive O2 where
 | t (p:Pa)
 | i (kd:IntKind) (n:Nat)
 | o (x:Od)
def O2.od:O2→Od
 | .t p=>.t p.n
 | .i kd n=>.k (.int kd (.ofNat n))
 | .o x=>x
noncomputable def ev2 (env:Tr AV) (x:O2):(AV→Rs)→Rs:=@O2.rec (fun _=>(AV→Rs)→Rs) (fun p=>getP p env) (fun kd n k=>k (.c (.v (.int kd (.ofNat n))))) (fun x=>evK env x) x
theorem ev2_eq (env:Tr AV) (x:O2) (k:AV→Rs):ev2 env x k=evK env x.od k:=by
 cases x with
 | t p=>exact getP_eq k p env
 | i kd n=>rfl
 | o x=>rfl
noncomputable def evL2 (env:Tr AV) (l:List O2):(List AV→Rs)→Rs:=@List.rec O2 (fun _=>(List AV→Rs)→Rs) (fun k=>k []) (fun x _ ih k=>ev2 env x fun v=>ih fun vs=>k (v::vs)) l
theorem evL2_eq (env:Tr AV):∀ (l:List O2) (k:List AV→Rs),evL2 env l k=evLK env (l.map O2.od) k:=by
 intro l
 induction l with
 | nil=>intro k;rfl
 | cons x l ih =>
  intro k
  show ev2 env x (fun v=>evL2 env l fun vs=>k (v::vs))=evK env x.od (fun v=>evLK env (l.map O2.od) fun vs=>k (v::vs))
  rw [ev2_eq]
  simp only [ih]
inductive J where
 | mv (x:O2)
 | bin (op:BinOp) (x y:O2)
 | load (agg:Bool) (size:Nat) (x:O2)
 | store (size:Nat) (x y:O2)
 | iad (size:Nat) (x i:O2)
 | len (x:O2)
 | fad (off:Nat) (x:O2)
 | ext (x:O2) (i:Nat)
 | cvi (k:IntKind) (x:O2)
 | pick (c a b:O2)
 | call (f:Nat) (l:List O2)
 | gen (o:Ins)
def J.ins:J→Ins
 | .mv x=>.mv x.od
 | .bin op x y=>.bin op x.od y.od
 | .load a s x=>.load a s x.od
 | .store s x y=>.store s x.od y.od
 | .iad s x i=>.iad s x.od i.od
 | .len x=>.len false x.od
 | .fad o x=>.fad o x.od
 | .ext x i=>.ext x.od i
 | .cvi k x=>.cvi k x.od
 | .pick c a b=>.pick c.od a.od b.od
 | .call f l=>.call f (l.map O2.od)
 | .gen o=>o
noncomputable def jMv (x:O2):Hd:=fun _ env mem nx k=>ev2 env x fun v=>k v mem nx
noncomputable def jBin (op:BinOp) (x y:O2):Hd:=fun _ env mem nx k=>ev2 env x fun u=>ev2 env y fun w=>binK op u w fun r=>k (.c (.v r)) mem nx
noncomputable def jLoad (agg:Bool) (size:Nat) (x:O2):Hd:=fun _ env mem nx k=>ev2 env x fun u=>ptrK u fun b o=>blkR mem b fun _ cs=>readK o cs size fun l=>mkK agg l fun v=>k v mem nx
noncomputable def jStore (size:Nat) (x y:O2):Hd:=fun _ env mem nx k=>ev2 env x fun u=>ptrK u fun b o=>ev2 env y fun w=>cellsK w fun ds=>ifK (Nat.beq ds.length size)
 (blkK mem b fun ty cs=>setK o cs ds fun cs'=>putK (some (.cells ty cs')) (Nat.succ b) mem b fun mem'=>k .any mem' nx) none
noncomputable def jIad (size : Nat) (x i : O2) : Hd := fun ck env mem nx k => ev2 env x fun u => ev2 env i fun w => slK u (fun b o n s => natOf w (fun _ j => ifK (Nat.beq s size)
  (ifK (Nat.blt j n) (forceN (Nat.add o (Nat.mul j s)) fun p=>k (.c (.ptr b p)) mem nx) none) none) (fG (.iad size x.od i.od) ck env mem nx k)) (fG (.iad size x.od i.od) ck env mem nx k)
noncomputable def jLen (x:O2):Hd:=fun ck env mem nx k=>ev2 env x fun u=>slK u (fun _ _ n _=>k (.c (.v (.int .i64 (.ofNat n)))) mem nx) (fG (.len false x.od) ck env mem nx k)
noncomputable def jFad (off:Nat) (x:O2):Hd:=fun _ env mem nx k=>ev2 env x fun u=>ptrK u fun b o=>forceN (Nat.add o off) fun p=>k (.c (.ptr b p)) mem nx
noncomputable def jExt (x:O2) (i:Nat):Hd:=fun _ env mem nx k=>ev2 env x fun u=>match u with
 | .tup vs=>fExt.nthK vs i fun v=>k v mem nx
 | _=>none
noncomputable def jCvi (kd:IntKind) (x:O2):Hd:=fun ck env mem nx k=>ev2 env x fun u=>natOf u (fun _ n=>wrapK kd n (fG (.cvi kd x.od) ck env mem nx k) fun r=>k (.c (.v r)) mem nx) (fG (.cvi kd x.od) ck env mem nx k)
noncomputable def jPick (c a b:O2):Hd:=fun _ env mem nx k=>ev2 env c fun v=>boolK v (ev2 env a fun v=>k v mem nx) (ev2 env b fun v=>k v mem nx)
noncomputable def jCall (f:Nat) (l:List O2):Hd:=fun ck env mem nx k=>evL2 env l fun l=>ck f l mem nx k
noncomputable def jO (o:J):Hd:=@J.rec (fun _=>Hd) jMv jBin jLoad jStore jIad jLen jFad jExt jCvi jPick jCall fO o
theorem ifK_eq (c:Bool) (a b:Rs):ifK c a b=(match c with | true=>a | false=>b):=by cases c<;>rfl
theorem jO_ok (o:J):HdOk (jO o) o.ins:=by
 intro ck c hc env mem nx k
 rw [← fO_ok o.ins ck c hc env mem nx k]
 cases o with
 | mv x=>show jMv x ck env mem nx k=fMv x.od ck env mem nx k;simp only [jMv,fMv,ev2_eq]
 | bin op x y=>show jBin op x y ck env mem nx k=fBin op x.od y.od ck env mem nx k;simp only [jBin,fBin,ev2_eq]
 | load a s x=>show jLoad a s x ck env mem nx k=fLoad a s x.od ck env mem nx k;simp only [jLoad,fLoad,ev2_eq]
 | store s x y=>show jStore s x y ck env mem nx k=fStore s x.od y.od ck env mem nx k;simp only [jStore,fStore,ev2_eq,ifK_eq]<;>rfl
 | iad s x i=>show jIad s x i ck env mem nx k=fIad s x.od i.od ck env mem nx k;simp only [jIad,fIad,ev2_eq,ifK_eq]<;>rfl
 | len x=>show jLen x ck env mem nx k=fLen false x.od ck env mem nx k;simp only [jLen,fLen,ev2_eq]
 | fad o x=>show jFad o x ck env mem nx k=fFad o x.od ck env mem nx k;simp only [jFad,fFad,ev2_eq]
 | ext x i=>show jExt x i ck env mem nx k=fExt x.od i ck env mem nx k;simp only [jExt,fExt,ev2_eq]<;>rfl
 | cvi kd x=>show jCvi kd x ck env mem nx k=fCvi kd x.od ck env mem nx k;simp only [jCvi,fCvi,ev2_eq]
 | pick x a b =>
  show jPick x a b ck env mem nx k=fQ (qPick x.od a.od b.od) ck env mem nx k
  simp only [jPick,ev2_eq,evK_eq env mem nx,boolK_eq,fQ,qPick]
  cases ((⟨env,mem,nx⟩:AS).ev x.od).bool? with
  | none=>rfl
  | some t=>cases t<;>rfl
 | call f l=>show jCall f l ck env mem nx k=fCall f (l.map O2.od) ck env mem nx k;simp only [jCall,fCall,evL2_eq]
 | gen o=>rfl
structure I2 where
 d:Option Pa
 g:Option (Pa×Bool)
 o:J
def I2.i (x:I2):I:=⟨x.d.map Pa.n,x.g.map fun p=>(p.1.n,p.2),x.o.ins⟩
inductive X2 where
 | skip
 | region (l:List I2)
 | draw (l:List D) (an:List Nat)
 | seq (a b:X2)
 | cond (c:O2) (a b:X2)
 | block (id:Nat) (b:X2)
 | loop (b:X2)
 | exit (id:Nat)
 | ret
 | bad
def X2.xc:X2→XC
 | .skip=>.skip
 | .region l=>.region (l.map I2.i)
 | .draw l an=>.draw l an
 | .seq a b=>.seq a.xc b.xc
 | .cond c a b=>.cond c.od a.xc b.xc
 | .block id b=>.block id b.xc
 | .loop b=>.loop b.xc
 | .exit id=>.exit id
 | .ret=>.ret
 | .bad=>.bad
noncomputable def putD2 (d:Option Pa) (env:Tr AV) (v:AV) (k:Tr AV→Rs):Rs:=@Option.rec Pa (fun _=>Rs) (k env) (fun p=>putP v p env k) d
theorem putD2_eq (d:Option Pa) (env:Tr AV) (v:AV) (k:Tr AV→Rs):putD2 d env v k=putD (d.map Pa.n) env v k:=by
 cases d with
 | none=>rfl
 | some p =>
  show putP v p env k=putK (some v) (Nat.succ p.n) env p.n k
  rw [putP_eq,putK_eq]
noncomputable def do2 (d:Option Pa) (o:J) (ck:CallK) (env:Tr AV) (mem:Tr Blk) (nx:Nat) (k:Ks):Rs:=jO o ck env mem nx fun v mem nx=>putD2 d env v fun env=>k env mem nx
theorem do2_eq {ck:CallK} {c:Call'} (hc:IsK ck c) (d:Option Pa) (o:J) (env:Tr AV) (mem:Tr Blk) (nx:Nat) (k:Ks):do2 d o ck env mem nx k=fDo (d.map Pa.n) o.ins ck env mem nx k:=by
 simp only [do2,fDo,putD2_eq]
 rw [jO_ok o ck c hc,fO_ok o.ins ck c hc]
noncomputable def gdK (v:AV) (want:Bool) (a b:Rs):Rs:=aR v
 (fun c=>cR c (fun x=>valR x (fun t=>@Bool.rec (fun _=>Rs) (@Bool.rec (fun _=>Rs) a b want) (@Bool.rec (fun _=>Rs) b a want) t) (fun _ _=>none) none) (fun _ _=>none) (fun _ _ _ _=>none) none)
 (fun _=>none) (fun l=>@List.rec AV (fun _=>Rs) b (fun _ _ _=>none) l) none
theorem gdK_eq (v:AV) (want:Bool) (a b:Rs):gdK v want a b=(match gd v want with | some t=>(match t with | true=>a | false=>b) | none=>none):=by
 cases v with
 | any=>rfl
 | agg l=>rfl
 | tup l=>cases l<;>rfl
 | c c =>
  cases c with
  | v x =>
   cases x with
   | bool t=>cases t<;>cases want<;>rfl
   | _=>rfl
  | _=>rfl
noncomputable def gd2 (d:Option Pa) (o:J) (p:Pa×Bool) (ck:CallK) (env:Tr AV) (mem:Tr Blk) (nx:Nat) (k:Ks):Rs:=@Prod.rec Pa Bool (fun _=>Rs) (fun q want=>getP q env fun v=>gdK v want (do2 d o ck env mem nx k) (putD2 d env (.tup []) fun env=>k env mem nx)) p
noncomputable def i2 (i:I2):CallK→Tr AV→Tr Blk→Nat→Ks→Rs:=@I2.rec (fun _=>CallK→Tr AV→Tr Blk→Nat→Ks→Rs) (fun d g o=>@Option.rec (Pa×Bool) (fun _=>CallK→Tr AV→Tr Blk→Nat→Ks→Rs) (do2 d o) (gd2 d o) g) i
theorem i2_eq {ck:CallK} {c:Call'} (hc:IsK ck c) (i:I2) (env:Tr AV) (mem:Tr Blk) (nx:Nat) (k:Ks):i2 i ck env mem nx k=fI i.i ck env mem nx k:=by
 obtain ⟨d,g,o⟩:=i
 cases g with
 | none=>exact do2_eq hc d o env mem nx k
 | some p =>
  obtain ⟨q,want⟩:=p
  show getP q env (fun v=>gdK v want (do2 d o ck env mem nx k) (putD2 d env (.tup []) fun env=>k env mem nx))=fGd (d.map Pa.n) o.ins (q.n,want) ck env mem nx k
  have h:∀ q':AV→Rs,getP q env q'=q' ((⟨env,mem,nx⟩:AS).get q.n):=fun q'=>by
   rw [getP_eq,getK_eq]
   simp only [AS.get]
   cases env.get q.n<;>rfl
  rw [h,gdK_eq,do2_eq hc,putD2_eq]
  rfl
noncomputable def l2 (ck:CallK) (l:List I2):Tr AV→Tr Blk→Nat→Ks→Rs:=@List.rec I2 (fun _=>Tr AV→Tr Blk→Nat→Ks→Rs) (fun env mem nx k=>k env mem nx)
 (fun i _ ih env mem nx k=>i2 i ck env mem nx fun env mem nx=>ih env mem nx k) l
theorem l2_eq {ck:CallK} {c:Call'} (hc:IsK ck c):∀ (l:List I2) (env:Tr AV) (mem:Tr Blk) (nx:Nat) (k:Ks),l2 ck l env mem nx k=fL ck (l.map I2.i) env mem nx k:=by
 intro l
 induction l with
 | nil=>intros;rfl
 | cons i l ih =>
  intro env mem nx k
  show i2 i ck env mem nx (fun env mem nx=>l2 ck l env mem nx k)=fI i.i ck env mem nx (fun env mem nx=>fL ck (l.map I2.i) env mem nx k)
  rw [i2_eq hc]
  simp only [ih]
noncomputable def both (kn:Ks) (kx:Kx):Kx:=fun e env mem nx=>onK e (kn env mem nx) fun e=>kx e env mem nx
noncomputable def loop2 (body:Tr AV→Tr Blk→Nat→Ks→Kx→Rs) (n:Nat):Tr AV→Tr Blk→Nat→Ks→Kx→Rs:=@Nat.rec (fun _=>Tr AV→Tr Blk→Nat→Ks→Kx→Rs) (fun _ _ _ _ _=>none)
 (fun _ ih env mem nx kn kx=>body env mem nx (fun env mem nx=>ih env mem nx kn kx) kx) n
noncomputable def x2 (ck:CallK) (k0:Nat) (x:X2):Tr AV→Tr Blk→Nat→Ks→Kx→Rs:=@X2.rec (fun _=>Tr AV→Tr Blk→Nat→Ks→Kx→Rs)
 (fun env mem nx kn _=>kn env mem nx)
 (fun l env mem nx kn _=>l2 ck l env mem nx kn)
 (fun ds an env mem nx kn _=>aftS (evD (dirC ck) ds an ⟨env,mem,nx⟩) kn)
 (fun _ _ ra rb env mem nx kn kx=>ra env mem nx (fun env mem nx=>rb env mem nx kn kx) kx)
 (fun c _ _ ra rb env mem nx kn kx=>ev2 env c fun v=>boolK v (ra env mem nx kn kx) (rb env mem nx kn kx))
 (fun id _ rb env mem nx kn kx=>rb env mem nx kn fun e env mem nx=>onK (blockE id e) (kn env mem nx) fun e=>kx e env mem nx)
 (fun _ rb=>loop2 rb k0)
 (fun id env mem nx _ kx=>kx (.exit id) env mem nx)
 (fun env mem nx _ kx=>kx .ret env mem nx)
 (fun _ _ _ _ _=>none) x
theorem both_seq (F:Ks) (kn:Ks) (kx:Kx):(fun (e:Exit) (env:Tr AV) (mem:Tr Blk) (nx:Nat)=>onK e (F env mem nx) fun e=>both kn kx e env mem nx)=both F kx:=by
 funext e env mem nx
 cases e<;>rfl
theorem loop2_eq {body:Tr AV→Tr Blk→Nat→Ks→Kx→Rs} {b:Tr AV→Tr Blk→Nat→Kx→Rs} (hb:∀ env mem nx kn kx,body env mem nx kn kx=b env mem nx (both kn kx)):∀ (n:Nat) (env:Tr AV) (mem:Tr Blk) (nx:Nat) (kn:Ks) (kx:Kx),loop2 body n env mem nx kn kx=fLoop b n env mem nx (both kn kx):=by
 intro n
 induction n with
 | zero=>intros;rfl
 | succ n ih =>
  intro env mem nx kn kx
  show body env mem nx (fun env mem nx=>loop2 body n env mem nx kn kx) kx=b env mem nx (fun e env mem nx=>onK e (fLoop b n env mem nx (both kn kx)) fun e=>both kn kx e env mem nx)
  rw [hb,both_seq (fun env mem nx=>fLoop b n env mem nx (both kn kx)) kn kx]
  congr 2
  funext env mem nx
  exact ih env mem nx kn kx
theorem x2_eq {ck:CallK} {c:Call'} (hc:IsK ck c) (k0:Nat):∀ (x:X2) (env:Tr AV) (mem:Tr Blk) (nx:Nat) (kn:Ks) (kx:Kx),x2 ck k0 x env mem nx kn kx=fX ck k0 x.xc env mem nx (both kn kx):=by
 intro x
 induction x with
 | region l =>
  intro env mem nx kn kx
  show l2 ck l env mem nx kn=fL ck (l.map I2.i) env mem nx (both kn kx .normal)
  exact l2_eq hc l env mem nx kn
 | seq a b iha ihb =>
  intro env mem nx kn kx
  show x2 ck k0 a env mem nx (fun env mem nx=>x2 ck k0 b env mem nx kn kx) kx=fX ck k0 a.xc env mem nx (fun e env mem nx=>onK e (fX ck k0 b.xc env mem nx (both kn kx)) fun e=>both kn kx e env mem nx)
  rw [iha,both_seq (fun env mem nx=>fX ck k0 b.xc env mem nx (both kn kx)) kn kx]
  congr 2
  funext env mem nx
  exact ihb env mem nx kn kx
 | cond t a b iha ihb =>
  intro env mem nx kn kx
  show ev2 env t (fun v=>boolK v (x2 ck k0 a env mem nx kn kx) (x2 ck k0 b env mem nx kn kx))=_
  rw [ev2_eq]
  simp only [iha,ihb]
  rfl
 | block id b ih =>
  intro env mem nx kn kx
  show x2 ck k0 b env mem nx kn (fun e env mem nx=>onK (blockE id e) (kn env mem nx) fun e=>kx e env mem nx)=fX ck k0 b.xc env mem nx (fun e=>both kn kx (blockE id e))
  rw [ih]
  congr 1
  funext e env mem nx
  cases e<;>rfl
 | loop b ih =>
  intro env mem nx kn kx
  exact loop2_eq (fun env mem nx kn kx=>ih env mem nx kn kx) k0 env mem nx kn kx
 | _=>intros;rfl
structure F2 where
 n:Nat
 x:X2
 ts:List RR
def F2.fe (e:F2):FE:=⟨e.n,e.x.xc,e.ts⟩
def tblE (l:List (Nat×F2)):List (Nat×FE):=l.map fun p=>(p.1,p.2.fe)
def mkT2:List (Nat×F2)→Tr F2
 | []=>.nil
 | (f,e)::l=>Tr.put (f+1) (mkT2 l) f (some e)
theorem mkT2_get (f:Nat):∀ (l:List (Nat×F2)),(mkT (tblE l)).get f=((mkT2 l).get f).map F2.fe:=by
 intro l
 induction l with
 | nil=>simp only [tblE,List.map,mkT,mkT2,Tr.get_nil];rfl
 | cons p l ih =>
  obtain ⟨g,e⟩:=p
  simp only [tblE,List.map_cons,mkT,mkT2] at ih ⊢
  rw [Tr.get_put _ _ _ _ _ (by omega),Tr.get_put _ _ _ _ _ (by omega),ih]
  split<;>rfl
noncomputable def res2 (ts:List RR) (env:Tr AV) (mem:Tr Blk) (k:AV→Rs):Rs:=resLK env mem ts fun l=>one l k
theorem both_fin (ts:List RR) (k:Kv):both (fun env mem nx=>res2 ts env mem fun v=>k v mem nx) (fun x env mem nx=>finK ts x env mem nx k)=fun x env mem nx=>finK ts x env mem nx k:=by
 funext e env mem nx
 cases e<;>rfl
noncomputable def f2 (l:Tr F2) (hand:Call') (k0:Nat):Nat→CallK
 | 0,_,_,_,_,_=>none
 | n+1,f,args,mem,nx,k=>match l.get f with
  | none=>aft (hand f args mem nx) k
  | some e=>match Nat.ble args.length e.n with
   | false=>none
   | true=>envK 0 .nil args fun env=>x2 (f2 l hand k0 n) k0 e.x env mem nx (fun env mem nx=>res2 e.ts env mem fun v=>k v mem nx) fun x env mem nx=>finK e.ts x env mem nx k
theorem f2_eq (l:List (Nat×F2)) (hand:Call') (k0:Nat):∀ n,f2 (mkT2 l) hand k0 n=fF (mkT (tblE l)) hand k0 n:=by
 intro n
 induction n with
 | zero=>rfl
 | succ n ih =>
  funext f args mem nx k
  simp only [f2,fF,mkT2_get]
  cases (mkT2 l).get f with
  | none=>rfl
  | some e =>
   simp only [Option.map,F2.fe]
   cases Nat.ble args.length e.n with
   | false=>rfl
   | true =>
    simp only
    simp only [ih,x2_eq (fF_eq _ _ _ n),both_fin]
theorem evF_of2 {l:List (Nat×F2)} {hand:Call'} {k0 n f:Nat} {args:List AV} {mem:Tr Blk} {nx:Nat} {r:AV×Tr Blk×Nat} (h:f2 (mkT2 l) hand k0 n f args mem nx (fun v m n=>some (v,m,n))=some r):evF (mkT (tblE l)) hand k0 n f args mem nx=some r:=by
 rw [f2_eq] at h
 exact evF_of h
end Go.CE

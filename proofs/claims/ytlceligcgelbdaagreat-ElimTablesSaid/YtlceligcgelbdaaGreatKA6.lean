/- What the library sorts; maps; many rows of one's own; ranges over functions, states as functions. -/
import Derived.Sort.Row
import Derived.Sort.Grow
import Derived.Sort.EncStr
import Derived.WalkKit
import Derived.Orders
import Derived.Shelf.GgSortFunc.InsertionK
import Derived.Shelf.SlSortCmp.Insertion
import Derived.Test.YtlceligcgelbdaaGreatKA5
set_option linter.unusedVariables false
set_option linter.unusedSimpArgs false
set_option linter.unusedSectionVars false
namespace Go.CE
open Go.RowKit
open Go.Sort Go.Proofs
open Go.Eng (Od callable)
def bCI:List C→Option (List (List UInt8))
 | []=>some []
 | c::l=>match c with
  | .v v=>match v with
   | .string s=>match bCI l with
    | some r=>some (s.data.toList::r)
    | none=>none
   | _=>none
  | _=>none
def cS (l:List (List UInt8)):List C:=l.map fun s=>.v (.string ⟨s.toArray⟩)
theorem aWR (l:List (List UInt8)):(cS l).length=l.length:=by simp [cS]
theorem bAF:∀ l:List (List UInt8),bCI (cS l)=some l
 | []=>rfl
 | s::l=>by
  show (match bCI (cS l) with | some r=>some (s.toArray.toList::r) | none=>none)=_
  rw [bAF l]
theorem bJO:∀ {cs:List C} {l:List (List UInt8)},bCI cs=some l→cs=cS l:=by
 intro cs
 induction cs with
 | nil=>intro l h;injection h with h;subst h;rfl
 | cons c cs ih =>
  intro l h
  simp only [bCI] at h
  split at h
  ·split at h
   ·split at h
    ·rename_i s r hr
     injection h with h
     subst h
     rw [ih hr]
     simp [cS]
    cases h
   cases h
  cases h
def B8 (l:List (List UInt8)):List (List UInt8):=l.mergeSort fun x y=>decide (x≤y)
theorem aDO (l:List (List UInt8)):(B8 l).length=l.length:=List.length_mergeSort l
def aEu (f0:Nat) (h0:eE):eE:=fun f args mem nx=>match Nat.beq f f0 with
 | false=>h0 f args mem nx
 | true=>match args with
  | [.c (.sl b 0 n 1)]=>match mem.get b with
   | some (.cells ty cs)=>match bCI cs with
    | some l=>match Nat.beq cs.length n && Nat.blt n 4611686018427387904 with
     | true=>some (.tup [],Tr.put (b+1) mem b (some (.cells ty (cS (B8 l)))),nx)
     | false=>none
    | none=>none
   | _=>none
  | _=>h0 f args mem nx
def bHA (P:Program) (f:Nat):Prop:=∀ (blk off cap:Nat) (ss:List (List UInt8)) (w:World),Holds encStr w blk off ss.toArray→blk<w.heap.size→ss.length<4611686018427387904 →
 Calls P f #[.slice (some ⟨blk,off,none⟩) ss.length cap] w fun e w'=>e=.returned (.tuple #[])∧∃ n os,w'=Go.Sort.grow (putRow encStr (Go.Sort.ahead w n) blk off (ss.mergeSort fun x y=>decide (x≤y)).toArray) os
theorem rR.grownW {K:Nat→Prop} {w0:World} {ρ:nV} {m:dA} {w:World} (h:rR K w0 ρ m w) (os:Array Obj):rR K w0 ρ m (Go.Sort.grow w os):=by
 have hb:∀ b,b<w.heap.size→(Go.Sort.grow w os).heap[b]? = w.heap[b]?:=fun b hb=>by
  show (w.heap++os)[b]? = _
  rw [Array.getElem?_append_left hb]
 refine ⟨fun b k h1=>?_,fun b k la h1 h2=>?_,h.inj,h.kept,h.fr.next rfl rfl rfl (by show w.heap.size≤(w.heap++os).size;simp) fun b hK=>hb b (Nat.lt_of_lt_of_le (h.kept b hK) h.fr.size)⟩
 ·obtain ⟨la,g1,g2⟩:=h.blk b k h1
  exact ⟨la,g1,g2.mono (nV.le_refl _) (hb _ (h.own b k la h1 g1).2.2)⟩
 obtain ⟨g1,g2,g3⟩:=h.own b k la h1 h2
 exact ⟨g1,g2,by show la.b<(w.heap++os).size;simp;omega⟩
theorem aYe {cur:Array Value} {ty:Nat} {fr:Nat×Nat} {w:World} {b n:Nat} (hb:w.heap[b]? = some (.cells cur ty fr)) (off:Nat) (d:Array (List UInt8)) :
  (putRow encStr (Go.Sort.ahead w n) b off d).heap[b]? = some (.cells (putCells encStr off d cur) ty fr):=by
 show (w.heap.modify b _)[b]? = _
 rw [Array.getElem?_modify,if_pos rfl,hb]
 rfl
theorem bC1 {P:Program} {f0:Nat} {h0:eE} (hc:callable P f0=true) (hS:bHA P f0) (hh:Bt P h0):Bt P (aEu f0 h0):=by
 intro f args mem nx res mem' nx' h
 unfold aEu at h
 split at h
 case h_1=>exact hh _ _ _ _ _ _ _ h
 rename_i hf
 have:=Nat.eq_of_beq_eq_true hf
 subst this
 split at h
 case h_2=>exact hh _ _ _ _ _ _ _ h
 rename_i b n
 split at h
 case h_2=>cases h
 rename_i ty cs hm
 split at h
 case h_2=>cases h
 rename_i l hl
 split at h
 case h_2=>cases h
 rename_i hn
 simp only [Bool.and_eq_true] at hn
 have hn1:=Nat.eq_of_beq_eq_true hn.1
 have hn2:n<4611686018427387904:=Nat.le_of_ble_eq_true hn.2
 simp only [Option.some.injEq,Prod.mk.injEq] at h
 obtain ⟨rfl,rfl,rfl⟩:=h
 have hcs:=bJO hl
 have hln:l.length=n:=by rw [← hn1,hcs,aWR]
 have hm':∀ b2 k2,(Tr.put (b+1) mem b (some (.cells ty (cS (B8 l))))).m b2 k2→(b2=b∧k2=.cells ty (cS (B8 l)))∨(b2≠b∧mem.m b2 k2):=fun b2 k2 h2=>by
  unfold Tr.m at h2
  rw [Tr.get_put _ _ _ _ _ (by omega)] at h2
  split at h2
  ·rename_i e;injection h2 with h2;exact .inl ⟨e.symm,h2.symm⟩
  rename_i e;exact .inr ⟨fun e2=>e e2.symm,h2⟩
 refine ⟨⟨Nat.le_refl _,fun b2 k2 h2=>?_,fun b2 k2 h2 hr=>?_⟩,fun K w0 ρ w vs hms hfree hvl hrep=>.inl ⟨hc,?_⟩⟩
 ·rcases hm' b2 k2 h2 with ⟨rfl,_⟩ | ⟨_,h3⟩
  ·exact .inl ⟨_,hm⟩
  exact .inl ⟨_,h3⟩
 ·rcases hm' b2 k2 h2 with ⟨_,rfl⟩ | ⟨_,h3⟩
  ·cases hr
  exact h3
 obtain ⟨la,hla,hbr⟩:=hms.blk b _ hm
 have hlt:=(hms.own b _ la hm hla).2.2
 cases hbr with
 | cells _ _ cur hcur ht htl hcf =>
  obtain ⟨cap,hcap,hvs⟩:∃ cap,n≤cap∧vs = #[.slice (some ⟨la.b,la.off+0,none⟩) n cap]:=by
   have h0:=hrep 0 _ rfl
   have hsz:vs.size=1:=hvl
   generalize hx:vs.getD 0 undef=x at h0
   cases h0 with
   | c _ _ h0=>cases h0 with
    | sl _ _ _ _ cap la' h1 h2 h3 h4 =>
     rw [hla] at h1;injection h1 with h1;subst h1
     refine ⟨cap,h3,Array.ext (by simpa using hsz) fun i hi1 hi2=>?_⟩
     have hi:i=0:=by simp at hi2;omega
     subst hi
     simp [Array.getD,hsz] at hx;simpa using hx
  subst hvs
  have hget:∀ j (hj:j<l.length),cur[la.off+j]? = some (.string ⟨l[j].toArray⟩):=fun j hj=>by
   obtain ⟨x,h1,h2⟩:=hcf j (.v (.string ⟨l[j].toArray⟩)) (by rw [hcs,cS,List.getElem?_map,List.getElem?_eq_getElem hj];rfl)
   rw [h1]
   cases h2 with
   | v _ _=>rfl
  have hold:Holds encStr w la.b (la.off+0) l.toArray:=fun j hj=>by
   have hj:j<l.length:=by simpa using hj
   have hg:=hget j hj
   refine ⟨?_,?_⟩
   ·simp only [World.cell?,hcur,Nat.add_zero]
    rw [hg]
    simp [encStr,getElem!_pos,hj]
   simp only [World.frozen?,hcur,Nat.add_zero]
   simp
  refine (hln ▸ (hS la.b (la.off+0) cap l w hold hlt (by omega))).mono fun e w' hq=>?_
  obtain ⟨rfl,q,os,rfl⟩:=hq
  have hcur':=aYe (n:=q) hcur (la.off+0) (l.mergeSort fun x y=>decide (x≤y)).toArray
  refine ⟨_,ρ,rfl,pU.refl _ _,(hms.turn b _ (.cells ty (cS (B8 l))) la hm hla (.cells ty _ _ hcur' (by simpa [putCells] using ht) (by rw [aWR,aDO,hln,← hn1];exact htl) fun i c hc2=>?_) rfl rfl rfl (by show (w.heap.modify _ _).size=_;simp) (fun i hi=>by show (w.heap.modify _ _)[i]? = _;rw [Array.getElem?_modify,if_neg (fun e=>hi e.symm)]) hm').grownW os,.tup [] #[] rfl fun i v hv=>by simp at hv⟩
  rw [cS,List.getElem?_map,Option.map_eq_some_iff] at hc2
  obtain ⟨s,hs1,rfl⟩:=hc2
  have hil:i<(B8 l).length:=(List.getElem?_eq_some_iff.1 hs1).1
  have hil2:i<l.length:=by rwa [aDO] at hil
  refine ⟨_,?_,.v _ rfl⟩
  have hg:=hget i hil2
  simp only [putCells,Nat.add_zero,Array.getElem?_mapIdx,hg,Option.map_some]
  rw [if_pos ⟨by omega,by show la.off+i<la.off+(B8 l).toArray.size;simpa using hil⟩,Nat.add_sub_cancel_left]
  have:(B8 l)[i]? = some s:=hs1
  show some (encStr ((B8 l).toArray[i]!))=_
  simp [getElem!_pos,hil,(List.getElem?_eq_some_iff.1 hs1).2,encStr]
theorem bJ4 {T : Tr FE} {call : eE} {f0 k0 k ty : Nat} {h0 : eE} (hT : T.get f0 = none) (hc : ∀ args mem nx r, aEu f0 h0 f0 args mem nx = some r → call f0 args mem nx = some r) (hN : ∀ mem nx, h0 f0 [rC] mem nx = some (.tup [], mem, nx)) (hk : 1 ≤ k) {z : dA} {u : AV} {l : List (List UInt8)} (hl : l.length < 4611686018427387904) (h00 : Nat.blt f0 1000000 = true := by rfl) :
    Lp (evF T call k0 k) f0 [u] z [.row u ty 1 l.length (cS l)] fun v z' H'=>v=.tup []∧z'=z∧H'=[.row u ty 1 l.length (cS (B8 l))]:=fun mem nx hh=>by
  obtain ⟨j,rfl⟩:∃ j,k=j+1:=⟨k - 1,by omega⟩
  have r0:Rf ⟨mem,nx,z,pR [.row u ty 1 l.length (cS l)]⟩ ⟨fun _=>.any,z,[.row u ty 1 l.length (cS l)]⟩ ⟨.nil,mem,nx⟩:=⟨fun i=>by simp [AS.get,Tr.get_nil],hh,Nat.le_refl _,fun b _ _=>rfl,fun b hb=>.inr hb,⟨fun _ _ h=>h⟩,fun b k hb=>.inl hb⟩
  have hok:=hh.h _ (List.mem_cons_self ..)
  obtain ⟨h1,h2⟩:=hok
  have hev:∀ r,aEu f0 h0 f0 [u] mem nx=some r→evF T call k0 (j+1) f0 [u] mem nx=some r:=fun r hr=>by
    rw [aSx hT h00]
    exact hc _ _ _ _ hr
  rcases h2 with ⟨hn,rfl⟩ | ⟨b,rfl,hm⟩
  · have:l=[]:=List.length_eq_zero_iff.1 hn
    subst this
    refine ⟨.tup [],mem,nx,z,_,hev _ ?_,Nat.le_refl _,fun b _ _=>rfl,hh,zle.refl _,fun b k hb=>.inl hb,fun b hb=>.inr hb,rfl,rfl,by simp [B8]⟩
    unfold aEu
    rw [Nat.beq_refl]
    exact hN mem nx
  · have hm' : ∀ c, (Tr.put (b + 1) mem b (some (.cells ty (cS (B8 l))))).get c = if b = c then some (.cells ty (cS (B8 l))) else mem.get c := fun c => Tr.get_put _ _ _ _ _ (by omega)
    have r1 := r0.rep (a' := .row (.c (.sl b 0 l.length 1)) ty 1 l.length (cS (B8 l))) (m' := Tr.put (b + 1) mem b (some (.cells ty (cS (B8 l))))) (nx' := nx) iW (Nat.le_refl _) ⟨by rw [aWR, aDO, Nat.mul_one], .inr ⟨b, rfl, by rw [hm', if_pos rfl]⟩⟩ (fun c hc => .inl hc) (by simp [HA.fp]) (fun c _ hc => by
      rw [hm',if_neg fun e=>hc (by simp [HA.fp,e])])
    refine ⟨.tup [],_,nx,z,_,hev _ ?_,Nat.le_refl _,fun c hc hn=>r1.old c hc hn,r1.hold,zle.refl _,fun b k hb=>.inl hb,fun c hc=>r1.own c hc,rfl,rfl,rfl⟩
    unfold aEu
    rw [Nat.beq_refl]
    simp only [hm,bAF]
    rw [show (Nat.beq (cS l).length l.length && Nat.blt l.length 4611686018427387904)=true by rw [aWR,Nat.beq_refl,Bool.true_and];exact Nat.ble_eq_true_of_le hl]
open Go.RowKit
open Go.Sort Go.Proofs
open Go.Eng (Od callable)
structure El where
 id:List UInt8
 rest:List Value
 h1:rest.length=9
 h2:∀ v∈rest,v.oneCell'=true
instance:Inhabited El:=⟨⟨[],List.replicate 9 (.bool false),by simp,fun v hv=>by rw [List.eq_of_mem_replicate hv];rfl⟩⟩
def aEw (x:El):List Value:=.string ⟨x.id.toArray⟩::x.rest
def aH4 (a b:List UInt8):Int:=if a<b then -1 else if b<a then 1 else 0
def bFD (P:Program) (f g:Nat):Prop:=∀ (blk off cap:Nat) (d:Array El) (w:World),HoldsK aEw 10 w blk off d→blk<w.heap.size→d.size<4611686018427387904 →
 Calls P f #[.slice (some ⟨blk,off,none⟩) d.size cap,.func (.func g) #[] #[]] w fun e w'=>e=.returned (.tuple #[])∧∃ d' n os,PermIn 0 d.size d d'∧SortedIn (ltOf fun x y:El=>aH4 x.id y.id) 0 d.size d'∧w'=sortWorldK aEw 10 w blk off n d' os
abbrev Ch:=List UInt8×List C
def aLE:Nat→List C→Option (List Ch)
 | 0,_=>some []
 | n+1,cs=>match cs with
  | c::_=>match c with
   | .v v=>match v with
    | .string s=>match aLE n (cs.drop 10) with
     | some r=>some ((s.data.toList,cs.take 10)::r)
     | none=>none
    | _=>none
   | _=>none
  | _=>none
def aYh (x:Ch):Prop:=∃ r,x.2=.v (.string ⟨x.1.toArray⟩)::r∧r.length=9
theorem aVL:∀ (l:List Ch),(∀ x∈l,aYh x)→aLE l.length (l.flatMap (·.2))=some l
 | [],_=>rfl
 | x::l,h=>by
  obtain ⟨r,h1,h2⟩:=h x (List.mem_cons_self ..)
  have e:(x::l).flatMap (·.2)=.v (.string ⟨x.1.toArray⟩)::(r++l.flatMap (·.2)):=by rw [List.flatMap_cons,h1];rfl
  have e1:(C.v (.string ⟨x.1.toArray⟩)::(r++l.flatMap (·.2))).drop 10=l.flatMap (·.2):=by
   rw [List.drop_succ_cons,List.drop_append_of_le_length (by omega),List.drop_of_length_le (by omega),List.nil_append]
  have e2:(C.v (.string ⟨x.1.toArray⟩)::(r++l.flatMap (·.2))).take 10=x.2:=by
   rw [List.take_succ_cons,List.take_append_of_le_length (by omega),List.take_of_length_le (by omega),h1]
  rw [e,List.length_cons,aLE]
  simp only
  rw [e1,aVL l fun y hy=>h y (List.mem_cons_of_mem _ hy)]
  simp only
  rw [e2]
theorem bCr:∀ {n:Nat} {cs:List C} {l:List Ch},aLE n cs=some l→cs.length=n * 10→l.length=n∧cs=l.flatMap (·.2)∧∀ x∈l,aYh x:=by
 intro n
 induction n with
 | zero =>
  intro cs l h hl
  injection h with h
  subst h
  exact ⟨rfl,List.length_eq_zero_iff.1 (by omega),fun x hx=>by cases hx⟩
 | succ n ih =>
  intro cs l h hl
  cases cs with
  | nil=>simp at hl
  | cons c cs =>
   simp only [aLE] at h
   split at h
   ·split at h
    ·rename_i s
     split at h
     ·rename_i r hr
      injection h with h
      subst h
      obtain ⟨h1,h2,h3⟩:=ih hr (by simp;simp at hl;omega)
      refine ⟨by rw [List.length_cons,h1],?_,fun x hx=>?_⟩
      ·rw [List.flatMap_cons,← h2,List.take_append_drop]
      rcases List.mem_cons.1 hx with rfl | hx
      ·exact ⟨cs.take 9,by simp,by rw [List.length_take];simp at hl;omega⟩
      exact h3 x hx
     cases h
    cases h
   cases h
def leC (x y:Ch):Bool:=decide (x.1≤y.1)
def Ky (l:List Ch):List Ch:=l.mergeSort leC
theorem aLN (l:List Ch):(Ky l).length=l.length:=List.length_mergeSort l
def aC3 (f0 g:Nat) (h0:eE):eE:=fun f args mem nx=>match Nat.beq f f0 with
 | false=>h0 f args mem nx
 | true=>match args with
  | [.c (.sl b 0 n 10),.c (.fn q [] [])]=>match mem.get b with
   | some (.cells ty cs)=>match aLE n cs with
    | some l=>match Nat.beq q g && (Nat.beq cs.length (n * 10) && (Nat.blt n 4611686018427387904 && decide ((l.map (·.1)).Nodup))) with
     | true=>some (.tup [],Tr.put (b+1) mem b (some (.cells ty ((Ky l).flatMap (·.2)))),nx)
     | false=>none
    | none=>none
   | _=>none
  | _=>h0 f args mem nx
theorem aTd:∀ (l:List Ch) (i j:Nat),(∀ x∈l,aYh x)→j<10→(l.flatMap (·.2))[i * 10+j]? = (l[i]?).bind fun x=>x.2[j]?
 | [],i,j,_,_=>by simp
 | x::l,i,j,h,hj=>by
  obtain ⟨r,h1,h2⟩:=h x (List.mem_cons_self ..)
  have hx:x.2.length=10:=by rw [h1,List.length_cons,h2]
  rw [List.flatMap_cons]
  cases i with
  | zero=>rw [List.getElem?_append_left (by omega)];simp
  | succ i =>
   rw [List.getElem?_append_right (by omega),hx,show (i+1) * 10+j - 10=i * 10+j by omega,aTd l i j (fun y hy=>h y (List.mem_cons_of_mem _ hy)) hj]
   simp
theorem W5:∀ (l:List Ch),(∀ x∈l,aYh x)→(l.flatMap (·.2)).length=l.length * 10
 | [],_=>rfl
 | x::l,h=>by
  obtain ⟨r,h1,h2⟩:=h x (List.mem_cons_self ..)
  rw [List.flatMap_cons,List.length_append,W5 l fun y hy=>h y (List.mem_cons_of_mem _ hy),h1,List.length_cons,List.length_cons,h2];omega
theorem aOj {a b:List UInt8}:aH4 a b<0↔a<b:=by
 unfold aH4
 split
 ·simp [*]
 split<;>simp [*]
def aW8 (n:Nat) (key:Nat→List UInt8):List Nat:=(List.range n).mergeSort fun a b=>decide (key a≤key b)
theorem bJJ {n:Nat} {key:Nat→List UInt8} {p i:Nat} (h:(aW8 n key)[p]? = some i):i<n:=by
 have:=(List.mergeSort_perm (List.range n) (fun a b=>decide (key a≤key b))).subset (List.mem_of_getElem? h)
 simpa using this
theorem aYH (n:Nat) (key:Nat→List UInt8):(aW8 n key).length=n:=by rw [aW8,List.length_mergeSort,List.length_range]
theorem aXN {α:Type} (n:Nat) (key:Nat→List UInt8) (k:α→List UInt8) (f:Nat→α) (hk:∀ i,i<n→k (f i)=key i):((List.range n).map f).mergeSort (fun x y=>decide (k x≤k y))=(aW8 n key).map f:=by
 rw [aW8,List.map_mergeSort (r:=fun a b=>decide (key a≤key b)) (s:=fun x y=>decide (k x≤k y)) (f:=f)]
 intro a ha b hb
 rw [hk a (by simpa using ha),hk b (by simpa using hb)]
theorem aZK {n:Nat} {d d':Array El} (hn:d.size=n) (hp:PermIn 0 n d d') (hs:SortedIn (ltOf fun x y:El=>aH4 x.id y.id) 0 n d') (hd:(d.toList.map El.id).Nodup):d'.toList=d.toList.mergeSort fun x y=>decide (x.id≤y.id):=by
  obtain ⟨h1,_,h3⟩:=hp
  have hperm:d'.toList.Perm d.toList:=by
    have e1:d'.extract 0 n=d':=by rw [← hn,← h1];exact Array.extract_size
    have e2:d.extract 0 n=d:=by rw [← hn];exact Array.extract_size
    rwa [e1,e2] at h3
  have hinj:∀ a∈d.toList,∀ b∈d.toList,a.id=b.id→a=b:=by
    intro a ha b hb e
    obtain ⟨i,hi,rfl⟩:=List.mem_iff_getElem.1 ha
    obtain ⟨j,hj,rfl⟩:=List.mem_iff_getElem.1 hb
    have hp:=List.pairwise_iff_getElem.1 hd
    rcases Nat.lt_trichotomy i j with h | h | h
    · exact absurd e (by have:=hp i j (by simpa using hi) (by simpa using hj) h;rwa [List.getElem_map,List.getElem_map] at this)
    · subst h;rfl
    · exact absurd e.symm (by have:=hp j i (by simpa using hj) (by simpa using hi) h;rwa [List.getElem_map,List.getElem_map] at this)
  refine List.Perm.eq_of_pairwise (le:=fun x y:El=>x.id≤y.id) (fun a b ha hb h1 h2=>?_) ?_ ?_ (hperm.trans (List.mergeSort_perm _ _).symm)
  · exact hinj a (hperm.subset ha) b ((List.mergeSort_perm _ _).subset hb) (List.le_antisymm h1 h2)
  · rw [List.pairwise_iff_getElem]
    intro i j hi hj hij
    have hi':i<d'.size:=by simpa using hi
    have hj':j<d'.size:=by simpa using hj
    have:=hs i j (Nat.zero_le _) hij (by omega)
    rw [getElem!_pos d' i hi',getElem!_pos d' j hj'] at this
    simp only [ltOf,decide_eq_false_iff_not,aOj] at this
    simpa using List.not_lt.1 this
  · have := List.pairwise_mergeSort (le := fun x y : El => decide (x.id ≤ y.id)) (fun a b c h1 h2 => by simp only [decide_eq_true_eq] at *; exact List.le_trans h1 h2) (fun a b => by simp only [Bool.or_eq_true, decide_eq_true_eq]; exact List.le_total ..) d.toList
    exact this.imp fun h=>by simpa using h
theorem bS8 {cur:Array Value} {ty:Nat} {fr:Nat×Nat} {w:World} {b n:Nat} (hb:w.heap[b]? = some (.cells cur ty fr)) (off:Nat) (d:Array Value) :
  (putRow id (Go.Sort.ahead w n) b off d).heap[b]? = some (.cells (putCells id off d cur) ty fr):=by
 show (w.heap.modify b _)[b]? = _
 rw [Array.getElem?_modify,if_pos rfl,hb]
 rfl
theorem bDM {P:Program} {f0 g:Nat} {h0:eE} (hc:callable P f0=true) (hS:bFD P f0 g) (hh:Bt P h0):Bt P (aC3 f0 g h0):=by
  intro f args mem nx res mem' nx' h
  unfold aC3 at h
  split at h
  case h_1=>exact hh _ _ _ _ _ _ _ h
  rename_i hf
  have:=Nat.eq_of_beq_eq_true hf
  subst this
  split at h
  case h_2=>exact hh _ _ _ _ _ _ _ h
  rename_i b n q
  split at h
  case h_2=>cases h
  rename_i ty cs hm
  split at h
  case h_2=>cases h
  rename_i l hl
  split at h
  case h_2=>cases h
  rename_i hn
  simp only [Bool.and_eq_true,decide_eq_true_eq] at hn
  obtain ⟨hq,hn1,hn2,hnd⟩:=hn
  have hq:=Nat.eq_of_beq_eq_true hq
  subst hq
  have hn1:=Nat.eq_of_beq_eq_true hn1
  have hn2:n<4611686018427387904:=Nat.le_of_ble_eq_true hn2
  simp only [Option.some.injEq,Prod.mk.injEq] at h
  obtain ⟨rfl,rfl,rfl⟩:=h
  obtain ⟨hln,hcs,hok⟩:=bCr hl hn1
  have hm':∀ b2 k2,(Tr.put (b+1) mem b (some (.cells ty ((Ky l).flatMap (·.2))))).m b2 k2→(b2=b∧k2=.cells ty ((Ky l).flatMap (·.2)))∨(b2≠b∧mem.m b2 k2):=fun b2 k2 h2=>by
    unfold Tr.m at h2
    rw [Tr.get_put _ _ _ _ _ (by omega)] at h2
    split at h2
    · rename_i e;injection h2 with h2;exact .inl ⟨e.symm,h2.symm⟩
    · rename_i e;exact .inr ⟨fun e2=>e e2.symm,h2⟩
  refine ⟨⟨Nat.le_refl _,fun b2 k2 h2=>?_,fun b2 k2 h2 hr=>?_⟩,fun K w0 ρ w vs hms hfree hvl hrep=>.inl ⟨hc,?_⟩⟩
  · rcases hm' b2 k2 h2 with ⟨rfl, _⟩ | ⟨_, h3⟩
    · exact .inl ⟨_,hm⟩
    · exact .inl ⟨_,h3⟩
  · rcases hm' b2 k2 h2 with ⟨_, rfl⟩ | ⟨_, h3⟩
    · cases hr
    · exact h3
  · obtain ⟨la, hla, hbr⟩ := hms.blk b _ hm
    have hlt:=(hms.own b _ la hm hla).2.2
    cases hbr with
    | cells _ _ cur hcur ht htl hcf =>
      obtain ⟨cap,hcap,hvs⟩:∃ cap,n≤cap∧vs = #[.slice (some ⟨la.b,la.off+0,none⟩) n cap,.func (.func q) #[] #[]]:=by
        have h0:=hrep 0 _ rfl
        have h1:=hrep 1 _ rfl
        have hsz:vs.size=2:=hvl
        generalize hx:vs.getD 0 undef=x at h0
        generalize hy:vs.getD 1 undef=y at h1
        cases h1 with
        | c _ _ h1=>cases h1 with
          | fn _ _ _ us ws g0 g1 g2 g3 g4 g5 g6 =>
            have e1:us = #[]:=Array.eq_empty_of_size_eq_zero g1
            have e2:ws = #[]:=Array.eq_empty_of_size_eq_zero g2
            subst e1 e2
            cases h0 with
            | c _ _ h0=>cases h0 with
              | sl _ _ _ _ cap la' k1 k2 k3 k4 =>
                rw [hla] at k1;injection k1 with k1;subst k1
                refine ⟨cap,k3,Array.ext (by simpa using hsz) fun i hi1 hi2=>?_⟩
                have hi:i=0∨i=1:=by simp at hi2;omega
                rcases hi with rfl | rfl
                · simp [Array.getD,hsz] at hx;simpa using hx
                · simp [Array.getD,hsz] at hy;simpa using hy
      subst hvs
      let xv:Nat→Nat→Value:=fun i j=>(cur[la.off+(i * 10+j)]?).getD undef
      have hxv:∀ i j c (x:Ch),l[i]? = some x→j<10→x.2[j]? = some c→cur[la.off+(i * 10+j)]? = some (xv i j)∧kO ρ c (xv i j):=fun i j c x h1 hj h2=>by
        obtain ⟨y,g1,g2⟩:=hcf (i * 10+j) c (by rw [hcs,aTd l i j hok hj,h1];exact h2)
        have:xv i j=y:=by show (cur[la.off+(i * 10+j)]?).getD undef=y;rw [g1];rfl
        rw [this];exact ⟨g1,g2⟩
      have hone:∀ i j,i<n→j<10→(xv i j).oneCell'=true:=fun i j hi hj=>by
        have h1:=List.getElem?_eq_getElem (l:=l) (i:=i) (by omega)
        obtain ⟨r,h2,h3⟩:=hok _ (List.getElem_mem (l:=l) (n:=i) (by omega))
        have h4:=List.getElem?_eq_getElem (l:=(l[i]'(by omega)).2) (i:=j) (by rw [h2,List.length_cons];omega)
        exact (hxv i j _ _ h1 hj h4).2.one
      have hid:∀ i (hi:i<n),xv i 0=.string ⟨(l[i]'(by omega)).1.toArray⟩:=fun i hi=>by
        have h1:=List.getElem?_eq_getElem (l:=l) (i:=i) (by omega)
        obtain ⟨r,h2,h3⟩:=hok _ (List.getElem_mem (l:=l) (n:=i) (by omega))
        have h4:=(hxv i 0 (.v (.string ⟨(l[i]'(by omega)).1.toArray⟩)) _ h1 (by omega) (by rw [h2];rfl)).2
        generalize xv i 0=y at h4
        cases h4 with
        | v _ _=>rfl
      let dv : Fin n → El := fun i => ⟨(l[i.1]'(by rw [hln]; exact i.2)).1, (List.range 9).map fun j => xv i.1 (j + 1), by simp, fun v hv => by
        obtain ⟨j,hj,rfl⟩:=List.mem_map.1 hv
        exact hone i.1 (j+1) i.2 (by simp at hj;omega)⟩
      let d:Array El:=Array.ofFn dv
      have hds:d.size=n:=by simp [d]
      have hdg:∀ i (hi:i<n),d[i]! = dv ⟨i,hi⟩:=fun i hi=>by rw [getElem!_pos d i (by omega)];simp [d]
      have henc:∀ i j,i<n→j<10→(aEw d[i]!)[j]! = xv i j:=fun i j hi hj=>by
        rw [hdg i hi]
        cases j with
        | zero=>exact (hid i hi).symm
        | succ j =>
          show (Value.string _::(List.range 9).map fun j=>xv i (j+1))[j+1]! = _
          rw [List.getElem!_cons_succ,getElem!_pos _ j (by simp;omega)]
          simp
      have hcurg:∀ i j,i<n→j<10→cur[la.off+(i * 10+j)]? = some (xv i j):=fun i j hi hj=>by
        have h1:=List.getElem?_eq_getElem (l:=l) (i:=i) (by omega)
        obtain ⟨r,h2,h3⟩:=hok _ (List.getElem_mem (l:=l) (n:=i) (by omega))
        have h4:=List.getElem?_eq_getElem (l:=(l[i]'(by omega)).2) (i:=j) (by rw [h2,List.length_cons];omega)
        exact (hxv i j _ _ h1 hj h4).1
      have hold:HoldsK aEw 10 w la.b (la.off+0) d:=fun t ht=>by
        have ht:t<n * 10:=by simpa [hds] using ht
        have h1:t / 10<n:=by omega
        have h2:t % 10<10:=by omega
        have h3:t=t / 10 * 10+t % 10:=by omega
        refine ⟨?_,?_⟩
        · simp only [World.cell?,hcur,Nat.add_zero]
          rw [get_flatK aEw 10 d t (by omega),henc _ _ h1 h2]
          have:=hcurg _ _ h1 h2
          rw [← h3] at this
          rw [this];rfl
        · simp only [World.frozen?,hcur,Nat.add_zero]
          simp
      refine (hds ▸ (hS la.b (la.off+0) cap d w hold hlt (by omega))).mono fun e w' hq=>?_
      obtain ⟨rfl,d',m,os,hp,hs,rfl⟩:=hq
      have hkey:d.toList.map El.id=l.map (·.1):=by
        apply List.ext_getElem
        · simp [hds,hln]
        · intro i h1 h2
          have hi:i<n:=by simpa [hds] using h1
          rw [List.getElem_map,List.getElem_map]
          have:=hdg i hi
          rw [getElem!_pos d i (by omega)] at this
          show (d[i]'(by omega)).id=_
          rw [this]
      have hone':=aZK hds hp hs (by rw [hkey];exact hnd)
      let key:Nat→List UInt8:=fun i=>((l[i]?).map (·.1)).getD []
      have hd2:d.toList=(List.range n).map fun i=>d[i]!:=by
        apply List.ext_getElem
        · simp [hds]
        · intro i h1 h2
          rw [List.getElem_map,List.getElem_range,getElem!_pos d i (by simpa using h1)]
          rfl
      have hl2:l=(List.range n).map fun i=>(l[i]?).getD ([],[]):=by
        apply List.ext_getElem
        · simp [hln]
        · intro i h1 h2
          rw [List.getElem_map,List.getElem_range,List.getElem?_eq_getElem h1]
          rfl
      have hk1:∀ i,i<n→(d[i]!).id=key i:=fun i hi=>by
        rw [hdg i hi];show _=((l[i]?).map (·.1)).getD [];rw [List.getElem?_eq_getElem (by omega)];rfl
      have hk2:∀ i,i<n→((l[i]?).getD ([],[])).1=key i:=fun i hi=>by
        show _=((l[i]?).map (·.1)).getD [];rw [List.getElem?_eq_getElem (by omega)];rfl
      have hs1:d'.toList=(aW8 n key).map fun i=>d[i]!:=by
        rw [hone',hd2];exact aXN n key El.id _ hk1
      have hs2:Ky l=(aW8 n key).map fun i=>(l[i]?).getD ([],[]):=by
        rw [Ky];conv=>lhs;rw [hl2]
        exact aXN n key (fun x:Ch=>x.1) _ hk2
      have hok2:∀ x∈Ky l,aYh x:=fun x hx=>hok x ((List.mergeSort_perm _ _).subset hx)
      have hsz':d'.size=n:=by rw [hp.1,hds]
      have hcur':=bS8 (n:=m) hcur (la.off+0) (flatK aEw 10 d')
      refine ⟨_,ρ,rfl,pU.refl _ _,(hms.turn b _ (.cells ty ((Ky l).flatMap (·.2))) la hm hla (.cells ty _ _ hcur' (by simpa [putCells] using ht) (by rw [W5 _ hok2,aLN,hln,← hn1];exact htl) fun i c hc2=>?_) rfl rfl rfl (by show (w.heap.modify _ _).size=_;simp) (fun i hi=>by show (w.heap.modify _ _)[i]? = _;rw [Array.getElem?_modify,if_neg (fun e=>hi e.symm)]) hm').grownW os,.tup [] #[] rfl fun i v hv=>by simp at hv⟩
      have hi:i<n * 10:=by
        have:=(List.getElem?_eq_some_iff.1 hc2).1
        rw [W5 _ hok2,aLN,hln] at this;exact this
      have hdm:i=i / 10 * 10+i % 10:=by omega
      have hj:i % 10<10:=by omega
      have hp10:i / 10<n:=by omega
      rw [hdm,aTd _ _ _ hok2 hj,hs2,List.getElem?_map] at hc2
      have hil:=List.getElem?_eq_getElem (l:=aW8 n key) (i:=i / 10) (by rw [aYH];omega)
      generalize hi0:(aW8 n key)[i / 10]'(by rw [aYH];omega)=i0 at hil
      have hlt0:=bJJ hil
      rw [hil] at hc2
      have hg0:=List.getElem?_eq_getElem (l:=l) (i:=i0) (by omega)
      simp only [Option.map_some,Option.bind_some,hg0,Option.getD_some] at hc2
      obtain ⟨g1,g2⟩:=hxv i0 (i % 10) c _ hg0 hj hc2
      refine ⟨xv i0 (i % 10),?_,g2⟩
      have hci:=hcurg _ _ hp10 hj
      rw [← hdm] at hci
      simp only [putCells,Nat.add_zero,Array.getElem?_mapIdx,hci,Option.map_some]
      rw [if_pos ⟨by omega,by rw [size_flatK,hsz'];omega⟩,Nat.add_sub_cancel_left,get_flatK aEw 10 d' i (by omega)]
      have hd0:d'[i / 10]! = d[i0]!:=by
        have:d'.toList[i / 10]? = some d[i0]!:=by rw [hs1,List.getElem?_map,hil];rfl
        have h5:i / 10<d'.size:=by omega
        rw [getElem!_pos d' _ h5]
        have h6:=List.getElem?_eq_getElem (l:=d'.toList) (i:=i / 10) (by simpa using h5)
        rw [h6] at this
        injection this
      rw [hd0,henc _ _ hlt0 hj];rfl
theorem bGB {T : Tr FE} {call : eE} {f0 g k0 k ty : Nat} {h0 : eE} (hT : T.get f0 = none) (hc : ∀ args mem nx r, aC3 f0 g h0 f0 args mem nx = some r → call f0 args mem nx = some r) (hN : ∀ mem nx, h0 f0 [rC, .c (.fn g [] [])] mem nx = some (.tup [], mem, nx)) (hk : 1 ≤ k) {z : dA} {u : AV} {l : List Ch} (hl : l.length < 4611686018427387904) (hok : ∀ x ∈ l, aYh x) (hnd : (l.map (·.1)).Nodup) (h00 : Nat.blt f0 1000000 = true := by rfl) :
    Lp (evF T call k0 k) f0 [u,.c (.fn g [] [])] z [.row u ty 10 l.length (l.flatMap (·.2))] fun v z' H'=>v=.tup []∧z'=z∧H'=[.row u ty 10 l.length ((Ky l).flatMap (·.2))]:=fun mem nx hh=>by
  obtain ⟨j,rfl⟩:∃ j,k=j+1:=⟨k - 1,by omega⟩
  have r0:Rf ⟨mem,nx,z,pR [.row u ty 10 l.length (l.flatMap (·.2))]⟩ ⟨fun _=>.any,z,[.row u ty 10 l.length (l.flatMap (·.2))]⟩ ⟨.nil,mem,nx⟩:=⟨fun i=>by simp [AS.get,Tr.get_nil],hh,Nat.le_refl _,fun b _ _=>rfl,fun b hb=>.inr hb,⟨fun _ _ h=>h⟩,fun b k hb=>.inl hb⟩
  have hok':=hh.h _ (List.mem_cons_self ..)
  obtain ⟨h1,h2⟩:=hok'
  have hok2:∀ x∈Ky l,aYh x:=fun x hx=>hok x ((List.mergeSort_perm _ _).subset hx)
  have hev:∀ r,aC3 f0 g h0 f0 [u,.c (.fn g [] [])] mem nx=some r→evF T call k0 (j+1) f0 [u,.c (.fn g [] [])] mem nx=some r:=fun r hr=>by
    rw [aSx hT h00]
    exact hc _ _ _ _ hr
  rcases h2 with ⟨hn,rfl⟩ | ⟨b,rfl,hm⟩
  · have:l=[]:=List.length_eq_zero_iff.1 hn
    subst this
    refine ⟨.tup [],mem,nx,z,_,hev _ ?_,Nat.le_refl _,fun b _ _=>rfl,hh,zle.refl _,fun b k hb=>.inl hb,fun b hb=>.inr hb,rfl,rfl,by simp [Ky]⟩
    unfold aC3
    rw [Nat.beq_refl]
    exact hN mem nx
  · have hm' : ∀ c, (Tr.put (b + 1) mem b (some (.cells ty ((Ky l).flatMap (·.2))))).get c = if b = c then some (.cells ty ((Ky l).flatMap (·.2))) else mem.get c := fun c => Tr.get_put _ _ _ _ _ (by omega)
    have r1 := r0.rep (a' := .row (.c (.sl b 0 l.length 10)) ty 10 l.length ((Ky l).flatMap (·.2))) (m' := Tr.put (b + 1) mem b (some (.cells ty ((Ky l).flatMap (·.2))))) (nx' := nx) iW (Nat.le_refl _) ⟨by rw [W5 _ hok2, aLN], .inr ⟨b, rfl, by rw [hm', if_pos rfl]⟩⟩ (fun c hc => .inl hc) (by simp [HA.fp]) (fun c _ hc => by
      rw [hm',if_neg fun e=>hc (by simp [HA.fp,e])])
    refine ⟨.tup [],_,nx,z,_,hev _ ?_,Nat.le_refl _,fun c hc hn=>r1.old c hc hn,r1.hold,zle.refl _,fun b k hb=>.inl hb,fun c hc=>r1.own c hc,rfl,rfl,rfl⟩
    unfold aC3
    rw [Nat.beq_refl]
    simp only [hm,aVL l hok]
    rw [show (Nat.beq g g && (Nat.beq (l.flatMap (·.2)).length (l.length * 10) && (Nat.blt l.length 4611686018427387904 && decide ((l.map (·.1)).Nodup))))=true by rw [W5 _ hok,Nat.beq_refl,Nat.beq_refl,Bool.true_and,Bool.true_and,decide_eq_true hnd,Bool.and_true];exact Nat.ble_eq_true_of_le hl]
open Go.RowKit
open Go.Eng (Od need need_pos iE kN binV binBV)
def sH (L:List HA):HA:=.gen (pR L) (fun m=>∀ a,a∈L→a.ok m) fun m m' hm h a ha=>HA.ok_of (h a ha) fun b hb=>hm b (uY.2 ⟨a,ha,hb⟩)
theorem aYQ {L H:List HA}:pR (sH L::H)=pR (L++H):=by rw [iJ,jM];rfl
section
variable {call:eE} {B:pK} {fs:Sf} {l:List I} {Q:Sf→Prop} {d:Nat}
theorem Rf.sameH {st:AS} (r:Rf B fs st) {H':List HA} (hf:pR H'=pR fs.H) (ho:∀ a,a∈H'→a.ok st.mem):Rf B (fs.heap H') st:=
 ⟨r.env,⟨fun b k hb=>by rw [show pR (fs.heap H').H=pR fs.H from hf];exact r.hold.z b k hb,ho,fun b hb=>r.hold.lt b (hf ▸ hb),by rw [show pR (fs.heap H').H=pR fs.H from hf];exact r.hold.nd⟩,r.le,r.old,fun b hb=>r.own b (hf ▸ hb),r.zle,r.zin⟩
theorem aQ9 (hw : FL call B l (fs.heap (sH [] :: fs.H)) Q) : FL call B l fs Q := fun st r => hw st (r.sameH (by rw [aYQ]; rfl) fun a ha => by
  rcases List.mem_cons.1 ha with rfl | ha
  · exact fun a h=>by cases h
  · exact r.hold.h a ha)
theorem bI0 {L p q : List HA} (ty size : Nat) (e : fs.H = p ++ sH L :: q) (hw : FL call B l (fs.heap (p ++ sH (L ++ [.row rC ty size 0 []]) :: q)) Q) : FL call B l fs Q := fun st r => hw st (r.sameH (by
    rw [e]
    simp only [jM,iJ,sH,HA.fp]
    show pR p++((pR L++[])++pR q)=_
    rw [List.append_nil]) fun a ha=>by
  have hk:∀ a,a∈fs.H→a.ok st.mem:=r.hold.h
  rw [e] at hk
  rcases List.mem_append.1 ha with h | h
  · exact hk a (by simp [h])
  · rcases List.mem_cons.1 h with rfl | h
    · intro a h
      rcases List.mem_append.1 h with h | h
      · exact hk (sH L) (by simp) a h
      · rcases List.mem_singleton.1 h with rfl
        exact ⟨by simp,.inl ⟨rfl,rfl⟩⟩
    · exact hk a (by simp [h]))
theorem aKK (hw:∀ b,FL call B l (fs.own d (.c (.mp b)) (.blk b (.mp [] 0))) Q):FL call B (⟨some d,none,.mkm⟩::l) fs Q:=aLz (w:=fun b=>.c (.mp b)) (fun _=>rfl) (fun _=>rfl) (fun st r=>rfl) hw
theorem uZ {str:Bool} {x k v:Od} {b n n':Nat} {key:Value} {u:AV} {es es':List (Value×AV×Nat)} {H':List HA} (hx:fs.ev x=.c (.mp b)) (hk:fs.ev k=.c (.v key)) (hv:fs.ev v=u) (hs:aN9 str key u n es=some (es',n')) (hr:By fs.H (.blk b (.mp es n)) (.blk b (.mp es' n')) H')
  (hw:FL call B l (fs.heap H') Q):FL call B (⟨none,none,.mupd str x k v⟩::l) fs Q:=fun st r=>by
 have hm:st.mem.get b=some (.mp es n):=r.hold.h _ hr.mem
 refine O0 (bT8 (st':=st.setB b (.mp es' n')) (v:=.any) rfl rfl (by simp only [eP,r.ev,hx,hk,hv,AV.val?,hm,hs])) ?_
 exact hw _ (r.rep hr (Nat.le_refl _) (by show (st.setB b _).mem.get b=_;rw [aCl,if_pos rfl]) (fun c hc=>.inl hc) (by simp [HA.fp]) (fun c _ hc=>by show (st.setB b _).mem.get c=_;rw [aCl,if_neg fun e=>hc (by simp [HA.fp,e])]))
theorem aWD {str agg:Bool} {zero:List Value} {x k:Od} {b n:Nat} {key:Value} {es:List (Value×AV×Nat)} {r:Option AV} {v:AV} {st:AS} (hx:st.ev x=.c (.mp b)) (hk:st.ev k=.c (.v key)) (hm:st.mem.get b=some (.mp es n)) (hf:Kz str key es=some r) (hv:r.getD (I0 agg (zero.map fun v=>.v v))=v):eP (.look str zero agg x k false) st=some (st,v):=by
 simp only [eP,aF8,hk,hx,AV.val?,AS.ment,hm,hf]
 subst hv
 cases r<;>rfl
theorem It {str agg:Bool} {zero:List Value} {x k:Od} {b n:Nat} {key:Value} {es:List (Value×AV×Nat)} {r:Option AV} {v:AV} (hx:fs.ev x=.c (.mp b)) (hk:fs.ev k=.c (.v key)) (hm:HA.blk b (.mp es n)∈fs.H) (hf:Kz str key es=some r) (hv:r.getD (I0 agg (zero.map fun v=>.v v))=v)
  (hw:FL call B l (fs.put d v) Q):FL call B (⟨some d,none,.look str zero agg x k false⟩::l) fs Q:=fun st rf =>
 O0 (i_e (st':=st) (v:=v) rfl rfl (aWD ((rf.ev x).trans hx) ((rf.ev k).trans hk) (rf.hold.h _ hm) hf hv)) (hw _ (rf.put _ _))
theorem bFY {str agg:Bool} {zero:List Value} {x k:Od} {b n:Nat} {key:Value} {es:List (Value×AV×Nat)} {r:Option AV} {v:AV} (hx:fs.ev x=.c (.mp b)) (hk:fs.ev k=.c (.v key)) (hm:fs.z b (.mp es n)) (hf:Kz str key es=some r) (hv:r.getD (I0 agg (zero.map fun v=>.v v))=v)
  (hw:FL call B l (fs.put d v) Q):FL call B (⟨some d,none,.look str zero agg x k false⟩::l) fs Q:=fun st rf =>
 O0 (i_e (st':=st) (v:=v) rfl rfl (aWD ((rf.ev x).trans hx) ((rf.ev k).trans hk) (rf.hold.z _ _ hm).1 hf hv)) (hw _ (rf.put _ _))
theorem Rf.repM {st:AS} (h:Rf B fs st) {a a':HA} {p q H':List HA} {m':Tr mU} {nx':Nat} (hr:By fs.H (sH (p++a::q)) (sH (p++a'::q)) H') (hn:st.nx≤nx') (ha:a'.ok m') (hf:∀ b,b∈a'.fp→b∈a.fp∨(st.nx≤b∧b<nx')) (hnd:a'.fp.Nodup)
  (hm:∀ b,b<st.nx→b ∉ a.fp→m'.get b=st.mem.get b):Rf B ⟨fs.e,fs.z,H'⟩ ⟨st.env,m',nx'⟩:=by
 have hok:=h.hold.h _ hr.mem
 have hlt:∀ b,b∈pR (p++a::q)→b<st.nx:=fun b hb=>h.hold.lt b (uY.2 ⟨_,hr.mem,hb⟩)
 have hnd0:(pR (p++a::q)).Nodup:=by
  obtain ⟨p1,q1,e1,_⟩:=hr.split
  have:=h.hold.nd
  rw [e1,jM,aYQ,jM] at this
  exact (List.nodup_append.1 (List.nodup_append.1 this).2.1).1
 rw [jM,iJ] at hnd0
 obtain ⟨n1,n2,n3⟩:=List.nodup_append.1 hnd0
 obtain ⟨n4,n5,n6⟩:=List.nodup_append.1 n2
 have hin:∀ b,b∈pR p∨b∈pR q→b ∉ a.fp∧b<st.nx:=by
  intro b hb
  refine ⟨fun hba=>?_,hlt b (by rw [jM,iJ];simp;rcases hb with hb | hb<;>simp [hb])⟩
  rcases hb with hb | hb
  ·exact n3 b hb b (by simp [hba]) rfl
  exact n6 b hba b hb rfl
 refine h.rep hr hn (fun x hx=>?_) (fun b hb=>?_) ?_ (fun b hb hba=>hm b hb fun h2=>hba ?_)
 ·have hk:∀ x,x∈p∨x∈q→x.ok m':=fun x hx=>by
   refine HA.ok_of (hok x (by simp;rcases hx with hx | hx<;>simp [hx])) fun b hb=>?_
   have:=hin b (by rcases hx with hx | hx;exact .inl (uY.2 ⟨x,hx,hb⟩);exact .inr (uY.2 ⟨x,hx,hb⟩))
   exact hm b this.2 this.1
  rcases List.mem_append.1 hx with hx | hx
  ·exact hk x (.inl hx)
  rcases List.mem_cons.1 hx with rfl | hx
  ·exact ha
  exact hk x (.inr hx)
 ·have hb:b∈pR (p++a'::q):=hb
  show b∈pR (p++a::q)∨_
  rw [jM,iJ] at hb ⊢
  simp only [List.mem_append] at hb ⊢
  rcases hb with hb | hb | hb
  ·exact .inl (.inl hb)
  ·rcases hf b hb with h4 | h4
   ·exact .inl (.inr (.inl h4))
   exact .inr h4
  exact .inl (.inr (.inr hb))
 ·show (pR (p++a'::q)).Nodup
  rw [jM,iJ]
  have hd:∀ b,b∈pR p∨b∈pR q→b ∉ a'.fp:=fun b hb hb2=>by
   have:=hin b hb
   rcases hf b hb2 with h4 | h4
   ·exact this.1 h4
   omega
  refine List.nodup_append.2 ⟨n1,List.nodup_append.2 ⟨hnd,n5,fun x hx y hy e=>?_⟩,fun x hx y hy e=>?_⟩
  ·subst e;exact hd x (.inr hy) hx
  subst e
  rcases List.mem_append.1 hy with hy | hy
  ·exact hd x (.inl hx) hy
  exact n3 x hx x (by simp [hy]) rfl
 show b∈pR (p++a::q)
 rw [jM,iJ];simp [h2]
end
section
variable {call:eE} {B:pK} {fs:Sf} {l:List I} {Q:Sf→Prop} {d:Nat}
theorem bKm {ty ty' size bytes n b:Nat} {zero:List Value} {x y:Od} {u:AV} {cs news:List C} {p q:List HA} {m:Nat} {H':AV→List HA} (hx:fs.ev x=u) (hy:fs.ev y=.c (.sl b 0 (m+1) size)) (hb0:HA.blk b (.cells ty' news)∈fs.H)
    (hr:∀ u',By fs.H (sH (p++.row u ty size n cs::q)) (sH (p++.row u' ty size (n+(m+1)) (cs++news)::q)) (H' u')) (hl:news.length=(m+1) * size) (hb:(n+(m+1)) * bytes≤140737488355328) (hn:n+(m+1)≤9223372036854775807)
    (hw:∀ c':C,pO c' c'=true→FL call B l (fs.res d (.c c') fs.z (H' (.c c'))) Q):FL call B (⟨some d,none,.app ty size bytes zero x y⟩::l) fs Q:=fun st r=>by
  have hrow:st.row size (.c (.sl b 0 (m+1) size))=some (m+1,news):=by
    rw [aZc (r.hold.h _ hb0) (by omega),List.drop_zero,← hl,List.take_length]
  obtain ⟨g1,g2⟩:=r.hold.h _ (hr rC).mem (.row u ty size n cs) (by simp)
  have hx':=(r.ev x).trans hx
  have hy':=(r.ev y).trans hy
  rcases g2 with ⟨rfl,rfl⟩ | ⟨c,rfl,h3⟩
  · have e : cs = [] := List.eq_nil_of_length_eq_zero (by omega)
    subst e
    refine bIe hx' hy' hrow (by simpa using hb) (by omega) ?_
    have h1:=hr (.c (.sl st.nx 0 (m+1) size))
    rw [List.nil_append,Nat.zero_add] at h1
    exact hw _ (by simp [pO]) _ ((r.repM (m':=(st.new (.cells ty news)).mem) (nx':=st.nx+1) h1 (by omega) ⟨hl,.inr ⟨st.nx,rfl,by rw [Jw,if_pos rfl]⟩⟩ (fun c hc=>.inr (by simp [HA.fp] at hc;omega)) (by simp [HA.fp]) (fun c hc _=>by rw [Jw,if_neg (by omega)])).put d _)
  · refine bLs hx' hy' hrow h3 (by omega) (by simpa using hb) (by omega) ?_
    have h1:=hr (.c (.sl st.nx 0 (n+(m+1)) size))
    have hb2:c<st.nx:=r.hold.lt c (uY.2 ⟨_,h1.mem,uY.2 ⟨.row (.c (.sl c 0 n size)) ty size n cs,by simp,by simp [HA.fp]⟩⟩)
    refine hw _ (by simp [pO]) _ ((r.repM (m':=(st.moveB c (.cells ty (cs.drop 0++news))).mem) (nx':=st.nx+1) h1 (by omega) ⟨by rw [List.length_append,g1,hl,← Nat.add_mul],.inr ⟨st.nx,rfl,by rw [Wm,if_pos rfl];rfl⟩⟩ (fun c hc=>.inr (by simp [HA.fp] at hc;omega)) (by simp [HA.fp]) (fun c' hc hc2=>?_)).put d _)
    rw [Wm,if_neg (by omega),if_neg fun e=>hc2 (by simp [HA.fp,e])]
end
theorem aYN {call:eE} {o:lS} (hs:(∃ s z g x k b,o=.look s z g x k b)∨∃ s x k v,o=.mupd s x k v) (env:Tr AV) (ls:List Nat) (m:Tr mU) (n:Nat) (h:∀ q,q∈o.sl→q∈ls):Zg call o ⟨mS env ls,m,n⟩=Zg call o ⟨env,m,n⟩:=by
  have hev:∀ x,(∀ q,q∈Od.sl x→q∈o.sl)→(⟨mS env ls,m,n⟩:AS).ev x=(⟨env,m,n⟩:AS).ev x:=fun x hx=>Og fun q hq=>h q (hx q hq)
  rcases hs with ⟨s,z,g,x,k,b,rfl⟩ | ⟨s,x,k,v,rfl⟩
  · have hment : ∀ v, (⟨mS env ls, m, n⟩ : AS).ment v = (⟨env, m, n⟩ : AS).ment v := fun v => by unfold AS.ment; rfl
    have e:aF8 ⟨mS env ls,m,n⟩ s z g x k b=aF8 ⟨env,m,n⟩ s z g x k b:=by
      simp only [aF8,hev x (fun q hq=>by simp [lS.sl,hq]),hev k (fun q hq=>by simp [lS.sl,hq]),hment]
    simp only [Zg,callee,bQ,eP,e]
    cases aF8 ⟨env,m,n⟩ s z g x k b<;>rfl
  · simp only [Zg, callee, bQ, eP, hev x (fun q hq => by simp [lS.sl, hq]), hev k (fun q hq => by simp [lS.sl, hq]), hev v (fun q hq => by simp [lS.sl, hq])]
    cases (⟨env,m,n⟩:AS).ev x with
    | c c =>
      cases c with
      | mp b =>
        cases ((⟨env,m,n⟩:AS).ev k).val? with
        | none=>rfl
        | some key =>
          simp only
          cases m.get b with
          | none=>rfl
          | some kk =>
            cases kk with
            | mp es ck =>
              simp only
              cases aN9 s key ((⟨env,m,n⟩:AS).ev v) ck es with
              | none=>rfl
              | some p=>obtain ⟨es',c'⟩:=p;rfl
            | _=>rfl
      | _=>rfl
    | _=>rfl
section
variable {call:eE} {B:pK} {an:List Nat} {j:Nat} {l:List CE.D} {fs:Sf} {T:dA} {tag last:Nat} {pj lj:List Nat} {Q:Sf→Prop}
theorem aP2 {st:AS} {x:Od} {v:AV} (hst:∀ q,q∈Od.sl x→st.get q=fs.e q) (hx:fs.ev x=v):st.ev x=v:=by
 rw [← hx]
 cases x with
 | t q=>exact hst q (by simp [Od.sl])
 | _=>rfl
theorem bKI {i:I} {d:Nat} {af:List Nat} {str agg:Bool} {zero:List Value} {x k:Od} {b n:Nat} {key:Value} {es:List (Value×AV×Nat)} {r:Option AV} {v:AV} (hi:i.o=.look str zero agg x k false) (hd:i.d=some d) (hg:GK fs i) (hbits:Nat.beq (an.getD j 0 ||| last) (an.getD j 0)=true) (hpj:(pj.all fun q=>(an.getD j 0).testBit q)=true)
  (hx:fs.ev x=.c (.mp b)) (hk:fs.ev k=.c (.v key)) (hm:HA.blk b (.mp es n)∈fs.H) (hf:Kz str key es=some r) (hv:r.getD (I0 agg (zero.map fun v=>.v v))=v)
  (hw:FG call B an (j+1) l (fs.put d v) T (j+1) (an.getD j 0 ||| (1 <<< j)) [] lj Q):FG call B an j (⟨i,af⟩::l) fs T tag last pj lj Q:=by
 refine aWX (D:=⟨fs,T,tag,last,pj,lj⟩) hg (by rw [hi];rfl) hbits hpj (fun st=>by rw [hi];rfl) (fun st hst hm=>?_) (by rw [hi];exact aYN (.inl ⟨_,_,_,_,_,_,rfl⟩)) (fun st v' m' n' rf hv'=>?_) (by rw [hi,hd];exact It hx hk hm hf hv (lN hw))
 ·rw [hi] at hst ⊢
  have h1:st.ev x=.c (.mp b):=aP2 (fs:=fs) (fun q hq=>hst q (by simp [lS.sl,hq])) hx
  have h2:st.ev k=.c (.v key):=aP2 (fs:=fs) (fun q hq=>hst q (by simp [lS.sl,hq])) hk
  simp only [eP,aF8,h1,h2,AV.val?,AS.ment,hm,Tr.get_nil]
 rw [hi] at hv'
 have h3:=aWD (st:=st) ((rf.ev x).trans hx) ((rf.ev k).trans hk) (rf.hold.h _ hm) hf hv
 simp only [Zg,callee,bQ,h3,Option.some.injEq,Prod.mk.injEq] at hv'
 obtain ⟨_,rfl,rfl⟩:=hv'
 exact ⟨Nat.le_refl _,fun _ _ _ h=>h⟩
theorem bIW {i:I} {af:List Nat} {str:Bool} {x k v:Od} {b n n':Nat} {key:Value} {u:AV} {es es':List (Value×AV×Nat)} {H':List HA} (hi:i.o=.mupd str x k v) (hd:i.d=none) (hg:GK fs i) (hbits:Nat.beq (an.getD j 0 ||| last) (an.getD j 0)=true) (hpj:(pj.all fun q=>(an.getD j 0).testBit q)=true) (hlj:(lj.all fun q=>(an.getD j 0).testBit q)=true)
  (hx:fs.ev x=.c (.mp b)) (hk:fs.ev k=.c (.v key)) (hv:fs.ev v=u) (hs:aN9 str key u n es=some (es',n')) (hr:By fs.H (.blk b (.mp es n)) (.blk b (.mp es' n')) H')
  (hw:FG call B an (j+1) l (fs.heap H') (fun _ _=>False) (j+1) (an.getD j 0 ||| (1 <<< j)) [] [] Q):FG call B an j (⟨i,af⟩::l) fs T tag last pj lj Q:=by
 refine aZO (D:=⟨fs,T,tag,last,pj,lj⟩) hg (by rw [hi];rfl) hbits hpj hlj (fun st=>by rw [hi];rfl) (fun st hst hm=>?_) (by rw [hi];exact aYN (.inr ⟨_,_,_,_,rfl⟩)) (by rw [hi,hd];exact uZ hx hk hv hs hr (lN hw))
 rw [hi] at hst ⊢
 have h1:st.ev x=.c (.mp b):=aP2 (fs:=fs) (fun q hq=>hst q (by simp [lS.sl,hq])) hx
 have h2:st.ev k=.c (.v key):=aP2 (fs:=fs) (fun q hq=>hst q (by simp [lS.sl,hq])) hk
 simp only [eP,h1,h2,AV.val?,hm,Tr.get_nil]
theorem bKX {i:I} {d:Nat} {af:List Nat} {ty ty' size bytes n b:Nat} {zero:List Value} {x y:Od} {u:AV} {cs news:List C} {p q:List HA} {m:Nat} {H':AV→List HA} (hi:i.o=.app ty size bytes zero x y) (hd:i.d=some d) (hg:GK fs i) (hbits:Nat.beq (an.getD j 0 ||| last) (an.getD j 0)=true) (hpj:(pj.all fun q=>(an.getD j 0).testBit q)=true)
    (hT:∀ b k,T b k→tz fs.z fs.H b k) (hx:fs.ev x=u) (hy:fs.ev y=.c (.sl b 0 (m+1) size)) (hb0:HA.blk b (.cells ty' news)∈fs.H)
    (hr:∀ u',By fs.H (sH (p++.row u ty size n cs::q)) (sH (p++.row u' ty size (n+(m+1)) (cs++news)::q)) (H' u')) (hl:news.length=(m+1) * size) (hb:(n+(m+1)) * bytes≤140737488355328) (hn:n+(m+1)≤9223372036854775807)
    (hw:∀ c':C,pO c' c'=true→FG call B an (j+1) l (fs.res d (.c c') fs.z (H' (.c c'))) T (j+1) (an.getD j 0 ||| (1 <<< j)) [] lj Q):FG call B an j (⟨i,af⟩::l) fs T tag last pj lj Q:=by
  refine aWX (D:=⟨fs,T,tag,last,pj,lj⟩) hg (by rw [hi];rfl) hbits hpj (fun st=>by rw [hi];rfl) (fun st hst hm=>?_) (by rw [hi];exact aDS (.inr ⟨_,_,_,_,_,_,rfl⟩)) (fun st v' m' n' rf hv'=>?_) (by rw [hi,hd];exact bKm hx hy hb0 hr hl hb hn fun c' hc=>lN (hw c' hc))
  · rw [hi] at hst ⊢
    have:st.ev y=.c (.sl b 0 (m+1) size):=aP2 (fs:=fs) (fun q hq=>hst q (by simp [lS.sl,hq])) hy
    simp only [eP,this,AS.row,AS.read,AS.blk,hm,Tr.get_nil]
  · rw [hi] at hv'
    have hlt:∀ b k,T b k→b<st.nx∧b ∉ pR (p++.row u ty size n cs::q):=fun b k hb=>by
      rcases hT b k hb with h | h
      · exact ⟨(rf.hold.z b k h).2.1,fun h2=>(rf.hold.z b k h).2.2 (uY.2 ⟨_,(hr rC).mem,h2⟩)⟩
      · refine ⟨rf.hold.lt b (uY.2 ⟨_, h, by simp [HA.fp]⟩), fun h2 => ?_⟩
        obtain ⟨p1,q1,e1,_⟩:=(hr rC).split
        have hnd:=rf.hold.nd
        rw [e1,jM,iJ] at hnd
        have hb':b∈pR p1∨b∈pR q1:=by
          have hh:HA.blk b k∈fs.H:=h
          rw [e1] at hh
          rcases List.mem_append.1 hh with hh | hh
          · exact .inl (uY.2 ⟨_,hh,by simp [HA.fp]⟩)
          · rcases List.mem_cons.1 hh with hh | hh
            · cases hh
            · exact .inr (uY.2 ⟨_,hh,by simp [HA.fp]⟩)
        obtain ⟨n1,n2,n3⟩:=List.nodup_append.1 hnd
        obtain ⟨n4,n5,n6⟩:=List.nodup_append.1 n2
        rcases hb' with hb' | hb'
        · exact n3 b hb' b (List.mem_append.2 (.inl h2)) rfl
        · exact n6 b h2 b hb' rfl
    have hrow:st.row size (.c (.sl b 0 (m+1) size))=some (m+1,news):=by
      rw [aZc (rf.hold.h _ hb0) (by omega),List.drop_zero,← hl,List.take_length]
    obtain ⟨g1,g2⟩:=rf.hold.h _ (hr rC).mem (.row u ty size n cs) (by simp)
    have hx':=(rf.ev x).trans hx
    have hy':=(rf.ev y).trans hy
    rcases g2 with ⟨rfl,rfl⟩ | ⟨c,rfl,h3⟩
    · have e0 : cs = [] := List.eq_nil_of_length_eq_zero (by omega)
      subst e0
      have h4:eP (.app ty size bytes zero x y) st=some (st.new (.cells ty news),.c (.sl st.nx 0 (m+1) size)):=by
        simp only [eP,hy',hrow,hx']
        rw [need_pos ⟨by simpa using hb,by omega,by omega⟩]
      simp only [Zg,callee,bQ,h4,Option.some.injEq,Prod.mk.injEq] at hv'
      obtain ⟨_,rfl,rfl⟩:=hv'
      refine ⟨Nat.le_succ _,fun b' k' hb' hg'=>?_⟩
      have:=(hlt b' k' hb').1
      rw [Jw,if_neg (by omega)];exact hg'
    · have h4:eP (.app ty size bytes zero x y) st=some (st.moveB c (.cells ty (cs.drop 0++news)),.c (.sl st.nx 0 (n+(m+1)) size)):=by
        simp only [eP,hy',hrow,hx',h3]
        rw [need_pos ⟨by omega,trivial,trivial,hb,hn⟩]
      simp only [Zg,callee,bQ,h4,Option.some.injEq,Prod.mk.injEq] at hv'
      obtain ⟨_,rfl,rfl⟩:=hv'
      refine ⟨Nat.le_succ _,fun b' k' hb' hg'=>?_⟩
      have h5:=hlt b' k' hb'
      rw [Wm,if_neg (by omega),if_neg fun e=>h5.2 (uY.2 ⟨.row (.c (.sl c 0 n size)) ty size n cs,by simp,by simp [HA.fp,e]⟩)]
      exact hg'
end
structure Fe where
 k:List UInt8
 u:AV
 n:Nat
 ix:List Nat
def Fe.ent (x:Fe):Value×AV×Nat:=(.string (bs x.k),x.u,x.n)
def Fe.row (ty:Nat) (x:Fe):HA:=Ed eN x.u ty x.ix
abbrev bVs (b:Nat) (F:List Fe) (ck:Nat):HA:=.blk b (.mp (F.map Fe.ent) ck)
abbrev aWs (ty:Nat) (F:List Fe):HA:=sH (F.map (Fe.row ty))
def On:List Fe→List UInt8→List Nat
 | [],_=>[]
 | x::F,k=>if x.k=k then x.ix else On F k
def uOf:List Fe→List UInt8→AV
 | [],_=>rC
 | x::F,k=>if x.k=k then x.u else uOf F k
def aXS (F:List Fe) (z:dA):Prop:=∀ k,SZ 1 (RE eN) z (uOf F k) (On F k)
theorem aXS.mono {F:List Fe} {z z':dA} (h:aXS F z) (hz:zle z z'):aXS F z':=fun k=>(h k).mono hz
theorem aXS.m {F:List Fe} {z z':dA} (h:aXS F z) [q:Zl z z']:aXS F z':=h.mono q.h
abbrev tx (s:ByteArray):List UInt8:=s.data.toList
theorem bAm (s:ByteArray):bs (tx s)=s:=by simp [bs,tx]
theorem aZr {a b:ByteArray}:tx a=tx b↔a=b:=⟨fun h=>by rw [← bAm a,h,bAm],fun h=>by rw [h]⟩
theorem aSM (a b:List UInt8):aEs true (.string (bs a)) (.string (bs b))=some (decide (b=a)):=by
 simp only [aEs,D5]
 congr 1
 by_cases h:b=a
 ·simp [h]
 have h2:¬ a=b:=fun e=>h e.symm
 simp [h,h2]
theorem bLA (k:List UInt8):∀ F:List Fe,∃ r,Kz true (.string (bs k)) (F.map Fe.ent)=some r∧r.getD rC=uOf F k
 | []=>⟨none,rfl,rfl⟩
 | x::F=>by
  obtain ⟨r,h1,h2⟩:=bLA k F
  simp only [List.map_cons,Fe.ent,Kz,aSM,uOf]
  by_cases hk:x.k=k
  ·rw [if_pos hk];exact ⟨some x.u,by simp [hk],rfl⟩
  rw [if_neg hk];exact ⟨r,by simp only [hk,decide_false];exact h1,h2⟩
theorem bSG (k:List UInt8) (ck:Nat):∀ F:List Fe,∃ F1 x F2 c',x.k=k∧x.u=uOf F k∧x.ix=On F k∧(F1++x::F2=F∨(F1++x::F2=F++[x]∧x.u=rC∧x.ix=[]))∧(∀ y,y∈F1→y.k≠k) ∧
    ∀ u' ix',aN9 true (.string (bs k)) u' ck (F.map Fe.ent)=some ((F1++⟨k,u',x.n,ix'⟩::F2).map Fe.ent,c')
  | []=>⟨[],⟨k,rC,ck,[]⟩,[],ck+1,rfl,rfl,rfl,.inr ⟨rfl,rfl,rfl⟩,fun _ h=>absurd h List.not_mem_nil,fun u' ix'=>rfl⟩
  | x::F=>by
    by_cases hk:x.k=k
    · refine ⟨[], x, F, ck, hk, by simp [uOf, hk], by simp [On, hk], .inl rfl, fun _ h => absurd h List.not_mem_nil, fun u' ix' => ?_⟩
      simp only [List.map_cons,Fe.ent,aN9,aSM,hk,decide_true,List.nil_append]
    · obtain ⟨F1, y, F2, c', h1, h2, h3, h4, h5, h6⟩ := bSG k ck F
      refine ⟨x::F1,y,F2,c',h1,by simp [uOf,hk,h2],by simp [On,hk,h3],?_,fun y hy=>?_,fun u' ix'=>?_⟩
      · rcases h4 with h4 | ⟨h4,h7⟩
        · exact .inl (by rw [List.cons_append,h4])
        · exact .inr ⟨by rw [List.cons_append,h4];rfl,h7⟩
      · rcases List.mem_cons.1 hy with rfl | hy
        · exact hk
        · exact h5 y hy
      · have h7:=h6 u' ix'
        simp only [List.map_cons,Fe.ent,aN9,aSM,hk,decide_false,List.cons_append]
        rw [h7]
theorem bLq (s:ByteArray) (F:List Fe):∃ r,Kz true (.string s) (F.map Fe.ent)=some r∧r.getD rC=uOf F (tx s):=by
 have:=bLA (tx s) F
 rwa [bAm] at this
theorem bVd (s:ByteArray) (ck:Nat) (F:List Fe):∃ F1 x F2 c',x.k=tx s∧x.u=uOf F (tx s)∧x.ix=On F (tx s)∧(F1++x::F2=F∨(F1++x::F2=F++[x]∧x.u=rC∧x.ix=[]))∧(∀ y,y∈F1→y.k≠tx s) ∧
  ∀ u' ix',aN9 true (.string s) u' ck (F.map Fe.ent)=some ((F1++⟨tx s,u',x.n,ix'⟩::F2).map Fe.ent,c'):=by
 have:=bSG (tx s) ck F
 rwa [bAm] at this
theorem bMd {k k':List UInt8} {x:Fe} {F1 F2:List Fe} {u':AV} {ix':List Nat} (h1:∀ y,y∈F1→y.k≠k) (h2:x.k=k):On (F1++⟨k,u',x.n,ix'⟩::F2) k'=if k'=k then ix' else On (F1++x::F2) k':=by
 induction F1 with
 | nil =>
  simp only [List.nil_append,On,h2]
  by_cases h:k=k'
  ·rw [if_pos h,if_pos h.symm]
  rw [if_neg h,if_neg h,if_neg fun e=>h e.symm]
 | cons y F1 ih =>
  have hy:=h1 y (List.mem_cons_self ..)
  have ih:=ih fun z hz=>h1 z (List.mem_cons_of_mem _ hz)
  simp only [List.cons_append,On,ih]
  by_cases h:y.k=k'
  ·rw [if_pos h,if_pos h,if_neg fun e=>hy (h.trans e)]
  rw [if_neg h,if_neg h]
theorem bQq {x:Fe} {F:List Fe} {k':List UInt8} (h:x.ix=[]):On (F++[x]) k'=On F k':=by
 induction F with
 | nil=>simp [On,h]
 | cons y F ih=>simp only [List.cons_append,On,ih]
theorem bK6 {k k':List UInt8} {x:Fe} {F F1 F2:List Fe} {u':AV} {ix':List Nat} (h4:F1++x::F2=F∨(F1++x::F2=F++[x]∧x.u=rC∧x.ix=[])) (h1:∀ y,y∈F1→y.k≠k) (h2:x.k=k):On (F1++⟨k,u',x.n,ix'⟩::F2) k'=if k'=k then ix' else On F k':=by
 rw [bMd h1 h2]
 rcases h4 with h4 | ⟨h4,_,h6⟩
 ·rw [h4]
 rw [h4,bQq h6]
section
variable {call:eE} {B:pK} {fs:Sf} {l:List I} {Q:Sf→Prop} {d:Nat}
theorem bPz {ty:Nat} {F F1 F2:List Fe} {x:Fe} {p q:List HA} (e:fs.H=p++aWs ty F::q) (h:F1++x::F2=F∨(F1++x::F2=F++[x]∧x.u=rC∧x.ix=[])) (hw:FL call B l (fs.heap (p++sH (F1.map (Fe.row ty)++Fe.row ty x::F2.map (Fe.row ty))::q)) Q):FL call B l fs Q:=by
 have e1:F1.map (Fe.row ty)++Fe.row ty x::F2.map (Fe.row ty)=(F1++x::F2).map (Fe.row ty):=by rw [List.map_append,List.map_cons]
 rw [e1] at hw
 rcases h with h | ⟨h,h1,h2⟩
 ·rw [h] at hw
  have e2:fs.heap (p++sH (F.map (Fe.row ty))::q)=fs:=by cases fs;simp only [Sf.heap] at e ⊢;rw [e]
  rw [e2] at hw
  exact hw
 refine bI0 ty 1 e ?_
 rw [h,List.map_append] at hw
 simp only [List.map_cons,List.map_nil,Fe.row,h1,h2] at hw
 exact hw
theorem bKw {ty m i n:Nat} {F1 F2:List Fe} {u:AV} {k:List UInt8} {ix:List Nat} {p q:List HA} (e:fs.H=p++sH (F1.map (Fe.row ty)++.row u ty 1 (m+(0+1)) (cE eN ix++[.v (.int .i64 (i:Nat))])::F2.map (Fe.row ty))::q) (hm:ix.length=m)
  (hw:FL call B l (fs.heap (p++aWs ty (F1++⟨k,u,n,ix++[i]⟩::F2)::q)) Q):FL call B l fs Q:=by
 have e1:F1.map (Fe.row ty)++.row u ty 1 (m+(0+1)) (cE eN ix++[.v (.int .i64 (i:Nat))])::F2.map (Fe.row ty)=(F1++(⟨k,u,n,ix++[i]⟩:Fe)::F2).map (Fe.row ty):=by
  rw [List.map_append,List.map_cons]
  congr 2
  subst hm
  show _=HA.row u ty 1 (ix++[i]).length (cE eN (ix++[i]))
  rw [← aWc,List.length_append]
  rfl
 rw [e1] at e
 have e2:fs.heap (p++aWs ty (F1++⟨k,u,n,ix++[i]⟩::F2)::q)=fs:=by cases fs;simp only [Sf.heap] at e ⊢;rw [e]
 rw [e2] at hw
 exact hw
theorem bJ3 {ty:Nat} {F:List Fe} {p q:List HA} (z1:dA) (e:fs.H=p++aWs ty F::q) (h1:fs.z=z1) (hm:∀ x,x∈F→x.ix.length≤9223372036854775807) (hw:∀ z',zle z1 z'→aXS F z'→FL call B l (fs.frz z' (p++q)) Q):FL call B l fs Q:=fun st r=>by
 subst h1
 have hH:=r.hold
 rw [e] at hH
 have hok:∀ x,x∈F→(Fe.row ty x).ok st.mem:=fun x hx=>hH.h (aWs ty F) (by simp) _ (List.mem_map.2 ⟨x,hx,rfl⟩)
 have hin:∀ x,x∈F→∀ b,b∈(Fe.row ty x).fp→b∈pR (p++aWs ty F::q):=fun x hx b hb=>uY.2 ⟨aWs ty F,by simp,uY.2 ⟨_,List.mem_map.2 ⟨x,hx,rfl⟩,hb⟩⟩
 let Z:dA:=fun b k=>∃ x,x∈F∧x.u=.c (.sl b 0 x.ix.length 1)∧k=.cells ty (cE eN x.ix)
 have hZ:∀ b k,Z b k→st.mem.get b=some k∧b∈pR (p++aWs ty F::q)∧b∈pR (F.map (Fe.row ty)):=fun b k ⟨x,hx,hu,hk⟩=>by
  have hb:b∈(Fe.row ty x).fp:=by simp [Fe.row,Ed,HA.fp,hu]
  refine ⟨?_,hin x hx b hb,uY.2 ⟨_,List.mem_map.2 ⟨x,hx,rfl⟩,hb⟩⟩
  obtain ⟨_,g⟩:=hok x hx
  rcases g with ⟨_,g⟩ | ⟨c,g,g2⟩
  ·rw [hu] at g;cases g
  rw [hu] at g
  injection g with g
  injection g with g
  subst g
  rw [g2,hk]
 have hsub:∀ b,b∈pR (p++q)→b∈pR fs.H:=fun b hb=>by
  rw [e,jM,iJ]
  rw [jM] at hb
  rcases List.mem_append.1 hb with hb | hb<;>simp [hb]
 have hnd:=hH.nd
 rw [jM,iJ] at hnd
 obtain ⟨n1,n2,n3⟩:=List.nodup_append.1 hnd
 obtain ⟨n4,n5,n6⟩:=List.nodup_append.1 n2
 have hnz:∀ b k,Z b k→b ∉ pR (p++q):=fun b k hb h=>by
  have hb2:=(hZ b k hb).2.2
  rw [jM] at h
  rcases List.mem_append.1 h with h | h
  ·exact n3 b h b (List.mem_append.2 (.inl hb2)) rfl
  exact n6 b hb2 b h rfl
 refine hw (fun b k=>fs.z b k∨Z b k) ⟨fun _ _ h=>.inl h⟩ (fun k=>?_) st ⟨r.env,⟨fun b k hb=>?_,fun a ha=>?_,fun b hb=>r.hold.lt b (hsub b hb),?_⟩,r.le,r.old,fun b hb=>r.own b (hsub b hb),⟨fun b k hb=>.inl (r.zle b k hb)⟩,fun b k hb=>?_⟩
 ·have:∀ G:List Fe,(∀ x,x∈G→x∈F)→SZ 1 (RE eN) (fun b k=>fs.z b k∨Z b k) (uOf G k) (On G k):=by
   intro G
   induction G with
   | nil=>intro _;exact .nil
   | cons x G ih =>
    intro hG
    simp only [uOf,On]
    by_cases hk:x.k=k
    ·rw [if_pos hk,if_pos hk]
     have hx:=hG x (List.mem_cons_self ..)
     obtain ⟨_,g⟩:=hok x hx
     rcases g with ⟨g1,g⟩ | ⟨c,g,g2⟩
     ·rw [g,List.eq_nil_of_length_eq_zero g1];exact .nil
     rw [g]
     refine .sl c 0 _ _ (cE eN x.ix) x.ix rfl (hm x hx) (.inr ⟨x,hx,g,rfl⟩) rfl (by rw [aDH];omega) fun i a hi=>?_
     show _=_
     rw [Nat.zero_add,Nat.mul_one]
     have:=aLy (e:=eN) hi
     rw [List.take_one,List.head?_drop,this];rfl
    rw [if_neg hk,if_neg hk]
    exact ih fun y hy=>hG y (List.mem_cons_of_mem _ hy)
  exact this F fun _ h=>h
 ·rcases hb with hb | hb
  ·obtain ⟨g1,g2,g3⟩:=r.hold.z b k hb
   exact ⟨g1,g2,fun h=>g3 (hsub b h)⟩
  exact ⟨(hZ b k hb).1,hH.lt b (hZ b k hb).2.1,hnz b k hb⟩
 ·refine hH.h a ?_
  rcases List.mem_append.1 ha with ha | ha<;>simp [ha]
 ·rw [show pR (fs.frz (fun b k=>fs.z b k∨Z b k) (p++q)).H=pR p++pR q from jM ..]
  exact List.nodup_append.2 ⟨n1,n5,fun x hx y hy=>n3 x hx y (by simp [hy])⟩
 rcases hb with hb | hb
 ·exact r.zin b k hb
 exact .inr (r.own b (by rw [e];exact (hZ b k hb).2.1))
end
open Go.RowKit
open Go.Eng (Od need need_pos iE kN binV binBV setL_length)
theorem CL.m {α:Type} {size:Nat} {R:RT α} [RMono R] {z z':dA} {cs:List C} {l:List α} (h:CL size R z cs l) [q:Zl z z']:CL size R z' cs l:=CL.mono h q.h
open Go.RowKit
open Go.Eng (Od need need_pos iE kN binV binBV)
def Agr (call call':eE):Prop:=∀ f args mem nx,Nat.blt f 1000000=true→call' f args mem nx=call f args mem nx
theorem Agr.trans {a b c:eE} (h:Agr a b) (g:Agr b c):Agr a c:=fun f args mem nx h0=>(g f args mem nx h0).trans (h f args mem nx h0)
theorem bJd (call:eE):Agr call (noY call):=fun f args mem nx h=>by simp only [noY,h]
theorem bMX {f b:Nat} (h:Nat.blt f 1000000=true):Nat.beq f (1000000+b)=false:=by
 cases h1:Nat.beq f (1000000+b) with
 | false=>rfl
 | true =>
  have:f<1000000:=Nat.le_of_ble_eq_true h
  have:=Nat.eq_of_beq_eq_true h1
  omega
theorem bBU (call:eE) (b:Nat) (ps:List Nat) (env:Tr AV) (r:AS→Option (Exit×AS)):Agr call (O3 call b ps env r):=fun f args mem nx h=>by
 simp only [O3,bMX h]
theorem Lp.agr {call call':eE} {f:Nat} {args:List AV} {z:dA} {H:List HA} {P:AV→dA→List HA→Prop} (hA:Agr call call') (h:Lp call f args z H P) (h0:Nat.blt f 1000000=true:=by rfl):Lp call' f args z H P:=fun mem nx hh=>by
 obtain ⟨v,mem',nx',z',H',h1,h2⟩:=h mem nx hh
 exact ⟨v,mem',nx',z',H',(hA f args mem nx h0).trans h1,h2⟩
theorem FC.agr {call call':eE} {f:Nat} {args:List AV} {z:dA} {P:AV→dA→Prop} (hA:Agr call call') (h:FC call f args z P) (h0:Nat.blt f 1000000=true:=by rfl):FC call' f args z P:=Lp.agr hA h h0
noncomputable def aX7 (call:eE) (k:Nat) (c:XC):eE:=fun _ args mem nx=>match vS call k c ⟨Hy 0 .nil args,mem,nx⟩ with
 | some (.ret,s)=>some (.tup [],s.mem,s.nx)
 | some (.normal,s)=>some (.tup [],s.mem,s.nx)
 | _=>none
theorem bGV {call:eE} {k:Nat} {c:XC} {args:List AV} {z:dA} {H:List HA} {Post:AV→dA→List HA→Prop} (h:∀ B,FX call k B c ⟨aOd args,z,H⟩ (aZq [] Post)):Lp (aX7 call k c) 0 args z H Post:=fun mem nx hh=>by
 have r0:Rf ⟨mem,nx,z,pR H⟩ ⟨aOd args,z,H⟩ ⟨Hy 0 .nil args,mem,nx⟩:=
  ⟨fun i=>aYG args mem nx i,hh,Nat.le_refl _,fun b _ _=>rfl,fun b hb=>.inr hb,⟨fun _ _ h=>h⟩,fun b k hb=>.inl hb⟩
 have:=h _ _ r0
 simp only [aX7]
 cases he:vS call k c ⟨Hy 0 .nil args,mem,nx⟩ with
 | none=>rw [he] at this;exact this.elim
 | some p =>
  obtain ⟨x,st⟩:=p
  rw [he] at this
  obtain ⟨fs,r,hx,vs,H',h1,h2,h3⟩:=this
  cases h1
  refine ⟨.tup [],st.mem,st.nx,fs.z,H',?_,r.le,r.old,r.hold.sub h2,r.zle,r.zin,fun b hb=>r.own b ((Eh h2).subset hb),h3⟩
  rcases hx with rfl | rfl<;>rfl
def ePs:Lq→List Nat→List AV→Lq
 | e,p::ps,v::vs=>ePs (aBk e p v) ps vs
 | e,_,_=>e
theorem bEb:∀ (ps:List Nat) (vs:List AV) (env:Tr AV) (e:Lq) (_:∀ mem nx i,(⟨env,mem,nx⟩:AS).get i=e i) (mem:Tr mU) (nx i:Nat),(⟨O6 env ps vs,mem,nx⟩:AS).get i=ePs e ps vs i:=by
 intro ps
 induction ps with
 | nil=>intro vs env e he mem nx i;exact he mem nx i
 | cons p ps ih =>
  intro vs env e he mem nx i
  cases vs with
  | nil=>exact he mem nx i
  | cons v vs =>
   refine ih vs _ _ (fun mem nx i=>?_) mem nx i
   have hg:(⟨Tr.put (p+1) env p (some v),mem,nx⟩:AS).get i=if p=i then v else (⟨env,mem,nx⟩:AS).get i:=get_put ⟨env,mem,nx⟩ p i v
   rw [hg,aGy,he]
def aXQ (Post:dA→List HA→Prop):AV→dA→List HA→Prop:=fun v z H=>v=.c (.v (.bool true))∧Post z H
def RdQ (Post:dA→List HA→Prop):Exit→Sf→Prop:=fun x fs=>x=.normal∧∃ H',H'.Sublist fs.H∧Post fs.z H'
theorem bR9 {call:eE} {b k:Nat} {ps:List Nat} {env:Tr AV} {e:Lq} {as_ bd:XC} {args:List AV} {z:dA} {H:List HA} {Post:dA→List HA→Prop} (he:∀ mem nx i,(⟨env,mem,nx⟩:AS).get i=e i) (hl:Nat.beq args.length ps.length=true)
  (h:∀ B,FX (noY call) k B (.seq as_ bd) ⟨ePs e ps args,z,H⟩ (RdQ Post)):Lp (O3 (noY call) b ps env fun s=>aND (vS (noY call) k as_ s) (vS (noY call) k bd)) (1000000+b) args z H (aXQ Post):=fun mem nx hh=>by
 have r0:Rf ⟨mem,nx,z,pR H⟩ ⟨ePs e ps args,z,H⟩ ⟨O6 env ps args,mem,nx⟩:=
  ⟨fun i=>bEb ps args env e he mem nx i,hh,Nat.le_refl _,fun b _ _=>rfl,fun b hb=>.inr hb,⟨fun _ _ h=>h⟩,fun b k hb=>.inl hb⟩
 have:=h _ _ r0
 simp only [O3,Nat.beq_refl,hl]
 simp only [vS] at this
 cases he:vS (noY call) k as_ ⟨O6 env ps args,mem,nx⟩ with
 | none=>rw [he] at this;exact this.elim
 | some p =>
  obtain ⟨x,st⟩:=p
  rw [he] at this
  have hx:x=.normal:=by
   cases x with
   | normal=>rfl
   | _=>obtain ⟨_,_,h,_⟩:=this;exact h
  subst hx
  simp only at this
  simp only [aND]
  cases he2:vS (noY call) k bd st with
  | none=>rw [he2] at this;exact this.elim
  | some p =>
   obtain ⟨x,s⟩:=p
   rw [he2] at this
   obtain ⟨fs,r,rfl,H',h2,h3⟩:=this
   exact ⟨_,s.mem,s.nx,fs.z,H',rfl,r.le,r.old,r.hold.sub h2,r.zle,r.zin,fun b hb=>r.own b ((Eh h2).subset hb),rfl,h3⟩
def Yld (call:eE) (k:Nat) (as_ bd:XC) (e:Lq) (ps:List Nat) (call':eE) (b:Nat):Prop:=∀ (args:List AV) (z:dA) (H:List HA) (Post:dA→List HA→Prop),Nat.beq args.length ps.length=true →
 (∀ B,FX (noY call) k B (.seq as_ bd) ⟨ePs e ps args,z,H⟩ (RdQ Post))→Lp call' (1000000+b) args z H (aXQ Post)
section
variable {call:eE} {k:Nat} {B:pK} {fs:Sf} {Q:Exit→Sf→Prop} {l:List I} {QL:Sf→Prop} {d:Nat}
theorem Rf.nx1 {st:AS} (r:Rf B fs st):Rf B fs ⟨st.env,st.mem,st.nx+1⟩:=
 ⟨r.env,⟨fun b k hb=>⟨(r.hold.z b k hb).1,Nat.lt_succ_of_lt (r.hold.z b k hb).2.1,(r.hold.z b k hb).2.2⟩,r.hold.h,fun b hb=>Nat.lt_succ_of_lt (r.hold.lt b hb),r.hold.nd⟩,Nat.le_succ_of_le r.le,r.old,r.own,r.zle,r.zin⟩
theorem bH5 {g:Od} {ps:List Nat} {as_ bd c:XC} {h n:Nat} {us cs:List (Bool×List C)} {Hs Hr:List HA} {Post:dA→List HA→Prop} (hg:fs.ev g=.c (.fn h us cs)) (hn:Nat.ble (us.length+(1+cs.length)) n=true) (e:fs.H=Hs++Hr)
    (hc:∀ call' b,Agr call call'→Yld call k as_ bd fs.e ps call' b→Lp (aX7 call' k c) 0 (AV.cs us++([.c (.yl b)]++AV.cs cs)) fs.z Hs fun _=>Post)
    (hw:∀ z' H',zle fs.z z'→Post z' H'→Q .normal ⟨fs.e,z',H'++Hr⟩):FX call k B (.range g ps as_ bd h n c) fs Q:=fun st r=>by
  have hA:Agr call (O3 (noY call) st.nx ps st.env fun s=>aND (vS (noY call) k as_ s) (vS (noY call) k bd)):=(bJd call).trans (bBU _ _ _ _ _)
  have hY : Yld call k as_ bd fs.e ps (O3 (noY call) st.nx ps st.env fun s => aND (vS (noY call) k as_ s) (vS (noY call) k bd)) st.nx := fun args z H Post hl hx => bR9 (fun mem nx i => by
    have:=r.env i
    simpa [AS.get] using this) hl hx
  have r1:=r.nx1
  have hh:=r1.hold
  rw [e] at hh
  obtain ⟨v,mem',nx',z',H',h1,h2,h3,h4,h5,h6,h7,h8⟩:=hc _ st.nx hA hY st.mem (st.nx+1) hh.left
  have r2:=r1.callR e h2 h3 h4 h5 h6 h7
  show Wx (vS call k (.range g ps as_ bd h n c) st) _
  simp only [aX7] at h1
  simp only [vS,r.ev,hg,Nat.beq_refl,hn,Bool.and_true]
  cases he:vS (O3 (noY call) st.nx ps st.env fun s=>aND (vS (noY call) k as_ s) (vS (noY call) k bd)) k c ⟨Hy 0 .nil (AV.cs us++([.c (.yl st.nx)]++AV.cs cs)),st.mem,st.nx+1⟩ with
  | none=>rw [he] at h1;cases h1
  | some p =>
    obtain ⟨x,s⟩:=p
    rw [he] at h1
    cases x with
    | normal=>cases h1;exact ⟨_,r2,hw _ _ h5 h8⟩
    | ret=>cases h1;exact ⟨_,r2,hw _ _ h5 h8⟩
    | _=>cases h1
end
section
variable {call:eE} {B:pK} {an:List Nat} {j:Nat} {l:List CE.D} {D:DS} {Q:Sf→Prop}
theorem aXu {k:Nat} {fs:Sf} {ds:List CE.D} {Q:Exit→Sf→Prop} (h:FG call B an 0 ds fs fs.z 0 0 [] [] (Q .normal)):FX call k B (.draw ds an) fs Q:=fun st r=>by
  refine bAO ?_
  refine h _ ⟨r,⟨_,_,rfl⟩,fun p hp b kk hb=>?_,fun b kk hb=>?_,fun p hp=>by simp at hp,fun p hp=>by simp at hp,rfl,rfl,fun p hp=>by simp at hp⟩
  · have : p = (0, st.mem) := by simpa using hp
    subst this
    exact (r.hold.z b kk hb).1
  · exact (r.hold.z b kk hb).2.1
theorem bB9 {k:Nat} {fs:Sf} {ds:List CE.D} {c:XC} {Q:Exit→Sf→Prop} (h:FG call B an 0 ds fs fs.z 0 0 [] [] (fun fs'=>FX call k B c fs' Q)):FX call k B (.seq (.draw ds an) c) fs Q:=aT (aXu h)
theorem bOc {i:I} {d b:Nat} {t:Od} {args:List Od} {vs:List AV} {af:List Nat} {Hs Hr:List HA} {Post:dA→List HA→Prop} (hi:i.o=.callv t args) (hd:i.d=some d) (hg:GK D.fs i) (hbits:Nat.beq (an.getD j 0 ||| D.last) (an.getD j 0)=true) (hpj:(D.pj.all fun q=>(an.getD j 0).testBit q)=true)
    (ht:D.fs.ev t=.c (.yl b)) (ha:args.map D.fs.ev=vs) (hzT:∀ b k,D.T b k→D.fs.z b k) (e:D.fs.H=Hs++Hr) (hc:Lp call (1000000+b) vs D.fs.z Hs (aXQ Post)) (hw:∀ z' H',zle D.fs.z z'→Post z' H'→FD call B an (j+1) l ⟨⟨aBk D.fs.e d (.c (.v (.bool true))),z',H'++Hr⟩,D.T,j+1,an.getD j 0 ||| (1 <<< j),[],D.lj⟩ Q):FD call B an j (⟨i,af⟩::l) D Q:=fun a r=>by
  have hgo:=aF5 (d:=⟨i,af⟩) r.rf hg
  obtain ⟨m,ml,hm⟩:=r.hd
  have hhd:=r.seqget hm
  have hold:=r.rf.hold
  simp only [O9.seq,hhd] at hold
  have hold':=hold
  rw [e] at hold'
  obtain ⟨v,mem',nx',z',H',h1,h2,h3,h4,h5,h6,h7,rfl,h9⟩:=hc (ovl m a.pend) a.nx hold'.left
  have hev:∀ m n,args.map (⟨mS a.env (CE.D.sl ⟨i,af⟩),m,n⟩:AS).ev=vs:=fun m n=>by
    rw [← ha]
    refine List.map_congr_left fun x hx=>?_
    rw [Og (m':=a.seq.mem) (n':=a.seq.nx) fun q hq=>J8 (d:=⟨i,af⟩) (by rw [hi];simp only [lS.sl,Od.sls,List.mem_append,List.mem_flatMap];exact .inr ⟨x,hx,hq⟩)]
    exact r.rf.ev x
  have htv:∀ m n,(⟨mS a.env (CE.D.sl ⟨i,af⟩),m,n⟩:AS).ev t=.c (.yl b):=fun m n=>by
    rw [← ht,Og (m':=a.seq.mem) (n':=a.seq.nx) fun q hq=>J8 (d:=⟨i,af⟩) (by rw [hi];simp only [lS.sl,Od.sls,List.mem_append];exact .inl hq)]
    exact r.rf.ev t
  have hp:=aCC (bits:=an.getD j 0) (l:=a.pend) (by rw [r.pj];exact hpj)
  have hT:∀ b k,D.T b k→mem'.get b=some k:=fun b k hb=>by
    rw [h3 b (r.tlt b k hb) (fun hb2=>(hold.z b k (hzT b k hb)).2.2 (by rw [e,jM];exact List.mem_append_left _ hb2))]
    exact aDC (fun p hp' e=>r.np p hp' k (e ▸ hb)) (r.t0 (D.tag,m) (by rw [hm];exact List.mem_cons_self ..) b k hb)
  obtain ⟨fl',hf1,hf2⟩:=Xr (bits:=an.getD j 0) (m:=mem') (l:=a.fl) fun p hp=>(r.fl p hp).2 mem' hT
  refine aEI (a':=⟨O1 a.env i.d (.c (.v (.bool true))),nx',(j+1,mem')::a.mems,a.pend.filter (fun p=>!(an.getD j 0).testBit p.1),fl',(an.getD j 0) ||| (1 <<< j)⟩) ?_ ?_
  · simp only [K5]
    rw [show gOk i ⟨mS a.env (CE.D.sl ⟨i,af⟩),.nil,a.nx⟩=some true from hgo]
    simp only [hi,bQ,Rz,eP,hm,hp.1,Zg,callee,htv,hev,h1,r.last,hbits,hf1]
  · rw [hd,hp.2]
    refine hw z' H' h5 h9 _ ⟨?_,⟨mem',a.mems,rfl⟩,fun p hp' b k hb=>?_,fun b k hb=>Nat.lt_of_lt_of_le (r.tlt b k hb) h2,fun p hp=>by simp at hp,fun p hp=>r.fl p (hf2 p hp),rfl,rfl,fun p hp=>by simp at hp⟩
    · have := r.rf.callR (Hs := Hs) (Hr := Hr) e (mem' := mem') (nx' := nx') (z' := z') (H' := H') h2 (fun b hb hb2 => by
        rw [h3 b hb hb2];simp only [O9.seq,hhd]) h4 h5 h6 h7
      exact this.put d _
    · rcases List.mem_cons.1 hp' with rfl | hp'
      · exact hT b k hb
      · exact r.t0 p hp' b k hb
end
theorem bFc {P:Program} (hm:P.follows .mixedOrders=true) {T:Tr FE} (hT:aVq P T) (hR:bBq P T) (hz:P.funcs.size≤1000000) {hand:eE} (hh:Bt P hand) (k0 k:Nat):Bt P (evF T hand k0 k):=fun f args mem nx res mem' nx' h=>by
 cases h0:Nat.blt f 1000000 with
 | true=>exact bDp hm hT hR hz hh k0 k h0 h
 | false =>
  have h1:¬ f<1000000:=fun h1=>by
   rw [show Nat.blt f 1000000=true from Nat.ble_eq_true_of_le h1] at h0;cases h0
  obtain ⟨b,rfl⟩:∃ b,f=1000000+b:=⟨f - 1000000,by omega⟩
  obtain ⟨y,hy,_⟩:=(aX6 hm hT hR hz hh k0 k).y _ _ _ _ _ _ _ h
  cases hy
open Go.RowKit
open Go.Eng (Od need need_pos iE kN binV binBV)
def RC {α:Type} (size:Nat) (R:RT α):RT (List α):=fun z cs l=>∃ c,cs=[c]∧CZ size R z c l
instance {α:Type} {size:Nat} {R:RT α} [RMono R]:RMono (RC size R):=⟨fun hz ⟨c,h,g⟩=>⟨c,h,g.mono hz⟩⟩
section
variable {call:eE} {k:Nat} {c:XC} {B:pK} {fs:Sf} {l:List I} {Q:Sf→Prop} {QX:Exit→Sf→Prop} {a:HA} {L L1 L2 p q:List HA}
theorem Rf.reH {st:AS} (r:Rf B fs st) {H':List HA} (hf:(pR H').Perm (pR fs.H)) (ho:∀ a,a∈H'→a.ok st.mem):Rf B (fs.heap H') st:=
 ⟨r.env,⟨fun b k hb=>⟨(r.hold.z b k hb).1,(r.hold.z b k hb).2.1,fun h=>(r.hold.z b k hb).2.2 (hf.mem_iff.1 h)⟩,ho,fun b hb=>r.hold.lt b (hf.mem_iff.1 hb),hf.symm.nodup r.hold.nd⟩,r.le,r.old,fun b hb=>r.own b (hf.mem_iff.1 hb),r.zle,r.zin⟩
theorem aWL (L:List HA):(sH L).fp=pR L:=rfl
theorem aAd {m:Tr mU}:(sH L).ok m↔∀ a,a∈L→a.ok m:=Iff.rfl
theorem Rf.into {st:AS} (r:Rf B fs st) (e:fs.H=a::(p++sH L::q)):Rf B (fs.heap (p++sH (L++[a])::q)) st:=by
 refine r.reH ?_ fun x hx=>?_
 ·rw [e]
  refine List.perm_iff_count.2 fun b=>?_
  simp only [jM,iJ,aWL,List.count_append,show pR []=[] from rfl,List.count_nil]
  omega
 have h:=r.hold.h
 rw [e] at h
 rcases List.mem_append.1 hx with hx | hx
 ·exact h x (by simp [hx])
 rcases List.mem_cons.1 hx with rfl | hx
 ·refine aAd.2 fun y hy=>?_
  rcases List.mem_append.1 hy with hy | hy
  ·exact aAd.1 (h (sH L) (by simp)) y hy
  simp at hy;subst hy;exact h y (by simp)
 exact h x (by simp [hx])
theorem Rf.take {st:AS} (r:Rf B fs st) (e:fs.H=p++sH (L1++a::L2)::q):Rf B (fs.heap (a::(p++sH (L1++L2)::q))) st:=by
 refine r.reH ?_ fun x hx=>?_
 ·rw [e]
  refine List.perm_iff_count.2 fun b=>?_
  simp only [jM,iJ,aWL,List.count_append,show pR []=[] from rfl,List.count_nil]
  omega
 have h:=r.hold.h
 rw [e] at h
 have h1:=aAd.1 (h (sH (L1++a::L2)) (by simp))
 rcases List.mem_cons.1 hx with rfl | hx
 ·exact h1 x (by simp)
 rcases List.mem_append.1 hx with hx | hx
 ·exact h x (by simp [hx])
 rcases List.mem_cons.1 hx with rfl | hx
 ·exact aAd.2 fun y hy=>h1 y (by rcases List.mem_append.1 hy with hy | hy<;>simp [hy])
 exact h x (by simp [hx])
theorem Rf.lay {st:AS} (r:Rf B fs st) (e:fs.H=a::(p++sH (L1++L2)::q)):Rf B (fs.heap (p++sH (L1++a::L2)::q)) st:=by
 refine r.reH ?_ fun x hx=>?_
 ·rw [e]
  refine List.perm_iff_count.2 fun b=>?_
  simp only [jM,iJ,aWL,List.count_append,show pR []=[] from rfl,List.count_nil]
  omega
 have h:=r.hold.h
 rw [e] at h
 have h1:=aAd.1 (h (sH (L1++L2)) (by simp))
 rcases List.mem_append.1 hx with hx | hx
 ·exact h x (by simp [hx])
 rcases List.mem_cons.1 hx with rfl | hx
 ·refine aAd.2 fun y hy=>?_
  rcases List.mem_append.1 hy with hy | hy
  ·exact h1 y (by simp [hy])
  rcases List.mem_cons.1 hy with rfl | hy
  ·exact h y (by simp)
  exact h1 y (by simp [hy])
 exact h x (by simp [hx])
theorem bBg (e:fs.H=a::(p++sH L::q)) (hw:FL call B l (fs.heap (p++sH (L++[a])::q)) Q):FL call B l fs Q:=fun st r=>hw st (r.into e)
theorem bAn (e:fs.H=p++sH (L1++a::L2)::q) (hw:FL call B l (fs.heap (a::(p++sH (L1++L2)::q))) Q):FL call B l fs Q:=fun st r=>hw st (r.take e)
theorem bQQ (e:fs.H=a::(p++sH (L1++L2)::q)) (hw:FL call B l (fs.heap (p++sH (L1++a::L2)::q)) Q):FL call B l fs Q:=fun st r=>hw st (r.lay e)
theorem bKt (e:fs.H=p++sH (L1++a::L2)::q) (hw:FX call k B c (fs.heap (a::(p++sH (L1++L2)::q))) QX):FX call k B c fs QX:=fun st r=>hw st (r.take e)
theorem bTc (e:fs.H=p++sH []::q) (hw:FX call k B c (fs.heap (p++q)) QX):FX call k B c fs QX:=fun st r=>hw st (r.reH (by rw [e,jM,jM,iJ];exact List.Perm.refl _) fun x hx=>r.hold.h x (by rw [e];rcases List.mem_append.1 hx with hx | hx<;>simp [hx]))
end
theorem Yt.reH {z:dA} {H H':List HA} {m:Tr mU} {nx:Nat} (h:Yt z H m nx) (hf:(pR H').Perm (pR H)) (ho:∀ a,a∈H'→a.ok m):Yt z H' m nx:=
 ⟨fun b k hb=>⟨(h.z b k hb).1,(h.z b k hb).2.1,fun hh=>(h.z b k hb).2.2 (hf.mem_iff.1 hh)⟩,ho,fun b hb=>h.lt b (hf.mem_iff.1 hb),hf.symm.nodup h.nd⟩
theorem Lp.keep {call:eE} {f:Nat} {args:List AV} {z:dA} {Hs:List HA} {Post:AV→dA→List HA→Prop} (h:Lp call f args z Hs Post) (Hr:List HA):Lp call f args z (Hs++Hr) fun v z' H'=>∃ H1,H'=H1++Hr∧Post v z' H1:=fun mem nx hh=>by
 obtain ⟨v,mem',nx',z',H',h1,h2,h3,h4,h5,h6,h7,hp⟩:=h mem nx hh.left
 have r0:Rf ⟨mem,nx,z,pR (Hs++Hr)⟩ ⟨fun _=>.any,z,Hs++Hr⟩ ⟨.nil,mem,nx⟩:=⟨fun i=>by simp [AS.get,Tr.get_nil],hh,Nat.le_refl _,fun b _ _=>rfl,fun b hb=>.inr hb,⟨fun _ _ h=>h⟩,fun b k hb=>.inl hb⟩
 have r1:=r0.callR (Hs:=Hs) (Hr:=Hr) rfl h2 h3 h4 h5 h6 h7
 exact ⟨v,mem',nx',z',H'++Hr,h1,h2,fun b hb hn=>r1.old b hb hn,r1.hold,h5,r1.zin,r1.own,H',rfl,hp⟩
abbrev Ro (α:Type):=C×List C×List α
def yJ {α:Type} (ty size:Nat) (d:Ro α):HA:=.row (.c d.1) ty size d.2.2.length d.2.1
section
variable {α:Type} {size:Nat} {R:RT α} [RMono R] {call:eE} {k:Nat} {c:XC} {B:pK} {QX:Exit→Sf→Prop}
theorem bKU {ty:Nat} {z0:dA} {p q:List HA}:∀ (D:List (Ro α)) (fs:Sf),fs.H=p++sH (D.map (yJ ty size))::q→zle z0 fs.z→(∀ d,d∈D→CL size R (zd z0 fs.z) d.2.1 d.2.2∧d.2.2.length≤9223372036854775807) →
  (∀ z',zle fs.z z'→(∀ d,d∈D→CZ size R (zd z0 z') d.1 d.2.2)→FX call k B c ⟨fs.e,z',p++q⟩ QX)→FX call k B c fs QX:=by
 intro D
 induction D with
 | nil=>intro fs e hz hD hw;exact bTc e (hw fs.z (zle.refl _) fun d hd=>absurd hd List.not_mem_nil)
 | cons d D ih =>
  intro fs e hz hD hw
  refine bKt (L1:=[]) (a:=yJ ty size d) (L2:=D.map (yJ ty size)) e ?_
  have hd:=hD d (List.mem_cons_self ..)
  refine aOs (z0:=z0) (p:=[]) (q:=p++sH (D.map (yJ ty size))::q) rfl hz hd.1 rfl hd.2 fun z' hz' hs=>?_
  refine ih ⟨fs.e,z',p++sH (D.map (yJ ty size))::q⟩ rfl (hz.trans hz') (fun x hx=>⟨(hD x (List.mem_cons_of_mem _ hx)).1.mono (jO hz'),(hD x (List.mem_cons_of_mem _ hx)).2⟩) fun z2 hz2 hs2=>?_
  refine hw z2 (hz'.trans hz2) fun x hx=>?_
  rcases List.mem_cons.1 hx with rfl | hx
  ·exact SZ.mono hs (jO hz2)
  exact hs2 x hx
theorem bA5 {z:dA} {D:List (Ro α)} (h:∀ d,d∈D→CZ size R z d.1 d.2.2):CL 1 (RC size R) z (D.map (·.1)) (D.map (·.2.2)):=by
 induction D with
 | nil=>exact CL.nil
 | cons d D ih=>exact CL.append (cs:=[d.1]) (l:=[d.2.2]) (CL.one rfl ⟨_,rfl,h d (List.mem_cons_self ..)⟩) (ih fun x hx=>h x (List.mem_cons_of_mem _ hx))
theorem bAh {ty ty2:Nat} {z0:dA} {u:AV} {p q:List HA} {fs:Sf} {D:List (Ro α)} (e:fs.H=p++.row u ty 1 D.length (D.map (·.1))::sH (D.map (yJ ty2 size))::q) (hz:zle z0 fs.z) (hD:∀ d,d∈D→CL size R (zd z0 fs.z) d.2.1 d.2.2∧d.2.2.length≤9223372036854775807) (hn:D.length≤9223372036854775807)
  (hw:∀ z',zle fs.z z'→SZ 1 (RC size R) (zd z0 z') u (D.map (·.2.2))→FX call k B c ⟨fs.e,z',p++q⟩ QX):FX call k B c fs QX:=by
 refine bKU (ty:=ty2) (size:=size) (p:=p++[.row u ty 1 D.length (D.map (·.1))]) (q:=q) D fs (by rw [e,List.append_assoc];rfl) hz hD fun z' hz' hs=>?_
 refine aOs (z0:=z0) (p:=p) (q:=q) (ty:=ty) (n:=D.length) (cs:=D.map (·.1)) (u:=u) (r:=D.map (·.2.2)) (fs:=⟨fs.e,z',(p++[.row u ty 1 D.length (D.map (·.1))])++q⟩) (by show _=_;rw [List.append_assoc];rfl) (hz.trans hz') (bA5 hs) (by simp) hn fun z2 hz2 hs2=>?_
 exact hw z2 (hz'.trans hz2) hs2
end
open Go.RowKit
open Go.Eng (Od need need_pos iE kN binV binBV)
section
variable {call:eE} {B:pK} {fs:Sf} {l:List I} {Q:Sf→Prop} {d:Nat} {k:Nat} {c:XC} {QX:Exit→Sf→Prop}
theorem bGn {a b x:HA} {q:List HA} (e:fs.H=a::b::x::q) (hw:FL call B l (fs.heap (x::a::b::q)) Q):FL call B l fs Q:=aD8 (by rw [e];exact (List.perm_middle (l₁:=[a,b]) (l₂:=q) (a:=x))) hw
theorem aSA {a b c d x:HA} {q:List HA} (e:fs.H=a::b::c::d::x::q) (hw:FL call B l (fs.heap (x::a::b::c::d::q)) Q):FL call B l fs Q:=aD8 (by rw [e];exact (List.perm_middle (l₁:=[a,b,c,d]) (l₂:=q) (a:=x))) hw
end
end Go.CE
